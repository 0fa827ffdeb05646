import PyProof.Rows.All
import Wide.All
import OpenK.AllK
import Wide.FinOn
import HandS.ForMost
import HandS.WordsExc
import HandS.Wide
import HandS.WideBits
import HandS.TupAny
import HandS.IsInst
import HandS.Defaults
import HandS.Deep
import HandS.Flow
import HandS.Gcd
import HandS.Conv
import HandS.Iter
import HandS.Style
import HandS.SortInts
import HandS.Small
import HandS.More
import KE.KDictCopyH
import KE.KDictWalk
import HandS.TupSets
import HandS.Zip
import KE.GoesZip
import KE.GoesMore
import KE.GoesEnum
import KE.KEqDict
import HandS.WordsDict
import HandS.TupLen
import KE.KRevSl
import HandS.NoneIn
import HandS.Head0
import HandS.Head1
import HandS.Head2
import HandS.HeadEnd
import HandS.HeadHook1
import HandS.HeadHook2
import HandS.Words
import KE.KStateDown
import HandS.Head3
import PySem.Challenge.RW_lookingnets_k18_whole_scores_and_looks
set_option Elab.async false
set_option linter.all false
set_option maxRecDepth 100000
set_option maxHeartbeats 0
/-! LN: values as data (D), frozen data and numbered mutable objects, over the hand layer. -/
namespace LN
open PySem L2 PySem.Spec PyProof.Rows

/-- a value as data; loc f i: the i-th mutable object of the f-th frame -/
inductive D where
  | non | bl (b : Bool) | int (i : Int) | str (x : Str) | ty (n : String) | cls (n : Str)
  | tup (xs : List D) | lst (xs : List D)
  | dk (ks : List L2.Key) (xs : List D)
  | dt (ks : List (List L2.Key)) (xs : List D)
  | loc (f i : Nat)
  | scr (xs : List Int)
  deriving Inhabited

mutual
def D.lt (n : Nat) : D → Bool
  | .tup xs => D.lts n xs
  | .lst xs => D.lts n xs
  | .dk _ xs => D.lts n xs
  | .dt _ xs => D.lts n xs
  | .loc f _ => decide (f < n)
  | _ => true
def D.lts (n : Nat) : List D → Bool
  | [] => true
  | x :: xs => D.lt n x && D.lts n xs
end
theorem D.lts_iff {n : Nat} : ∀ {xs : List D}, D.lts n xs = true ↔ ∀ d ∈ xs, D.lt n d = true
  | [] => by simp [D.lts]
  | x :: xs => by simp [D.lts, D.lts_iff (xs := xs)]

/-- a tuple that is tracked, or an object of the module -/
def SqTk (K : PySem.W.Frag) (cs : List (List V)) (G : Hp) (a : Addr) (xs : List V) : Prop :=
  G a = some (.tup xs) ∨ xs ∈ cs ∧ ∃ (o : Obj) (its : Array Value) (n : Nat), K.lookup a = some o ∧ o.cls = .type "tuple" ∧ o.data = .seq its n ∧ its.size ≤ sizeLine ∧ Vals xs its.toList
structure Ct where
  K : PySem.W.Frag
  cs : List (List V)
  Γ : Str → Addr
structure Wd where
  G : Hp
  L : Hp
  ι : Nat → Nat → Option Addr

mutual
def Rp (c : Ct) (W : Wd) : D → V → Prop
  | .non, v => v = .non
  | .bl b, v => v = .bl b
  | .int i, v => v = .int i
  | .str x, v => v = .str x
  | .ty n, v => v = .ty n
  | .cls n, v => v = .ref (c.Γ n)
  | .tup xs, v => ∃ a vs, v = .ref a ∧ SqTk c.K c.cs W.G a vs ∧ Rps c W xs vs
  | .lst xs, v => ∃ a vs, v = .ref a ∧ W.G a = some (.lst vs) ∧ Rps c W xs vs
  | .dk ks xs, v => ∃ a vs, v = .ref a ∧ W.G a = some (.dK (ks.zip vs)) ∧ ks.length = vs.length ∧ Rps c W xs vs
  | .dt ks xs, v => ∃ a vs, v = .ref a ∧ W.G a = some (.dT (ks.zip vs)) ∧ ks.length = vs.length ∧ Rps c W xs vs
  | .loc f i, v => ∃ a, v = .ref a ∧ W.ι f i = some a
  | .scr xs, v => ∃ a, v = .ref a ∧ SqL c.K W.G a (xs.map V.int)
def Rps (c : Ct) (W : Wd) : List D → List V → Prop
  | [], vs => vs = []
  | x :: xs, vs => ∃ v r, vs = v :: r ∧ Rp c W x v ∧ Rps c W xs r
end

structure le (W W' : Wd) : Prop where
  g : ∀ a o, W.G a = some o → W'.G a = some o
  l : ∀ a o, W.L a = some o → W'.L a = some o
  i : ∀ f i a, W.ι f i = some a → W'.ι f i = some a
theorem le.refl (W : Wd) : le W W := ⟨fun _ _ h => h, fun _ _ h => h, fun _ _ _ h => h⟩
theorem le.trans {A B C : Wd} (a : le A B) (b : le B C) : le A C := ⟨fun x o h => b.g x o (a.g x o h), fun x o h => b.l x o (a.l x o h), fun f i x h => b.i f i x (a.i f i x h)⟩

theorem SqTk.mono {K : PySem.W.Frag} {cs : List (List V)} {G H : Hp} {a : Addr} {vs : List V} (k : ∀ a o, G a = some o → H a = some o) (h : SqTk K cs G a vs) : SqTk K cs H a vs := by
  rcases h with h | h
  · exact .inl (k _ _ h)
  · exact .inr h
theorem SqTk.sq {K : PySem.W.Frag} {cs : List (List V)} {G : Hp} {a : Addr} {vs : List V} (h : SqTk K cs G a vs) : SqT K G a vs := by
  rcases h with h | ⟨_, h⟩
  · exact .inl (.inl h)
  · exact .inr h
theorem SqTk.trk {K : PySem.W.Frag} {cs : List (List V)} {G : Hp} {a : Addr} {vs : List V} (h : SqTk K cs G a vs) (n : vs ∉ cs) : G a = some (.tup vs) := by
  rcases h with h | ⟨z, h⟩
  · exact h
  · exact absurd z n
theorem SqL.mono {K : PySem.W.Frag} {G H : Hp} {a : Addr} {vs : List V} (k : ∀ a o, G a = some o → H a = some o) (h : SqL K G a vs) : SqL K H a vs := by
  rcases h with (h | ⟨o, h⟩) | h
  · exact .inl (.inl (k _ _ h))
  · exact .inl (.inr ⟨o, k _ _ h⟩)
  · exact .inr h

mutual
theorem Rp.mono {c : Ct} {W W' : Wd} (k : le W W') : ∀ (d : D) {v : V}, Rp c W d v → Rp c W' d v
  | .non, _, h => h
  | .bl _, _, h => h
  | .int _, _, h => h
  | .str _, _, h => h
  | .ty _, _, h => h
  | .cls _, _, h => h
  | .tup xs, _, h => by
    simp only [Rp] at h ⊢
    obtain ⟨a, vs, e, q, r⟩ := h
    exact ⟨a, vs, e, SqTk.mono k.g q, Rps.mono k xs r⟩
  | .lst xs, _, h => by
    simp only [Rp] at h ⊢
    obtain ⟨a, vs, e, q, r⟩ := h
    exact ⟨a, vs, e, k.g _ _ q, Rps.mono k xs r⟩
  | .dk ks xs, _, h => by
    simp only [Rp] at h ⊢
    obtain ⟨a, vs, e, q, l, r⟩ := h
    exact ⟨a, vs, e, k.g _ _ q, l, Rps.mono k xs r⟩
  | .dt ks xs, _, h => by
    simp only [Rp] at h ⊢
    obtain ⟨a, vs, e, q, l, r⟩ := h
    exact ⟨a, vs, e, k.g _ _ q, l, Rps.mono k xs r⟩
  | .loc f i, _, h => by
    simp only [Rp] at h ⊢
    obtain ⟨a, e, q⟩ := h
    exact ⟨a, e, k.i _ _ _ q⟩
  | .scr xs, _, h => by
    simp only [Rp] at h ⊢
    obtain ⟨a, e, q⟩ := h
    exact ⟨a, e, SqL.mono k.g q⟩
theorem Rps.mono {c : Ct} {W W' : Wd} (k : le W W') : ∀ (xs : List D) {vs : List V}, Rps c W xs vs → Rps c W' xs vs
  | [], _, h => h
  | x :: xs, _, h => by
    simp only [Rps] at h ⊢
    obtain ⟨v, r, e, p, q⟩ := h
    exact ⟨v, r, e, Rp.mono k x p, Rps.mono k xs q⟩
end
/-- forgetting the frames from n on -/
def Wd.cut (W : Wd) (n : Nat) : Wd := { W with ι := fun f i => if f < n then W.ι f i else none }
mutual
theorem Rp.cut {c : Ct} {W : Wd} {n : Nat} : ∀ (d : D) {v : V}, D.lt n d = true → Rp c W d v → Rp c (W.cut n) d v
  | .non, _, _, h => h
  | .bl _, _, _, h => h
  | .int _, _, _, h => h
  | .str _, _, _, h => h
  | .ty _, _, _, h => h
  | .cls _, _, _, h => h
  | .tup xs, _, l, h => by
    simp only [Rp, D.lt] at h l ⊢
    obtain ⟨a, vs, e, q, r⟩ := h
    exact ⟨a, vs, e, q, Rps.cut xs l r⟩
  | .lst xs, _, l, h => by
    simp only [Rp, D.lt] at h l ⊢
    obtain ⟨a, vs, e, q, r⟩ := h
    exact ⟨a, vs, e, q, Rps.cut xs l r⟩
  | .dk ks xs, _, l, h => by
    simp only [Rp, D.lt] at h l ⊢
    obtain ⟨a, vs, e, q, z, r⟩ := h
    exact ⟨a, vs, e, q, z, Rps.cut xs l r⟩
  | .dt ks xs, _, l, h => by
    simp only [Rp, D.lt] at h l ⊢
    obtain ⟨a, vs, e, q, z, r⟩ := h
    exact ⟨a, vs, e, q, z, Rps.cut xs l r⟩
  | .loc f i, _, l, h => by
    simp only [Rp, D.lt, decide_eq_true_eq] at h l ⊢
    obtain ⟨a, e, q⟩ := h
    exact ⟨a, e, by simp [Wd.cut, l, q]⟩
  | .scr _, _, _, h => by
    simpa only [Rp, Wd.cut] using h
theorem Rps.cut {c : Ct} {W : Wd} {n : Nat} : ∀ (xs : List D) {vs : List V}, D.lts n xs = true → Rps c W xs vs → Rps c (W.cut n) xs vs
  | [], _, _, h => h
  | x :: xs, _, l, h => by
    simp only [Rps, D.lts, Bool.and_eq_true] at h l ⊢
    obtain ⟨v, r, e, p, q⟩ := h
    exact ⟨v, r, e, Rp.cut x l.1 p, Rps.cut xs l.2 q⟩
end
section
variable {c : Ct} {W : Wd}
theorem Rps.length : ∀ {xs : List D} {vs : List V}, Rps c W xs vs → xs.length = vs.length
  | [], _, h => by simp only [Rps] at h; subst h; rfl
  | x :: xs, _, h => by
    simp only [Rps] at h
    obtain ⟨v, r, rfl, p, q⟩ := h
    simp [Rps.length q]
theorem Rps.get : ∀ {xs : List D} {vs : List V} {i : Nat} {d : D}, Rps c W xs vs → xs[i]? = some d → ∃ v, vs[i]? = some v ∧ Rp c W d v
  | [], _, _, _, _, h => by simp at h
  | x :: xs, _, i, d, h, e => by
    simp only [Rps] at h
    obtain ⟨v, r, rfl, p, q⟩ := h
    cases i with
    | zero => simp at e; subst e; exact ⟨v, by simp, p⟩
    | succ i => exact Rps.get (i := i) q (by simpa using e) |>.imp fun u hu => ⟨by simpa using hu.1, hu.2⟩
theorem Rps.of : ∀ {xs : List D} {vs : List V}, xs.length = vs.length → (∀ (i : Nat) (d : D) (v : V), xs[i]? = some d → vs[i]? = some v → Rp c W d v) → Rps c W xs vs
  | [], [], _, _ => by simp [Rps]
  | x :: xs, v :: vs, l, h => by
    simp only [Rps]
    exact ⟨v, vs, rfl, h 0 x v rfl rfl, Rps.of (by simpa using l) fun i d u h1 h2 => h (i + 1) d u (by simpa using h1) (by simpa using h2)⟩
theorem Rps.at {xs : List D} {vs : List V} (h : Rps c W xs vs) {i : Nat} {d : D} {v : V} (e : xs[i]? = some d) (e' : vs[i]? = some v) : Rp c W d v := by
  obtain ⟨u, h1, h2⟩ := h.get e
  rw [e'] at h1; cases h1; exact h2
theorem Rps.append {xs ys : List D} {vs us : List V} (h : Rps c W xs vs) (k : Rps c W ys us) : Rps c W (xs ++ ys) (vs ++ us) := by
  have l1 := h.length
  have l2 := k.length
  refine Rps.of (by simp [l1, l2]) fun i d v h1 h2 => ?_
  by_cases hi : i < xs.length
  · rw [List.getElem?_append_left hi] at h1
    rw [List.getElem?_append_left (by omega)] at h2
    exact h.at h1 h2
  · rw [List.getElem?_append_right (by omega)] at h1
    rw [List.getElem?_append_right (by omega), ← l1] at h2
    exact k.at h1 h2
theorem Rps.take {xs : List D} {vs : List V} (h : Rps c W xs vs) (n : Nat) : Rps c W (xs.take n) (vs.take n) := by
  have l := h.length
  refine Rps.of (by simp [l]) fun i d v h1 h2 => ?_
  rw [List.getElem?_take] at h1 h2
  by_cases hi : i < n
  · rw [if_pos hi] at h1 h2; exact h.at h1 h2
  · rw [if_neg hi] at h1; cases h1
theorem Rps.drop {xs : List D} {vs : List V} (h : Rps c W xs vs) (n : Nat) : Rps c W (xs.drop n) (vs.drop n) := by
  have l := h.length
  refine Rps.of (by simp [l]) fun i d v h1 h2 => ?_
  rw [List.getElem?_drop] at h1 h2
  exact h.at h1 h2
theorem Rps.reverse {xs : List D} {vs : List V} (h : Rps c W xs vs) : Rps c W xs.reverse vs.reverse := by
  have l := h.length
  refine Rps.of (by simp [l]) fun i d v h1 h2 => ?_
  have hi : i < xs.length := by
    have := (List.getElem?_eq_some_iff.mp h1).1
    simpa using this
  rw [List.getElem?_reverse hi] at h1
  rw [List.getElem?_reverse (by omega)] at h2
  rw [← l] at h2
  exact h.at h1 h2
theorem Rps.set {xs : List D} {vs : List V} (h : Rps c W xs vs) {d : D} {v : V} (r : Rp c W d v) (n : Nat) : Rps c W (xs.set n d) (vs.set n v) := by
  have l := h.length
  refine Rps.of (by simp [l]) fun i e u h1 h2 => ?_
  rw [List.getElem?_set] at h1 h2
  by_cases hi : n = i
  · rw [if_pos hi] at h1 h2
    split at h1
    · split at h2
      · cases h1; cases h2; exact r
      · cases h2
    · cases h1
  · rw [if_neg hi] at h1 h2; exact h.at h1 h2
theorem Rps.cons {x : D} {xs : List D} {v : V} {vs : List V} (a : Rp c W x v) (b : Rps c W xs vs) : Rps c W (x :: xs) (v :: vs) := by
  simp only [Rps]; exact ⟨v, vs, rfl, a, b⟩
theorem Rps.nil : Rps c W [] [] := by simp [Rps]
theorem Rps.one {x : D} {v : V} (a : Rp c W x v) : Rps c W [x] [v] := Rps.cons a Rps.nil
end
end LN
namespace LN
open PySem L2 PySem.Spec PyProof.Rows

mutual
theorem D.lt_mono {n m : Nat} : ∀ {d : D}, D.lt n d = true → n ≤ m → D.lt m d = true
  | .non, _, _ => rfl
  | .bl _, _, _ => rfl
  | .int _, _, _ => rfl
  | .str _, _, _ => rfl
  | .ty _, _, _ => rfl
  | .cls _, _, _ => rfl
  | .tup xs, h, k => by simp only [D.lt] at h ⊢; exact D.lts_mono h k
  | .lst xs, h, k => by simp only [D.lt] at h ⊢; exact D.lts_mono h k
  | .dk _ xs, h, k => by simp only [D.lt] at h ⊢; exact D.lts_mono h k
  | .dt _ xs, h, k => by simp only [D.lt] at h ⊢; exact D.lts_mono h k
  | .loc f i, h, k => by simp only [D.lt, decide_eq_true_eq] at h ⊢; omega
  | .scr _, _, _ => rfl
theorem D.lts_mono {n m : Nat} : ∀ {xs : List D}, D.lts n xs = true → n ≤ m → D.lts m xs = true
  | [], _, _ => rfl
  | x :: xs, h, k => by simp only [D.lts, Bool.and_eq_true] at h ⊢; exact ⟨D.lt_mono h.1 k, D.lts_mono h.2 k⟩
end
/-- what is pinned does not matter to data -/
theorem Rps_LL {c : Ct} {G L L' : Hp} {ι : Nat → Nat → Option Addr} : ∀ (n : Nat), (∀ (d : D) (v : V), sizeOf d < n → Rp c ⟨G, L, ι⟩ d v → Rp c ⟨G, L', ι⟩ d v) := by
  intro n
  induction n with
  | zero => intro d v h; omega
  | succ n ih =>
    have al : ∀ (xs : List D) (vs : List V), sizeOf xs < n + 1 → Rps c ⟨G, L, ι⟩ xs vs → Rps c ⟨G, L', ι⟩ xs vs := by
      intro xs
      induction xs with
      | nil => intro vs _ h; exact h
      | cons x xs ihx =>
        intro vs hs h
        simp only [Rps] at h ⊢
        obtain ⟨v, r, e, p, q⟩ := h
        simp only [List.cons.sizeOf_spec] at hs
        exact ⟨v, r, e, ih x v (by omega) p, ihx r (by omega) q⟩
    intro d v hd h
    cases d with
    | non => exact h
    | bl _ => exact h
    | int _ => exact h
    | str _ => exact h
    | ty _ => exact h
    | cls _ => exact h
    | tup xs =>
      simp only [Rp] at h ⊢
      obtain ⟨a, vs, e, q, r⟩ := h
      exact ⟨a, vs, e, q, al xs vs (by simp at hd; omega) r⟩
    | lst xs =>
      simp only [Rp] at h ⊢
      obtain ⟨a, vs, e, q, r⟩ := h
      exact ⟨a, vs, e, q, al xs vs (by simp at hd; omega) r⟩
    | dk ks xs =>
      simp only [Rp] at h ⊢
      obtain ⟨a, vs, e, q, l, r⟩ := h
      exact ⟨a, vs, e, q, l, al xs vs (by simp at hd; omega) r⟩
    | dt ks xs =>
      simp only [Rp] at h ⊢
      obtain ⟨a, vs, e, q, l, r⟩ := h
      exact ⟨a, vs, e, q, l, al xs vs (by simp at hd; omega) r⟩
    | loc f i => simpa only [Rp] using h
    | scr xs => simpa only [Rp] using h
theorem Rp_L {c : Ct} {G L L' : Hp} {ι : Nat → Nat → Option Addr} (d : D) {v : V} : Rp c ⟨G, L, ι⟩ d v ↔ Rp c ⟨G, L', ι⟩ d v :=
  ⟨Rps_LL _ d v (Nat.lt_succ_self _), Rps_LL _ d v (Nat.lt_succ_self _)⟩
theorem Rps_L {c : Ct} {G L L' : Hp} {ι : Nat → Nat → Option Addr} (xs : List D) {vs : List V} : Rps c ⟨G, L, ι⟩ xs vs ↔ Rps c ⟨G, L', ι⟩ xs vs :=
  ⟨fun h => Rps.of h.length fun i d v h1 h2 => (Rp_L d).mp (h.at h1 h2), fun h => Rps.of h.length fun i d v h1 h2 => (Rp_L d).mp (h.at h1 h2)⟩

/-! ### memory -/
inductive MO where
  | lst (xs : List D)
  | dk (ks : List L2.Key) (xs : List D)
  | dt (ks : List (List L2.Key)) (xs : List D)
  | fk (ks : List L2.Key) (xs : List D)
  | ft (ks : List (List L2.Key)) (xs : List D)
  | dead
  deriving Inhabited
def MO.lt (n : Nat) : MO → Bool
  | .lst xs => D.lts n xs
  | .dk _ xs => D.lts n xs
  | .dt _ xs => D.lts n xs
  | .fk _ xs => D.lts n xs
  | .ft _ xs => D.lts n xs
  | .dead => true
abbrev Mem := List (List MO)
def Mem.get (m : Mem) (f i : Nat) : Option MO := (m[f]?).bind fun fr => fr[i]?
def Mem.put (m : Mem) (f i : Nat) (o : MO) : Mem := m.modify f fun fr => fr.set i o
/-- a new object in the top frame -/
def Mem.new (m : Mem) (o : MO) : Mem := m.modify (m.length - 1) fun fr => fr ++ [o]
def Mem.nx (m : Mem) : D := .loc (m.length - 1) ((m[m.length - 1]?).getD []).length

def MoR (c : Ct) (W : Wd) (H : Hp) (a : Addr) : MO → Prop
  | .lst xs => ∃ vs, H a = some (.lst vs) ∧ Rps c W xs vs
  | .dk ks xs => ∃ vs, H a = some (.dK (ks.zip vs)) ∧ ks.length = vs.length ∧ Rps c W xs vs
  | .dt ks xs => ∃ vs, H a = some (.dT (ks.zip vs)) ∧ ks.length = vs.length ∧ Rps c W xs vs
  | .fk ks xs => ∃ ob vs, H a = some (.frz ob (.dK (ks.zip vs))) ∧ ks.length = vs.length ∧ Rps c W xs vs
  | .ft ks xs => ∃ ob vs, H a = some (.frz ob (.dT (ks.zip vs))) ∧ ks.length = vs.length ∧ Rps c W xs vs
  | .dead => True
theorem MoR.mono {c : Ct} {W W' : Wd} {H H' : Hp} {a : Addr} (k : le W W') (e : ∀ o, H a = some o → H' a = some o) : ∀ {o : MO}, MoR c W H a o → MoR c W' H' a o
  | .lst xs, ⟨vs, q, r⟩ => ⟨vs, e _ q, Rps.mono k xs r⟩
  | .dk ks xs, ⟨vs, q, l, r⟩ => ⟨vs, e _ q, l, Rps.mono k xs r⟩
  | .dt ks xs, ⟨vs, q, l, r⟩ => ⟨vs, e _ q, l, Rps.mono k xs r⟩
  | .fk ks xs, ⟨ob, vs, q, l, r⟩ => ⟨ob, vs, e _ q, l, Rps.mono k xs r⟩
  | .ft ks xs, ⟨ob, vs, q, l, r⟩ => ⟨ob, vs, e _ q, l, Rps.mono k xs r⟩
  | .dead, _ => trivial
theorem MoR.cut {c : Ct} {W : Wd} {H : Hp} {a : Addr} {n : Nat} : ∀ {o : MO}, o.lt n = true → MoR c W H a o → MoR c (W.cut n) H a o
  | .lst xs, l, ⟨vs, q, r⟩ => ⟨vs, q, Rps.cut xs l r⟩
  | .dk ks xs, l, ⟨vs, q, z, r⟩ => ⟨vs, q, z, Rps.cut xs l r⟩
  | .dt ks xs, l, ⟨vs, q, z, r⟩ => ⟨vs, q, z, Rps.cut xs l r⟩
  | .fk ks xs, l, ⟨ob, vs, q, z, r⟩ => ⟨ob, vs, q, z, Rps.cut xs l r⟩
  | .ft ks xs, l, ⟨ob, vs, q, z, r⟩ => ⟨ob, vs, q, z, Rps.cut xs l r⟩
  | .dead, _, _ => trivial
def MO.alive : MO → Bool
  | .dead => false
  | _ => true
def MO.lkd : MO → Bool
  | .fk _ _ => true
  | .ft _ _ => true
  | _ => false
def Lkd (L : Hp) (a : Addr) (o : MO) : Prop := if o.lkd = true then ∃ ob u, L a = some (.frz ob u) else L a = none
theorem Lkd.un {L : Hp} {a : Addr} {o : MO} (h : Lkd L a o) (u : o.lkd = false) : L a = none := by unfold Lkd at h; rw [if_neg (by rw [u]; exact Bool.false_ne_true)] at h; exact h
theorem Lkd.lk {L : Hp} {a : Addr} {o : MO} (h : Lkd L a o) (u : o.lkd = true) : ∃ ob u, L a = some (.frz ob u) := by unfold Lkd at h; rw [if_pos u] at h; exact h
theorem Lkd.of {L : Hp} {a : Addr} {o : MO} (h : L a = none) (u : o.lkd = false) : Lkd L a o := by unfold Lkd; rw [if_neg (by rw [u]; exact Bool.false_ne_true)]; exact h
theorem Lkd.eq {L L' : Hp} {a : Addr} {o : MO} (h : Lkd L a o) (e : L' a = L a) : Lkd L' a o := by unfold Lkd at *; rw [e]; exact h
theorem MoR.some {c : Ct} {W : Wd} {H : Hp} {a : Addr} : ∀ {o : MO}, o.alive = true → MoR c W H a o → ∃ u, H a = some u
  | .lst xs, _, ⟨vs, q, r⟩ => ⟨_, q⟩
  | .dk ks xs, _, ⟨vs, q, l, r⟩ => ⟨_, q⟩
  | .dt ks xs, _, ⟨vs, q, l, r⟩ => ⟨_, q⟩
  | .fk ks xs, _, ⟨ob, vs, q, l, r⟩ => ⟨_, q⟩
  | .ft ks xs, _, ⟨ob, vs, q, l, r⟩ => ⟨_, q⟩

structure Ok (c : Ct) (W : Wd) (m : Mem) (H : Hp) : Prop where
  g : ∀ a o, W.G a = some o → H a = some o
  l : ∀ a o, W.L a = some o → H a = some o
  gl : ∀ a o, W.L a = some o → W.G a = none
  i : ∀ f i o, m.get f i = some o → o.alive = true → ∃ a, W.ι f i = some a ∧ MoR c W H a o ∧ W.G a = none ∧ Lkd W.L a o
  inj : ∀ f i f' i' o o' a, m.get f i = some o → o.alive = true → m.get f' i' = some o' → o'.alive = true → W.ι f i = some a → W.ι f' i' = some a → f = f' ∧ i = i'
  rng : ∀ f i a, W.ι f i = some a → ∃ o, m.get f i = some o
  lt : ∀ f i o, m.get f i = some o → o.lt (f + 1) = true
  ll : ∀ a o, W.L a = some o → (∃ xs, o = .lst xs) ∨ (∃ ob u, o = .frz ob u) ∨ o = .dK []

section
variable {c : Ct} {W : Wd} {m : Mem} {H : Hp}
/-- a new frozen object -/
theorem Ok.froz (k : Ok c W m H) {p : Addr} {o : HO} (hp : H p = none) : le W { W with G := upd W.G p o } ∧ Ok c { W with G := upd W.G p o } m (upd H p o) := by
  have gn : W.G p = none := by
    cases e : W.G p with
    | none => rfl
    | some u => rw [k.g _ _ e] at hp; cases hp
  have ln : W.L p = none := by
    cases e : W.L p with
    | none => rfl
    | some u => rw [k.l _ _ e] at hp; cases hp
  have L : le W { W with G := upd W.G p o } := ⟨fun a u h => by show upd W.G p o a = _; rw [upd_ne (ne_of_none h gn)]; exact h, fun _ _ h => h, fun _ _ _ h => h⟩
  refine ⟨L, ?_⟩
  have ne : ∀ {f i a o'}, m.get f i = some o' → o'.alive = true → W.ι f i = some a → a ≠ p := fun {f i a o'} h1 h2 h3 => by
    obtain ⟨b, e1, e2, _⟩ := k.i f i o' h1 h2
    rw [h3] at e1; cases e1
    obtain ⟨u, e⟩ := e2.some h2
    exact ne_of_none e hp
  refine ⟨fun a u h => ?_, fun a u h => ?_, fun a u h => ?_, fun f i o' h1 h2 => ?_, k.inj, k.rng, k.lt, k.ll⟩
  · by_cases e : a = p
    · subst e; rw [upd_same]; exact (upd_same ▸ h : some o = some u) ▸ rfl
    · rw [upd_ne e]; exact k.g _ _ (by simpa [upd_ne e] using h)
  · have := k.l a u h
    rw [upd_ne (ne_of_none this hp)]; exact this
  · show upd W.G p o a = none
    rw [upd_ne (ne_of_none h ln)]; exact k.gl a u h
  · obtain ⟨a, e1, e2, e3, e4⟩ := k.i f i o' h1 h2
    have na := ne h1 h2 e1
    exact ⟨a, e1, e2.mono L fun u h => by rw [upd_ne na]; exact h, by show upd W.G p o a = none; rw [upd_ne na]; exact e3, e4⟩
theorem Mem.get_put {m : Mem} {f i : Nat} {o o0 : MO} (h : m.get f i = some o0) (f' i' : Nat) : (m.put f i o).get f' i' = if f' = f ∧ i' = i then some o else m.get f' i' := by
  unfold Mem.get Mem.put at *
  rw [List.getElem?_modify]
  by_cases hf : f = f'
  · subst hf
    simp only [if_true]
    cases e : m[f]? with
    | none => rw [e] at h; cases h
    | some fr =>
      rw [e] at h
      have h : fr[i]? = some o0 := h
      show (fr.set i o)[i']? = _
      rw [List.getElem?_set]
      by_cases hi : i = i'
      · subst hi
        have := (List.getElem?_eq_some_iff.mp h).1
        simp [this]
      · have hi' : ¬ i' = i := fun e => hi e.symm
        simp [hi, hi']
  · have hf' : ¬ f' = f := fun e => hf e.symm
    simp [hf, hf']
theorem Mem.get_new {m : Mem} {o : MO} (hm : m ≠ []) (f' i' : Nat) : (m.new o).get f' i' = if f' = m.length - 1 ∧ i' = ((m[m.length - 1]?).getD []).length then some o else m.get f' i' := by
  unfold Mem.get Mem.new
  rw [List.getElem?_modify]
  have hl : m.length - 1 < m.length := by
    cases m with
    | nil => exact absurd rfl hm
    | cons a r => simp
  by_cases hf : m.length - 1 = f'
  · subst hf
    simp only [if_true]
    have e : m[m.length - 1]? = some m[m.length - 1] := List.getElem?_eq_getElem hl
    rw [e]
    show (m[m.length - 1] ++ [o])[i']? = _
    rw [List.getElem?_append]
    simp only [Option.getD_some, Option.bind_some, true_and]
    by_cases h1 : i' < m[m.length - 1].length
    · rw [if_pos h1, if_neg (by omega)]
    · rw [if_neg h1]
      by_cases h2 : i' = m[m.length - 1].length
      · rw [if_pos h2, h2]; simp
      · rw [if_neg h2, List.getElem?_eq_none (by simp; omega), List.getElem?_eq_none (by omega)]
  · have hf' : ¬ f' = m.length - 1 := fun e => hf e.symm
    simp [hf, hf']
/-- a new mutable object -/
theorem Ok.alloc (k : Ok c W m H) {p : Addr} {u : HO} {o : MO} (hm : m ≠ []) (hp : H p = none) (ol : o.lt m.length = true)
    (r : MoR c W (upd H p u) p o) (ou : o.lkd = false := by rfl) : ∃ W', le W W' ∧ Ok c W' (m.new o) (upd H p u) ∧ Rp c W' m.nx (.ref p) := by
  have gn : W.G p = none := by
    cases e : W.G p with
    | none => rfl
    | some u => rw [k.g _ _ e] at hp; cases hp
  have ln : W.L p = none := by
    cases e : W.L p with
    | none => rfl
    | some u => rw [k.l _ _ e] at hp; cases hp
  generalize hF : m.length - 1 = F
  generalize hI : ((m[m.length - 1]?).getD []).length = I
  have hn : ∀ a, W.ι F I ≠ some a := fun a e => by
    obtain ⟨o', h⟩ := k.rng _ _ _ e
    unfold Mem.get at h
    rw [← hF] at h
    cases e2 : m[m.length - 1]? with
    | none => rw [e2] at h; cases h
    | some fr =>
      rw [e2] at h hI
      have h : fr[I]? = some o' := h
      simp only [Option.getD_some] at hI
      rw [← hI] at h
      simp at h
  have L : le W { W with ι := fun f i => if f = F ∧ i = I then some p else W.ι f i } := ⟨fun _ _ h => h, fun _ _ h => h, fun f i a h => by
    show (if f = F ∧ i = I then some p else W.ι f i) = some a
    by_cases e : f = F ∧ i = I
    · rw [e.1, e.2] at h; exact absurd h (hn a)
    · rw [if_neg e]; exact h⟩
  have ne : ∀ {f i a o'}, m.get f i = some o' → o'.alive = true → W.ι f i = some a → a ≠ p := fun {f i a o'} h1 h2 h3 => by
    obtain ⟨b, e1, e2, _⟩ := k.i f i o' h1 h2
    rw [h3] at e1; cases e1
    obtain ⟨u, e⟩ := e2.some h2
    exact ne_of_none e hp
  have gnew := fun f i => Mem.get_new (m := m) (o := o) hm f i
  rw [hF] at hI
  rw [hF, hI] at gnew
  refine ⟨_, L, ⟨fun a v h => ?_, fun a v h => ?_, k.gl, fun f i o' h1 h2 => ?_, fun f i f' i' o1 o2 a h1 a1 h2 a2 e1 e2 => ?_, fun f i a h => ?_, fun f i o' h => ?_, k.ll⟩, ?_⟩
  · have := k.g a v h
    rw [upd_ne (ne_of_none this hp)]; exact this
  · have := k.l a v h
    rw [upd_ne (ne_of_none this hp)]; exact this
  · rw [gnew] at h1
    by_cases e : f = F ∧ i = I
    · rw [if_pos e] at h1
      cases h1
      exact ⟨p, if_pos e, r.mono L fun _ h => h, gn, .of ln ou⟩
    · rw [if_neg e] at h1
      obtain ⟨a, e1, e2, e3, e4⟩ := k.i f i o' h1 h2
      have na := ne h1 h2 e1
      exact ⟨a, L.i _ _ _ e1, e2.mono L fun v h => by rw [upd_ne na]; exact h, e3, e4⟩
  · rw [gnew] at h1 h2
    by_cases c1 : f = F ∧ i = I
    · by_cases c2 : f' = F ∧ i' = I
      · exact ⟨c1.1.trans c2.1.symm, c1.2.trans c2.2.symm⟩
      · rw [if_neg c2] at h2
        have e1 : (if f = F ∧ i = I then some p else W.ι f i) = some a := e1
        have e2 : (if f' = F ∧ i' = I then some p else W.ι f' i') = some a := e2
        rw [if_pos c1] at e1; rw [if_neg c2] at e2
        cases e1
        exact absurd rfl (ne h2 a2 e2)
    · rw [if_neg c1] at h1
      have e1 : (if f = F ∧ i = I then some p else W.ι f i) = some a := e1
      have e2 : (if f' = F ∧ i' = I then some p else W.ι f' i') = some a := e2
      rw [if_neg c1] at e1
      by_cases c2 : f' = F ∧ i' = I
      · rw [if_pos c2] at e2
        cases e2
        exact absurd rfl (ne h1 a1 e1)
      · rw [if_neg c2] at h2 e2
        exact k.inj _ _ _ _ _ _ _ h1 a1 h2 a2 e1 e2
  · rw [gnew]
    have h : (if f = F ∧ i = I then some p else W.ι f i) = some a := h
    by_cases e : f = F ∧ i = I
    · rw [if_pos e]; exact ⟨_, rfl⟩
    · rw [if_neg e] at h ⊢; exact k.rng _ _ _ h
  · rw [gnew] at h
    by_cases e : f = F ∧ i = I
    · rw [if_pos e] at h
      cases h
      have : f + 1 = m.length := by
        cases m with
        | nil => exact absurd rfl hm
        | cons x r => have := e.1; simp at hF; simp; omega
      rw [this]; exact ol
    · rw [if_neg e] at h; exact k.lt _ _ _ h
  · show Rp c _ m.nx (.ref p)
    unfold Mem.nx
    rw [hF, hI]
    simp only [Rp]
    exact ⟨p, rfl, by simp⟩
/-- a mutable object is written -/
theorem Ok.write (k : Ok c W m H) {f i : Nat} {a : Addr} {u : HO} {o o0 : MO} (h0 : m.get f i = some o0) (a0 : o0.alive = true) (ha : W.ι f i = some a) (al : o.alive = true) (ol : o.lt (f + 1) = true)
    (r : MoR c W (upd H a u) a o) (u0 : o0.lkd = false := by rfl) (ou : o.lkd = false := by rfl) : Ok c W (m.put f i o) (upd H a u) := by
  obtain ⟨b, e1, e2, e3, e4⟩ := k.i f i o0 h0 a0
  rw [ha] at e1; cases e1
  have gp := fun f' i' => Mem.get_put (o := o) h0 f' i'
  refine ⟨fun b v h => ?_, fun b v h => ?_, k.gl, fun f' i' o' h1 h2 => ?_, fun f1 i1 f2 i2 o1 o2 b h1 a1 h2 a2 q1 q2 => ?_, fun f' i' b h => ?_, fun f' i' o' h => ?_, k.ll⟩
  · rw [upd_ne (ne_of_none h e3)]; exact k.g b v h
  · rw [upd_ne (ne_of_none h (e4.un u0))]; exact k.l b v h
  · rw [gp] at h1
    by_cases e : f' = f ∧ i' = i
    · rw [if_pos e] at h1; cases h1
      exact ⟨a, by rw [e.1, e.2]; exact ha, r, e3, .of (e4.un u0) ou⟩
    · rw [if_neg e] at h1
      obtain ⟨b, q1, q2, q3, q4⟩ := k.i f' i' o' h1 h2
      refine ⟨b, q1, q2.mono (le.refl W) fun v h => ?_, q3, q4⟩
      rw [upd_ne ?_]; exact h
      rintro rfl
      exact e (k.inj _ _ _ _ _ _ _ h1 h2 h0 a0 q1 ha)
  · rw [gp] at h1 h2
    by_cases c1 : f1 = f ∧ i1 = i
    · by_cases c2 : f2 = f ∧ i2 = i
      · exact ⟨c1.1.trans c2.1.symm, c1.2.trans c2.2.symm⟩
      · rw [if_neg c2] at h2
        rw [c1.1, c1.2] at q1 ⊢
        exact k.inj _ _ _ _ _ _ _ h0 a0 h2 a2 q1 q2
    · rw [if_neg c1] at h1
      by_cases c2 : f2 = f ∧ i2 = i
      · rw [c2.1, c2.2] at q2 ⊢
        exact k.inj _ _ _ _ _ _ _ h1 a1 h0 a0 q1 q2
      · rw [if_neg c2] at h2
        exact k.inj _ _ _ _ _ _ _ h1 a1 h2 a2 q1 q2
  · rw [gp]
    by_cases e : f' = f ∧ i' = i
    · rw [if_pos e]; exact ⟨_, rfl⟩
    · rw [if_neg e]; exact k.rng _ _ _ h
  · rw [gp] at h
    by_cases e : f' = f ∧ i' = i
    · rw [if_pos e] at h; cases h; rw [e.1]; exact ol
    · rw [if_neg e] at h; exact k.lt _ _ _ h
/-- a mutable object is frozen: it goes over to G, its entry dies -/
theorem Ok.freeze (k : Ok c W m H) {f i : Nat} {a : Addr} {u : HO} {o0 : MO} (h0 : m.get f i = some o0) (a0 : o0.alive = true) (ha : W.ι f i = some a) (hu : H a = some u) (u0 : o0.lkd = false := by rfl) :
    le W { W with G := upd W.G a u } ∧ Ok c { W with G := upd W.G a u } (m.put f i .dead) H := by
  obtain ⟨b, e1, e2, e3, e4⟩ := k.i f i o0 h0 a0
  rw [ha] at e1; cases e1
  have L : le W { W with G := upd W.G a u } := ⟨fun b v h => by show upd W.G a u b = _; rw [upd_ne (ne_of_none h e3)]; exact h, fun _ _ h => h, fun _ _ _ h => h⟩
  have gp := fun f' i' => Mem.get_put (o := .dead) h0 f' i'
  refine ⟨L, fun b v h => ?_, k.l, fun b v h => ?_, fun f' i' o' h1 h2 => ?_, fun f1 i1 f2 i2 o1 o2 b h1 a1 h2 a2 q1 q2 => ?_, fun f' i' b h => ?_, fun f' i' o' h => ?_, k.ll⟩
  · by_cases e : b = a
    · subst e
      have h : upd W.G b u b = some v := h
      rw [upd_same] at h; cases h; exact hu
    · have h : upd W.G a u b = some v := h
      rw [upd_ne e] at h; exact k.g b v h
  · show upd W.G a u b = none
    rw [upd_ne (ne_of_none h (e4.un u0))]; exact k.gl b v h
  · rw [gp] at h1
    by_cases e : f' = f ∧ i' = i
    · rw [if_pos e] at h1; cases h1; cases h2
    · rw [if_neg e] at h1
      obtain ⟨b, q1, q2, q3, q4⟩ := k.i f' i' o' h1 h2
      have nb : b ≠ a := by
        rintro rfl
        exact e (k.inj _ _ _ _ _ _ _ h1 h2 h0 a0 q1 ha)
      exact ⟨b, q1, q2.mono L fun v h => h, by show upd W.G a u b = none; rw [upd_ne nb]; exact q3, q4⟩
  · rw [gp] at h1 h2
    by_cases c1 : f1 = f ∧ i1 = i
    · rw [if_pos c1] at h1; cases h1; cases a1
    · by_cases c2 : f2 = f ∧ i2 = i
      · rw [if_pos c2] at h2; cases h2; cases a2
      · rw [if_neg c1] at h1; rw [if_neg c2] at h2
        exact k.inj _ _ _ _ _ _ _ h1 a1 h2 a2 q1 q2
  · rw [gp]
    by_cases e : f' = f ∧ i' = i
    · rw [if_pos e]; exact ⟨_, rfl⟩
    · rw [if_neg e]; exact k.rng _ _ _ h
  · rw [gp] at h
    by_cases e : f' = f ∧ i' = i
    · rw [if_pos e] at h; cases h; rfl
    · rw [if_neg e] at h; exact k.lt _ _ _ h
/-- a call's own frame goes -/
theorem Mem.get_take {m : Mem} {n f i : Nat} : Mem.get (m.take n) f i = if f < n then m.get f i else none := by
  unfold Mem.get
  rw [List.getElem?_take]
  split <;> rfl
theorem Ok.leave (k : Ok c W m H) (n : Nat) : Ok c (W.cut n) (m.take n) H := by
  refine ⟨k.g, k.l, k.gl, fun f i o h a => ?_, fun f i f' i' o o' a h1 a1 h2 a2 e1 e2 => ?_, fun f i a h => ?_, fun f i o h => ?_, k.ll⟩
  · rw [Mem.get_take] at h
    split at h
    · rename_i hf
      obtain ⟨b, q1, q2, q3, q4⟩ := k.i f i o h a
      refine ⟨b, by simp [Wd.cut, hf, q1], q2.cut ?_, q3, q4⟩
      have := k.lt f i o h
      cases o with
      | lst xs => simp only [MO.lt, D.lts_iff] at this ⊢; exact fun d hd => D.lt_mono (this d hd) hf
      | dk ks xs => simp only [MO.lt, D.lts_iff] at this ⊢; exact fun d hd => D.lt_mono (this d hd) hf
      | dt ks xs => simp only [MO.lt, D.lts_iff] at this ⊢; exact fun d hd => D.lt_mono (this d hd) hf
      | fk ks xs => simp only [MO.lt, D.lts_iff] at this ⊢; exact fun d hd => D.lt_mono (this d hd) hf
      | ft ks xs => simp only [MO.lt, D.lts_iff] at this ⊢; exact fun d hd => D.lt_mono (this d hd) hf
      | dead => rfl
    · cases h
  · rw [Mem.get_take] at h1 h2
    split at h1
    · split at h2
      · rename_i q1 q2
        simp only [Wd.cut, q1, q2, if_true] at e1 e2
        exact k.inj _ _ _ _ _ _ _ h1 a1 h2 a2 e1 e2
      · cases h2
    · cases h1
  · rw [Mem.get_take]
    by_cases q : f < n
    · simp only [Wd.cut, q, if_true] at h ⊢
      exact k.rng _ _ _ h
    · simp [Wd.cut, q] at h
  · rw [Mem.get_take] at h
    split at h
    · exact k.lt _ _ _ h
    · cases h
theorem Ok.enter (k : Ok c W m H) : Ok c W (m ++ [[]]) H := by
  have g : ∀ f i, (m ++ [[]] : Mem).get f i = m.get f i := fun f i => by
    unfold Mem.get
    by_cases hf : f < m.length
    · rw [List.getElem?_append_left hf]
    · rw [List.getElem?_append_right (by omega), List.getElem?_eq_none (by omega : m.length ≤ f)]
      by_cases e : f - m.length = 0
      · rw [e]; rfl
      · rw [List.getElem?_eq_none (by simp; omega)]
  exact ⟨k.g, k.l, k.gl, fun f i o h => k.i f i o (by rw [← g]; exact h), fun f i f' i' o o' a h1 a1 h2 => k.inj f i f' i' o o' a (by rw [← g]; exact h1) a1 (by rw [← g]; exact h2), fun f i a h => by rw [g]; exact k.rng f i a h, fun f i o h => k.lt f i o (by rw [← g]; exact h), k.ll⟩
/-- a pinned object is laid, changed -/
theorem Ok.pin (k : Ok c W m H) {p : Addr} {ys : List V} (hp : H p = none) : Ok c { W with L := upd W.L p (.lst ys) } m (upd H p (.lst ys)) := by
  generalize hu : HO.lst ys = u
  have gn : W.G p = none := by
    cases e : W.G p with
    | none => rfl
    | some u => rw [k.g _ _ e] at hp; cases hp
  have ne : ∀ {f i a o'}, m.get f i = some o' → o'.alive = true → W.ι f i = some a → a ≠ p := fun {f i a o'} h1 h2 h3 => by
    obtain ⟨b, e1, e2, _⟩ := k.i f i o' h1 h2
    rw [h3] at e1; cases e1
    obtain ⟨u, e⟩ := e2.some h2
    exact ne_of_none e hp
  refine ⟨fun a v h => ?_, fun a v h => ?_, fun a v h => ?_, fun f i o h1 h2 => ?_, k.inj, k.rng, k.lt, fun a v h => ?_⟩
  · have := k.g a v h
    rw [upd_ne (ne_of_none this hp)]; exact this
  · have h : upd W.L p u a = some v := h
    by_cases e : a = p
    · subst e; rw [upd_same] at h ⊢; exact h
    · rw [upd_ne e] at h ⊢; exact k.l a v h
  · have h : upd W.L p u a = some v := h
    by_cases e : a = p
    · rw [e]; exact gn
    · rw [upd_ne e] at h; exact k.gl a v h
  · obtain ⟨a, e1, e2, e3, e4⟩ := k.i f i o h1 h2
    have na := ne h1 h2 e1
    exact ⟨a, e1, (by
      cases o with
      | lst xs => obtain ⟨vs, q, r⟩ := e2; exact ⟨vs, by rw [upd_ne na]; exact q, (Rps_L xs).mp r⟩
      | dk ks xs => obtain ⟨vs, q, l, r⟩ := e2; exact ⟨vs, by rw [upd_ne na]; exact q, l, (Rps_L xs).mp r⟩
      | dt ks xs => obtain ⟨vs, q, l, r⟩ := e2; exact ⟨vs, by rw [upd_ne na]; exact q, l, (Rps_L xs).mp r⟩
      | fk ks xs => obtain ⟨ob, vs, q, l, r⟩ := e2; exact ⟨ob, vs, by rw [upd_ne na]; exact q, l, (Rps_L xs).mp r⟩
      | ft ks xs => obtain ⟨ob, vs, q, l, r⟩ := e2; exact ⟨ob, vs, by rw [upd_ne na]; exact q, l, (Rps_L xs).mp r⟩
      | dead => trivial), e3, e4.eq (by show upd W.L p u a = W.L a; rw [upd_ne na])⟩
  · have h : upd W.L p u a = some v := h
    by_cases e : a = p
    · subst e; rw [upd_same] at h; cases h; exact .inl ⟨_, hu.symm⟩
    · rw [upd_ne e] at h; exact k.ll a v h
end
end LN
namespace LN
open PySem L2 PySem.Spec PyProof.Rows

/-! ### results -/
structure Exn where
  n : Str
  fs : List (Str × D)
inductive Rs (α : Type) where
  | stuck
  | ok (a : α) (m : Mem)
  | err (e : Exn) (m : Mem)
def Rs.bind {α β : Type} (r : Rs α) (k : α → Mem → Rs β) : Rs β :=
  match r with
  | .stuck => .stuck
  | .ok a m => k a m
  | .err e m => .err e m
@[simp] theorem Rs.bind_ok {α β : Type} (a : α) (m : Mem) (k : α → Mem → Rs β) : (Rs.ok a m).bind k = k a m := rfl
@[simp] theorem Rs.bind_err {α β : Type} (e : Exn) (m : Mem) (k : α → Mem → Rs β) : (Rs.err e m : Rs α).bind k = .err e m := rfl
@[simp] theorem Rs.bind_stuck {α β : Type} (k : α → Mem → Rs β) : (Rs.stuck : Rs α).bind k = .stuck := rfl

abbrev Lc := List (Option D)
abbrev EvG (α : Type) := Lc → Mem → Rs α
abbrev Ev := EvG D
abbrev Fn := List D → Mem → Rs D

/-- how an exception of ours lies: its class, its own dict -/
def RX (c : Ct) (W : Wd) (H : Hp) (e : Exn) (cl : Value) (dx : Option Addr) : Prop :=
  cl = .ref (c.Γ e.n) ∧ ∃ d vs, dx = some d ∧ H d = some (.xd ((e.fs.map (·.1)).zip vs)) ∧ Rps c W (e.fs.map (·.2)) vs

section
variable (c : Ct) (E : XK)
def Pst {α β : Type} (RA : Wd → α → β → Prop) (R : Rs α) (W : Wd) (Q : β → Hp → Prop) : Prop :=
  match R with
  | .stuck => False
  | .ok a m' => ∀ W' H' v, le W W' → Ok c W' m' H' → RA W' a v → Q v H'
  | .err e m' => ∀ W' H' cl dx, le W W' → Ok c W' m' H' → RX c W' H' e cl dx → E cl dx H'
/-- slots -/
def Sl (W : Wd) (ρ : Lc) (σ : L2.St) : Prop := ρ.length = σ.length ∧ ∀ (i : Nat) (d : D), ρ[i]? = some (some d) → ∃ v, σ[i]? = some (some v) ∧ Rp c W d v
def tG {α β : Type} (RA : Wd → α → β → Prop) (f : EvG α) : L2.St → Hp → (β → Hp → Prop) → Prop :=
  fun σ H Q => ∃ W ρ m, Ok c W m H ∧ Sl c W ρ σ ∧ Pst c E RA (f ρ m) W Q
abbrev tD (f : Ev) : TE := tG c E (Rp c) f
abbrev tDs (f : EvG (List D)) : TA := tG c E (Rps c) f
def Rb (_ : Wd) (a b : Bool) : Prop := a = b
abbrev tT (f : EvG Bool) : TT := tG c E Rb f
end
section
variable {c : Ct} {E : XK} {α β γ δ : Type} {RA : Wd → α → β → Prop} {RB : Wd → γ → δ → Prop}
theorem Pst.mono {R : Rs α} {W W' : Wd} {Q : β → Hp → Prop} (k : le W W') (h : Pst c E RA R W Q) : Pst c E RA R W' Q := by
  cases R with
  | stuck => exact h
  | ok a m => exact fun W2 H v l => h W2 H v (k.trans l)
  | err e m => exact fun W2 H cl dx l => h W2 H cl dx (k.trans l)
theorem Pst.imp {R : Rs α} {W : Wd} {Q Q' : β → Hp → Prop} (h : Pst c E RA R W Q) (k : ∀ v H, Q v H → Q' v H) : Pst c E RA R W Q' := by
  cases R with
  | stuck => exact h
  | ok a m => exact fun W2 H v l o r => k _ _ (h W2 H v l o r)
  | err e m => exact h
theorem Pst.bind {R : Rs α} {k : α → Mem → Rs γ} {W : Wd} {Q : δ → Hp → Prop} (h : Pst c E RB (R.bind k) W Q) :
    Pst c E RA R W fun x H1 => ∃ W1 a m1, le W W1 ∧ Ok c W1 m1 H1 ∧ RA W1 a x ∧ Pst c E RB (k a m1) W1 Q := by
  cases R with
  | stuck => exact h
  | ok a m => exact fun W1 H1 x l o r => ⟨W1, a, m, l, o, r, Pst.mono l h⟩
  | err e m => exact h
theorem Pst.bind2 {R : Rs α} {k : α → Mem → Rs γ} {W W3 : Wd} {Q : δ → Hp → Prop} (h : Pst c E RB (R.bind k) W Q) (l3 : le W W3) :
    Pst c E RA R W3 fun x H1 => ∃ W1 a m1, le W3 W1 ∧ Ok c W1 m1 H1 ∧ RA W1 a x ∧ Pst c E RB (k a m1) W Q := by
  cases R with
  | stuck => exact h
  | ok a m => exact fun W1 H1 x l o r => ⟨W1, a, m, l, o, r, h⟩
  | err e m => exact fun W1 H1 x dx l => h W1 H1 x dx (l3.trans l)
theorem Sl.mono {W W' : Wd} {ρ : Lc} {σ : L2.St} (k : le W W') (s : Sl c W ρ σ) : Sl c W' ρ σ :=
  ⟨s.1, fun i d e => let ⟨v, h, r⟩ := s.2 i d e; ⟨v, h, r.mono k d⟩⟩
/-- from a state to a reading -/
theorem tG.of {f : EvG α} {σ : L2.St} {H : Hp} {Q : β → Hp → Prop} {W : Wd} {ρ : Lc} {m : Mem} (o : Ok c W m H) (s : Sl c W ρ σ) (p : Pst c E RA (f ρ m) W Q) : tG c E RA f σ H Q := ⟨W, ρ, m, o, s, p⟩
end
theorem PE.weak {X : Cx} {e : Expr} {t t' : TE} (h : PE X e t) (k : ∀ σ H Q, t' σ H Q → t σ H Q) : PE X e t' := ⟨fun pins s σ H Q I q => h.run pins s σ H Q I (k _ _ _ q)⟩
theorem PT.weak {X : Cx} {e : Expr} {t t' : TT} (h : PT X e t) (k : ∀ σ H Q, t' σ H Q → t σ H Q) : PT X e t' := ⟨fun pins s σ H Q I q => h.run pins s σ H Q I (k _ _ _ q)⟩
theorem PW.weak {X : Cx} {e : Expr} {t t' : TT} (h : PW X e t) (k : ∀ σ H Q, t' σ H Q → t σ H Q) : PW X e t' := ⟨fun wh pins s σ H Q I q => h.run wh pins s σ H Q I (k _ _ _ q)⟩
theorem PA.weak {X : Cx} {e : List Expr} {t t' : TA} (h : PA X e t) (k : ∀ σ H Q, t' σ H Q → t σ H Q) : PA X e t' := ⟨fun pos pins s σ H Q I q => h.run pos pins s σ H Q I (k _ _ _ q)⟩
theorem PK.weak {X : Cx} {e : List Keyword} {t t' : TA} (h : PK X e t) (k : ∀ σ H Q, t' σ H Q → t σ H Q) : PK X e t' := ⟨fun pos pins s σ H Q I q => h.run pos pins s σ H Q I (k _ _ _ q)⟩
theorem PS.weak {X : Cx} {e : Stmt} {t t' : TS} (h : PS X e t) (k : ∀ D σ H, t' D σ H → t D σ H) : PS X e t' := ⟨fun pins s σ H D I q => h.run pins s σ H D I (k _ _ _ q)⟩
theorem PSs.weak {X : Cx} {e : List Stmt} {t t' : TS} (h : PSs X e t) (k : ∀ D σ H, t' D σ H → t D σ H) : PSs X e t' := ⟨fun pins s σ H D I q => h.run pins s σ H D I (k _ _ _ q)⟩

/-! ### expressions -/
section
variable {X : Cx} {c : Ct} {E : XK} {pos : Pos}
def dV (i : Nat) : Ev := fun ρ m => match ρ[i]? with
  | some (some d) => .ok d m
  | _ => .stuck
def dK (d : D) : Ev := fun _ m => .ok d m
theorem pd_var (i : Nat) {x : Str} {pos : Pos} (hN : X.N[i]? = some x := by rfl) (hv : Vis X.env.scope x := by first | exact Or.inl rfl | exact Or.inr (Or.inl rfl) | exact Or.inr (Or.inr rfl)) (hd : (x == ("__debug__" : Str)) = false := by decide)
    (hcd : (x == ("__classdict__" : Str)) = false := by decide) : PE X (.Name x pos) (tD c E (dV i)) :=
  PE.weak (pe_var hN hv hd hcd) fun σ H Q ⟨W, ρ, m, o, s, p⟩ => by
    unfold dV at p
    split at p
    · rename_i d e
      obtain ⟨v, h, r⟩ := s.2 i d e
      exact ⟨v, h, p W H v (le.refl W) o r⟩
    · exact p.elim
theorem tK {d : D} {v : V} (h : ∀ W, Rp c W d v) : ∀ (σ : L2.St) (H : Hp) (Q : VK), tD c E (dK d) σ H Q → Q v H := fun σ H Q ⟨W, ρ, m, o, s, p⟩ => p W H v (le.refl W) o (h W)
theorem pd_int {i : Int} {j} {pos : Pos} : PE X (.Constant (.int i) j pos) (tD c E (dK (.int i))) := PE.weak pe_int (tK (d := .int i) fun W => by simp [Rp])
theorem pd_str {i : Str} {j} {pos : Pos} : PE X (.Constant (.str i) j pos) (tD c E (dK (.str i))) := PE.weak pe_str (tK (d := .str i) fun W => by simp [Rp])
theorem pd_bl {i : Bool} {j} {pos : Pos} : PE X (.Constant (.bool i) j pos) (tD c E (dK (.bl i))) := PE.weak pe_bl (tK (d := .bl i) fun W => by simp [Rp])
theorem pd_non {j} {pos : Pos} : PE X (.Constant .none j pos) (tD c E (dK .non)) := PE.weak pe_non (tK (d := .non) fun W => by simp [Rp])
/-- a constant of the module -/
theorem pd_glob {x : Str} {v : V} {u : Value} {d : D} {pos : Pos} (hg : Gl X x) (hm : X.mg x = some u) (r : RelV v u) (h : ∀ W, Rp c W d v) (hd : (x == ("__debug__" : Str)) = false := by decide) : PE X (.Name x pos) (tD c E (dK d)) :=
  PE.weak (pe_glob hg hm r hd) (tK h)
/-- a built-in class as a value -/
theorem pd_ty {x : Str} {n : String} {pos : Pos} (hg : Gl X x) (hm : X.mg x = none) (hv : bootBuiltins x = some (.type n)) (hn : x ≠ "__name__" := by decide) (hd : (x == ("__debug__" : Str)) = false := by decide) : PE X (.Name x pos) (tD c E (dK (.ty n))) :=
  PE.weak (pe_bltn hg hm hv (v := .ty n) rfl hn hd) (tK (d := .ty n) fun W => by simp [Rp])

/-- an operator by values -/
def OpS (c : Ct) (E : XK) (r : R2) (g : D → D → Mem → Rs D) : Prop := ∀ (W : Wd) (m : Mem) (H : Hp) (x y : V) (dx dy : D) (Q : VK), Ok c W m H → Rp c W dx x → Rp c W dy y → Pst c E (Rp c) (g dx dy m) W Q → r x y H Q
def dOp (g : D → D → Mem → Rs D) (fa fb : Ev) : Ev := fun ρ m => (fa ρ m).bind fun da m1 => (fb ρ m1).bind fun db m2 => g da db m2
variable {a b e : Expr} {es : List Expr} {fa fb fe : Ev} {g : D → D → Mem → Rs D} {r : R2}
theorem tOp_of (hs : OpS c E r g) : ∀ (σ : L2.St) (H : Hp) (Q : VK), tD c E (dOp g fa fb) σ H Q → tOp r (tD c E fa) (tD c E fb) σ H Q := fun σ H Q ⟨W, ρ, m, o, s, p⟩ => by
  refine ⟨W, ρ, m, o, s, Pst.imp (Pst.bind p) fun x H1 ⟨W1, da, m1, l1, o1, r1, p1⟩ => ?_⟩
  refine ⟨W1, ρ, m1, o1, s.mono l1, Pst.imp (Pst.bind p1) fun y H2 ⟨W2, db, m2, l2, o2, r2, p2⟩ => ?_⟩
  exact hs W2 m2 H2 x y da db Q o2 (r1.mono l2 da) r2 p2
theorem pd_op {op : Operator} (ho : OpR X (binaryOp op) r) (hs : OpS c E r g) (ha : PE X a (tD c E fa)) (hb : PE X b (tD c E fb)) : PE X (.BinOp a op b pos) (tD c E (dOp g fa fb)) :=
  PE.weak (pe_op ho ha hb) (tOp_of hs)
theorem pd_cmp {op : CmpOp} (ho : OpR X (compareOp op) r) (hs : OpS c E r g) (ha : PE X a (tD c E fa)) (hb : PE X b (tD c E fb)) (hm : behindInMarks op b = false) : PE X (.Compare a [op] [b] pos) (tD c E (dOp g fa fb)) :=
  PE.weak (pe_cmpR ho ha hb hm) (tOp_of hs)
/-- as a test -/
def dTst (f : Ev) : EvG Bool := fun ρ m => (f ρ m).bind fun d m1 => match d with
  | .bl b => .ok b m1
  | _ => .stuck
theorem tTest_of {f : Ev} {t : TE} (h : ∀ σ H Q, tD c E f σ H Q → t σ H Q) : ∀ (σ : L2.St) (H : Hp) (Q : Bool → Hp → Prop), tT c E (dTst f) σ H Q → tTest t σ H Q := fun σ H Q ⟨W, ρ, m, o, s, p⟩ => by
  refine h σ H _ ⟨W, ρ, m, o, s, Pst.imp (Pst.bind p) fun x H1 ⟨W1, d, m1, l1, o1, r1, p1⟩ => ?_⟩
  cases d with
  | bl b =>
    simp only [Rp] at r1
    exact ⟨b, r1, p1 W1 H1 b (le.refl _) o1 rfl⟩
  | _ => exact p1.elim
theorem ptd_cmp {op : CmpOp} (ho : OpR X (compareOp op) r) (hs : OpS c E r g) (ha : PE X a (tD c E fa)) (hb : PE X b (tD c E fb)) (hm : behindInMarks op b = false) : PT X (.Compare a [op] [b] pos) (tT c E (dTst (dOp g fa fb))) :=
  PT.weak (pt_cmpR ho ha hb hm) (tTest_of (tOp_of hs))
/-- a chain of two comparisons -/
def dChain (g g' : D → D → Mem → Rs D) (fa fb fc : Ev) : Ev := fun ρ m => (fa ρ m).bind fun da m1 => (fb ρ m1).bind fun db m2 => (g da db m2).bind fun d m3 => match d with
  | .bl true => (fc ρ m3).bind fun dc m4 => g' db dc m4
  | .bl false => .ok (.bl false) m3
  | _ => .stuck
variable {fc : Ev} {cc : Expr} {g' : D → D → Mem → Rs D} {r' : R2}
theorem tChain_of (hs : OpS c E r g) (hs' : OpS c E r' g') : ∀ (σ : L2.St) (H : Hp) (Q : VK), tD c E (dChain g g' fa fb fc) σ H Q → tChain r r' (tD c E fa) (tD c E fb) (tD c E fc) σ H Q := fun σ H Q ⟨W, ρ, m, o, s, p⟩ => by
  refine ⟨W, ρ, m, o, s, Pst.imp (Pst.bind p) fun x H1 ⟨W1, da, m1, l1, o1, r1, p1⟩ => ?_⟩
  refine ⟨W1, ρ, m1, o1, s.mono l1, Pst.imp (Pst.bind p1) fun y H2 ⟨W2, db, m2, l2, o2, r2, p2⟩ => ?_⟩
  refine hs W2 m2 H2 x y da db _ o2 (r1.mono l2 da) r2 (Pst.imp (Pst.bind p2) fun z H3 ⟨W3, dz, m3, l3, o3, r3, p3⟩ => ?_)
  cases dz with
  | bl k =>
    simp only [Rp] at r3
    refine ⟨k, r3, ?_⟩
    cases k with
    | true =>
      rw [if_pos rfl]
      refine ⟨W3, ρ, m3, o3, (s.mono (l1.trans l2)).mono l3, Pst.imp (Pst.bind p3) fun w H4 ⟨W4, dc, m4, l4, o4, r4, p4⟩ => ?_⟩
      exact hs' W4 m4 H4 y w db dc Q o4 ((r2.mono l3 db).mono l4 db) r4 p4
    | false =>
      rw [if_neg Bool.false_ne_true]
      exact p3 W3 H3 _ (le.refl _) o3 (by simp [Rp])
  | _ => exact p3.elim
theorem pd_chain {op op' : CmpOp} (ho : OpR X (compareOp op) r) (hs : OpS c E r g) (ho' : OpR X (compareOp op') r') (hs' : OpS c E r' g') (ha : PE X a (tD c E fa)) (hb : PE X b (tD c E fb)) (hc : PE X cc (tD c E fc))
    (hm : lastMarks [op, op'] [b, cc] = false := by rfl) : PE X (.Compare a [op, op'] [b, cc] pos) (tD c E (dChain g g' fa fb fc)) := PE.weak (pe_chain ho ho' ha hb hc hm) (tChain_of hs hs')
theorem ptd_chain {op op' : CmpOp} (ho : OpR X (compareOp op) r) (hs : OpS c E r g) (ho' : OpR X (compareOp op') r') (hs' : OpS c E r' g') (ha : PE X a (tD c E fa)) (hb : PE X b (tD c E fb)) (hc : PE X cc (tD c E fc))
    (hm : lastMarks [op, op'] [b, cc] = false := by rfl) : PT X (.Compare a [op, op'] [b, cc] pos) (tT c E (dTst (dChain g g' fa fb fc))) := PT.weak (pt_chain ho ho' ha hb hc hm) (tTest_of (tChain_of hs hs'))

/-! and, or, not, if -/
def dAnd (t u : EvG Bool) : EvG Bool := fun ρ m => (t ρ m).bind fun b m1 => if b = true then u ρ m1 else .ok false m1
def dOr (t u : EvG Bool) : EvG Bool := fun ρ m => (t ρ m).bind fun b m1 => if b = true then .ok true m1 else u ρ m1
def dNot (t : EvG Bool) : EvG Bool := fun ρ m => (t ρ m).bind fun b m1 => .ok (!b) m1
variable {t u : EvG Bool} {rest : List Expr}
theorem pw_dand1 (ha : PT X a (tT c E t)) : PW X (.BoolOp .And [a] pos) (tT c E t) := pw_and1 ha
theorem pw_dor1 (ha : PT X a (tT c E t)) : PW X (.BoolOp .Or [a] pos) (tT c E t) := pw_or1 ha
theorem pw_dand (ha : PT X a (tT c E t)) (hb : PW X (.BoolOp .And (b :: rest) pos) (tT c E u)) : PW X (.BoolOp .And (a :: b :: rest) pos) (tT c E (dAnd t u)) :=
  PW.weak (pw_and ha hb) fun σ H Q ⟨W, ρ, m, o, s, p⟩ => by
    refine ⟨W, ρ, m, o, s, Pst.imp (Pst.bind p) fun x H1 ⟨W1, d, m1, l1, o1, r1, p1⟩ => ?_⟩
    have e : d = x := r1
    subst e
    cases d with
    | true => rw [if_pos rfl] at p1 ⊢; exact ⟨W1, ρ, m1, o1, s.mono l1, p1⟩
    | false => rw [if_neg Bool.false_ne_true] at p1 ⊢; exact p1 W1 H1 false (le.refl _) o1 rfl
theorem pw_dor (ha : PT X a (tT c E t)) (hb : PW X (.BoolOp .Or (b :: rest) pos) (tT c E u)) : PW X (.BoolOp .Or (a :: b :: rest) pos) (tT c E (dOr t u)) :=
  PW.weak (pw_or ha hb) fun σ H Q ⟨W, ρ, m, o, s, p⟩ => by
    refine ⟨W, ρ, m, o, s, Pst.imp (Pst.bind p) fun x H1 ⟨W1, d, m1, l1, o1, r1, p1⟩ => ?_⟩
    have e : d = x := r1
    subst e
    cases d with
    | false => rw [if_neg Bool.false_ne_true] at p1 ⊢; exact ⟨W1, ρ, m1, o1, s.mono l1, p1⟩
    | true => rw [if_pos rfl] at p1 ⊢; exact p1 W1 H1 true (le.refl _) o1 rfl
theorem ptd_not (ha : PT X a (tT c E t)) : PT X (.UnaryOp .Not a pos) (tT c E (dNot t)) :=
  PT.weak (pt_not ha) fun σ H Q ⟨W, ρ, m, o, s, p⟩ => by
    refine ⟨W, ρ, m, o, s, Pst.imp (Pst.bind p) fun x H1 ⟨W1, d, m1, l1, o1, r1, p1⟩ => ?_⟩
    have e : d = x := r1
    subst e
    exact p1 W1 H1 _ (le.refl _) o1 rfl
/-- a and b, a or b, not a as values that are bools -/
def dAndV (fa fb : Ev) : Ev := fun ρ m => (fa ρ m).bind fun d m1 => match d with
  | .bl true => fb ρ m1
  | .bl false => .ok (.bl false) m1
  | _ => .stuck
def dOrV (fa fb : Ev) : Ev := fun ρ m => (fa ρ m).bind fun d m1 => match d with
  | .bl false => fb ρ m1
  | .bl true => .ok (.bl true) m1
  | _ => .stuck
def dNotV (fa : Ev) : Ev := fun ρ m => (fa ρ m).bind fun d m1 => match d with
  | .bl b => .ok (.bl (!b)) m1
  | _ => .stuck
theorem pd_one {op} (h : PE X a (tD c E fa)) : PE X (.BoolOp op [a] pos) (tD c E fa) := pe_one h
theorem pd_and (ha : PE X a (tD c E fa)) (hb : PE X (.BoolOp .And (b :: rest) pos) (tD c E fb)) : PE X (.BoolOp .And (a :: b :: rest) pos) (tD c E (dAndV fa fb)) :=
  PE.weak (pe_and ha hb) fun σ H Q ⟨W, ρ, m, o, s, p⟩ => by
    refine ⟨W, ρ, m, o, s, Pst.imp (Pst.bind p) fun x H1 ⟨W1, d, m1, l1, o1, r1, p1⟩ => ?_⟩
    cases d with
    | bl k =>
      simp only [Rp] at r1
      refine ⟨k, r1, ?_⟩
      cases k with
      | true => rw [if_pos rfl]; exact ⟨W1, ρ, m1, o1, s.mono l1, p1⟩
      | false => rw [if_neg Bool.false_ne_true]; exact p1 W1 H1 _ (le.refl _) o1 (by simp [Rp])
    | _ => exact p1.elim
theorem pd_or (ha : PE X a (tD c E fa)) (hb : PE X (.BoolOp .Or (b :: rest) pos) (tD c E fb)) : PE X (.BoolOp .Or (a :: b :: rest) pos) (tD c E (dOrV fa fb)) :=
  PE.weak (pe_or ha hb) fun σ H Q ⟨W, ρ, m, o, s, p⟩ => by
    refine ⟨W, ρ, m, o, s, Pst.imp (Pst.bind p) fun x H1 ⟨W1, d, m1, l1, o1, r1, p1⟩ => ?_⟩
    cases d with
    | bl k =>
      simp only [Rp] at r1
      refine ⟨k, r1, ?_⟩
      cases k with
      | false => rw [if_neg Bool.false_ne_true]; exact ⟨W1, ρ, m1, o1, s.mono l1, p1⟩
      | true => rw [if_pos rfl]; exact p1 W1 H1 _ (le.refl _) o1 (by simp [Rp])
    | _ => exact p1.elim
theorem pd_not (ha : PE X a (tD c E fa)) : PE X (.UnaryOp .Not a pos) (tD c E (dNotV fa)) :=
  PE.weak (pe_not ha) fun σ H Q ⟨W, ρ, m, o, s, p⟩ => by
    refine ⟨W, ρ, m, o, s, Pst.imp (Pst.bind p) fun x H1 ⟨W1, d, m1, l1, o1, r1, p1⟩ => ?_⟩
    cases d with
    | bl k =>
      simp only [Rp] at r1
      exact ⟨k, r1, p1 W1 H1 _ (le.refl _) o1 (by simp [Rp])⟩
    | _ => exact p1.elim
def dIf (t : EvG Bool) (fa fb : Ev) : Ev := fun ρ m => (t ρ m).bind fun b m1 => if b = true then fa ρ m1 else fb ρ m1
theorem pd_if {cnd : Expr} (hc : PT X cnd (tT c E t)) (ha : PE X a (tD c E fa)) (hb : PE X b (tD c E fb)) : PE X (.IfExp cnd a b pos) (tD c E (dIf t fa fb)) :=
  PE.weak (pe_ifExp hc ha hb) fun σ H Q ⟨W, ρ, m, o, s, p⟩ => by
    refine ⟨W, ρ, m, o, s, Pst.imp (Pst.bind p) fun x H1 ⟨W1, d, m1, l1, o1, r1, p1⟩ => ?_⟩
    have e : d = x := r1
    subst e
    cases d with
    | true => rw [if_pos rfl] at p1 ⊢; exact ⟨W1, ρ, m1, o1, s.mono l1, p1⟩
    | false => rw [if_neg Bool.false_ne_true] at p1 ⊢; exact ⟨W1, ρ, m1, o1, s.mono l1, p1⟩

/-! argument lists, displays -/
def dNil : EvG (List D) := fun _ m => .ok [] m
def dCons (f : Ev) (fs : EvG (List D)) : EvG (List D) := fun ρ m => (f ρ m).bind fun d m1 => (fs ρ m1).bind fun ds m2 => .ok (d :: ds) m2
variable {fs : EvG (List D)}
theorem pad_nil : PA X [] (tDs c E dNil) := PA.weak pa_nil fun σ H Q ⟨W, ρ, m, o, s, p⟩ => p W H [] (le.refl _) o Rps.nil
theorem tCons_of : ∀ (σ : L2.St) (H : Hp) (Q : List V → Hp → Prop), tDs c E (dCons fa fs) σ H Q → tCons (tD c E fa) (tDs c E fs) σ H Q := fun σ H Q ⟨W, ρ, m, o, s, p⟩ => by
  refine ⟨W, ρ, m, o, s, Pst.imp (Pst.bind p) fun x H1 ⟨W1, d, m1, l1, o1, r1, p1⟩ => ?_⟩
  refine ⟨W1, ρ, m1, o1, s.mono l1, Pst.imp (Pst.bind p1) fun xs H2 ⟨W2, ds, m2, l2, o2, r2, p2⟩ => ?_⟩
  exact p2 W2 H2 _ (le.refl _) o2 (Rps.cons (r1.mono l2 d) r2)
theorem pad_cons (ha : PE X e (tD c E fa)) (hr : PA X es (tDs c E fs)) (hs : starEach (e :: es) X.env = (false, eval e X.env) :: starEach es X.env := by rfl) : PA X (e :: es) (tDs c E (dCons fa fs)) :=
  PA.weak (pa_cons ha hr hs) tCons_of
theorem pkd_nil : PK X [] (tDs c E dNil) := PK.weak pk_nil fun σ H Q ⟨W, ρ, m, o, s, p⟩ => p W H [] (le.refl _) o Rps.nil
theorem pkd_cons {nm : Option Str} {kpos : Pos} {kws : List Keyword} (ha : PE X e (tD c E fa)) (hr : PK X kws (tDs c E fs)) : PK X (⟨nm, e, kpos⟩ :: kws) (tDs c E (dCons fa fs)) := PK.weak (pk_cons ha hr) tCons_of
def lineOk (n : Nat) : Bool := decide (n ≤ 16777216)
theorem lineOk_le {n : Nat} (h : lineOk n = true) : n ≤ sizeLine := by
  unfold lineOk at h
  rw [sizeLine_eq]
  exact of_decide_eq_true h
def dTup (fs : EvG (List D)) : Ev := fun ρ m => (fs ρ m).bind fun ds m1 => if lineOk ds.length = true then .ok (.tup ds) m1 else .stuck
def dLst (fs : EvG (List D)) : Ev := fun ρ m => (fs ρ m).bind fun ds m1 => if lineOk ds.length = true then .ok (.lst ds) m1 else .stuck
/-- a new frozen tuple, list -/
theorem Pst.tup {ds : List D} {xs : List V} {m : Mem} {W : Wd} {H : Hp} {Q : VK} (o : Ok c W m H) (r : Rps c W ds xs) (p : Pst c E (Rp c) (.ok (.tup ds) m) W Q) : ∀ p, H p = none → Q (.ref p) (upd H p (.tup xs)) := fun a ha => by
  obtain ⟨l, o'⟩ := o.froz (o := .tup xs) ha
  refine p _ _ _ l o' ?_
  simp only [Rp]
  exact ⟨a, xs, rfl, .inl upd_same, r.mono l ds⟩
theorem Pst.lst {ds : List D} {xs : List V} {m : Mem} {W : Wd} {H : Hp} {Q : VK} (o : Ok c W m H) (r : Rps c W ds xs) (p : Pst c E (Rp c) (.ok (.lst ds) m) W Q) : ∀ p, H p = none → Q (.ref p) (upd H p (.lst xs)) := fun a ha => by
  obtain ⟨l, o'⟩ := o.froz (o := .lst xs) ha
  refine p _ _ _ l o' ?_
  simp only [Rp]
  exact ⟨a, xs, rfl, upd_same, r.mono l ds⟩
theorem pd_tup {k} (h : PA X es (tDs c E fs)) : PE X (.Tuple es k pos) (tD c E (dTup fs)) :=
  PE.weak (pe_tup h) fun σ H Q ⟨W, ρ, m, o, s, p⟩ => by
    refine ⟨W, ρ, m, o, s, Pst.imp (Pst.bind p) fun x H1 ⟨W1, ds, m1, l1, o1, r1, p1⟩ => ?_⟩
    split at p1
    · rename_i hl
      exact ⟨by rw [← r1.length]; exact lineOk_le hl, Pst.tup o1 r1 p1⟩
    · exact p1.elim
theorem pd_lst (h : PA X es (tDs c E fs)) : PE X (.List es pos) (tD c E (dLst fs)) :=
  PE.weak (pe_lst h) fun σ H Q ⟨W, ρ, m, o, s, p⟩ => by
    refine ⟨W, ρ, m, o, s, Pst.imp (Pst.bind p) fun x H1 ⟨W1, ds, m1, l1, o1, r1, p1⟩ => ?_⟩
    split at p1
    · rename_i hl
      exact ⟨by rw [← r1.length]; exact lineOk_le hl, Pst.lst o1 r1 p1⟩
    · exact p1.elim
/-- a new list that will be changed -/
def newObj (o : MO) (m : Mem) : Rs D := if m.length ≠ 0 ∧ o.lt m.length = true then .ok m.nx (m.new o) else .stuck
theorem Pst.newLst {ds : List D} {xs : List V} {m : Mem} {W : Wd} {H : Hp} {Q : VK} (o : Ok c W m H) (r : Rps c W ds xs) (p : Pst c E (Rp c) (newObj (.lst ds) m) W Q) : ∀ p, H p = none → Q (.ref p) (upd H p (.lst xs)) := fun a ha => by
  unfold newObj at p
  split at p
  · rename_i h
    obtain ⟨W', l, o', r'⟩ := o.alloc (o := .lst ds) (u := .lst xs) (fun z => h.1 (by rw [z]; rfl)) ha h.2 ⟨xs, upd_same, r⟩
    exact p _ _ _ l o' r'
  · exact p.elim
def dLstM (fs : EvG (List D)) : Ev := fun ρ m => (fs ρ m).bind fun ds m1 => if lineOk ds.length = true then newObj (.lst ds) m1 else .stuck
theorem pd_lstM (h : PA X es (tDs c E fs)) : PE X (.List es pos) (tD c E (dLstM fs)) :=
  PE.weak (pe_lst h) fun σ H Q ⟨W, ρ, m, o, s, p⟩ => by
    refine ⟨W, ρ, m, o, s, Pst.imp (Pst.bind p) fun x H1 ⟨W1, ds, m1, l1, o1, r1, p1⟩ => ?_⟩
    split at p1
    · rename_i hl
      exact ⟨by rw [← r1.length]; exact lineOk_le hl, Pst.newLst o1 r1 p1⟩
    · exact p1.elim
end
end LN
namespace LN
open PySem L2 PySem.Spec PyProof.Rows

/-! ### statements -/
inductive Fl where
  | nx (ρ : Lc) | rt (d : D) | bk (ρ : Lc) | ct (ρ : Lc)
abbrev Bd := EvG Fl
section
variable (c : Ct) (E : XK)
def PstS (R : Rs Fl) (W : Wd) (Dn : Ends) : Prop :=
  match R with
  | .stuck => False
  | .err e m' => ∀ W' H' cl dx, le W W' → Ok c W' m' H' → RX c W' H' e cl dx → E cl dx H'
  | .ok (.nx ρ) m' => ∀ W' H' σ, le W W' → Ok c W' m' H' → Sl c W' ρ σ → Dn.nx σ H'
  | .ok (.bk ρ) m' => ∀ W' H' σ, le W W' → Ok c W' m' H' → Sl c W' ρ σ → Dn.bk σ H'
  | .ok (.ct ρ) m' => ∀ W' H' σ, le W W' → Ok c W' m' H' → Sl c W' ρ σ → Dn.ct σ H'
  | .ok (.rt d) m' => ∀ W' H' v, le W W' → Ok c W' m' H' → Rp c W' d v → Dn.rt v H'
def tS (b : Bd) : TS := fun Dn σ H => ∃ W ρ m, Ok c W m H ∧ Sl c W ρ σ ∧ PstS c E (b ρ m) W Dn
end
section
variable {c : Ct} {E : XK} {α β γ δ : Type} {RA : Wd → α → β → Prop}
theorem PstS.mono {R : Rs Fl} {W W' : Wd} {Dn : Ends} (k : le W W') (h : PstS c E R W Dn) : PstS c E R W' Dn := by
  cases R with
  | stuck => exact h
  | err e m => exact fun W2 H cl dx l => h W2 H cl dx (k.trans l)
  | ok f m =>
    cases f with
    | nx ρ => exact fun W2 H v l => h W2 H v (k.trans l)
    | bk ρ => exact fun W2 H v l => h W2 H v (k.trans l)
    | ct ρ => exact fun W2 H v l => h W2 H v (k.trans l)
    | rt d => exact fun W2 H v l => h W2 H v (k.trans l)
theorem PstS.bind {R : Rs α} {k : α → Mem → Rs Fl} {W : Wd} {Dn : Ends} (h : PstS c E (R.bind k) W Dn) :
    Pst c E RA R W fun x H1 => ∃ W1 a m1, le W W1 ∧ Ok c W1 m1 H1 ∧ RA W1 a x ∧ PstS c E (k a m1) W1 Dn := by
  cases R with
  | stuck => exact h
  | ok a m => exact fun W1 H1 x l o r => ⟨W1, a, m, l, o, r, PstS.mono l h⟩
  | err e m => exact h
end

def sNil : Bd := fun ρ m => .ok (.nx ρ) m
def sSeq (b1 b2 : Bd) : Bd := fun ρ m => match b1 ρ m with
  | .ok (.nx ρ') m' => b2 ρ' m'
  | r => r
def sRet (f : Ev) : Bd := fun ρ m => (f ρ m).bind fun d m1 => .ok (.rt d) m1
def sRetN : Bd := fun _ m => .ok (.rt .non) m
def sExpr (f : Ev) : Bd := fun ρ m => (f ρ m).bind fun _ m1 => .ok (.nx ρ) m1
def sIf (t : EvG Bool) (b1 b2 : Bd) : Bd := fun ρ m => (t ρ m).bind fun k m1 => if k = true then b1 ρ m1 else b2 ρ m1
def sBrk : Bd := fun ρ m => .ok (.bk ρ) m
def sCnt : Bd := fun ρ m => .ok (.ct ρ) m
def sNever : Bd := fun _ _ => .stuck
def sGhost (g : Lc → Mem → Option (Lc × Mem)) (b : Bd) : Bd := fun ρ m => match g ρ m with
  | some (ρ', m') => b ρ' m'
  | none => .stuck

section
variable {X : Cx} {c : Ct} {E : XK} {pos : Pos} {st : Stmt} {rest : List Stmt} {b1 b2 : Bd} {e : Expr} {f : Ev}
theorem psd_nil : PSs X [] (tS c E sNil) := PSs.weak pss_nil fun D σ H ⟨W, ρ, m, o, s, p⟩ => p W H σ (le.refl _) o s
theorem psd_cons (h1 : PS X st (tS c E b1)) (h2 : PSs X rest (tS c E b2)) : PSs X (st :: rest) (tS c E (sSeq b1 b2)) :=
  PSs.weak (pss_cons h1 h2) fun Dn σ H ⟨W, ρ, m, o, s, p⟩ => by
    refine ⟨W, ρ, m, o, s, ?_⟩
    unfold sSeq at p
    cases h : b1 ρ m with
    | stuck => rw [h] at p; exact p
    | err e m' => rw [h] at p; exact p
    | ok fl m' =>
      rw [h] at p
      cases fl with
      | nx ρ' => exact fun W' H' σ' l o' s' => ⟨W', ρ', m', o', s', PstS.mono l p⟩
      | rt d => exact p
      | bk ρ' => exact p
      | ct ρ' => exact p
theorem psd_one (h1 : PS X st (tS c E b1)) : PSs X [st] (tS c E b1) := pss_one h1
theorem psd_ret (h : PE X e (tD c E f)) : PS X (.Return (some e) pos) (tS c E (sRet f)) :=
  PS.weak (ps_ret h) fun Dn σ H ⟨W, ρ, m, o, s, p⟩ => by
    refine ⟨W, ρ, m, o, s, Pst.imp (PstS.bind p) fun x H1 ⟨W1, d, m1, l1, o1, r1, p1⟩ => ?_⟩
    exact p1 W1 H1 x (le.refl _) o1 r1
theorem psd_retN : PS X (.Return none pos) (tS c E sRetN) :=
  PS.weak ps_retN fun Dn σ H ⟨W, ρ, m, o, s, p⟩ => p W H .non (le.refl _) o (by simp [Rp])
theorem psd_expr (h : PE X e (tD c E f)) (hs : swapsWith e none pos.line X.env = pure false := by rfl) : PS X (.Expr e pos) (tS c E (sExpr f)) :=
  PS.weak (ps_expr h hs) fun Dn σ H ⟨W, ρ, m, o, s, p⟩ => by
    refine ⟨W, ρ, m, o, s, Pst.imp (PstS.bind p) fun x H1 ⟨W1, d, m1, l1, o1, r1, p1⟩ => ?_⟩
    exact p1 W1 H1 σ (le.refl _) o1 (s.mono l1)
theorem psd_if {t : EvG Bool} {tst : Expr} {ba bb : List Stmt} (hc : PT X tst (tT c E t)) (ha : PSs X ba (tS c E b1)) (hb : PSs X bb (tS c E b2)) : PS X (.If tst ba bb pos) (tS c E (sIf t b1 b2)) :=
  PS.weak (ps_if hc ha hb) fun Dn σ H ⟨W, ρ, m, o, s, p⟩ => by
    refine ⟨W, ρ, m, o, s, Pst.imp (PstS.bind p) fun x H1 ⟨W1, d, m1, l1, o1, r1, p1⟩ => ?_⟩
    have e : d = x := r1
    subst e
    cases d with
    | true => rw [if_pos rfl] at p1 ⊢; exact ⟨W1, ρ, m1, o1, s.mono l1, p1⟩
    | false => rw [if_neg Bool.false_ne_true] at p1 ⊢; exact ⟨W1, ρ, m1, o1, s.mono l1, p1⟩
theorem psd_pass : PS X (.Pass pos) (tS c E sNil) := PS.weak ps_pass fun D σ H ⟨W, ρ, m, o, s, p⟩ => p W H σ (le.refl _) o s
theorem psd_brk : PS X (.Break pos) (tS c E sBrk) := PS.weak ps_break fun D σ H ⟨W, ρ, m, o, s, p⟩ => p W H σ (le.refl _) o s
theorem psd_cnt : PS X (.Continue pos) (tS c E sCnt) := PS.weak ps_continue fun D σ H ⟨W, ρ, m, o, s, p⟩ => p W H σ (le.refl _) o s
theorem psd_never : PS X st (tS c E sNever) := PS.weak ps_never fun D σ H ⟨W, ρ, m, o, s, p⟩ => p.elim
/-- a step of the proof alone -/
theorem psd_ghost {g : Lc → Mem → Option (Lc × Mem)} (hg : ∀ W ρ m σ H, Ok c W m H → Sl c W ρ σ → ∀ ρ' m', g ρ m = some (ρ', m') → ∃ W', le W W' ∧ Ok c W' m' H ∧ Sl c W' ρ' σ) (h : PSs X rest (tS c E b1)) :
    PSs X rest (tS c E (sGhost g b1)) :=
  PSs.weak h fun Dn σ H ⟨W, ρ, m, o, s, p⟩ => by
    unfold sGhost at p
    cases e : g ρ m with
    | none => rw [e] at p; exact p.elim
    | some q =>
      rw [e] at p
      obtain ⟨W', l, o', s'⟩ := hg W ρ m σ H o s q.1 q.2 e
      exact ⟨W', q.1, q.2, o', s', PstS.mono l p⟩
end

/-! ### targets -/
abbrev Tg := D → Lc → Mem → Rs Lc
abbrev Tgs := List D → Lc → Mem → Rs Lc
/-- σ' differs from σ at is alone -/
def Dif (is : List Nat) (σ σ' : L2.St) : Prop := σ'.length = σ.length ∧ ∀ j, j ∉ is → σ'[j]? = σ[j]?
def tTg (c : Ct) (E : XK) (is : List Nat) (g : Tg) : TG := fun v σ H Q => ∃ W ρ m d, Ok c W m H ∧ Sl c W ρ σ ∧ Rp c W d v ∧
  Pst c E (fun W' ρ' σ' => Sl c W' ρ' σ' ∧ Dif is σ σ') (g d ρ m) W Q
def tTgs (c : Ct) (E : XK) (is : List Nat) (g : Tgs) : TGs := fun vs σ H Q => ∃ W ρ m ds, Ok c W m H ∧ Sl c W ρ σ ∧ Rps c W ds vs ∧
  Pst c E (fun W' ρ' σ' => Sl c W' ρ' σ' ∧ Dif is σ σ') (g ds ρ m) W Q
theorem PG.weak {X : Cx} {e : Expr} {t t' : TG} (h : PG X e t) (k : ∀ v σ H Q, t' v σ H Q → t v σ H Q) : PG X e t' := ⟨fun pins s σ H v u Q I r q => h.run pins s σ H v u Q I r (k _ _ _ _ q)⟩
theorem PGs.weak {X : Cx} {e : List Expr} {t t' : TGs} (h : PGs X e t) (k : ∀ v σ H Q, t' v σ H Q → t v σ H Q) : PGs X e t' := ⟨fun pins s σ H v u Q I r q => h.run pins s σ H v u Q I r (k _ _ _ _ q)⟩
theorem Sl.set {c : Ct} {W : Wd} {ρ : Lc} {σ : L2.St} {i : Nat} {d : D} {v : V} (s : Sl c W ρ σ) (r : Rp c W d v) : Sl c W (ρ.set i (some d)) (σ.set i (some v)) := by
  refine ⟨by simp [s.1], fun j d' h => ?_⟩
  rw [List.getElem?_set] at h ⊢
  by_cases e : i = j
  · rw [if_pos e] at h ⊢
    split at h
    · rename_i hl
      cases h
      rw [if_pos (by rw [← s.1]; exact hl)]
      exact ⟨v, rfl, r⟩
    · cases h
  · rw [if_neg e] at h ⊢
    exact s.2 j d' h
theorem Dif.set {σ : L2.St} {i : Nat} {v : Option V} : Dif [i] σ (σ.set i v) := ⟨by simp, fun j hj => by
  rw [List.getElem?_set_ne (by simpa using fun e => hj (by simp [e]))]⟩
def gN (i : Nat) : Tg := fun d ρ m => .ok (ρ.set i (some d)) m
def gsNil : Tgs := fun ds ρ m => match ds with
  | [] => .ok ρ m
  | _ => .stuck
def gsCons (g : Tg) (gs : Tgs) : Tgs := fun ds ρ m => match ds with
  | d :: r => (g d ρ m).bind fun ρ1 m1 => gs r ρ1 m1
  | [] => .stuck
def gT (gs : Tgs) : Tg := fun d ρ m => match d with
  | .tup ds => gs ds ρ m
  | _ => .stuck
section
variable {X : Cx} {c : Ct} {E : XK} {pos : Pos} {is is' : List Nat} {g : Tg} {gs : Tgs} {e : Expr} {es : List Expr}
theorem pgd_name (i : Nat) {x : Str} (hN : X.N.Nodup) (hi : X.N[i]? = some x := by rfl) (hx : Loc X.env.scope x := by first | exact Or.inl rfl | exact Or.inr rfl) (hf : X.fn x = true ∨ X.env.scope.names.lookup x = some .local := by first | exact .inl rfl | exact .inr rfl | assumption) :
    PG X (.Name x pos) (tTg c E [i] (gN i)) :=
  PG.weak (pg_name hN hi hx hf) fun v σ H Q ⟨W, ρ, m, d, o, s, r, p⟩ => p W H _ (le.refl _) o ⟨s.set r, Dif.set⟩
theorem pgsd_nil : PGs X [] (tTgs c E [] gsNil) :=
  PGs.weak pgs_nil fun vs σ H Q ⟨W, ρ, m, ds, o, s, r, p⟩ => by
    cases ds with
    | nil => simp only [Rps] at r; exact ⟨r, p W H σ (le.refl _) o ⟨s, rfl, fun _ _ => rfl⟩⟩
    | cons d r => exact p.elim
theorem pgsd_cons (h1 : PG X e (tTg c E is g)) (h2 : PGs X es (tTgs c E is' gs)) (hs : (assignEach (e :: es) X.env).map (·.2) = assign e X.env :: (assignEach es X.env).map (·.2) := by rfl) :
    PGs X (e :: es) (tTgs c E (is ++ is') (gsCons g gs)) :=
  PGs.weak (pgs_cons h1 h2 hs) fun vs σ H Q ⟨W, ρ, m, ds, o, s, r, p⟩ => by
    cases ds with
    | nil => exact p.elim
    | cons d ds =>
      simp only [Rps] at r
      obtain ⟨v, vr, e, r1, r2⟩ := r
      refine ⟨v, vr, e, W, ρ, m, d, o, s, r1, Pst.imp (Pst.bind p) fun σ1 H1 ⟨W1, ρ1, m1, l1, o1, ⟨s1, d1⟩, p1⟩ => ?_⟩
      refine ⟨W1, ρ1, m1, ds, o1, s1, r2.mono l1 ds, ?_⟩
      have p1 : Pst c E (fun W' ρ' σ' => Sl c W' ρ' σ' ∧ Dif (is ++ is') σ σ') (gs ds ρ1 m1) W1 Q := p1
      cases h : gs ds ρ1 m1 with
      | stuck => rw [h] at p1; exact p1
      | err e m => rw [h] at p1; exact p1
      | ok ρ2 m2 =>
        rw [h] at p1
        exact fun W' H' σ' l o' r' => p1 W' H' σ' l o' ⟨r'.1, r'.2.1.trans d1.1, fun j hj => by
          simp only [List.mem_append, not_or] at hj
          exact (r'.2.2 j hj.2).trans (d1.2 j hj.1)⟩
theorem gT_len {gs : Tgs} : True := trivial
/-- how many targets -/
def Tgs.len (gs : Tgs) (n : Nat) : Prop := ∀ ds ρ m, ds.length ≠ n → gs ds ρ m = .stuck
theorem gsNil_len : Tgs.len gsNil 0 := fun ds ρ m h => by
  cases ds with
  | nil => exact absurd rfl h
  | cons => rfl
theorem gsCons_len {g : Tg} {gs : Tgs} {n : Nat} (hp : ∀ d ρ m, (∃ ρ' m', g d ρ m = .ok ρ' m') ∨ g d ρ m = .stuck) (h : Tgs.len gs n) : Tgs.len (gsCons g gs) (n + 1) := fun ds ρ m hl => by
  cases ds with
  | nil => rfl
  | cons d r =>
    show (g d ρ m).bind _ = _
    rcases hp d ρ m with ⟨ρ', m', e⟩ | e
    · rw [e]; exact h r ρ' m' (by simpa using hl)
    · rw [e]; rfl
theorem gN_pure (i : Nat) : ∀ d ρ m, (∃ ρ' m', gN i d ρ m = .ok ρ' m') ∨ gN i d ρ m = .stuck := fun d ρ m => .inl ⟨_, _, rfl⟩
theorem gT_pure {gs : Tgs} (h : ∀ ds ρ m, (∃ ρ' m', gs ds ρ m = .ok ρ' m') ∨ gs ds ρ m = .stuck) : ∀ d ρ m, (∃ ρ' m', gT gs d ρ m = .ok ρ' m') ∨ gT gs d ρ m = .stuck := fun d ρ m => by
  cases d <;> first | exact .inr rfl | exact h _ ρ m
theorem gsNil_pure : ∀ ds ρ m, (∃ ρ' m', gsNil ds ρ m = .ok ρ' m') ∨ gsNil ds ρ m = .stuck := fun ds ρ m => by
  cases ds with
  | nil => exact .inl ⟨_, _, rfl⟩
  | cons => exact .inr rfl
theorem gsCons_pure {g : Tg} {gs : Tgs} (hp : ∀ d ρ m, (∃ ρ' m', g d ρ m = .ok ρ' m') ∨ g d ρ m = .stuck) (h : ∀ ds ρ m, (∃ ρ' m', gs ds ρ m = .ok ρ' m') ∨ gs ds ρ m = .stuck) :
    ∀ ds ρ m, (∃ ρ' m', gsCons g gs ds ρ m = .ok ρ' m') ∨ gsCons g gs ds ρ m = .stuck := fun ds ρ m => by
  cases ds with
  | nil => exact .inr rfl
  | cons d r =>
    rcases hp d ρ m with ⟨ρ', m', e⟩ | e
    · have : gsCons g gs (d :: r) ρ m = gs r ρ' m' := by show (g d ρ m).bind _ = _; rw [e]; rfl
      rw [this]; exact h r ρ' m'
    · right; show (g d ρ m).bind _ = _; rw [e]; rfl
theorem pgd_tup {k} {n : Nat} (hc : X.calm = true) (h : PGs X es (tTgs c E is gs)) (hl : Tgs.len gs n) (hn : (assignEach es X.env).length = n := by rfl) (hst : (assignEach es X.env).findIdx? (·.1) = none := by rfl) (hK : c.K = X.K := by rfl) :
    PG X (.Tuple es k pos) (tTg c E is (gT gs)) :=
  PG.weak (pg_tup hc h hn hst) fun v σ H Q ⟨W, ρ, m, d, o, s, r, p⟩ => by
    cases d with
    | tup ds =>
      simp only [Rp] at r
      obtain ⟨a, vs, e, q, r⟩ := r
      have hd : ds.length = n := Decidable.byContradiction fun z => by
        have p : Pst c E _ (gs ds ρ m) W Q := p
        rw [hl ds ρ m z] at p; exact p
      exact ⟨a, vs, e, hK ▸ (q.mono o.g).sq, by rw [← r.length]; exact hd, W, ρ, m, ds, o, s, r, p⟩
    | _ => exact p.elim
end

/-! ### assignment -/
def sAsg (f : Ev) (g : Tg) : Bd := fun ρ m => (f ρ m).bind fun d m1 => (g d ρ m1).bind fun ρ' m2 => .ok (.nx ρ') m2
section
variable {X : Cx} {c : Ct} {E : XK} {pos : Pos} {is : List Nat} {g : Tg} {e tg : Expr} {f : Ev}
theorem tAsg_of : ∀ (Dn : Ends) (σ : L2.St) (H : Hp), tS c E (sAsg f g) Dn σ H → tAsg (tD c E f) (tTg c E is g) Dn σ H := fun Dn σ H ⟨W, ρ, m, o, s, p⟩ => by
  refine ⟨W, ρ, m, o, s, Pst.imp (PstS.bind p) fun x H1 ⟨W1, d, m1, l1, o1, r1, p1⟩ => ?_⟩
  refine ⟨W1, ρ, m1, d, o1, s.mono l1, r1, Pst.imp (PstS.bind p1) fun σ2 H2 ⟨W2, ρ2, m2, l2, o2, ⟨s2, _⟩, p2⟩ => ?_⟩
  exact p2 W2 H2 σ2 (le.refl _) o2 s2
theorem psd_asg (he : PE X e (tD c E f)) (hg : PG X tg (tTg c E is g)) (hs : swapsWithSole [tg] e pos.line X.env = pure false := by rfl) (hw : swappedStores [tg] e X.env = pure none := by rfl)
    (h1 : (assignEach [tg] X.env).map (·.2) = [assign tg X.env] := by rfl) : PS X (.Assign [tg] e pos) (tS c E (sAsg f g)) := PS.weak (ps_asg he hg hs hw h1) tAsg_of
/-- a, b = x, y -/
def sPar (i j : Nat) (fs : EvG (List D)) : Bd := fun ρ m => (fs ρ m).bind fun ds m1 => match ds with
  | [d1, d2] => .ok (.nx ((ρ.set i (some d1)).set j (some d2))) m1
  | _ => .stuck
theorem psd_par (i j : Nat) {x y : Str} {a b : Expr} {fs : EvG (List D)} {px py pt : Pos} {kt k2 pt2} (hc : X.calm = true) (hN : X.N.Nodup) (ha : PA X [a, b] (tDs c E fs)) (hi : X.N[i]? = some x := by rfl) (hj : X.N[j]? = some y := by rfl) (hij : i ≠ j := by decide)
    (hx : X.env.scope.names.lookup x = some .local := by rfl) (hy : X.env.scope.names.lookup y = some .local := by rfl)
    (hw : swappedStores [.Tuple [.Name x px, .Name y py] kt pt] (.Tuple [a, b] k2 pt2) X.env = pure (some [x, y]) := by rfl)
    (hs : swapsWithSole [.Tuple [.Name x px, .Name y py] kt pt] (.Tuple [a, b] k2 pt2) pos.line X.env = pure false := by rfl) :
    PS X (.Assign [.Tuple [.Name x px, .Name y py] kt pt] (.Tuple [a, b] k2 pt2) pos) (tS c E (sPar i j fs)) :=
  PS.weak (ps_par hc hN hi hj hij hx hy ha hw hs) fun Dn σ H ⟨W, ρ, m, o, s, p⟩ => by
    refine ⟨W, ρ, m, o, s, Pst.imp (PstS.bind p) fun xs H1 ⟨W1, ds, m1, l1, o1, r1, p1⟩ => ?_⟩
    match ds, r1, p1 with
    | [d1, d2], r1, p1 =>
      simp only [Rps] at r1
      obtain ⟨v1, r, rfl, q1, v2, r', rfl, q2, rfl⟩ := r1
      exact ⟨v1, v2, rfl, p1 W1 H1 _ (le.refl _) o1 (((s.mono l1).set q1).set q2)⟩
    | [], _, p1 => exact p1.elim
    | [_], _, p1 => exact p1.elim
    | _ :: _ :: _ :: _, _, p1 => exact p1.elim
/-- x op= e -/
def sAug (i : Nat) (f : Ev) (g : D → D → Mem → Rs D) : Bd := fun ρ m => match ρ[i]? with
  | some (some d0) => (f ρ m).bind fun d m1 => (g d0 d m1).bind fun d2 m2 => .ok (.nx (ρ.set i (some d2))) m2
  | _ => .stuck
theorem psd_aug (i : Nat) {x : Str} {op : Operator} {r : R2} {g : D → D → Mem → Rs D} {pos' : Pos} (hN : X.N.Nodup) (he : PE X e (tD c E f)) (ho : OpR X (inplaceOp op) r) (hs : OpS c E r g) (hi : X.N[i]? = some x := by rfl) (hx : Loc X.env.scope x := by first | exact Or.inl rfl | exact Or.inr rfl)
    (hf : X.fn x = true ∨ X.env.scope.names.lookup x = some .local := by first | exact .inl rfl | exact .inr rfl | assumption) : PS X (.AugAssign (.Name x pos') op e pos) (tS c E (sAug i f g)) :=
  PS.weak (ps_aug (ti := r) hN hi hx he ho hf) fun Dn σ H ⟨W, ρ, m, o, s, p⟩ => by
    unfold sAug at p
    split at p
    · rename_i d0 e0
      obtain ⟨v0, h0, r0⟩ := s.2 i d0 e0
      refine ⟨v0, h0, W, ρ, m, o, s, Pst.imp (PstS.bind p) fun y H1 ⟨W1, d, m1, l1, o1, r1, p1⟩ => ?_⟩
      refine hs W1 m1 H1 v0 y d0 d _ o1 (r0.mono l1 d0) r1 (Pst.imp (PstS.bind p1) fun z H2 ⟨W2, d2, m2, l2, o2, r2, p2⟩ => ?_)
      exact p2 W2 H2 _ (le.refl _) o2 (((s.mono l1).mono l2).set r2)
    · exact p.elim
/-- o[i] = e, by values -/
def SetS (c : Ct) (E : XK) (r : TSet) (g : D → D → D → Mem → Rs Unit) : Prop := ∀ (W : Wd) (m : Mem) (H : Hp) (x y z : V) (dx dy dz : D) (Q : Hp → Prop), Ok c W m H → Rp c W dx x → Rp c W dy y → Rp c W dz z →
  Pst c E (fun _ (_ : Unit) (_ : Unit) => True) (g dx dy dz m) W (fun _ H' => Q H') → r x y z H Q
def gSub' (fo fi : Ev) (g : D → D → D → Mem → Rs Unit) : Tg := fun d ρ m => (fo ρ m).bind fun d0 m1 => (fi ρ m1).bind fun di m2 => (g d0 di d m2).bind fun _ m3 => .ok ρ m3
theorem pgd_sub {o i : Expr} {fo fi : Ev} {r : TSet} {gg : D → D → D → Mem → Rs Unit} (ho : PE X o (tD c E fo)) (hi : PE X i (tD c E fi)) (hr : PSet X r) (hs : SetS c E r gg)
    (ha : ∀ v, assign (.Subscript o i pos) X.env v = (do
      let ov ← holding [v] (eval o X.env)
      let iv ← holding [v, ov] (eval i X.env)
      standAt pos
      holding [v, ov, iv] (setItem ov iv v)
      release [v, ov, iv] []) := by intro _; rfl) : PG X (.Subscript o i pos) (tTg c E [] (gSub' fo fi gg)) :=
  PG.weak (pg_sub ho hi hr ha) fun v σ H Q ⟨W, ρ, m, d, o, s, r, p⟩ => by
    refine ⟨W, ρ, m, o, s, Pst.imp (Pst.bind p) fun x H1 ⟨W1, d0, m1, l1, o1, r1, p1⟩ => ?_⟩
    refine ⟨W1, ρ, m1, o1, s.mono l1, Pst.imp (Pst.bind p1) fun y H2 ⟨W2, d2, m2, l2, o2, r2, p2⟩ => ?_⟩
    refine hs W2 m2 H2 x y v d0 d2 d _ o2 (r1.mono l2 d0) r2 ((r.mono l1 d).mono l2 d) (Pst.imp (Pst.bind p2) fun _ H3 ⟨W3, _, m3, l3, o3, _, p3⟩ => ?_)
    exact p3 W3 H3 σ (le.refl _) o3 ⟨((s.mono l1).mono l2).mono l3, rfl, fun _ _ => rfl⟩
end

/-! ### loops -/
/-- what is walked: the items, and what must stand at each turn -/
structure Wk where
  ds : List D
  ck : Mem → Prop
def Wk.of (ds : List D) : Wk := ⟨ds, fun _ => True⟩
/-- J walks the data -/
def Yld (c : Ct) (W : Wd) (wk : Wk) (J : It) : Prop := ∀ (W1 : Wd) (m1 : Mem) (H1 : Hp) (i : Nat), le W W1 → Ok c W1 m1 H1 → wk.ck m1 →
  (∀ d, wk.ds[i]? = some d → J.go i H1 ∧ ∀ x H2, J.yld i H1 x H2 → ∃ W2, le W1 W2 ∧ Ok c W2 m1 H2 ∧ Rp c W2 d x) ∧ (wk.ds.length = i → J.stop i H1)
abbrev tI (c : Ct) (E : XK) (f : EvG Wk) : TI := tG c E (Yld c) f
theorem PI.weak {X : Cx} {tg e : Expr} {t t' : TI} (h : PI X tg e t) (k : ∀ σ H Q, t' σ H Q → t σ H Q) : PI X tg e t' := ⟨fun pins s σ H R I q => h.run pins s σ H R I (k _ _ _ q)⟩
open Classical in
noncomputable def forD (ck : Mem → Prop) (g : Tg) (b : Bd) : List D → Bd
  | [], ρ, m => if ck m then .ok (.nx ρ) m else .stuck
  | d :: ds, ρ, m => if ck m then (g d ρ m).bind fun ρ1 m1 => match b ρ1 m1 with
    | .ok (.nx ρ2) m2 => forD ck g b ds ρ2 m2
    | .ok (.ct ρ2) m2 => forD ck g b ds ρ2 m2
    | .ok (.bk ρ2) m2 => .ok (.nx ρ2) m2
    | r => r else .stuck
noncomputable def sFor (fi : EvG Wk) (g : Tg) (b : Bd) : Bd := fun ρ m => (fi ρ m).bind fun wk m1 => forD wk.ck g b wk.ds ρ m1
def whileD (t : EvG Bool) (b : Bd) : Nat → Bd
  | 0, _, _ => .stuck
  | n + 1, ρ, m => (t ρ m).bind fun k m1 => if k = true then (match b ρ m1 with
      | .ok (.nx ρ2) m2 => whileD t b n ρ2 m2
      | .ok (.ct ρ2) m2 => whileD t b n ρ2 m2
      | .ok (.bk ρ2) m2 => .ok (.nx ρ2) m2
      | r => r) else .ok (.nx ρ) m1
theorem whileD_up {t : EvG Bool} {b : Bd} : ∀ (n : Nat) (ρ : Lc) (m : Mem), whileD t b n ρ m ≠ .stuck → whileD t b (n + 1) ρ m = whileD t b n ρ m
  | 0, _, _, h => absurd rfl h
  | n + 1, ρ, m, h => by
    rw [whileD] at h
    rw [whileD, whileD]
    cases ht : t ρ m with
    | stuck => rfl
    | err e m1 => rfl
    | ok k m1 =>
      rw [ht] at h
      simp only [Rs.bind_ok] at h ⊢
      cases k with
      | false => rfl
      | true =>
        simp only [if_true] at h ⊢
        cases hb : b ρ m1 with
        | stuck => rfl
        | err e m2 => rfl
        | ok fl m2 =>
          rw [hb] at h
          cases fl with
          | nx ρ2 => exact whileD_up n ρ2 m2 h
          | ct ρ2 => exact whileD_up n ρ2 m2 h
          | bk ρ2 => rfl
          | rt d => rfl
theorem whileD_le {t : EvG Bool} {b : Bd} {n k : Nat} {ρ : Lc} {m : Mem} (h : whileD t b n ρ m ≠ .stuck) (hk : n ≤ k) : whileD t b k ρ m = whileD t b n ρ m := by
  induction hk with
  | refl => rfl
  | step _ ih => rw [whileD_up _ _ _ (by rw [ih]; exact h), ih]
open Classical in
noncomputable def sWhile (t : EvG Bool) (b : Bd) : Bd := fun ρ m => if h : ∃ n, whileD t b n ρ m ≠ .stuck then whileD t b (Classical.choose h) ρ m else .stuck
theorem sWhile_of {t : EvG Bool} {b : Bd} {ρ : Lc} {m : Mem} (n : Nat) (h : whileD t b n ρ m ≠ .stuck) : sWhile t b ρ m = whileD t b n ρ m := by
  have hx : ∃ n, whileD t b n ρ m ≠ .stuck := ⟨n, h⟩
  unfold sWhile
  rw [dif_pos hx]
  have hc := Classical.choose_spec hx
  rcases Nat.le_total n (Classical.choose hx) with q | q
  · exact whileD_le h q
  · exact (whileD_le hc q).symm
section
variable {X : Cx} {c : Ct} {E : XK} {pos : Pos} {is : List Nat} {g : Tg} {b : Bd} {tg iter : Expr} {body : List Stmt} {fi : EvG Wk} {t : EvG Bool}
theorem psd_for (hp : PassesOwn (model X.prog X.w) X.A X.env X.xe) (hc : X.calm = true) (hi : PI X tg iter (tI c E fi)) (hg : PG X tg (tTg c E is g)) (hb : PSs X body (tS c E b))
    (hs : ∀ x, foldedSetIterable iter X.env x = pure x := by intro _; rfl) : PS X (.For tg iter body [] pos) (tS c E (sFor fi g b)) :=
  PS.weak (ps_for hp hc hi hg hb hs) fun Dn σ H ⟨W, ρ, m, o, s, p⟩ => by
    refine ⟨W, ρ, m, o, s, Pst.imp (PstS.bind (RA := Yld c) p) fun J H1 ⟨W1, wk, m1, l1, o1, y1, p1⟩ => ?_⟩
    obtain ⟨ds, ck⟩ := wk
    dsimp only at p1
    refine ⟨fun i n σ H => n = ds.length - i ∧ i ≤ ds.length ∧ ∃ W2 ρ2 m2, le W1 W2 ∧ Ok c W2 m2 H ∧ Sl c W2 ρ2 σ ∧ PstS c E (forD ck g b (ds.drop i) ρ2 m2) W2 Dn,
      ⟨_, rfl, Nat.zero_le _, W1, ρ, m1, le.refl _, o1, s.mono l1, by simpa using p1⟩, ?_⟩
    rintro i n σ2 H2 ⟨rfl, hi, W2, ρ2, m2, l2, o2, s2, p2⟩
    have hck : ck m2 := by
      refine Classical.byContradiction fun z => ?_
      cases e : ds.drop i with
      | nil => rw [e] at p2; rw [forD, if_neg z] at p2; exact p2
      | cons d r => rw [e] at p2; rw [forD, if_neg z] at p2; exact p2
    obtain ⟨hgo, hstop⟩ := y1 W2 m2 H2 i l2 o2 hck
    by_cases hlt : i < ds.length
    · have hd : ds[i]? = some ds[i] := List.getElem?_eq_getElem hlt
      obtain ⟨go, hy⟩ := hgo _ hd
      refine .inr ⟨go, fun σ' H' => i + 1 ≤ ds.length ∧ ∃ W3 ρ3 m3, le W1 W3 ∧ Ok c W3 m3 H' ∧ Sl c W3 ρ3 σ' ∧ PstS c E (forD ck g b (ds.drop (i + 1)) ρ3 m3) W3 Dn, fun σ' H' ⟨h1, h2⟩ => ⟨ds.length - (i + 1), by omega, rfl, h1, h2⟩, fun x H3 hx => ?_⟩
      obtain ⟨W3, l3, o3, r3⟩ := hy x H3 hx
      rw [List.drop_eq_getElem_cons hlt] at p2
      rw [forD, if_pos hck] at p2
      refine ⟨W3, ρ2, m2, ds[i], o3, s2.mono l3, r3, Pst.imp (PstS.bind (PstS.mono l3 p2)) fun σ4 H4 ⟨W4, ρ4, m4, l4, o4, ⟨s4, _⟩, p4⟩ => ?_⟩
      refine ⟨W4, ρ4, m4, o4, s4, ?_⟩
      have L4 : le W1 W4 := (l2.trans l3).trans l4
      cases hb : b ρ4 m4 with
      | stuck => rw [hb] at p4; exact p4
      | err e m5 => rw [hb] at p4; exact p4
      | ok fl m5 =>
        rw [hb] at p4
        cases fl with
        | nx ρ5 => exact fun W5 H5 σ5 l5 o5 s5 => ⟨hlt, W5, ρ5, m5, L4.trans l5, o5, s5, PstS.mono l5 p4⟩
        | ct ρ5 => exact fun W5 H5 σ5 l5 o5 s5 => ⟨hlt, W5, ρ5, m5, L4.trans l5, o5, s5, PstS.mono l5 p4⟩
        | bk ρ5 => exact p4
        | rt d => exact p4
    · have e : i = ds.length := by omega
      refine .inl ⟨hstop (by show ds.length = i; omega), ?_⟩
      rw [List.drop_eq_nil_of_le (by omega), forD, if_pos hck] at p2
      exact p2 W2 H2 σ2 (le.refl _) o2 s2
theorem psd_while {tst : Expr} (hp : PassesOwn (model X.prog X.w) X.A X.env X.xe) (hc : PT X tst (tT c E t)) (hb : PSs X body (tS c E b)) : PS X (.While tst body [] pos) (tS c E (sWhile t b)) :=
  PS.weak (ps_while hp hc hb) fun Dn σ H ⟨W, ρ, m, o, s, p⟩ => by
    have p : ∃ n, PstS c E (whileD t b n ρ m) W Dn := by
      unfold sWhile at p
      split at p
      · exact ⟨_, p⟩
      · exact p.elim
    obtain ⟨n0, p⟩ := p
    refine ⟨fun n σ H => ∃ W2 ρ2 m2, Ok c W2 m2 H ∧ Sl c W2 ρ2 σ ∧ PstS c E (whileD t b n ρ2 m2) W2 Dn, ⟨n0, W, ρ, m, o, s, p⟩, ?_⟩
    rintro n σ2 H2 ⟨W2, ρ2, m2, o2, s2, p2⟩
    cases n with
    | zero => exact p2.elim
    | succ n =>
      have p2 : PstS c E ((t ρ2 m2).bind _) W2 Dn := p2
      refine ⟨W2, ρ2, m2, o2, s2, Pst.imp (PstS.bind (RA := Rb) p2) fun k H3 ⟨W3, d, m3, l3, o3, r3, p3⟩ => ?_⟩
      have e : d = k := r3
      subst e
      cases d with
      | true =>
        rw [if_pos rfl] at p3 ⊢
        refine ⟨fun σ' H' => ∃ W2 ρ2 m2, Ok c W2 m2 H' ∧ Sl c W2 ρ2 σ' ∧ PstS c E (whileD t b n ρ2 m2) W2 Dn, fun σ' H' h => ⟨n, Nat.lt_succ_self _, h⟩, W3, ρ2, m3, o3, s2.mono l3, ?_⟩
        cases hb : b ρ2 m3 with
        | stuck => rw [hb] at p3; exact p3
        | err e m5 => rw [hb] at p3; exact p3
        | ok fl m5 =>
          rw [hb] at p3
          cases fl with
          | nx ρ5 => exact fun W5 H5 σ5 l5 o5 s5 => ⟨W5, ρ5, m5, o5, s5, PstS.mono l5 p3⟩
          | ct ρ5 => exact fun W5 H5 σ5 l5 o5 s5 => ⟨W5, ρ5, m5, o5, s5, PstS.mono l5 p3⟩
          | bk ρ5 => exact p3
          | rt d => exact p3
      | false =>
        rw [if_neg Bool.false_ne_true] at p3 ⊢
        exact p3 W3 H3 σ2 (le.refl _) o3 (s2.mono l3)
end
end LN
namespace LN
open PySem L2 PySem.Spec PyProof.Rows

/-! ### comprehensions -/
def Rs.nox {α : Type} (r : Rs α) : Rs α := match r with
  | .err _ _ => .stuck
  | r => r
theorem Rs.bind_assoc {α β γ : Type} (r : Rs α) (k : α → Mem → Rs β) (k' : β → Mem → Rs γ) : (r.bind k).bind k' = r.bind fun a m => (k a m).bind k' := by cases r <;> rfl
theorem Pst.nox {c : Ct} {E E' : XK} {α β : Type} {RA : Wd → α → β → Prop} {R : Rs α} {W : Wd} {Q : β → Hp → Prop} (h : Pst c E RA R.nox W Q) : Pst c E' RA R W Q := by
  cases R with
  | stuck => exact h
  | ok a m => exact h
  | err e m => exact h.elim
def wipeD (ρ : Lc) : List Nat → Lc
  | [] => ρ
  | v :: vs => (wipeD ρ vs).set v none
theorem Sl.wipe {c : Ct} {W : Wd} {ρ : Lc} {σ : L2.St} (s : Sl c W ρ σ) : ∀ vs : List Nat, Sl c W (wipeD ρ vs) (wipe σ vs)
  | [] => s
  | v :: vs => by
    have ih := Sl.wipe s vs
    refine ⟨by simp [wipeD, L2.wipe, ih.1], fun i d h => ?_⟩
    simp only [wipeD] at h
    simp only [L2.wipe]
    rw [List.getElem?_set] at h ⊢
    by_cases e : v = i
    · rw [if_pos e] at h
      split at h <;> cases h
    · rw [if_neg e] at h ⊢
      exact ih.2 i d h
theorem wipe_get (σ : L2.St) (j : Nat) : ∀ vs : List Nat, (wipe σ vs)[j]? = if j ∈ vs ∧ j < σ.length then some none else σ[j]?
  | [] => by simp [L2.wipe]
  | v :: vs => by
    simp only [L2.wipe]
    rw [List.getElem?_set, wipe_get σ j vs, wipe_length]
    by_cases e : v = j
    · subst e
      rw [if_pos rfl]
      by_cases hl : v < σ.length
      · rw [if_pos hl, if_pos ⟨by simp, hl⟩]
      · rw [if_neg hl, if_neg (fun z => hl z.2)]
        exact (List.getElem?_eq_none (by omega)).symm
    · rw [if_neg e]
      have : (j ∈ v :: vs) ↔ j ∈ vs := by simp [Ne.symm e]
      simp only [this]
theorem Dif.wipe {σ0 σ σ' : L2.St} {is vs : List Nat} (h : Dif is σ σ') (hs : ∀ i ∈ is, i ∈ vs) (h0 : σ = wipe σ0 vs) : wipe σ' vs = wipe σ0 vs := by
  apply List.ext_getElem?
  intro j
  rw [wipe_get, wipe_get]
  have hl0 : σ.length = σ0.length := by rw [h0, wipe_length]
  by_cases hj : j ∈ vs ∧ j < σ0.length
  · rw [if_pos ⟨hj.1, by rw [h.1]; omega⟩, if_pos hj]
  · rw [if_neg (by rw [h.1, hl0]; exact hj), if_neg hj]
    by_cases hv : j ∈ vs
    · have : ¬ j < σ0.length := fun z => hj ⟨hv, z⟩
      rw [List.getElem?_eq_none (by rw [h.1]; omega), List.getElem?_eq_none (by omega)]
    · rw [h.2 j fun z => hv (hs j z), h0, wipe_get, if_neg (fun z => hv z.1)]
def tAll : EvG Bool := fun _ m => .ok true m
open Classical in
noncomputable def lcD (ck : Mem → Prop) (g : Tg) (t : EvG Bool) (f : Ev) : List D → Lc → Mem → Rs (List D)
  | [], _, m => if ck m then .ok [] m else .stuck
  | d :: ds, ρ, m => if ck m then (g d ρ m).nox.bind fun ρ1 m1 => (t ρ1 m1).nox.bind fun k m2 =>
      if k = true then (f ρ1 m2).nox.bind fun y m3 => (lcD ck g t f ds ρ m3).bind fun ys m4 => .ok (y :: ys) m4 else lcD ck g t f ds ρ m2 else .stuck
def finF (ys : List D) (m : Mem) : Rs D := if lineOk ys.length = true then .ok (.lst ys) m else .stuck
def finM (ys : List D) (m : Mem) : Rs D := if lineOk ys.length = true then newObj (.lst ys) m else .stuck
noncomputable def dLc (fin : List D → Mem → Rs D) (fi : EvG Wk) (vs : List Nat) (g : Tg) (t : EvG Bool) (f : Ev) : Ev := fun ρ m => (fi ρ m).bind fun wk m1 => (lcD wk.ck g t f wk.ds (wipeD ρ vs) m1).bind fun ys m2 => fin ys m2
def rm (L : Hp) (D : Addr) : Hp := fun b => if b = D then none else L b
theorem rm_ne {L : Hp} {D a : Addr} (h : a ≠ D) : rm L D a = L a := by unfold rm; rw [if_neg h]
theorem rm_same {L : Hp} {D : Addr} : rm L D D = none := by unfold rm; rw [if_pos rfl]
theorem rm_some {L : Hp} {D a : Addr} {v : HO} (h : rm L D a = some v) : a ≠ D ∧ L a = some v := by
  unfold rm at h
  by_cases e : a = D
  · rw [if_pos e] at h; cases h
  · rw [if_neg e] at h; exact ⟨e, h⟩
theorem MoR.L {c : Ct} {G L L' H : Hp} {ι : Nat → Nat → Option Addr} {a : Addr} : ∀ {o : MO}, MoR c ⟨G, L, ι⟩ H a o → MoR c ⟨G, L', ι⟩ H a o
  | .lst xs, ⟨vs, q, r⟩ => ⟨vs, q, (Rps_L xs).mp r⟩
  | .dk ks xs, ⟨vs, q, l, r⟩ => ⟨vs, q, l, (Rps_L xs).mp r⟩
  | .dt ks xs, ⟨vs, q, l, r⟩ => ⟨vs, q, l, (Rps_L xs).mp r⟩
  | .fk ks xs, ⟨ob, vs, q, l, r⟩ => ⟨ob, vs, q, l, (Rps_L xs).mp r⟩
  | .ft ks xs, ⟨ob, vs, q, l, r⟩ => ⟨ob, vs, q, l, (Rps_L xs).mp r⟩
  | .dead, _ => trivial
section
variable {c : Ct} {W : Wd} {m : Mem} {H : Hp} {D : Addr} {u u' : HO}
theorem Ok.ne_pin (k : Ok c W m H) (hD : W.L D = some u) (hu : ∃ xs, u = .lst xs) : ∀ {f i a o'}, m.get f i = some o' → o'.alive = true → W.ι f i = some a → a ≠ D := fun {f i a o'} h1 h2 h3 => by
  obtain ⟨b, e1, e2, e3, e4⟩ := k.i f i o' h1 h2
  rw [h3] at e1; cases e1
  rintro rfl
  obtain ⟨xs, rfl⟩ := hu
  have hd := k.l _ _ hD
  cases o' with
  | fk ks xs => obtain ⟨ob, vs, q, r⟩ := e2; rw [hd] at q; cases q
  | ft ks xs => obtain ⟨ob, vs, q, r⟩ := e2; rw [hd] at q; cases q
  | lst xs => rw [e4.un rfl] at hD; cases hD
  | dk ks xs => rw [e4.un rfl] at hD; cases hD
  | dt ks xs => rw [e4.un rfl] at hD; cases hD
  | dead => cases h2
/-- the pinned object goes over to the frozen ones -/
theorem Ok.unpin (k : Ok c W m H) (hD : W.L D = some u) (hl : ∃ xs, u = .lst xs) : Ok c { G := upd W.G D u, L := rm W.L D, ι := W.ι } m H := by
  have hG := k.gl D u hD
  refine ⟨fun a v h => ?_, fun a v h => k.l a v (rm_some h).2, fun a v h => ?_, fun f i o h1 h2 => ?_, k.inj, k.rng, k.lt, fun a v h => k.ll a v (rm_some h).2⟩
  · have h : upd W.G D u a = some v := h
    by_cases e : a = D
    · subst e; rw [upd_same] at h; cases h; exact k.l _ _ hD
    · rw [upd_ne e] at h; exact k.g a v h
  · obtain ⟨e, h⟩ := rm_some h
    show upd W.G D u a = none
    rw [upd_ne e]
    exact k.gl a v h
  · obtain ⟨a, e1, e2, e3, e4⟩ := k.i f i o h1 h2
    have na := k.ne_pin hD hl h1 h2 e1
    refine ⟨a, e1, ?_, by show upd W.G D u a = none; rw [upd_ne na]; exact e3, e4.eq (by show rm W.L D a = W.L a; rw [rm_ne na])⟩
    have e2' : MoR c ⟨W.G, rm W.L D, W.ι⟩ H a o := e2.L
    have l2 : le ⟨W.G, rm W.L D, W.ι⟩ { G := upd W.G D u, L := rm W.L D, ι := W.ι } := ⟨fun b v h => by show upd W.G D u b = _; rw [upd_ne (ne_of_none h hG)]; exact h, fun _ _ h => h, fun _ _ _ h => h⟩
    exact e2'.mono l2 fun _ h => h
/-- the pinned object is changed -/
theorem Ok.repin {ys : List V} (k : Ok c W m H) (hD : W.L D = some u) (hl : ∃ xs, u = .lst xs) : Ok c { W with L := upd W.L D (.lst ys) } m (upd H D (.lst ys)) := by
  generalize hu : HO.lst ys = u'
  have hG := k.gl D u hD
  refine ⟨fun a v h => ?_, fun a v h => ?_, fun a v h => ?_, fun f i o h1 h2 => ?_, k.inj, k.rng, k.lt, fun a v h => ?_⟩
  · rw [upd_ne (ne_of_none h hG)]; exact k.g a v h
  · have h : upd W.L D u' a = some v := h
    by_cases e : a = D
    · subst e; rw [upd_same] at h ⊢; exact h
    · rw [upd_ne e] at h ⊢; exact k.l a v h
  · have h : upd W.L D u' a = some v := h
    by_cases e : a = D
    · rw [e]; exact hG
    · rw [upd_ne e] at h; exact k.gl a v h
  · obtain ⟨a, e1, e2, e3, e4⟩ := k.i f i o h1 h2
    have na := k.ne_pin hD hl h1 h2 e1
    refine ⟨a, e1, ?_, e3, e4.eq (by show upd W.L D u' a = W.L a; rw [upd_ne na])⟩
    have e2' : MoR c { W with L := upd W.L D u' } H a o := e2.L
    exact e2'.mono (le.refl _) fun v h => by rw [upd_ne na]; exact h
  · have h : upd W.L D u' a = some v := h
    by_cases e : a = D
    · subst e; rw [upd_same] at h; cases h; exact .inl ⟨_, hu.symm⟩
    · rw [upd_ne e] at h; exact k.ll a v h
/-- the pinned object is looked away from -/
theorem Ok.drop (k : Ok c W m H) (hD : W.L D = some u) (hl : ∃ xs, u = .lst xs) : Ok c { W with L := rm W.L D } m (rm H D) := by
  have hG := k.gl D u hD
  refine ⟨fun a v h => ?_, fun a v h => ?_, fun a v h => k.gl a v (rm_some h).2, fun f i o h1 h2 => ?_, k.inj, k.rng, k.lt, fun a v h => k.ll a v (rm_some h).2⟩
  · rw [rm_ne (ne_of_none h hG)]; exact k.g a v h
  · obtain ⟨e, h⟩ := rm_some h
    rw [rm_ne e]; exact k.l a v h
  · obtain ⟨a, e1, e2, e3, e4⟩ := k.i f i o h1 h2
    have na := k.ne_pin hD hl h1 h2 e1
    refine ⟨a, e1, ?_, e3, e4.eq (by show rm W.L D a = W.L a; rw [rm_ne na])⟩
    have e2' : MoR c { W with L := rm W.L D } H a o := e2.L
    exact e2'.mono (le.refl _) fun v h => by rw [rm_ne na]; exact h
end
/-- what is made of the list at the end -/
structure FinS (fin : List D → Mem → Rs D) : Prop where
  line : ∀ ys m, lineOk ys.length = false → fin ys m = .stuck
  fin : ∀ {c : Ct} {E : XK} {W1 W : Wd} {m : Mem} {H : Hp} {D : Addr} {ys : List LN.D} {xs : List V} {Q : VK}, Ok c W m H → W.L D = some (.lst xs) → W1.L D = none → le W1 W → Rps c W ys xs → Pst c E (Rp c) (fin ys m) W1 Q → Q (.ref D) H
theorem le.rm {W1 W : Wd} {D : Addr} (l : le W1 W) (h : W1.L D = none) : le W1 { W with L := rm W.L D } :=
  ⟨l.g, fun a o q => by show LN.rm W.L D a = _; rw [rm_ne (ne_of_none q h)]; exact l.l a o q, l.i⟩
theorem fin_F : FinS finF where
  line := fun ys m h => by unfold finF; rw [h]; rfl
  fin := fun {c E W1 W m H D ys xs Q} o hD h0 l r p => by
    unfold finF at p
    split at p
    · have o' := o.unpin hD ⟨_, rfl⟩
      have hG := o.gl D _ hD
      have l2 : le { W with L := rm W.L D } { G := upd W.G D (.lst xs), L := rm W.L D, ι := W.ι } := ⟨fun b v h => by show upd W.G D _ b = _; rw [upd_ne (ne_of_none h hG)]; exact h, fun _ _ h => h, fun _ _ _ h => h⟩
      refine p _ H (.ref D) ((l.rm h0).trans l2) o' ?_
      simp only [Rp]
      exact ⟨D, xs, rfl, upd_same, ((Rps_L ys).mp r : Rps c { W with L := rm W.L D } ys xs).mono l2 ys⟩
    · exact p.elim
theorem fin_M : FinS finM where
  line := fun ys m h => by unfold finM; rw [h]; rfl
  fin := fun {c E W1 W m H D ys xs Q} o hD h0 l r p => by
    unfold finM at p
    split at p
    · unfold newObj at p
      split at p
      · rename_i h
        have o' := o.drop hD ⟨_, rfl⟩
        have r' : Rps c { W with L := rm W.L D } ys xs := (Rps_L ys).mp r
        obtain ⟨W', l2, o2, r2⟩ := o'.alloc (o := .lst ys) (p := D) (u := .lst xs) (fun z => h.1 (by rw [z]; rfl)) rm_same h.2 ⟨xs, upd_same, r'⟩
        have eH : upd (rm H D) D (.lst xs) = H := by
          funext b
          by_cases e : b = D
          · subst e; rw [upd_same, o.l _ _ hD]
          · rw [upd_ne e, rm_ne e]
        rw [eH] at o2
        exact p W' H (.ref D) ((l.rm h0).trans l2) o2 r2
      · exact p.elim
    · exact p.elim
theorem lcD_len {g : Tg} {t : EvG Bool} {f : Ev} : True := trivial
section
variable {X : Cx} {c : Ct} {E : XK} {pos : Pos} {is : List Nat} {g : Tg} {fi : EvG Wk} {t : EvG Bool} {f : Ev} {fin : List D → Mem → Rs D}
/-- the rest cannot shrink what is made -/
theorem Pst.line {R : Rs (List D)} {ys : List D} {W : Wd} {Q : VK} (F : FinS fin) (h : Pst c E (Rp c) (R.bind fun zs m => fin (ys ++ zs) m) W Q) (hR : ∀ e m, R ≠ .err e m) : lineOk ys.length = true := by
  cases R with
  | stuck => exact h.elim
  | err e m => exact absurd rfl (hR e m)
  | ok zs m =>
    have h : Pst c E (Rp c) (fin (ys ++ zs) m) W Q := h
    cases q : lineOk (ys ++ zs).length with
    | false => rw [F.line _ _ q] at h; exact h.elim
    | true =>
      unfold lineOk at q ⊢
      have := of_decide_eq_true q
      simp only [List.length_append] at this
      exact decide_eq_true (by omega)
theorem nox_noerr {α : Type} {r : Rs α} {e : Exn} {m : Mem} : r.nox ≠ .err e m := by
  cases r <;> intro h <;> cases h
theorem lcD_noerr {ck : Mem → Prop} : ∀ (ds : List D) (ρ : Lc) (m : Mem) (e : Exn) (m' : Mem), lcD ck g t f ds ρ m ≠ .err e m'
  | [], _, m, _, _, h => by
    rw [lcD] at h
    split at h <;> cases h
  | d :: ds, ρ, m, e, m', h => by
    rw [lcD] at h
    split at h
    case isFalse => cases h
    cases h1 : (g d ρ m).nox with
    | stuck => rw [h1] at h; cases h
    | err e m => exact nox_noerr h1
    | ok ρ1 m1 =>
      rw [h1] at h
      have h : ((t ρ1 m1).nox.bind _) = _ := h
      cases h2 : (t ρ1 m1).nox with
      | stuck => rw [h2] at h; cases h
      | err e m => exact nox_noerr h2
      | ok k m2 =>
        rw [h2] at h
        have h : (if k = true then _ else _) = _ := h
        cases k with
        | false => rw [if_neg Bool.false_ne_true] at h; exact lcD_noerr ds ρ m2 e m' h
        | true =>
          rw [if_pos rfl] at h
          cases h3 : (f ρ1 m2).nox with
          | stuck => rw [h3] at h; cases h
          | err e m => exact nox_noerr h3
          | ok y m3 =>
            rw [h3] at h
            have h : ((lcD ck g t f ds ρ m3).bind _) = _ := h
            cases h4 : lcD ck g t f ds ρ m3 with
            | stuck => rw [h4] at h; cases h
            | err e m => exact lcD_noerr ds ρ m3 e m h4
            | ok ys m4 => rw [h4] at h; cases h
theorem tLc_of (F : FinS fin) {vs : List Nat} (hs : ∀ i ∈ is, i ∈ vs) : ∀ (σ : L2.St) (H : Hp) (Q : VK), tD c E (dLc fin fi vs g t f) σ H Q → tLc (tI c E fi) (tTg c E0 is g) (tT c E0 t) (tD c E0 f) vs σ H Q := fun σ H Q ⟨W, ρ, m, o, s, p⟩ => by
  refine ⟨W, ρ, m, o, s, Pst.imp (Pst.bind (RA := Yld c) p) fun J H1 ⟨W1, wk, m1, l1, o1, y1, p1⟩ => ?_⟩
  obtain ⟨ds, ck⟩ := wk
  dsimp only at p1
  intro D hD
  have L0 : W1.L D = none := by
    cases e : W1.L D with
    | none => rfl
    | some u => rw [o1.l _ _ e] at hD; cases hD
  have s1 : Sl c W1 (wipeD ρ vs) (wipe σ vs) := (s.mono l1).wipe vs
  have lp : le W1 { W1 with L := upd W1.L D (.lst []) } := ⟨fun _ _ h => h, fun a v h => by show upd W1.L D _ a = _; rw [upd_ne (ne_of_none h L0)]; exact h, fun _ _ _ h => h⟩
  refine ⟨fun i n H => n = ds.length - i ∧ i ≤ ds.length ∧ ∃ W2 m2 ys xs, le W1 W2 ∧ W2.L D = some (.lst xs) ∧ Ok c W2 m2 H ∧ Rps c W2 ys xs ∧
      Pst c E (Rp c) ((lcD ck g t f (ds.drop i) (wipeD ρ vs) m2).bind fun zs m => fin (ys ++ zs) m) W1 Q,
    ⟨_, rfl, Nat.zero_le _, { W1 with L := upd W1.L D (.lst []) }, m1, [], [], lp, upd_same, o1.pin hD, Rps.nil, by simpa using p1⟩, ?_⟩
  rintro i n H2 ⟨rfl, hi, W2, m2, ys, xs, l2, hL, o2, r2, p2⟩
  have hck : ck m2 := by
    refine Classical.byContradiction fun z => ?_
    cases e : ds.drop i with
    | nil => rw [e] at p2; rw [lcD, if_neg z] at p2; exact p2
    | cons d r => rw [e] at p2; rw [lcD, if_neg z] at p2; exact p2
  obtain ⟨hgo, hstop⟩ := y1 W2 m2 H2 i l2 o2 hck
  by_cases hlt : i < ds.length
  · have hd : ds[i]? = some ds[i] := List.getElem?_eq_getElem hlt
    obtain ⟨go, hy⟩ := hgo _ hd
    refine .inr ⟨go, fun H' => i + 1 ≤ ds.length ∧ ∃ W2 m2 ys xs, le W1 W2 ∧ W2.L D = some (.lst xs) ∧ Ok c W2 m2 H' ∧ Rps c W2 ys xs ∧
      Pst c E (Rp c) ((lcD ck g t f (ds.drop (i + 1)) (wipeD ρ vs) m2).bind fun zs m => fin (ys ++ zs) m) W1 Q, fun H' ⟨h1, h2⟩ => ⟨ds.length - (i + 1), by omega, rfl, h1, h2⟩, fun x H3 hx => ?_⟩
    obtain ⟨W3, l3, o3, r3⟩ := hy x H3 hx
    have hL3 := l3.l _ _ hL
    rw [List.drop_eq_getElem_cons hlt, lcD, if_pos hck] at p2
    have L3 := l2.trans l3
    have p2 : Pst c E (Rp c) (((g ds[i] (wipeD ρ vs) m2).nox.bind _).bind _) W1 Q := p2
    rw [Rs.bind_assoc] at p2
    refine ⟨W3, wipeD ρ vs, m2, ds[i], o3, s1.mono L3, r3, Pst.imp (Pst.nox (Pst.bind2 p2 L3)) fun σ4 H4 ⟨W4, ρ4, m4, l4, o4, ⟨s4, d4⟩, p4⟩ => ?_⟩
    have L4 := L3.trans l4
    refine ⟨d4.wipe hs rfl, ?_⟩
    have p4 : Pst c E (Rp c) (((t ρ4 m4).nox.bind _).bind _) W1 Q := p4
    rw [Rs.bind_assoc] at p4
    refine ⟨W4, ρ4, m4, o4, s4, Pst.imp (Pst.nox (Pst.bind2 p4 L4)) fun k H5 ⟨W5, d5, m5, l5, o5, r5, p5⟩ => ?_⟩
    have e5 : d5 = k := r5
    subst e5
    have L5 := L4.trans l5
    cases d5 with
    | false =>
      rw [if_neg Bool.false_ne_true] at p5 ⊢
      exact ⟨hlt, W5, m5, ys, xs, L5, l5.l _ _ (l4.l _ _ hL3), o5, (((r2.mono l3).mono l4).mono l5), p5⟩
    | true =>
      rw [if_pos rfl] at p5 ⊢
      rw [Rs.bind_assoc] at p5
      refine ⟨W5, ρ4, m5, o5, s4.mono l5, Pst.imp (Pst.nox (Pst.bind2 p5 L5)) fun y H6 ⟨W6, d6, m6, l6, o6, r6, p6⟩ => ?_⟩
      have hL6 := l6.l _ _ (l5.l _ _ (l4.l _ _ hL3))
      have L6 := L5.trans l6
      rw [Rs.bind_assoc] at p6
      have p6 : Pst c E (Rp c) ((lcD ck g t f (ds.drop (i + 1)) (wipeD ρ vs) m6).bind fun zs m => fin ((ys ++ [d6]) ++ zs) m) W1 Q := by simpa using p6
      have hl := lineOk_le (Pst.line F p6 fun e m => lcD_noerr _ _ _ _ _)
      rw [List.length_append, r2.length] at hl
      refine ⟨xs, o6.l _ _ hL6, hl, hlt, { W6 with L := upd W6.L D (.lst (xs ++ [y])) }, m6, ys ++ [d6], xs ++ [y], ?_, upd_same, o6.repin hL6 ⟨_, rfl⟩, ?_, p6⟩
      · exact ⟨L6.g, fun a v h => by show upd W6.L D _ a = _; rw [upd_ne (ne_of_none h L0)]; exact L6.l a v h, L6.i⟩
      · exact (Rps_L _).mp (Rps.append (((((r2.mono l3).mono l4).mono l5).mono l6 : Rps c W6 ys xs)) (Rps.one r6) : Rps c ⟨W6.G, W6.L, W6.ι⟩ (ys ++ [d6]) (xs ++ [y]))
  · have e : i = ds.length := by omega
    refine .inl ⟨hstop (by show ds.length = i; omega), ?_⟩
    rw [List.drop_eq_nil_of_le (by omega), lcD, if_pos hck] at p2
    have p2 : Pst c E (Rp c) (fin (ys ++ []) m2) W1 Q := p2
    rw [List.append_nil] at p2
    exact F.fin o2 hL L0 l2 r2 p2
end
end LN
namespace LN
open PySem L2 PySem.Spec PyProof.Rows

/-! ### comprehensions as rules -/
section
variable {X : Cx} {c : Ct} {E : XK} {pos : Pos} {is : List Nat} {g : Tg} {fi : EvG Wk} {t : EvG Bool} {f : Ev} {fin : List D → Mem → Rs D}
theorem ptsd_nil : PTs X [] (tT c E tAll) := ⟨fun pins s σ H Q I ⟨W, ρ, m, o, sl, p⟩ => pts_nil.run pins s σ H Q I (p W H true (le.refl _) o rfl)⟩
theorem ptsd_one {e : Expr} (h : PT X e (tT c E t)) : PTs X [e] (tT c E t) := pts_one h
theorem pd_lc {elt tg iter : Expr} {ifs : List Expr} {scope : Scope} {own : List (Str × Nat)} (F : FinS fin) (hc : X.calm = true) (hN : X.N.Nodup) (hi : PI X tg iter (tI c E fi)) (ok : blkC X.N X.env.scope scope own = true)
    (hg : ∀ (s : Shared) (H : Hp) (C : Addr) (cl : List (Str × Addr)) (fp : List Addr), PG (X.blk s H scope (compEnvC scope cl C X.env) fp) tg (tTg c E0 is g)) (ht : ∀ (s : Shared) (H : Hp) (C : Addr) (cl : List (Str × Addr)) (fp : List Addr), PTs (X.blk s H scope (compEnvC scope cl C X.env) fp) ifs (tT c E0 t))
    (he : ∀ (s : Shared) (H : Hp) (C : Addr) (cl : List (Str × Addr)) (fp : List Addr), PE (X.blk s H scope (compEnvC scope cl C X.env) fp) elt (tD c E0 f)) (his : ∀ i ∈ is, i ∈ own.map (·.2) := by decide) (hs : ∀ x, foldedSetIterable iter X.env x = pure x := by intro _; rfl) :
    PE X (.ListComp elt [⟨tg, iter, ifs, 0⟩] scope pos) (tD c E (dLc fin fi (own.map (·.2)) g t f)) :=
  PE.weak (pe_lc hc hN hi (blkOk_by ok) hg ht he hs) (tLc_of F his)
theorem psd_setLc {i : Nat} {y : Str} {py spos : Pos} {elt tg iter : Expr} {ifs : List Expr} {scope : Scope} {own : List (Str × Nat)} (F : FinS fin) (hc : X.calm = true) (hN : X.N.Nodup) (hi : PI X tg iter (tI c E fi)) (ok : blkC X.N X.env.scope scope own = true)
    (hg : ∀ (s : Shared) (H : Hp) (C : Addr) (cl : List (Str × Addr)) (fp : List Addr), PG (X.blk s H scope (compEnvC scope cl C X.env) fp) tg (tTg c E0 is g)) (ht : ∀ (s : Shared) (H : Hp) (C : Addr) (cl : List (Str × Addr)) (fp : List Addr), PTs (X.blk s H scope (compEnvC scope cl C X.env) fp) ifs (tT c E0 t))
    (he : ∀ (s : Shared) (H : Hp) (C : Addr) (cl : List (Str × Addr)) (fp : List Addr), PE (X.blk s H scope (compEnvC scope cl C X.env) fp) elt (tD c E0 f)) (hsw : swapsWith (.ListComp elt [⟨tg, iter, ifs, 0⟩] scope pos) (some (.Name y py)) spos.line X.env = pure true)
    (hy : X.N[i]? = some y := by rfl) (hyl : X.env.scope.names.lookup y = some .local := by rfl) (his : ∀ i ∈ is, i ∈ own.map (·.2) := by decide) (hs : ∀ x, foldedSetIterable iter X.env x = pure x := by intro _; rfl) :
    PS X (.Assign [.Name y py] (.ListComp elt [⟨tg, iter, ifs, 0⟩] scope pos) spos) (tS c E (sAsg (dLc fin fi (own.map (·.2)) g t f) (gN i))) :=
  PS.weak (ps_setLc hc hN hy hyl hsw hi (blkOk_by ok) hg ht he hs) fun Dn σ H ⟨W, ρ, m, o, s, p⟩ => by
    have q : tD c E (dLc fin fi (own.map (·.2)) g t f) σ H (fun x H1 => gName i x σ H1 Dn.nx) :=
      ⟨W, ρ, m, o, s, Pst.imp (PstS.bind p) fun x H1 ⟨W1, d, m1, l1, o1, r1, p1⟩ => p1 W1 H1 _ (le.refl _) o1 ((s.mono l1).set r1)⟩
    exact tLc_of F his σ H _ q
end

/-! ### what a def gives -/
/-- own objects of the frame n are read -/
def fz : Nat → Nat → Mem → D → D
  | 0, _, _, d => d
  | k + 1, n, m, d => match d with
    | .loc f i => if f = n then (match m.get f i with
      | some (.lst xs) => .lst (xs.map (fz k n m))
      | some (.dk ks xs) => .dk ks (xs.map (fz k n m))
      | some (.dt ks xs) => .dt ks (xs.map (fz k n m))
      | _ => d) else d
    | .tup xs => .tup (xs.map (fz k n m))
    | .lst xs => .lst (xs.map (fz k n m))
    | .dk ks xs => .dk ks (xs.map (fz k n m))
    | .dt ks xs => .dt ks (xs.map (fz k n m))
    | d => d
def fzl (n : Nat) (m : Mem) (d : D) : D := if D.lt n d = true then d else fz 8 n m d
def lv (n : Nat) (R : Rs Fl) : Rs D := match R with
  | .ok (.rt d) m => if D.lt n (fzl n m d) = true then .ok (fzl n m d) (m.take n) else .stuck
  | .ok (.nx _) m => .ok .non (m.take n)
  | .err e m => if D.lts n (e.fs.map (·.2)) = true then .err e (m.take n) else .stuck
  | _ => .stuck
def fnD (np nl : Nat) (b : Bd) : Fn := fun ds m => if ds.length = np then lv m.length (b (ds.map some ++ List.replicate (nl - np) none) (m ++ [[]])) else .stuck
def spD (c : Ct) (fn : Fn) : Sp := fun vs H Q E => ∃ W ds m, Ok c W m H ∧ Rps c W ds vs ∧ Pst c E (Rp c) (fn ds m) W Q
open Classical in
/-- the frozen part with the objects of the frame n -/
noncomputable def gz (W : Wd) (m : Mem) (H : Hp) (n : Nat) : Hp := fun a => match W.G a with
  | some o => some o
  | none => if ∃ i o, m.get n i = some o ∧ (o.alive = true ∧ o.lkd = false) ∧ W.ι n i = some a then H a else none
section
variable {c : Ct} {W : Wd} {m : Mem} {H : Hp} {n : Nat}
theorem gz_old {a : Addr} {o : HO} (h : W.G a = some o) : gz W m H n a = some o := by unfold gz; rw [h]
theorem gz_new {a : Addr} {i : Nat} {o : MO} (h : W.G a = none) (h1 : m.get n i = some o) (h2 : o.alive = true ∧ o.lkd = false) (h3 : W.ι n i = some a) : gz W m H n a = H a := by
  unfold gz; rw [h]; exact if_pos ⟨i, o, h1, h2, h3⟩
theorem gz_cases {a : Addr} {o : HO} (h : gz W m H n a = some o) : W.G a = some o ∨ H a = some o := by
  unfold gz at h
  cases e : W.G a with
  | some u => rw [e] at h; exact .inl h
  | none =>
    rw [e] at h
    dsimp only at h
    split at h
    · exact .inr h
    · cases h
theorem gz_none {a : Addr} (h : W.G a = none) (h2 : ¬ ∃ i o, m.get n i = some o ∧ (o.alive = true ∧ o.lkd = false) ∧ W.ι n i = some a) : gz W m H n a = none := by
  unfold gz; rw [h]; exact if_neg h2
theorem le_gz : le W { W with G := gz W m H n } := ⟨fun _ _ h => gz_old h, fun _ _ h => h, fun _ _ _ h => h⟩
theorem Rps.map {W' : Wd} {h : D → D} (k : ∀ d v, Rp c W d v → Rp c W' (h d) v) : ∀ {xs : List D} {vs : List V}, Rps c W xs vs → Rps c W' (xs.map h) vs := fun {xs vs} r =>
  Rps.of (by simp [r.length]) fun i d v h1 h2 => by
    rw [List.getElem?_map] at h1
    cases e : xs[i]? with
    | none => rw [e] at h1; cases h1
    | some x =>
      rw [e] at h1; cases h1
      exact k _ _ (r.at e h2)
theorem Rp.fz (o : Ok c W m H) : ∀ (k : Nat) (d : D) (v : V), Rp c W d v → Rp c { W with G := gz W m H n } (fz k n m d) v
  | 0, d, v, r => r.mono le_gz d
  | k + 1, d, v, r => by
    have ih := fun d v => Rp.fz o k d v
    unfold LN.fz
    cases d with
    | loc f i =>
      dsimp only
      by_cases hf : f = n
      · rw [if_pos hf]
        subst hf
        simp only [Rp] at r
        obtain ⟨a, rfl, hi⟩ := r
        split
        · rename_i xs hg
          obtain ⟨a', e1, ⟨vs, q, r'⟩, e3, e4⟩ := o.i _ _ _ hg rfl
          rw [hi] at e1; cases e1
          simp only [Rp]
          exact ⟨a, vs, rfl, (gz_new e3 hg ⟨rfl, rfl⟩ hi).trans q, Rps.map ih r'⟩
        · rename_i ks xs hg
          obtain ⟨a', e1, ⟨vs, q, l, r'⟩, e3, e4⟩ := o.i _ _ _ hg rfl
          rw [hi] at e1; cases e1
          simp only [Rp]
          exact ⟨a, vs, rfl, (gz_new e3 hg ⟨rfl, rfl⟩ hi).trans q, l, Rps.map ih r'⟩
        · rename_i ks xs hg
          obtain ⟨a', e1, ⟨vs, q, l, r'⟩, e3, e4⟩ := o.i _ _ _ hg rfl
          rw [hi] at e1; cases e1
          simp only [Rp]
          exact ⟨a, vs, rfl, (gz_new e3 hg ⟨rfl, rfl⟩ hi).trans q, l, Rps.map ih r'⟩
        · simp only [Rp]; exact ⟨a, rfl, hi⟩
      · rw [if_neg hf]; exact r.mono le_gz _
    | tup xs =>
      simp only [Rp] at r ⊢
      obtain ⟨a, vs, e, q, r⟩ := r
      exact ⟨a, vs, e, q.mono fun _ _ h => gz_old h, Rps.map ih r⟩
    | lst xs =>
      simp only [Rp] at r ⊢
      obtain ⟨a, vs, e, q, r⟩ := r
      exact ⟨a, vs, e, gz_old q, Rps.map ih r⟩
    | dk ks xs =>
      simp only [Rp] at r ⊢
      obtain ⟨a, vs, e, q, l, r⟩ := r
      exact ⟨a, vs, e, gz_old q, l, Rps.map ih r⟩
    | dt ks xs =>
      simp only [Rp] at r ⊢
      obtain ⟨a, vs, e, q, l, r⟩ := r
      exact ⟨a, vs, e, gz_old q, l, Rps.map ih r⟩
    | _ => exact r.mono le_gz _
theorem Rp.fzl (o : Ok c W m H) (d : D) {v : V} (r : Rp c W d v) : Rp c { W with G := gz W m H n } (fzl n m d) v := by
  unfold LN.fzl
  split
  · exact r.mono le_gz d
  · exact Rp.fz o _ _ _ r
/-- the frame n goes, its objects are frozen -/
theorem Ok.leaveZ (k : Ok c W m H) (n : Nat) : Ok c (Wd.cut { W with G := gz W m H n } n) (m.take n) H := by
  refine ⟨fun a o h => ?_, k.l, fun a o h => ?_, fun f i o h a => ?_, (k.leave n).inj, (k.leave n).rng, (k.leave n).lt, k.ll⟩
  · rcases gz_cases h with h | h
    · exact k.g _ _ h
    · exact h
  · refine gz_none (k.gl a o h) ?_
    rintro ⟨i, o', h1, h2, h3⟩
    obtain ⟨b, e1, e2, e3, e4⟩ := k.i n i o' h1 h2.1
    rw [h3] at e1; cases e1
    have h : W.L a = some o := h
    have e4 := e4.un h2.2
    rw [h] at e4; cases e4
  · obtain ⟨b, q1, q2, q3, q4⟩ := (k.leave n).i f i o h a
    have hf : f < n := by
      rw [Mem.get_take] at h
      split at h
      · assumption
      · cases h
    have hb : gz W m H n b = none := by
      refine gz_none q3 ?_
      rintro ⟨i', o', h1, h2, h3⟩
      have q1' : W.ι f i = some b := by simpa [Wd.cut, hf] using q1
      rw [Mem.get_take, if_pos hf] at h
      have := (k.inj _ _ _ _ _ _ _ h a h1 h2.1 q1' h3).1
      omega
    have l2 : le (W.cut n) (Wd.cut { W with G := gz W m H n } n) := ⟨fun _ _ h => gz_old h, fun _ _ h => h, fun _ _ _ h => h⟩
    exact ⟨b, q1, q2.mono l2 fun _ h => h, hb, q4⟩
end
theorem Sl.start {c : Ct} {W : Wd} {ds : List D} {vs : List V} {N : List Str} {np nl : Nat} (r : Rps c W ds vs) (h1 : ds.length = np) (h2 : N.length = nl) : Sl c W (ds.map some ++ List.replicate (nl - np) none) (L2.start N vs) := by
  have hl := r.length
  unfold L2.start
  refine ⟨by simp; omega, fun i d h => ?_⟩
  by_cases hi : i < ds.length
  · rw [List.getElem?_append_left (by simpa using hi), List.getElem?_map] at h
    rw [List.getElem?_append_left (by simp; omega), List.getElem?_map]
    cases e : ds[i]? with
    | none => rw [e] at h; cases h
    | some d' =>
      rw [e] at h; cases h
      obtain ⟨v, h3, h4⟩ := r.get e
      exact ⟨v, by rw [h3]; rfl, h4⟩
  · rw [List.getElem?_append_right (by simp; omega), List.getElem?_replicate] at h
    split at h <;> cases h
section
variable {c : Ct} {P : Program} {w : World} {mg : Str → Option Value} {base : Heap}
theorem spD_len {np nl : Nat} {b : Bd} {n : Nat} (hn : n = np) : ∀ vs H Q E, spD c (fnD np nl b) vs H Q E → vs.length = n := fun vs H Q E ⟨W, ds, m, o, r, p⟩ => by
  unfold fnD at p
  split at p
  · rw [← r.length, hn]; assumption
  · exact p.elim
/-- a body at its entry -/
theorem body_at {np nl : Nat} {b : Bd} {N : List Str} (hnl : N.length = nl) {vs : List V} {H : Hp} {Q : VK} {E : XK} (h : spD c (fnD np nl b) vs H Q E) : tS c E b { nx := fun _ H' => Q .non H', rt := Q } (L2.start N vs) H := by
  obtain ⟨W, ds, m, o, r, p⟩ := h
  unfold fnD at p
  split at p
  · rename_i hd
    refine ⟨W, _, m ++ [[]], o.enter, Sl.start r hd hnl, ?_⟩
    have lcut : ∀ {W' : Wd}, le W W' → le W (W'.cut m.length) := fun {W'} l => ⟨l.g, l.l, fun f i a h => by
      have hf : f < m.length := by
        obtain ⟨u, hu⟩ := o.rng f i a h
        unfold Mem.get at hu
        cases e : m[f]? with
        | none => rw [e] at hu; cases hu
        | some fr => exact (List.getElem?_eq_some_iff.mp e).1
      simp only [Wd.cut, hf, if_true]
      exact l.i f i a h⟩
    cases hb : b (ds.map some ++ List.replicate (nl - np) none) (m ++ [[]]) with
    | stuck => rw [hb] at p; exact p.elim
    | err e m' =>
      rw [hb] at p
      unfold lv at p
      dsimp only at p
      split at p
      · rename_i hl
        exact fun W' H' cl dx l o' ⟨x1, dd, xs, x2, x3, x4⟩ => p (W'.cut m.length) H' cl dx (lcut l) (o'.leave _) ⟨x1, dd, xs, x2, x3, Rps.cut _ hl x4⟩
      · exact p.elim
    | ok fl m' =>
      rw [hb] at p
      cases fl with
      | nx ρ =>
        exact fun W' H' σ l o' s' => p (W'.cut m.length) H' .non (lcut l) (o'.leave _) (by simp [Rp])
      | bk ρ => exact p.elim
      | ct ρ => exact p.elim
      | rt d =>
        unfold lv at p
        dsimp only at p
        split at p
        · rename_i hl
          exact fun W' H' v l o' r' => p (Wd.cut { W' with G := gz W' m' H' m.length } m.length) H' v (lcut (l.trans le_gz)) (o'.leaveZ _) (Rp.cut _ hl (Rp.fzl o' d r'))
        · exact p.elim
  · exact p.elim
/-- THE RULE for a def -/
theorem fnOk {x qual : Str} {st : Stmt} {f : Addr} {fd : FuncData} {N ps : List Str} {k np nl : Nat} {b : Bd} (F : Fun c.K x qual st f fd) (S : FnScope N ps (defScope st)) (hnp : ps.length = np) (hnl : N.length = nl)
    (hbody : ∀ (cdv : Value) (A : Around) (outer : List Env) (s : Shared) (H : Hp) (E : XK), Room k (A.deeper (envOfC qual (defScope st) s.heap.objs.size f cdv)) →
      PSs (cxOf (L2.CX P w) P w c.K mg base N qual (defScope st) f cdv A outer s H E) (defBody st) (tS c E b)) : FnOk P w c.K mg base (L2.CX P w) (k + 1) f fd ps (spD c (fnD np nl b)) :=
  F.okX S (spD_len hnp) fun cdv A outer s H vs Q E hr h => ⟨_, hbody cdv A outer s H E hr, body_at hnl h⟩
/-- a def that is never called -/
theorem fnOk0 {f : Addr} {fd : FuncData} {ps : List Str} {k : Nat} : FnOk P w c.K mg base (L2.CX P w) k f fd ps (spD c fun _ _ => .stuck) :=
  ⟨fun vs H Q E ⟨_, _, _, _, _, p⟩ => p.elim, fun _ _ _ _ _ _ _ _ _ _ _ _ _ ⟨_, _, _, _, _, p⟩ => p.elim⟩
end

/-! ### calls -/
def dCall (fn : Fn) (dd : List D) (fs : EvG (List D)) : Ev := fun ρ m => (fs ρ m).bind fun ds m1 => fn (ds ++ dd) m1
def dCallK (fn : Fn) (h : List D → List D → List D) (fs ks : EvG (List D)) : Ev := fun ρ m => (fs ρ m).bind fun ds m1 => (ks ρ m1).bind fun ws m2 => fn (h ds ws) m2
section
variable {X : Cx} {c : Ct} {E : XK} {pos p : Pos} {CX : CXT} {k : Nat} {f : Addr} {fd : FuncData} {ps : List Str} {fn : Fn} {dvs : List V} {dd : List D} {ds : List Value} {x : Str} {e : Expr} {es : List Expr} {fs : EvG (List D)}
theorem pd_call (F : FnOk X.prog X.w X.K X.mg X.base CX k f fd ps (spD c fn)) (hr : Room k X.A) (hm : X.mg x = some (.ref f)) (hk : PySem.W.keepIn X.K (.ref f) = true) (hb : Binds X.K fd ps ds) (hd : Vals dvs ds) (hdd : ∀ W, Rps c W dd dvs) (hx : Passes CX X E)
    (ha : PA X (e :: es) (tDs c E fs)) (hg : Gl X x := by rfl) (hdb : (x == ("__debug__" : Str)) = false := by decide) (he : starEach (e :: es) X.env = (false, eval e X.env) :: starEach es X.env := by rfl) (hpl : (backTo pos (starEach es X.env)).any (·.1) = false := by rfl) :
    PE X (.Call (.Name x p) (e :: es) [] pos) (tD c E (dCall fn dd fs)) :=
  PE.weak (pe_call F hr hg hm hk hb hd hx ha hdb he hpl) fun σ H Q ⟨W, ρ, m, o, s, q⟩ => by
    refine ⟨W, ρ, m, o, s, Pst.imp (Pst.bind q) fun xs H1 ⟨W1, ds, m1, l1, o1, r1, p1⟩ => ?_⟩
    exact ⟨W1, ds ++ dd, m1, o1, r1.append (hdd W1), p1⟩
theorem pd_call0 (F : FnOk X.prog X.w X.K X.mg X.base CX k f fd ps (spD c fn)) (hr : Room k X.A) (hm : X.mg x = some (.ref f)) (hk : PySem.W.keepIn X.K (.ref f) = true) (hb : Binds X.K fd ps ds) (hd : Vals dvs ds) (hdd : ∀ W, Rps c W dd dvs) (hx : Passes CX X E)
    (hg : Gl X x := by rfl) (hdb : (x == ("__debug__" : Str)) = false := by decide) : PE X (.Call (.Name x p) [] [] pos) (tD c E (dCall fn dd dNil)) :=
  PE.weak (pe_call0 F hr hg hm hk hb hd hx hdb) fun σ H Q ⟨W, ρ, m, o, s, q⟩ => by
    exact ⟨W, [] ++ dd, m, o, Rps.nil.append (hdd W), q⟩
end
end LN
namespace LN
open PySem L2 PySem.Spec PyProof.Rows

/-! ### data as Python data -/
mutual
def py : D → Option PyData
  | .non => some .none
  | .bl b => some (.bool b)
  | .int i => some (.int i)
  | .str x => some (.str x)
  | .tup xs => match pys xs with
    | some ys => some (.tuple ys)
    | none => none
  | .lst xs => match pys xs with
    | some ys => some (.list ys)
    | none => none
  | _ => none
def pys : List D → Option (List PyData)
  | [] => some []
  | x :: xs => match py x, pys xs with
    | some y, some ys => some (y :: ys)
    | _, _ => none
end
def toPy (m : Mem) (d : D) : Option PyData := match d with
  | .loc f i => match m.get f i with
    | some (.lst xs) => match pys xs with
      | some ys => some (.list ys)
      | none => none
    | _ => none
  | d => py d
mutual
theorem py_dp {c : Ct} {W : Wd} {m : Mem} {H : Hp} (o : Ok c W m H) : ∀ (d : D) {e : PyData} {v : V}, py d = some e → Rp c W d v → Dp c.K H v e
  | .non, _, _, h, r => by simp only [py, Option.some.injEq, Rp] at h r; subst h; subst r; exact .non
  | .bl _, _, _, h, r => by simp only [py, Option.some.injEq, Rp] at h r; subst h; subst r; exact .bl _
  | .int _, _, _, h, r => by simp only [py, Option.some.injEq, Rp] at h r; subst h; subst r; exact .int _
  | .str _, _, _, h, r => by simp only [py, Option.some.injEq, Rp] at h r; subst h; subst r; exact .str _
  | .ty _, _, _, h, _ => by simp [py] at h
  | .cls _, _, _, h, _ => by simp [py] at h
  | .dk _ _, _, _, h, _ => by simp [py] at h
  | .dt _ _, _, _, h, _ => by simp [py] at h
  | .loc _ _, _, _, h, _ => by simp [py] at h
  | .scr _, _, _, h, _ => by simp [py] at h
  | .tup xs, e, v, h, r => by
    simp only [py] at h
    split at h
    · rename_i ys hy
      cases h
      simp only [Rp] at r
      obtain ⟨a, vs, rfl, q, r⟩ := r
      exact .tup (q.mono o.g).sq (pys_dp o xs hy r)
    · cases h
  | .lst xs, e, v, h, r => by
    simp only [py] at h
    split at h
    · rename_i ys hy
      cases h
      simp only [Rp] at r
      obtain ⟨a, vs, rfl, q, r⟩ := r
      exact .lst (SqL.of (o.g _ _ q)) (pys_dp o xs hy r)
    · cases h
theorem pys_dp {c : Ct} {W : Wd} {m : Mem} {H : Hp} (o : Ok c W m H) : ∀ (xs : List D) {es : List PyData} {vs : List V}, pys xs = some es → Rps c W xs vs → DpAll c.K H vs es
  | [], _, _, h, r => by simp only [pys, Option.some.injEq, Rps] at h r; subst h; subst r; exact .nil
  | x :: xs, es, vs, h, r => by
    simp only [pys] at h
    split at h
    · rename_i y ys h1 h2
      cases h
      simp only [Rps] at r
      obtain ⟨v, r', rfl, r1, r2⟩ := r
      exact .cons (py_dp o x h1 r1) (pys_dp o xs h2 r2)
    · cases h
end
theorem toPy_dp {c : Ct} {W : Wd} {m : Mem} {H : Hp} (o : Ok c W m H) {d : D} {e : PyData} {v : V} (h : toPy m d = some e) (r : Rp c W d v) : Dp c.K H v e := by
  unfold toPy at h
  split at h
  · rename_i f i
    split at h
    · rename_i xs hg
      split at h
      · rename_i ys hy
        cases h
        simp only [Rp] at r
        obtain ⟨a, rfl, q⟩ := r
        obtain ⟨b, e1, ⟨vs, e2, e3⟩, _⟩ := o.i _ _ _ hg rfl
        rw [q] at e1; cases e1
        exact .lst (SqL.of e2) (pys_dp o xs hy e3)
      · cases h
    · cases h
  · exact py_dp o d h r

/-! ### views -/
/-- a list's items -/
def vwL (m : Mem) : D → Option (List D)
  | .lst xs => some xs
  | .loc f i => match m.get f i with
    | some (.lst xs) => some xs
    | _ => none
  | _ => none
theorem vwL_ok {c : Ct} {W : Wd} {m : Mem} {H : Hp} (o : Ok c W m H) {d : D} {v : V} {xs : List D} (h : vwL m d = some xs) (r : Rp c W d v) : ∃ a vs, v = .ref a ∧ H a = some (.lst vs) ∧ Rps c W xs vs := by
  cases d with
  | lst ys =>
    simp only [vwL, Option.some.injEq] at h; subst h
    simp only [Rp] at r
    obtain ⟨a, vs, e, q, r⟩ := r
    exact ⟨a, vs, e, o.g _ _ q, r⟩
  | loc f i =>
    simp only [vwL] at h
    split at h
    · rename_i ys hg
      cases h
      simp only [Rp] at r
      obtain ⟨a, e, q⟩ := r
      obtain ⟨b, e1, ⟨vs, e2, e3⟩, _⟩ := o.i _ _ _ hg rfl
      rw [q] at e1; cases e1
      exact ⟨a, vs, e, e2, e3⟩
    · cases h
  | _ => cases h
/-- the items of what is walked: a list, a tuple, the script, a text's signs -/
def vwS (m : Mem) : D → Option (List D)
  | .tup xs => some xs
  | .scr xs => some (xs.map .int)
  | d => vwL m d
/-- a list or tuple in the heap -/
theorem vwS_ok {c : Ct} {W : Wd} {m : Mem} {H : Hp} (o : Ok c W m H) {d : D} {v : V} {xs : List D} (h : vwS m d = some xs) (r : Rp c W d v) : ∃ a vs, v = .ref a ∧ (SqL c.K H a vs ∨ SqT c.K H a vs) ∧ Rps c W xs vs := by
  cases d with
  | tup ys =>
    simp only [vwS, Option.some.injEq] at h; subst h
    simp only [Rp] at r
    obtain ⟨a, vs, e, q, r⟩ := r
    exact ⟨a, vs, e, .inr (q.mono o.g).sq, r⟩
  | scr ys =>
    simp only [vwS, Option.some.injEq] at h; subst h
    simp only [Rp] at r
    obtain ⟨a, e, q⟩ := r
    refine ⟨a, ys.map V.int, e, .inl (SqL.mono o.g q), Rps.of (by simp) fun i d v h1 h2 => ?_⟩
    rw [List.getElem?_map] at h1 h2
    cases e : ys[i]? with
    | none => rw [e] at h1; cases h1
    | some x => rw [e] at h1 h2; cases h1; cases h2; simp [Rp]
  | lst ys => obtain ⟨a, vs, e, q, r⟩ := vwL_ok o (d := .lst ys) h r; exact ⟨a, vs, e, .inl (SqL.of q), r⟩
  | loc f i => obtain ⟨a, vs, e, q, r⟩ := vwL_ok o (d := .loc f i) h r; exact ⟨a, vs, e, .inl (SqL.of q), r⟩
  | _ => cases h

/-! ### operators -/
def mulOk (i j : Int) : Bool := decide (i.natAbs.log2 + j.natAbs.log2 < 1000000)
def divOk (j : Int) : Bool := decide (j ≠ 0 ∧ j.natAbs.log2 < 9000)
def powOk (i j : Int) : Bool := decide (0 ≤ j ∧ (i.natAbs.log2 + 1) * j.toNat ≤ 100000000)
theorem intBits_le (x : Int) : Builtin.Int.intBits x ≤ x.natAbs.log2 + 1 := by
  unfold Builtin.Int.intBits
  split <;> omega
theorem mulOk_ok {i j : Int} (h : mulOk i j = true) : IntMulOk i j := by
  have h : i.natAbs.log2 + j.natAbs.log2 < 1000000 := of_decide_eq_true h
  exact CMulW.ok h

def gAdd (fin : List D → Mem → Rs D) : D → D → Mem → Rs D
  | .int i, .int j, m => .ok (.int (i + j)) m
  | .str x, .str y, m => if lineOk (x.length + y.length) = true then .ok (.str (x ++ y)) m else .stuck
  | .tup xs, .tup ys, m => if lineOk (xs.length + ys.length) = true then .ok (.tup (xs ++ ys)) m else .stuck
  | x, y, m => match vwL m x, vwL m y with
    | some xs, some ys => fin (xs ++ ys) m
    | _, _ => .stuck
def gSub : D → D → Mem → Rs D
  | .int i, .int j, m => .ok (.int (i - j)) m
  | _, _, _ => .stuck
def gMul : D → D → Mem → Rs D
  | .int i, .int j, m => if mulOk i j = true then .ok (.int (i * j)) m else .stuck
  | _, _, _ => .stuck
def gFdiv : D → D → Mem → Rs D
  | .int i, .int j, m => if divOk j = true then .ok (.int (i.fdiv j)) m else .stuck
  | _, _, _ => .stuck
def gMod : D → D → Mem → Rs D
  | .int i, .int j, m => if j ≠ 0 then .ok (.int (i.fmod j)) m else .stuck
  | _, _, _ => .stuck
def gPow : D → D → Mem → Rs D
  | .int i, .int j, m => if powOk i j = true then .ok (.int (i ^ j.toNat)) m else .stuck
  | _, _, _ => .stuck
def gCmp (p : Int → Int → Bool) : D → D → Mem → Rs D
  | .int i, .int j, m => .ok (.bl (p i j)) m
  | _, _, _ => .stuck
def gEq (neg : Bool) (x y : D) (m : Mem) : Rs D := match toPy m x, toPy m y with
  | some d, some e => if SeqAt.shaped d = true ∧ SeqAt.shaped e = true then .ok (.bl (neg ^^ PyData.eqv d e)) m else .stuck
  | _, _ => .stuck
def gIsN (neg : Bool) (x y : D) (m : Mem) : Rs D := match x, y with
  | .non, .non => .ok (.bl (!neg)) m
  | .cls _, _ => .stuck
  | _, .non => .ok (.bl neg) m
  | _, _ => .stuck
def gIn (neg : Bool) (x y : D) (m : Mem) : Rs D := match toPy m x, toPy m y with
  | some d, some (.list ds) => if SeqAt.shaped d = true ∧ SeqAt.shaped (.list ds) = true then .ok (.bl (neg ^^ ds.any fun z => PyData.eqv z d)) m else .stuck
  | _, _ => .stuck
section
variable {X : Cx} {c : Ct} {E : XK} {fin : List D → Mem → Rs D}
def rAddAll (K : PySem.W.Frag) : R2 := fun x y H Q => (∃ i j, x = .int i ∧ y = .int j ∧ Q (.int (i + j)) H) ∨ (∃ i j, x = .str i ∧ y = .str j ∧ i.length + j.length ≤ sizeLine ∧ Q (.str (i ++ j)) H) ∨ rCatA K x y H Q ∨ rCat x y H Q
theorem op_addAll : OpR X (binaryOp .Add) (rAddAll X.K) := OpR.or op_add (OpR.or op_add_str (OpR.or op_catA op_cat))
/-- how a new list at p is made of what was made -/
structure FinN (fin : List D → Mem → Rs D) : Prop where
  len : ∀ ys m, lineOk ys.length = false → fin ys m = .stuck
  mak : ∀ {c : Ct} {E : XK} {ds : List D} {xs : List V} {m : Mem} {W : Wd} {H : Hp} {Q : VK}, Ok c W m H → Rps c W ds xs → Pst c E (Rp c) (fin ds m) W Q → ∀ p, H p = none → Q (.ref p) (upd H p (.lst xs))
theorem finN_F : FinN finF := ⟨fin_F.line, fun o r p => by
  unfold finF at p
  split at p
  · exact Pst.lst o r p
  · exact p.elim⟩
theorem finN_M : FinN finM := ⟨fin_M.line, fun o r p => by
  unfold finM at p
  split at p
  · exact Pst.newLst o r p
  · exact p.elim⟩
theorem FinN.le {fin : List D → Mem → Rs D} (F : FinN fin) {c : Ct} {E : XK} {ds : List D} {m : Mem} {W : Wd} {Q : VK} (p : Pst c E (Rp c) (fin ds m) W Q) : ds.length ≤ sizeLine := by
  cases h : lineOk ds.length with
  | true => exact lineOk_le h
  | false => rw [F.len _ _ h] at p; exact p.elim
theorem os_add (F : FinN fin) (hK : c.K = X.K := by rfl) : OpS c E (rAddAll X.K) (gAdd fin) := fun W m H x y dx dy Q o rx ry p => by
  unfold gAdd at p
  split at p
  · simp only [Rp] at rx ry; subst rx; subst ry
    exact .inl ⟨_, _, rfl, rfl, p W H _ (le.refl _) o (by simp [Rp])⟩
  · simp only [Rp] at rx ry; subst rx; subst ry
    split at p
    · rename_i h
      exact .inr (.inl ⟨_, _, rfl, rfl, lineOk_le h, p W H _ (le.refl _) o (by simp [Rp])⟩)
    · exact p.elim
  · rename_i _ xs ys
    split at p
    · rename_i h
      simp only [Rp] at rx ry
      obtain ⟨a, vs, rfl, q1, r1⟩ := rx
      obtain ⟨b, us, rfl, q2, r2⟩ := ry
      have hl := lineOk_le h
      refine .inr (.inr (.inl ⟨a, b, vs, us, rfl, rfl, hK ▸ (q1.mono o.g).sq, hK ▸ (q2.mono o.g).sq, by rw [← r1.length, ← r2.length]; exact hl, fun e => ?_, fun _ e => ?_, fun _ _ => Pst.tup o (r1.append r2) p⟩))
      · subst e
        have : xs = [] := List.eq_nil_of_length_eq_zero (by rw [r1.length]; rfl)
        subst this
        exact p W H _ (le.refl _) o (by simp only [Rp, List.nil_append]; exact ⟨b, us, rfl, q2, r2⟩)
      · subst e
        have : ys = [] := List.eq_nil_of_length_eq_zero (by rw [r2.length]; rfl)
        subst this
        exact p W H _ (le.refl _) o (by simp only [Rp, List.append_nil]; exact ⟨a, vs, rfl, q1, r1⟩)
    · exact p.elim
  · split at p
    · rename_i xs ys h1 h2
      obtain ⟨a, vs, rfl, q1, r1⟩ := vwL_ok o h1 rx
      obtain ⟨b, us, rfl, q2, r2⟩ := vwL_ok o h2 ry
      have hl := F.le p
      rw [List.length_append, r1.length, r2.length] at hl
      exact .inr (.inr (.inr ⟨a, b, vs, us, rfl, rfl, q1, q2, hl, F.mak o (r1.append r2) p⟩))
    · exact p.elim
theorem os_sub : OpS c E (rI0 fun i j => .int (i - j)) gSub := fun W m H x y dx dy Q o rx ry p => by
  unfold gSub at p
  split at p
  · simp only [Rp] at rx ry; subst rx; subst ry
    exact ⟨_, _, rfl, rfl, p W H _ (le.refl _) o (by simp [Rp])⟩
  · exact p.elim
theorem op_mulA : OpR X (binaryOp .Mult) (rI (fun i j => mulOk i j = true) fun i j => .int (i * j)) := opI fun _ _ _ _ _ _ _ hc q => mul_int q (mulOk_ok hc)
theorem op_fdivA : OpR X (binaryOp .FloorDiv) (rI (fun _ j => divOk j = true) fun i j => .int (i.fdiv j)) := opI fun i j _ _ _ _ _ hc q => by
  have h := of_decide_eq_true hc
  exact floordiv_int h.1 q (.inl (PyProof.noPylong_of_log2 h.2))
theorem op_powA : OpR X (binaryOp .Pow) (rI (fun i j => powOk i j = true) fun i j => .int (i ^ j.toNat)) := opI fun i j _ _ _ _ _ hc q => by
  have h := of_decide_eq_true hc
  refine pow_int h.1 ?_ q
  have h1 : Builtin.Int.intBits i * j.toNat ≤ (i.natAbs.log2 + 1) * j.toNat := Nat.mul_le_mul_right _ (intBits_le i)
  have h2 : Builtin.Int.intBits i * j.toNat ≤ 100000000 := Nat.le_trans h1 h.2
  have h3 : (j.toNat : Int) = j := Int.toNat_of_nonneg h.1
  have h4 : ((Builtin.Int.intBits i * j.toNat : Nat) : Int) ≤ ((100000000 : Nat) : Int) := Int.ofNat_le.mpr h2
  rw [Int.natCast_mul, h3] at h4
  refine Int.le_trans h4 ?_
  decide
theorem os_mul : OpS c E (rI (fun i j => mulOk i j = true) fun i j => .int (i * j)) gMul := fun W m H x y dx dy Q o rx ry p => by
  unfold gMul at p
  split at p
  · simp only [Rp] at rx ry; subst rx; subst ry
    split at p
    · rename_i h
      exact ⟨_, _, rfl, rfl, h, p W H _ (le.refl _) o (by simp [Rp])⟩
    · exact p.elim
  · exact p.elim
theorem os_fdiv : OpS c E (rI (fun _ j => divOk j = true) fun i j => .int (i.fdiv j)) gFdiv := fun W m H x y dx dy Q o rx ry p => by
  unfold gFdiv at p
  split at p
  · simp only [Rp] at rx ry; subst rx; subst ry
    split at p
    · rename_i h
      exact ⟨_, _, rfl, rfl, h, p W H _ (le.refl _) o (by simp [Rp])⟩
    · exact p.elim
  · exact p.elim
theorem os_mod : OpS c E (rI (fun _ j => j ≠ 0) fun i j => .int (i.fmod j)) gMod := fun W m H x y dx dy Q o rx ry p => by
  unfold gMod at p
  split at p
  · simp only [Rp] at rx ry; subst rx; subst ry
    split at p
    · rename_i h
      exact ⟨_, _, rfl, rfl, h, p W H _ (le.refl _) o (by simp [Rp])⟩
    · exact p.elim
  · exact p.elim
theorem os_pow : OpS c E (rI (fun i j => powOk i j = true) fun i j => .int (i ^ j.toNat)) gPow := fun W m H x y dx dy Q o rx ry p => by
  unfold gPow at p
  split at p
  · simp only [Rp] at rx ry; subst rx; subst ry
    split at p
    · rename_i h
      exact ⟨_, _, rfl, rfl, h, p W H _ (le.refl _) o (by simp [Rp])⟩
    · exact p.elim
  · exact p.elim
theorem os_cmp {q : Int → Int → Bool} : OpS c E (rI0 fun i j => .bl (q i j)) (gCmp q) := fun W m H x y dx dy Q o rx ry p => by
  unfold gCmp at p
  split at p
  · simp only [Rp] at rx ry; subst rx; subst ry
    exact ⟨_, _, rfl, rfl, p W H _ (le.refl _) o (by simp [Rp])⟩
  · exact p.elim
theorem os_eq (hK : c.K = X.K := by rfl) : OpS c E (rEqD X.K) (gEq false) := fun W m H x y dx dy Q o rx ry p => by
  unfold gEq at p
  split at p
  · rename_i d e h1 h2
    split at p
    · rename_i h
      exact ⟨d, e, hK ▸ toPy_dp o h1 rx, hK ▸ toPy_dp o h2 ry, h.1, h.2, p W H _ (le.refl _) o (by simp [Rp])⟩
    · exact p.elim
  · exact p.elim
theorem os_ne (hK : c.K = X.K := by rfl) : OpS c E (rNeD X.K) (gEq true) := fun W m H x y dx dy Q o rx ry p => by
  unfold gEq at p
  split at p
  · rename_i d e h1 h2
    split at p
    · rename_i h
      exact ⟨d, e, hK ▸ toPy_dp o h1 rx, hK ▸ toPy_dp o h2 ry, h.1, h.2, p W H _ (le.refl _) o (by simp [Rp])⟩
    · exact p.elim
  · exact p.elim
def isNon : D → Bool
  | .non => true
  | _ => false
theorem Rp_non {W : Wd} {d : D} {v : V} (r : Rp c W d v) (h : ∀ n, d ≠ .cls n) : decide (v = .non) = isNon d := by
  cases d <;> simp only [Rp] at r <;> first | (subst r; rfl) | (obtain ⟨a, _, rfl, _⟩ := r; rfl) | (obtain ⟨a, rfl, _⟩ := r; rfl) | exact absurd rfl (h _)
theorem os_isN : OpS c E (fun x y H Q => y = .non ∧ Q (.bl (decide (x = .non))) H) (gIsN false) := fun W m H x y dx dy Q o rx ry p => by
  unfold gIsN at p
  split at p
  · simp only [Rp] at rx ry; subst rx; subst ry
    exact ⟨rfl, p W H _ (le.refl _) o (by simp [Rp])⟩
  · exact p.elim
  · rename_i d h1 h2
    have e := Rp_non rx h2
    simp only [Rp] at ry; subst ry
    refine ⟨rfl, ?_⟩
    rw [e]
    have : isNon dx = false := by
      cases dx <;> first | rfl | exact absurd rfl h1
    rw [this]
    exact p W H _ (le.refl _) o (by simp [Rp])
  · exact p.elim
theorem os_notN : OpS c E (fun x y H Q => y = .non ∧ Q (.bl (!decide (x = .non))) H) (gIsN true) := fun W m H x y dx dy Q o rx ry p => by
  unfold gIsN at p
  split at p
  · simp only [Rp] at rx ry; subst rx; subst ry
    exact ⟨rfl, p W H _ (le.refl _) o (by simp [Rp])⟩
  · exact p.elim
  · rename_i d h1 h2
    have e := Rp_non rx h2
    simp only [Rp] at ry; subst ry
    refine ⟨rfl, ?_⟩
    rw [e]
    have : isNon dx = false := by
      cases dx <;> first | rfl | exact absurd rfl h1
    rw [this]
    exact p W H _ (le.refl _) o (by simp [Rp])
  · exact p.elim
theorem os_in (hK : c.K = X.K := by rfl) : OpS c E (rInD X.K) (gIn false) := fun W m H x y dx dy Q o rx ry p => by
  unfold gIn at p
  split at p
  · rename_i d ds h1 h2
    split at p
    · rename_i h
      exact ⟨d, ds, hK ▸ toPy_dp o h1 rx, hK ▸ toPy_dp o h2 ry, h.1, h.2, p W H _ (le.refl _) o (by simp [Rp])⟩
    · exact p.elim
  · exact p.elim
theorem os_notIn (hK : c.K = X.K := by rfl) : OpS c E (rNotInD X.K) (gIn true) := fun W m H x y dx dy Q o rx ry p => by
  unfold gIn at p
  split at p
  · rename_i d ds h1 h2
    split at p
    · rename_i h
      exact ⟨d, ds, hK ▸ toPy_dp o h1 rx, hK ▸ toPy_dp o h2 ry, h.1, h.2, p W H _ (le.refl _) o (by simp [Rp])⟩
    · exact p.elim
  · exact p.elim
end

/-! ### unary, calls of built-ins, methods, subscripts, slices -/
def dUn (g : D → Mem → Rs D) (f : Ev) : Ev := fun ρ m => (f ρ m).bind fun d m1 => g d m1
def UnS (c : Ct) (E : XK) (r : V → Hp → VK → Prop) (g : D → Mem → Rs D) : Prop := ∀ (W : Wd) (m : Mem) (H : Hp) (x : V) (dx : D) (Q : VK), Ok c W m H → Rp c W dx x → Pst c E (Rp c) (g dx m) W Q → r x H Q
def gNeg : D → Mem → Rs D
  | .int i, m => .ok (.int (-i)) m
  | _, _ => .stuck
def CallS (c : Ct) (E : XK) (r : List V → Hp → VK → Prop) (g : List D → Mem → Rs D) : Prop := ∀ (W : Wd) (m : Mem) (H : Hp) (xs : List V) (ds : List D) (Q : VK), Ok c W m H → Rps c W ds xs → Pst c E (Rp c) (g ds m) W Q → r xs H Q
def dB (g : List D → Mem → Rs D) (fs : EvG (List D)) : Ev := fun ρ m => (fs ρ m).bind fun ds m1 => g ds m1
section
variable {X : Cx} {c : Ct} {E : XK} {pos p : Pos} {a e : Expr} {es : List Expr} {f : Ev} {fs : EvG (List D)} {g : List D → Mem → Rs D} {r : List V → Hp → VK → Prop} {x : Str}
theorem pd_un {op : UnaryOp} {r : V → Hp → VK → Prop} {g : D → Mem → Rs D} (ho : UnR X (unaryOp op) r) (hs : UnS c E r g) (ha : PE X a (tD c E f)) : PE X (.UnaryOp op a pos) (tD c E (dUn g f)) :=
  PE.weak (pe_un ho ha) fun σ H Q ⟨W, ρ, m, o, s, q⟩ => by
    refine ⟨W, ρ, m, o, s, Pst.imp (Pst.bind q) fun x H1 ⟨W1, d, m1, l1, o1, r1, p1⟩ => ?_⟩
    exact hs W1 m1 H1 x d Q o1 r1 p1
theorem us_neg : UnS c E (rU fun i => .int (-i)) gNeg := fun W m H x dx Q o rx p => by
  unfold gNeg at p
  split at p
  · simp only [Rp] at rx; subst rx
    exact ⟨_, rfl, p W H _ (le.refl _) o (by simp [Rp])⟩
  · exact p.elim
theorem tCB_of (hs : CallS c E r g) : ∀ (σ : L2.St) (H : Hp) (Q : VK), tD c E (dB g fs) σ H Q → tCB r (tDs c E fs) σ H Q := fun σ H Q ⟨W, ρ, m, o, s, q⟩ => by
  refine ⟨W, ρ, m, o, s, Pst.imp (Pst.bind q) fun xs H1 ⟨W1, ds, m1, l1, o1, r1, p1⟩ => ?_⟩
  exact hs W1 m1 H1 xs ds Q o1 r1 p1
theorem pd_blt {id : String} (hc : CallR X (.builtin id) r) (hs : CallS c E r g) (hm : X.mg x = none) (hv : bootBuiltins x = some (.builtin id)) (ha : PA X (e :: es) (tDs c E fs)) (hg : Gl X x := by rfl) (hn : x ≠ "__name__" := by decide) (hdb : (x == ("__debug__" : Str)) = false := by decide)
    (he : starEach (e :: es) X.env = (false, eval e X.env) :: starEach es X.env := by rfl) (hpl : (backTo pos (starEach es X.env)).any (·.1) = false := by rfl) : PE X (.Call (.Name x p) (e :: es) [] pos) (tD c E (dB g fs)) := PE.weak (pe_callB hc hg hm hv ha hn hdb he hpl) (tCB_of hs)
theorem pd_tyc {T : String} (hc : CallR X (.type T) r) (hs : CallS c E r g) (hm : X.mg x = none) (hv : bootBuiltins x = some (.type T)) (ha : PA X (e :: es) (tDs c E fs)) (hg : Gl X x := by rfl) (hn : x ≠ "__name__" := by decide) (hdb : (x == ("__debug__" : Str)) = false := by decide)
    (he : starEach (e :: es) X.env = (false, eval e X.env) :: starEach es X.env := by rfl) (hpl : (backTo pos (starEach es X.env)).any (·.1) = false := by rfl) : PE X (.Call (.Name x p) (e :: es) [] pos) (tD c E (dB g fs)) := PE.weak (pe_callTy hc hg hm hv ha hn hdb he hpl) (tCB_of hs)
/-- a built-in that the module has imported -/
theorem pd_bltM {id : String} (hc : CallR X (.builtin id) r) (hs : CallS c E r g) (hm : X.mg x = some (.builtin id)) (ha : PA X (e :: es) (tDs c E fs)) (hg : Gl X x := by rfl) (hdb : (x == ("__debug__" : Str)) = false := by decide)
    (he : starEach (e :: es) X.env = (false, eval e X.env) :: starEach es X.env := by rfl) (hpl : (backTo pos (starEach es X.env)).any (·.1) = false := by rfl) : PE X (.Call (.Name x p) (e :: es) [] pos) (tD c E (dB g fs)) :=
  PE.weak (t := tCB r (tDs c E fs)) ⟨fun pins s σ H Q I h => wpAny_Call_Name_kw (ld_glob I hg hm (PyProof.Rows.callWith_builtin1 (thn (ha.run pos pins s σ H _ I h) fun us s1 ⟨vs, H1, I1, r1, q1⟩ => hc pins s1 σ H1 vs us Q I1 r1 q1) he hpl) hdb)⟩ (tCB_of hs)
end
end LN
namespace LN
open PySem L2 PySem.Spec PyProof.Rows

/-! ### built-ins -/
def bInt : List D → Mem → Rs D
  | [.int i], m => .ok (.int i) m
  | [.bl b], m => .ok (.int (if b then 1 else 0)) m
  | [.str s], m => match PySem.intText? s with
    | some n => if s.length ≤ 640 then .ok (.int n) m else .stuck
    | none => .stuck
  | _, _ => .stuck
def bAbs : List D → Mem → Rs D
  | [.int i], m => .ok (.int (if i < 0 then -i else i)) m
  | _, _ => .stuck
def bMax2 : List D → Mem → Rs D
  | [.int i, .int j], m => .ok (.int (if j > i then j else i)) m
  | _, _ => .stuck
def bMin2 : List D → Mem → Rs D
  | [.int i, .int j], m => .ok (.int (if j < i then j else i)) m
  | _, _ => .stuck
def bGcd : List D → Mem → Rs D
  | [.int i, .int j], m => .ok (.int ((Nat.gcd i.natAbs j.natAbs : Nat) : Int)) m
  | _, _ => .stuck
def dictLen (m : Mem) : D → Option Nat
  | .dk ks _ => some ks.length
  | .dt ks _ => some ks.length
  | .loc f i => match m.get f i with
    | some (.dk ks _) => some ks.length
    | some (.dt ks _) => some ks.length
    | _ => none
  | _ => none
def bLen : List D → Mem → Rs D
  | [.str s], m => if lineOk s.length = true then .ok (.int s.length) m else .stuck
  | [d], m => match vwS m d with
    | some xs => .ok (.int xs.length) m
    | none => .stuck
  | _, _ => .stuck
def bLst (fin : List D → Mem → Rs D) : List D → Mem → Rs D
  | [d], m => match vwS m d with
    | some xs => fin xs m
    | none => .stuck
  | _, _ => .stuck
def bTup : List D → Mem → Rs D
  | [.tup xs], m => .ok (.tup xs) m
  | [d], m => match vwL m d with
    | some xs => .ok (.tup xs) m
    | none => .stuck
  | _, _ => .stuck
def dInts : List D → Option (List Int)
  | [] => some []
  | .int i :: r => (dInts r).map (i :: ·)
  | _ => none
def dBools : List D → Option (List Bool)
  | [] => some []
  | .bl i :: r => (dBools r).map (i :: ·)
  | _ => none
def bSum : List D → Mem → Rs D
  | [d], m => match vwL m d with
    | some xs => match dInts xs with
      | some ns => .ok (.int ns.sum) m
      | none => .stuck
    | none => .stuck
  | _, _ => .stuck
def bAll : List D → Mem → Rs D
  | [d], m => match vwL m d with
    | some xs => match dBools xs with
      | some bs => .ok (.bl (bs.all id)) m
      | none => .stuck
    | none => .stuck
  | _, _ => .stuck
def bAny : List D → Mem → Rs D
  | [d], m => match vwL m d with
    | some xs => match dBools xs with
      | some bs => .ok (.bl (bs.any id)) m
      | none => .stuck
    | none => .stuck
  | _, _ => .stuck
/-- the built-in class of a value -/
def tyN (m : Mem) : D → Option String
  | .non => some "NoneType"
  | .bl _ => some "bool"
  | .int _ => some "int"
  | .str _ => some "str"
  | .tup _ => some "tuple"
  | .lst _ => some "list"
  | .dk _ _ => some "dict"
  | .dt _ _ => some "dict"
  | .loc f i => match m.get f i with
    | some (.lst _) => some "list"
    | some (.dk _ _) => some "dict"
    | some (.dt _ _) => some "dict"
    | _ => none
  | _ => none
def isTy (a b : String) : Bool := a == b || (a == "bool" && b == "int")
def tys : List D → Option (List String)
  | [] => some []
  | .ty n :: r => (tys r).map (n :: ·)
  | _ => none
def known : List String := ["int", "bool", "str", "list", "tuple", "dict"]
def bIsi : List D → Mem → Rs D
  | [x, .ty n], m => match tyN m x with
    | some t => if n ∈ known then .ok (.bl (isTy t n)) m else .stuck
    | none => .stuck
  | [x, .tup cs], m => match tyN m x, tys cs with
    | some t, some ns => if ∀ n ∈ ns, n ∈ known then .ok (.bl (ns.any (isTy t))) m else .stuck
    | _, _ => .stuck
  | _, _ => .stuck
section
variable {X : Cx} {c : Ct} {E : XK}
theorem rps1 {W : Wd} {d : D} {xs : List V} (r : Rps c W [d] xs) : ∃ v, xs = [v] ∧ Rp c W d v := by
  simp only [Rps] at r
  obtain ⟨v, r, rfl, q, rfl⟩ := r
  exact ⟨v, rfl, q⟩
theorem rps2 {W : Wd} {d e : D} {xs : List V} (r : Rps c W [d, e] xs) : ∃ v u, xs = [v, u] ∧ Rp c W d v ∧ Rp c W e u := by
  simp only [Rps] at r
  obtain ⟨v, r, rfl, q, u, r', rfl, q', rfl⟩ := r
  exact ⟨v, u, rfl, q, q'⟩
def rIntAll : List V → Hp → VK → Prop := fun xs H Q => ((∃ i, xs = [.int i] ∧ Q (.int i) H) ∨ ∃ k, xs = [.bl k] ∧ Q (.int (if k then 1 else 0)) H) ∨ (∃ a n, xs = [.str a] ∧ PySem.intText? a = some n ∧ a.length ≤ 640 ∧ Q (.int n) H)
theorem cr_int : CallR X (.type "int") rIntAll := CallR.or call_int1 call_int_str
theorem cs_int : CallS c E rIntAll bInt := fun W m H xs ds Q o r p => by
  unfold bInt at p
  split at p
  · obtain ⟨v, rfl, q⟩ := rps1 r
    simp only [Rp] at q; subst q
    exact .inl (.inl ⟨_, rfl, p W H _ (le.refl _) o (by simp [Rp])⟩)
  · obtain ⟨v, rfl, q⟩ := rps1 r
    simp only [Rp] at q; subst q
    exact .inl (.inr ⟨_, rfl, p W H _ (le.refl _) o (by simp [Rp])⟩)
  · obtain ⟨v, rfl, q⟩ := rps1 r
    simp only [Rp] at q; subst q
    split at p
    · rename_i n hn
      split at p
      · rename_i hl
        exact .inr ⟨_, n, rfl, hn, hl, p W H _ (le.refl _) o (by simp [Rp])⟩
      · exact p.elim
    · exact p.elim
  · exact p.elim
theorem cs_abs : CallS c E (fun xs H Q => ∃ i, xs = [.int i] ∧ Q (.int (if i < 0 then -i else i)) H) bAbs := fun W m H xs ds Q o r p => by
  unfold bAbs at p
  split at p
  · obtain ⟨v, rfl, q⟩ := rps1 r
    simp only [Rp] at q; subst q
    exact ⟨_, rfl, p W H _ (le.refl _) o (by simp [Rp])⟩
  · exact p.elim
theorem cs_max2 : CallS c E (fun xs H Q => ∃ i j, xs = [.int i, .int j] ∧ Q (.int (if j > i then j else i)) H) bMax2 := fun W m H xs ds Q o r p => by
  unfold bMax2 at p
  split at p
  · obtain ⟨v, u, rfl, q, q'⟩ := rps2 r
    simp only [Rp] at q q'; subst q; subst q'
    exact ⟨_, _, rfl, p W H _ (le.refl _) o (by simp [Rp])⟩
  · exact p.elim
theorem cs_min2 : CallS c E (fun xs H Q => ∃ i j, xs = [.int i, .int j] ∧ Q (.int (if j < i then j else i)) H) bMin2 := fun W m H xs ds Q o r p => by
  unfold bMin2 at p
  split at p
  · obtain ⟨v, u, rfl, q, q'⟩ := rps2 r
    simp only [Rp] at q q'; subst q; subst q'
    exact ⟨_, _, rfl, p W H _ (le.refl _) o (by simp [Rp])⟩
  · exact p.elim
theorem cs_gcd : CallS c E rGcd bGcd := fun W m H xs ds Q o r p => by
  unfold bGcd at p
  split at p
  · obtain ⟨v, u, rfl, q, q'⟩ := rps2 r
    simp only [Rp] at q q'; subst q; subst q'
    exact ⟨_, _, rfl, p W H _ (le.refl _) o (by simp [Rp])⟩
  · exact p.elim
def rLenAll (K : PySem.W.Frag) : List V → Hp → VK → Prop := fun xs H Q => (∃ p ys, xs = [.ref p] ∧ (SqL K H p ys ∨ SqT K H p ys) ∧ Q (.int ys.length) H) ∨ (∃ z, xs = [.str z] ∧ z.length ≤ sizeLine ∧ Q (.int z.length) H)
theorem cr_len : CallR X (.builtin "len") (rLenAll X.K) := CallR.or call_len_seq call_len_str
theorem cs_len (hK : c.K = X.K := by rfl) : CallS c E (rLenAll X.K) bLen := fun W m H xs ds Q o r p => by
  unfold bLen at p
  split at p
  · obtain ⟨v, rfl, q⟩ := rps1 r
    simp only [Rp] at q; subst q
    split at p
    · rename_i h
      exact .inr ⟨_, rfl, lineOk_le h, p W H _ (le.refl _) o (by simp [Rp])⟩
    · exact p.elim
  · obtain ⟨v, rfl, q⟩ := rps1 r
    split at p
    · rename_i ys h
      obtain ⟨a, vs, rfl, q2, q3⟩ := vwS_ok o h q
      exact .inl ⟨a, vs, rfl, hK ▸ q2, p W H _ (le.refl _) o (by simp [Rp, q3.length])⟩
    · exact p.elim
  · exact p.elim
theorem cs_lst {fin : List D → Mem → Rs D} (F : FinN fin) (hK : c.K = X.K := by rfl) : CallS c E (fun xs H Q => ∃ p ys, xs = [.ref p] ∧ (SqL X.K H p ys ∨ SqT X.K H p ys) ∧ ∀ l, H l = none → Q (.ref l) (upd H l (.lst ys))) (bLst fin) := fun W m H xs ds Q o r p => by
  unfold bLst at p
  split at p
  · obtain ⟨v, rfl, q⟩ := rps1 r
    split at p
    · rename_i ys h
      obtain ⟨a, vs, rfl, q2, q3⟩ := vwS_ok o h q
      exact ⟨a, vs, rfl, hK ▸ q2, F.mak o q3 p⟩
    · exact p.elim
  · exact p.elim
theorem cs_tup (hK : c.K = X.K := by rfl) : CallS c E (fun xs H Q => ∃ p ys, xs = [.ref p] ∧ ((SqL X.K H p ys ∧ ∀ l, H l = none → Q (.ref l) (upd H l (.tup ys))) ∨ (SqT X.K H p ys ∧ Q (.ref p) H))) bTup := fun W m H xs ds Q o r p => by
  unfold bTup at p
  split at p
  · obtain ⟨v, rfl, q⟩ := rps1 r
    have q' := q
    simp only [Rp] at q
    obtain ⟨a, vs, rfl, q2, q3⟩ := q
    exact ⟨a, vs, rfl, .inr ⟨hK ▸ (q2.mono o.g).sq, p W H _ (le.refl _) o q'⟩⟩
  · obtain ⟨v, rfl, q⟩ := rps1 r
    split at p
    · rename_i ys h
      obtain ⟨a, vs, rfl, q2, q3⟩ := vwL_ok o h q
      exact ⟨a, vs, rfl, .inl ⟨SqL.of q2, Pst.tup o q3 p⟩⟩
    · exact p.elim
  · exact p.elim
theorem ints_ok {W : Wd} : ∀ {xs : List D} {ns : List Int} {vs : List V}, dInts xs = some ns → Rps c W xs vs → vs = ns.map V.int
  | [], ns, vs, h, r => by simp only [dInts, Option.some.injEq, Rps] at h r; subst h; subst r; rfl
  | .int i :: xs, ns, vs, h, r => by
    simp only [dInts, Option.map_eq_some_iff] at h
    obtain ⟨ms, h1, rfl⟩ := h
    simp only [Rps, Rp] at r
    obtain ⟨v, r', rfl, rfl, r2⟩ := r
    rw [ints_ok h1 r2]; rfl
theorem bools_ok {W : Wd} : ∀ {xs : List D} {ns : List Bool} {vs : List V}, dBools xs = some ns → Rps c W xs vs → vs = ns.map V.bl
  | [], ns, vs, h, r => by simp only [dBools, Option.some.injEq, Rps] at h r; subst h; subst r; rfl
  | .bl i :: xs, ns, vs, h, r => by
    simp only [dBools, Option.map_eq_some_iff] at h
    obtain ⟨ms, h1, rfl⟩ := h
    simp only [Rps, Rp] at r
    obtain ⟨v, r', rfl, rfl, r2⟩ := r
    rw [bools_ok h1 r2]; rfl
theorem cs_sum (hK : c.K = X.K := by rfl) : CallS c E (rSum X.K) bSum := fun W m H xs ds Q o r p => by
  unfold bSum at p
  split at p
  · obtain ⟨v, rfl, q⟩ := rps1 r
    split at p
    · rename_i ys h
      obtain ⟨a, vs, rfl, q2, q3⟩ := vwL_ok o h q
      split at p
      · rename_i ns h2
        exact ⟨a, ns, rfl, SqL.of (by rw [q2, ints_ok h2 q3]), p W H _ (le.refl _) o (by simp [Rp])⟩
      · exact p.elim
    · exact p.elim
  · exact p.elim
theorem cs_all (hK : c.K = X.K := by rfl) : CallS c E (rAll X.K) bAll := fun W m H xs ds Q o r p => by
  unfold bAll at p
  split at p
  · obtain ⟨v, rfl, q⟩ := rps1 r
    split at p
    · rename_i ys h
      obtain ⟨a, vs, rfl, q2, q3⟩ := vwL_ok o h q
      split at p
      · rename_i ns h2
        exact ⟨a, ns, rfl, SqL.of (by rw [q2, bools_ok h2 q3]), p W H _ (le.refl _) o (by simp [Rp])⟩
      · exact p.elim
    · exact p.elim
  · exact p.elim
theorem cs_any (hK : c.K = X.K := by rfl) : CallS c E (rAny X.K) bAny := fun W m H xs ds Q o r p => by
  unfold bAny at p
  split at p
  · obtain ⟨v, rfl, q⟩ := rps1 r
    split at p
    · rename_i ys h
      obtain ⟨a, vs, rfl, q2, q3⟩ := vwL_ok o h q
      split at p
      · rename_i ns h2
        exact ⟨a, ns, rfl, SqL.of (by rw [q2, bools_ok h2 q3]), p W H _ (le.refl _) o (by simp [Rp])⟩
      · exact p.elim
    · exact p.elim
  · exact p.elim
theorem tyN_ok {W : Wd} {m : Mem} {H : Hp} (o : Ok c W m H) {d : D} {v : V} {t : String} (h : tyN m d = some t) (r : Rp c W d v) : TyX c.K H v (.type t) := by
  cases d with
  | non => simp only [tyN, Option.some.injEq, Rp] at h r; subst h; subst r; exact .base .non
  | bl b => simp only [tyN, Option.some.injEq, Rp] at h r; subst h; subst r; exact .base (.bl _)
  | int b => simp only [tyN, Option.some.injEq, Rp] at h r; subst h; subst r; exact .base (.int _)
  | str b => simp only [tyN, Option.some.injEq, Rp] at h r; subst h; subst r; exact .base (.str _)
  | tup xs =>
    simp only [tyN, Option.some.injEq, Rp] at h r; subst h
    obtain ⟨a, vs, rfl, q, _⟩ := r
    rcases q with q | ⟨_, o', its, n, q1, q2, _⟩
    · exact .base (.tup (o.g _ _ q))
    · exact .kTuple q1 q2
  | lst xs =>
    simp only [tyN, Option.some.injEq, Rp] at h r; subst h
    obtain ⟨a, vs, rfl, q, _⟩ := r
    exact .base (.lst (o.g _ _ q))
  | dk ks xs =>
    simp only [tyN, Option.some.injEq, Rp] at h r; subst h
    obtain ⟨a, vs, rfl, q, _⟩ := r
    exact .base (.dK (o.g _ _ q))
  | dt ks xs =>
    simp only [tyN, Option.some.injEq, Rp] at h r; subst h
    obtain ⟨a, vs, rfl, q, _⟩ := r
    exact .base (.dT (o.g _ _ q))
  | loc f i =>
    simp only [tyN] at h
    simp only [Rp] at r
    obtain ⟨a, rfl, q⟩ := r
    split at h
    · rename_i xs hg
      cases h
      obtain ⟨b, e1, ⟨vs, e2, e3⟩, _⟩ := o.i _ _ _ hg rfl
      rw [q] at e1; cases e1
      exact .base (.lst e2)
    · rename_i ks xs hg
      cases h
      obtain ⟨b, e1, ⟨vs, e2, e3⟩, _⟩ := o.i _ _ _ hg rfl
      rw [q] at e1; cases e1
      exact .base (.dK e2)
    · rename_i ks xs hg
      cases h
      obtain ⟨b, e1, ⟨vs, e2, e3⟩, _⟩ := o.i _ _ _ hg rfl
      rw [q] at e1; cases e1
      exact .base (.dT e2)
    · cases h
  | _ => cases h
theorem tyN_in {m : Mem} {d : D} {t : String} (h : tyN m d = some t) : t ∈ ["NoneType", "bool", "int", "str", "tuple", "list", "dict"] := by
  cases d <;> simp only [tyN, Option.some.injEq] at h <;> first | (subst h; decide) | (split at h <;> first | (cases h; decide) | cases h) | cases h
theorem kit_tab (K : PySem.W.Frag) : ∀ t ∈ ["NoneType", "bool", "int", "str", "tuple", "list", "dict"], ∀ n ∈ known, PySem.W.kitOne K (.type t) (.type n) = some (isTy t n) := by
  intro t ht n hn
  simp only [known, List.mem_cons, List.not_mem_nil, or_false] at ht hn
  rcases ht with rfl | rfl | rfl | rfl | rfl | rfl | rfl <;> rcases hn with rfl | rfl | rfl | rfl | rfl | rfl <;> kernel_rfl
def rIsiAll (K : PySem.W.Frag) : List V → Hp → VK → Prop := fun xs H Q => rIsi K xs H Q ∨ rIsiT K xs H Q ∨ rIsiK K xs H Q
theorem cr_isi : CallR X (.builtin "isinstance") (rIsiAll X.K) := CallR.or call_isi (CallR.or call_isiT call_isiK)
theorem tys_ok {W : Wd} : ∀ {xs : List D} {ns : List String} {vs : List V}, tys xs = some ns → Rps c W xs vs → vs = ns.map V.ty
  | [], ns, vs, h, r => by simp only [tys, Option.some.injEq, Rps] at h r; subst h; subst r; rfl
  | .ty i :: xs, ns, vs, h, r => by
    simp only [tys, Option.map_eq_some_iff] at h
    obtain ⟨ms, h1, rfl⟩ := h
    simp only [Rps, Rp] at r
    obtain ⟨v, r', rfl, rfl, r2⟩ := r
    rw [tys_ok h1 r2]; rfl
theorem kit_any (K : PySem.W.Frag) {t : String} (ht : t ∈ ["NoneType", "bool", "int", "str", "tuple", "list", "dict"]) : ∀ ns : List String, (∀ n ∈ ns, n ∈ known) → PySem.W.kitAny K (.type t) (ns.map Value.type) = some (ns.any (isTy t))
  | [], _ => rfl
  | n :: ns, h => by
    have h1 := kit_tab K t ht n (h n (by simp))
    have h2 := kit_any K ht ns fun k hk => h k (by simp [hk])
    simp only [List.map_cons, PySem.W.kitAny, h1, List.any_cons]
    cases isTy t n with
    | true => rfl
    | false => simpa using h2
theorem clsv_tys : ∀ ns : List String, Paired ClsV (ns.map V.ty) (ns.map Value.type)
  | [] => .nil
  | n :: ns => .cons (.ty n) (clsv_tys ns)
theorem vals_tys : ∀ {ns : List String} {us : List Value}, Vals (ns.map V.ty) us → us = ns.map Value.type
  | [], _, .nil => rfl
  | n :: ns, _, .cons r t => by rw [show _ = Value.type n from r, vals_tys t]; rfl
theorem cs_isi (hK : c.K = X.K := by rfl) : CallS c E (rIsiAll X.K) bIsi := fun W m H xs ds Q o r p => by
  unfold bIsi at p
  split at p
  · rename_i _ x n
    obtain ⟨v, u, rfl, q, q'⟩ := rps2 r
    simp only [Rp] at q'; subst q'
    split at p
    · rename_i t ht
      split at p
      · rename_i hn
        exact .inl ⟨v, .ty n, _, .type n, _, rfl, .ty n, hK ▸ tyN_ok o ht q, kit_tab _ t (tyN_in ht) n hn, p W H _ (le.refl _) o (by simp [Rp])⟩
      · exact p.elim
    · exact p.elim
  · rename_i _ x cs
    obtain ⟨v, u, rfl, q, q'⟩ := rps2 r
    split at p
    · rename_i t ns ht hns
      split at p
      · rename_i hn
        simp only [Rp] at q'
        obtain ⟨a, vs, rfl, q2, q3⟩ := q'
        have e := tys_ok hns q3
        subst e
        have hk := kit_any X.K (tyN_in ht) ns hn
        have fin := p W H (.bl (ns.any (isTy t))) (le.refl _) o (by simp [Rp])
        rcases q2 with q2 | ⟨_, o', its, n, k1, k2, k3, k4, k5⟩
        · exact .inr (.inl ⟨v, a, _, _, _, _, rfl, o.g _ _ q2, clsv_tys ns, hK ▸ tyN_ok o ht q, hk, fin⟩)
        · have e := vals_tys k5
          obtain ⟨oc, od, oda, osl⟩ := o'
          dsimp only at k2 k3
          subst k2; subst k3
          refine .inr (.inr ⟨v, a, od, ns.map Value.type, n, osl, _, _, rfl, ?_, hK ▸ tyN_ok o ht q, hk, fin⟩)
          rw [← hK, k1]
          have e2 : its = (ns.map Value.type).toArray := by rw [← e]
          rw [e2]
      · exact p.elim
    · exact p.elim
  · exact p.elim
end
end LN
namespace LN
open PySem L2 PySem.Spec PyProof.Rows

/-! ### subscripts, slices -/
def gIx (d i : D) (m : Mem) : Rs D := match d, i with
  | .str s, .int k => if lineOk s.length = true then (match atI s.cps.toList k with
    | some ch => .ok (.str ⟨#[ch]⟩) m
    | none => .stuck) else .stuck
  | d, .int k => match vwS m d with
    | some xs => match atI xs k with
      | some x => .ok x m
      | none => .stuck
    | none => .stuck
  | _, _ => .stuck
def cutL {α : Type} (xs : List α) (lo hi : Option Int) : List α := (xs.drop (HT.sIx xs.length 0 lo)).take (HT.sIx xs.length xs.length hi - HT.sIx xs.length 0 lo)
def gSl (fin : List D → Mem → Rs D) (d : D) (lo hi : Option Int) (m : Mem) : Rs D := match d with
  | .str s => if lineOk s.length = true then .ok (.str (cutS s lo hi)) m else .stuck
  | .tup xs => .ok (.tup (cutL xs lo hi)) m
  | .scr xs => fin ((cutL xs lo hi).map .int) m
  | d => match vwL m d with
    | some xs => fin (cutL xs lo hi) m
    | none => .stuck
def dPart (f : Ev) : EvG (Option Int) := fun ρ m => (f ρ m).bind fun d m1 => match d with
  | .int i => .ok (some i) m1
  | _ => .stuck
def dNo : EvG (Option Int) := fun _ m => .ok none m
def dSl (g : D → Option Int → Option Int → Mem → Rs D) (f : Ev) (fl fh : EvG (Option Int)) : Ev := fun ρ m => (f ρ m).bind fun d m1 => (fl ρ m1).bind fun lo m2 => (fh ρ m2).bind fun hi m3 => g d lo hi m3
section
variable {X : Cx} {c : Ct} {E : XK} {pos p2 : Pos} {a b e : Expr} {fa fb : Ev} {fin : List D → Mem → Rs D}
theorem Rps.atI {W : Wd} {xs : List D} {vs : List V} (r : Rps c W xs vs) {k : Int} {d : D} (h : L2.atI xs k = some d) : ∃ v, L2.atI vs k = some v ∧ Rp c W d v := by
  unfold L2.atI at h ⊢
  rw [← r.length]
  cases e : ixN xs.length k with
  | none => rw [e] at h; cases h
  | some j => rw [e] at h; exact r.get h
theorem os_ix (hK : c.K = X.K := by rfl) : OpS c E (rIx X.K) gIx := fun W m H x y dx dy Q o rx ry p => by
  unfold gIx at p
  split at p
  · simp only [Rp] at rx ry; subst rx; subst ry
    split at p
    · rename_i h
      split at p
      · rename_i ch hc
        exact .inr (.inr ⟨_, _, ch, rfl, rfl, lineOk_le h, hc, p W H _ (le.refl _) o (by simp [Rp])⟩)
      · exact p.elim
    · exact p.elim
  · simp only [Rp] at ry; subst ry
    split at p
    · rename_i xs h
      obtain ⟨a, vs, rfl, q1, q2⟩ := vwS_ok o h rx
      split at p
      · rename_i d hd
        obtain ⟨v, h1, h2⟩ := q2.atI hd
        have fin := p W H v (le.refl _) o h2
        rcases q1 with q1 | q1
        · exact .inl ⟨a, vs, _, v, rfl, rfl, hK ▸ q1, h1, fin⟩
        · exact .inr (.inl ⟨a, vs, _, v, rfl, rfl, hK ▸ q1, h1, fin⟩)
      · exact p.elim
    · exact p.elim
  · exact p.elim
theorem pd_ix (hs : OpS c E (rIx X.K) gIx) (ha : PE X a (tD c E fa)) (hb : PE X b (tD c E fb)) (hp : PlainIx b := by exact fun _ _ => rfl) : PE X (.Subscript a b pos) (tD c E (dOp gIx fa fb)) :=
  PE.weak (pe_ix ix_seq ha hb hp) (tOp_of hs)
def Ro (_ : Wd) (a b : Option Int) : Prop := a = b
theorem pod_none : PO X none (tG c E Ro dNo) := ⟨fun pins s σ H Q I ⟨W, ρ, m, o, sl, p⟩ => po_none.run pins s σ H Q I (p W H none (le.refl _) o rfl)⟩
theorem pod_some (h : PE X e (tD c E fa)) : PO X (some e) (tG c E Ro (dPart fa)) := ⟨fun pins s σ H Q I ⟨W, ρ, m, o, sl, p⟩ => (po_some h).run pins s σ H Q I (by
  refine ⟨W, ρ, m, o, sl, Pst.imp (Pst.bind p) fun x H1 ⟨W1, d, m1, l1, o1, r1, p1⟩ => ?_⟩
  split at p1
  · rename_i i
    simp only [Rp] at r1
    exact ⟨i, r1, p1 W1 H1 _ (le.refl _) o1 rfl⟩
  · exact p1.elim)⟩
def SlS (c : Ct) (E : XK) (r : V → Option Int → Option Int → Hp → VK → Prop) (g : D → Option Int → Option Int → Mem → Rs D) : Prop := ∀ (W : Wd) (m : Mem) (H : Hp) (x : V) (dx : D) (lo hi : Option Int) (Q : VK), Ok c W m H → Rp c W dx x → Pst c E (Rp c) (g dx lo hi m) W Q → r x lo hi H Q
theorem pd_sl {lo hi : Option Expr} {fl fh : EvG (Option Int)} {r : V → Option Int → Option Int → Hp → VK → Prop} {g : D → Option Int → Option Int → Mem → Rs D} (hr : SlR X r) (hs : SlS c E r g) (ha : PE X a (tD c E fa)) (hl : PO X lo (tG c E Ro fl)) (hh : PO X hi (tG c E Ro fh)) :
    PE X (.Subscript a (.Slice lo hi none p2) pos) (tD c E (dSl g fa fl fh)) :=
  PE.weak (pe_slice hr ha hl hh) fun σ H Q ⟨W, ρ, m, o, s, q⟩ => by
    refine ⟨W, ρ, m, o, s, Pst.imp (Pst.bind q) fun x H1 ⟨W1, d, m1, l1, o1, r1, p1⟩ => ?_⟩
    refine ⟨W1, ρ, m1, o1, s.mono l1, Pst.imp (Pst.bind p1) fun lo' H2 ⟨W2, lo2, m2, l2, o2, r2, p2⟩ => ?_⟩
    refine ⟨W2, ρ, m2, o2, (s.mono l1).mono l2, Pst.imp (Pst.bind p2) fun hi' H3 ⟨W3, hi2, m3, l3, o3, r3, p3⟩ => ?_⟩
    have e2 : lo2 = lo' := r2
    have e3 : hi2 = hi' := r3
    subst e2; subst e3
    exact hs W3 m3 H3 x d lo2 hi2 Q o3 ((r1.mono l2 d).mono l3 d) p3
def rSlAll (K : PySem.W.Frag) : V → Option Int → Option Int → Hp → VK → Prop := fun x lo hi H Q => rSlL K x lo hi H Q ∨ rSlA K x lo hi H Q ∨ rSlS x lo hi H Q
theorem sl_all : SlR X (rSlAll X.K) := SlR.or sl_list (SlR.or sl_tupA sl_str)
theorem Rps.cutL {W : Wd} {xs : List D} {vs : List V} (r : Rps c W xs vs) (lo hi : Option Int) : Rps c W (LN.cutL xs lo hi) (cutV vs lo hi) := by
  unfold LN.cutL cutV
  rw [← r.length]
  exact (r.drop _).take _
theorem ss_all (F : FinN fin) (hK : c.K = X.K := by rfl) : SlS c E (rSlAll X.K) (gSl fin) := fun W m H x dx lo hi Q o rx p => by
  unfold gSl at p
  split at p
  · simp only [Rp] at rx; subst rx
    split at p
    · rename_i h
      exact .inr (.inr ⟨_, rfl, lineOk_le h, p W H _ (le.refl _) o (by simp [Rp])⟩)
    · exact p.elim
  · rename_i xs
    simp only [Rp] at rx
    obtain ⟨a, vs, rfl, q1, r1⟩ := rx
    refine .inr (.inl ⟨a, vs, rfl, hK ▸ (q1.mono o.g).sq, fun hw => ?_, fun _ => Pst.tup o (r1.cutL lo hi) p⟩)
    refine p W H _ (le.refl _) o ?_
    have e : LN.cutL xs lo hi = xs := by
      unfold LN.cutL
      rw [r1.length, hw.1, hw.2, ← r1.length]
      simp
    rw [e]
    simp only [Rp]
    exact ⟨a, vs, rfl, q1, r1⟩
  · rename_i xs
    obtain ⟨a, vs, rfl, q1, r1⟩ := vwS_ok o (d := .scr xs) rfl rx
    simp only [Rp] at rx
    obtain ⟨a', e, q⟩ := rx
    cases e
    refine .inl ⟨a, xs.map V.int, rfl, hK ▸ (SqL.mono o.g q), ?_⟩
    have r2 : Rps c W (xs.map D.int) (xs.map V.int) := Rps.of (by simp) fun i d v h1 h2 => by
      rw [List.getElem?_map] at h1 h2
      cases e : xs[i]? with
      | none => rw [e] at h1; cases h1
      | some x => rw [e] at h1 h2; cases h1; cases h2; simp [Rp]
    have e2 : (LN.cutL xs lo hi).map D.int = LN.cutL (xs.map D.int) lo hi := by
      unfold LN.cutL
      rw [List.length_map, List.map_take, List.map_drop]
    rw [e2] at p
    exact F.mak o (r2.cutL lo hi) p
  · split at p
    · rename_i xs h
      obtain ⟨a, vs, rfl, q1, r1⟩ := vwL_ok o h rx
      exact .inl ⟨a, vs, rfl, SqL.of q1, F.mak o (r1.cutL lo hi) p⟩
    · exact p.elim

/-! ### truth -/
def truD (m : Mem) : D → Option Bool
  | .non => some false
  | .bl b => some b
  | .int i => some (i != 0)
  | .str s => if lineOk s.length = true then some ((s.length : Int) != 0) else none
  | d => match vwS m d with
    | some xs => some (!xs.isEmpty)
    | none => none
def dTru (f : Ev) : EvG Bool := fun ρ m => (f ρ m).bind fun d m1 => match truD m1 d with
  | some k => .ok k m1
  | none => .stuck
theorem Rps.isEmpty {W : Wd} {xs : List D} {vs : List V} (r : Rps c W xs vs) : xs.isEmpty = vs.isEmpty := by
  have := r.length
  cases xs <;> cases vs <;> simp_all
theorem ptd_tru (ha : PE X a (tD c E fa)) (h : ∀ whole : Sem Value, PySem.isTrue a X.env whole = (do let v ← whole; standAt a.pos; holding [v] (truthy v)) := by intro _; rfl) (hK : c.K = X.K := by rfl) : PT X a (tT c E (dTru fa)) :=
  PT.weak (pt_truth ha h) fun σ H Q ⟨W, ρ, m, o, s, q⟩ => by
    refine ⟨W, ρ, m, o, s, Pst.imp (Pst.bind q) fun x H1 ⟨W1, d, m1, l1, o1, r1, p1⟩ => ?_⟩
    split at p1
    · rename_i k hk
      refine ⟨k, ?_, p1 W1 H1 k (le.refl _) o1 rfl⟩
      unfold truD at hk
      split at hk
      · cases hk; simp only [Rp] at r1; subst r1; rfl
      · cases hk; simp only [Rp] at r1; subst r1; rfl
      · cases hk; simp only [Rp] at r1; subst r1; rfl
      · split at hk
        · rename_i hl
          cases hk; simp only [Rp] at r1; subst r1; exact ⟨lineOk_le hl, rfl⟩
        · cases hk
      · split at hk
        · rename_i xs h
          cases hk
          obtain ⟨a, vs, rfl, q1, q2⟩ := vwS_ok o1 h r1
          rw [q2.isEmpty]
          rcases q1 with q1 | q1
          · exact .inl ⟨vs, hK ▸ q1, rfl⟩
          · exact .inr (.inl ⟨vs, hK ▸ q1, rfl⟩)
        · cases hk
    · exact p1.elim
/-- a value that is a bool, as a test -/
theorem ptd_val (ha : PE X a (tD c E fa)) (h : ∀ whole : Sem Value, PySem.isTrue a X.env whole = (do let v ← whole; standAt a.pos; holding [v] (truthy v)) := by intro _; rfl) : PT X a (tT c E (dTst fa)) :=
  PT.weak (pt_val ha h) fun σ H Q ⟨W, ρ, m, o, s, q⟩ => by
    refine ⟨W, ρ, m, o, s, Pst.imp (Pst.bind q) fun x H1 ⟨W1, d, m1, l1, o1, r1, p1⟩ => ?_⟩
    cases d with
    | bl k => simp only [Rp] at r1; exact ⟨k, r1, p1 W1 H1 _ (le.refl _) o1 rfl⟩
    | _ => exact p1.elim
end

/-! ### what is walked -/
def signs (s : Str) : List D := s.cps.toList.map fun ch => .str ⟨#[ch]⟩
def dWalk (f : Ev) : EvG Wk := fun ρ m => (f ρ m).bind fun d m1 => match d with
  | .str s => .ok (.of (signs s)) m1
  | .loc f i => match m1.get f i with
    | some (.lst xs) => .ok ⟨xs, fun m2 => m2.get f i = some (.lst xs)⟩ m1
    | _ => .stuck
  | d => match vwS m1 d with
    | some xs => .ok (.of xs) m1
    | none => .stuck
def dRng1 (f : Ev) : EvG Wk := fun ρ m => (f ρ m).bind fun d m1 => match d with
  | .int n => if n < 2 ^ 62 ∧ -(2 ^ 62) ≤ n then .ok (.of ((List.range n.toNat).map fun (i : Nat) => D.int (i : Int))) m1 else .stuck
  | _ => .stuck
def dRng2 (f g : Ev) : EvG Wk := fun ρ m => (f ρ m).bind fun d m1 => (g ρ m1).bind fun e m2 => match d, e with
  | .int a, .int b => if (-(2 ^ 62) ≤ a ∧ a < 2 ^ 62) ∧ (-(2 ^ 62) ≤ b ∧ b < 2 ^ 62) then .ok (.of ((List.range (b - a).toNat).map fun (i : Nat) => D.int (a + (i : Int)))) m2 else .stuck
  | _, _ => .stuck
section
variable {X : Cx} {c : Ct} {E : XK} {pos p : Pos} {tg e e2 : Expr} {f g : Ev}
def iAny (K : PySem.W.Frag) (tl : TE) : TI := fun σ H R => tl σ H fun x H1 => (∃ a, x = .ref a ∧ (∃ xs, SqL K H1 a xs) ∧ R (Itl K a) H1) ∨ (∃ a, x = .ref a ∧ (∃ xs, SqT K H1 a xs) ∧ R (Itt K a) H1) ∨ ∃ z, x = .str z ∧ R (Its z) H1
theorem pi_any {l : Expr} {tl : TE} (hl : PE X l tl) : PI X tg l (iAny X.K tl) := by
  refine ⟨fun pins s σ H R I h => ?_⟩
  refine thn (hl.run pins s σ H _ I h) fun v s1 ⟨x, H1, I1, r1, q1⟩ => ?_
  have base : ∀ (w : V) (t : TI), PI X tg l t → True := fun _ _ _ => trivial
  rcases q1 with ⟨a, rfl, hq, q⟩ | ⟨a, rfl, hq, q⟩ | ⟨z, rfl, q⟩
  · obtain ⟨xs, hq⟩ := hq
    cases r1
    obtain ⟨its, rv, p, hz⟩ := I1.list hq
    refine wpAny_pyIter_list p.isList ?_
    refine ⟨s1.heap.objs.size, [s1.heap.objs.size], _, _, H1, rfl, I1.kept (t' := s1.toks) fun b o e => Heap.get?_push_of_some _ e, turn_list a _, ⟨_, Heap.get?_push_size _ rfl, rfl, rfl⟩, fun b hb => ?_, q⟩
    have e : b = s1.heap.objs.size := by simpa using hb
    subst e
    exact I1.fpOk (Nat.le_refl _) (I1.hok.fresh (Nat.le_refl _))
  · obtain ⟨xs, hq⟩ := hq
    cases r1
    obtain ⟨its, rv, p, hz⟩ := I1.tuple hq
    refine wpAny_pyIter_tuple (show s1.heap.IsTuple a its.toArray from p) ?_
    refine ⟨s1.heap.objs.size, [s1.heap.objs.size], _, _, H1, rfl, I1.kept (t' := s1.toks) fun b o e => Heap.get?_push_of_some _ e, turn_tuple a _, ⟨_, Heap.get?_push_size _ rfl, rfl, rfl⟩, fun b hb => ?_, q⟩
    have e : b = s1.heap.objs.size := by simpa using hb
    subst e
    exact I1.fpOk (Nat.le_refl _) (I1.hok.fresh (Nat.le_refl _))
  · obtain ⟨t, rfl⟩ := r1
    cases ha : z.cps.all (· < 128)
    · exact wpAny_pyIter_wide ha (pi_one (tk := s1.toks) I1 _ (turn_str _ z t "str_iterator" (.inr rfl)) ⟨_, Heap.get?_push_size _ rfl, rfl, rfl⟩ q)
    · exact wpAny_pyIter_ascii ha (pi_one (tk := s1.toks) I1 _ (turn_str _ z t "str_ascii_iterator" (.inl rfl)) ⟨_, Heap.get?_push_size _ rfl, rfl, rfl⟩ q)
theorem yldL {W : Wd} {a : Addr} {vs : List V} {xs : List D} (h : ∀ W1 m1 H1, le W W1 → Ok c W1 m1 H1 → SqL c.K H1 a vs) (r : Rps c W xs vs) : Yld c W (.of xs) (Itl c.K a) := fun W1 m1 H1 i l o _ => by
  refine ⟨fun d hd => ?_, fun hi => ⟨vs, h W1 m1 H1 l o, by rw [← r.length]; exact Nat.le_of_eq hi⟩⟩
  have hd : xs[i]? = some d := hd
  obtain ⟨v, hv, rv⟩ := r.get hd
  refine ⟨⟨vs, v, h W1 m1 H1 l o, hv⟩, fun x H2 hx => ?_⟩
  obtain ⟨rfl, hx⟩ := hx
  have e := hx vs (h W1 m1 H2 l o)
  rw [hv] at e; cases e
  exact ⟨W1, le.refl _, o, rv.mono l d⟩
theorem yldT {W : Wd} {a : Addr} {vs : List V} {xs : List D} (h : ∀ W1 m1 H1, le W W1 → Ok c W1 m1 H1 → SqT c.K H1 a vs) (r : Rps c W xs vs) : Yld c W (.of xs) (Itt c.K a) := fun W1 m1 H1 i l o _ => by
  refine ⟨fun d hd => ?_, fun hi => ⟨vs, h W1 m1 H1 l o, by rw [← r.length]; exact Nat.le_of_eq hi⟩⟩
  have hd : xs[i]? = some d := hd
  obtain ⟨v, hv, rv⟩ := r.get hd
  refine ⟨⟨vs, v, h W1 m1 H1 l o, hv⟩, fun x H2 hx => ?_⟩
  obtain ⟨rfl, hx⟩ := hx
  have e := hx vs (h W1 m1 H2 l o)
  rw [hv] at e; cases e
  exact ⟨W1, le.refl _, o, rv.mono l d⟩
theorem yldR {W : Wd} {lo : Int} {n : Nat} : Yld c W (.of ((List.range n).map fun (i : Nat) => D.int (lo + (i : Int)))) (Itr lo n) := fun W1 m1 H1 i l o _ => by
  refine ⟨fun d hd => ?_, fun hi => show n ≤ i from Nat.le_of_eq (by simpa [Wk.of] using hi)⟩
  have hd : ((List.range n).map fun (i : Nat) => D.int (lo + (i : Int)))[i]? = some d := hd
  rw [List.getElem?_map] at hd
  by_cases hi : i < n
  · rw [List.getElem?_range hi] at hd
    cases hd
    refine ⟨hi, fun x H2 hx => ?_⟩
    obtain ⟨rfl, rfl⟩ := hx
    exact ⟨W1, le.refl _, o, by simp [Rp]⟩
  · rw [List.getElem?_eq_none (by simpa using hi)] at hd; cases hd
theorem yldS {W : Wd} {z : Str} : Yld c W (.of (signs z)) (Its z) := fun W1 m1 H1 i l o _ => by
  refine ⟨fun d hd => ?_, fun hi => show z.cps.size ≤ i from Nat.le_of_eq (by simpa [Wk.of, signs] using hi)⟩
  have hd : (signs z)[i]? = some d := hd
  simp only [signs, List.getElem?_map] at hd
  cases e : z.cps.toList[i]? with
  | none => rw [e] at hd; cases hd
  | some ch =>
    rw [e] at hd; cases hd
    have e' : z.cps[i]? = some ch := by simpa using e
    refine ⟨?_, fun x H2 hx => ?_⟩
    · exact (Array.getElem?_eq_some_iff.mp e').1
    obtain ⟨rfl, ch', h1, rfl⟩ := hx
    rw [e'] at h1; cases h1
    exact ⟨W1, le.refl _, o, by simp [Rp]⟩
theorem yldM {W : Wd} {a : Addr} {f i : Nat} {xs : List D} (ha : W.ι f i = some a) : Yld c W ⟨xs, fun m2 => m2.get f i = some (.lst xs)⟩ (Itl c.K a) := fun W1 m1 H1 j l o hck => by
  obtain ⟨b, e1, ⟨vs, e2, e3⟩, _⟩ := o.i _ _ _ hck rfl
  rw [l.i _ _ _ ha] at e1; cases e1
  refine ⟨fun d hd => ?_, fun hi => ⟨vs, SqL.of e2, by rw [← e3.length]; exact Nat.le_of_eq hi⟩⟩
  have hd : xs[j]? = some d := hd
  obtain ⟨v, hv, rv⟩ := e3.get hd
  refine ⟨⟨vs, v, SqL.of e2, hv⟩, fun x H2 hx => ?_⟩
  obtain ⟨rfl, hx⟩ := hx
  have e := hx vs (SqL.of e2)
  rw [hv] at e; cases e
  exact ⟨W1, le.refl _, o, rv⟩
theorem pid_any (he : PE X e (tD c E f)) (hK : c.K = X.K := by rfl) : PI X tg e (tI c E (dWalk f)) :=
  PI.weak (pi_any he) fun σ H R ⟨W, ρ, m, o, s, q⟩ => by
    refine ⟨W, ρ, m, o, s, Pst.imp (Pst.bind (RA := Rp c) q) fun x H1 ⟨W1, d, m1, l1, o1, r1, p1⟩ => ?_⟩
    cases d with
    | str z =>
      simp only [Rp] at r1; subst r1
      exact .inr (.inr ⟨z, rfl, p1 W1 H1 _ (le.refl _) o1 yldS⟩)
    | loc f i =>
      dsimp only at p1
      split at p1
      · rename_i xs hg
        have r0 := r1
        simp only [Rp] at r1
        obtain ⟨a, rfl, ha⟩ := r1
        obtain ⟨b, e1, ⟨vs, e2, e3⟩, _⟩ := o1.i _ _ _ hg rfl
        rw [ha] at e1; cases e1
        refine .inl ⟨a, rfl, ⟨vs, SqL.of e2⟩, hK ▸ p1 W1 H1 (Itl c.K a) (le.refl _) o1 (yldM ha)⟩
      · exact p1.elim
    | tup xs =>
      simp only [Rp] at r1
      obtain ⟨a, vs, rfl, q1, q2⟩ := r1
      refine .inr (.inl ⟨a, rfl, ⟨vs, hK ▸ (q1.mono o1.g).sq⟩, hK ▸ p1 W1 H1 (Itt c.K a) (le.refl _) o1 (yldT (fun W2 m2 H2 l2 o2 => ((q1.mono l2.g).mono o2.g).sq) q2)⟩)
    | lst xs =>
      simp only [Rp] at r1
      obtain ⟨a, vs, rfl, q1, q2⟩ := r1
      refine .inl ⟨a, rfl, ⟨vs, SqL.of (o1.g _ _ q1)⟩, hK ▸ p1 W1 H1 (Itl c.K a) (le.refl _) o1 (yldL (fun W2 m2 H2 l2 o2 => SqL.of (o2.g _ _ (l2.g _ _ q1))) q2)⟩
    | scr xs =>
      simp only [Rp] at r1
      obtain ⟨a, rfl, q1⟩ := r1
      have r2 : Rps c W1 (xs.map D.int) (xs.map V.int) := Rps.of (by simp) fun i d v h1 h2 => by
        rw [List.getElem?_map] at h1 h2
        cases e : xs[i]? with
        | none => rw [e] at h1; cases h1
        | some x => rw [e] at h1 h2; cases h1; cases h2; simp [Rp]
      refine .inl ⟨a, rfl, ⟨xs.map V.int, hK ▸ (SqL.mono o1.g q1)⟩, hK ▸ p1 W1 H1 (Itl c.K a) (le.refl _) o1 (yldL (fun W2 m2 H2 l2 o2 => SqL.mono o2.g (SqL.mono l2.g q1)) r2)⟩
    | _ => exact p1.elim
theorem pid_rng1 (hm : X.mg "range" = none) (he : PE X e (tD c E f)) (hg : Gl X "range" := by rfl) (hs : starEach [e] X.env = [(false, eval e X.env)] := by rfl) : PI X tg (.Call (.Name "range" p) [e] [] pos) (tI c E (dRng1 f)) :=
  PI.weak (pi_range1 hg hm (pad_cons (es := []) he pad_nil hs) hs) fun σ H R ⟨W, ρ, m, o, s, q⟩ => by
    refine ⟨W, ρ, m, o, s, ?_⟩
    have q : Pst c E (Yld c) ((f ρ m).bind fun d m1 => match d with
      | .int n => if n < 2 ^ 62 ∧ -(2 ^ 62) ≤ n then .ok (.of ((List.range n.toNat).map fun (i : Nat) => D.int (i : Int))) m1 else .stuck
      | _ => .stuck) W R := q
    show Pst c E (Rps c) ((f ρ m).bind fun d m1 => (Rs.ok [] m1).bind fun ds m2 => Rs.ok (d :: ds) m2) W _
    cases h : f ρ m with
    | stuck => rw [h] at q; exact q
    | err e m1 => rw [h] at q; exact q
    | ok d m1 =>
      rw [h] at q
      simp only [Rs.bind_ok] at q ⊢
      intro W1 H1 xs l1 o1 r1
      obtain ⟨v, rfl, r2⟩ := rps1 r1
      clear r1
      split at q
      · rename_i _ n
        simp only [Rp] at r2; subst r2
        split at q
        · rename_i hn
          refine ⟨n, rfl, hn.2, hn.1, q W1 H1 (Itr 0 n.toNat) l1 o1 ?_⟩
          have := yldR (c := c) (W := W1) (lo := 0) (n := n.toNat)
          simpa using this
        · exact q.elim
      · exact q.elim
theorem pid_rng2 (hm : X.mg "range" = none) (he : PE X e (tD c E f)) (he2 : PE X e2 (tD c E g)) (hg : Gl X "range" := by rfl) (hs : starEach [e, e2] X.env = [(false, eval e X.env), (false, eval e2 X.env)] := by rfl) (hs2 : starEach [e2] X.env = [(false, eval e2 X.env)] := by rfl) :
    PI X tg (.Call (.Name "range" p) [e, e2] [] pos) (tI c E (dRng2 f g)) :=
  PI.weak (pi_range2 hg hm (pad_cons (es := [e2]) he (pad_cons (es := []) he2 pad_nil hs2) (by rw [hs, hs2])) hs hs2) fun σ H R ⟨W, ρ, m, o, s, q⟩ => by
    refine ⟨W, ρ, m, o, s, ?_⟩
    have q : Pst c E (Yld c) ((f ρ m).bind fun d m1 => (g ρ m1).bind fun e m2 => match d, e with
      | .int a, .int b => if (-(2 ^ 62) ≤ a ∧ a < 2 ^ 62) ∧ (-(2 ^ 62) ≤ b ∧ b < 2 ^ 62) then .ok (.of ((List.range (b - a).toNat).map fun (i : Nat) => D.int (a + (i : Int)))) m2 else .stuck
      | _, _ => .stuck) W R := q
    show Pst c E (Rps c) ((f ρ m).bind fun d m1 => ((g ρ m1).bind fun d2 m3 => (Rs.ok [] m3).bind fun ds m2 => Rs.ok (d2 :: ds) m2).bind fun ds m2 => Rs.ok (d :: ds) m2) W _
    simp only [Rs.bind_ok, Rs.bind_assoc]
    cases h : f ρ m with
    | stuck => rw [h] at q; exact q
    | err e m1 => rw [h] at q; exact q
    | ok d m1 =>
      rw [h] at q
      simp only [Rs.bind_ok] at q ⊢
      cases h2 : g ρ m1 with
      | stuck => rw [h2] at q; exact q
      | err e m1 => rw [h2] at q; exact q
      | ok d2 m2 =>
        rw [h2] at q
        simp only [Rs.bind_ok] at q ⊢
        intro W1 H1 xs l1 o1 r1
        obtain ⟨v, u, rfl, r3, r2⟩ := rps2 r1
        clear r1
        split at q
        · rename_i d1 e1 a b
          simp only [Rp] at r3 r2; subst r3; subst r2
          split at q
          · rename_i hn
            exact ⟨a, b, rfl, ⟨hn.1.1, hn.1.2, hn.2.1, hn.2.2⟩, q W1 H1 (Itr a (b - a).toNat) l1 o1 yldR⟩
          · exact q.elim
        · exact q.elim
end
end LN
namespace LN
open PySem L2 PySem.Spec PyProof.Rows

/-! ### dicts with int and text keys -/
def keyD : D → Option L2.Key
  | .int i => some (.inl i)
  | .str s => some (.inr s)
  | _ => none
def dKey : L2.Key → D
  | .inl i => .int i
  | .inr s => .str s
theorem keyD_ok {c : Ct} {W : Wd} {d : D} {k : L2.Key} {v : V} (h : keyD d = some k) (r : Rp c W d v) : v = kV k := by
  cases d <;> simp only [keyD, Option.some.injEq, reduceCtorEq] at h <;> subst h <;> simp only [Rp] at r <;> subst r <;> rfl
theorem dKey_ok {c : Ct} {W : Wd} (k : L2.Key) : Rp c W (dKey k) (kV k) := by
  cases k <;> simp [dKey, kV, Rp]
def lookD {κ : Type} [DecidableEq κ] : List κ → List D → κ → Option D
  | k :: ks, x :: xs, j => if k = j then some x else lookD ks xs j
  | _, _, _ => none
def putD {κ : Type} [DecidableEq κ] : List κ → List D → κ → D → List κ × List D
  | k :: ks, x :: xs, j, y => if k = j then (k :: ks, y :: xs) else ((k :: (putD ks xs j y).1), (x :: (putD ks xs j y).2))
  | _, _, j, y => ([j], [y])
section
variable {κ : Type} [DecidableEq κ] {c : Ct} {W : Wd}
theorem lookD_ok : ∀ {ks : List κ} {xs : List D} {vs : List V} (k : κ), Rps c W xs vs → ks.length = vs.length →
    (∀ d, lookD ks xs k = some d → ∃ v, valV (ks.zip vs) k = some v ∧ Rp c W d v) ∧ (lookD ks xs k = none → valV (ks.zip vs) k = none)
  | [], [], [], k, r, l => ⟨fun d h => by simp [lookD] at h, fun _ => rfl⟩
  | j :: ks, x :: xs, v :: vs, k, r, l => by
    simp only [Rps] at r
    obtain ⟨v', r', e, r1, r2⟩ := r
    cases e
    have ih := lookD_ok (ks := ks) k r2 (by simpa using l)
    simp only [lookD, List.zip_cons_cons]
    by_cases e : j = k
    · rw [if_pos e, valV_pos (p := (j, v)) e]
      exact ⟨fun d h => by cases h; exact ⟨v, rfl, r1⟩, fun h => by cases h⟩
    · rw [if_neg e, valV_neg (p := (j, v)) e]
      exact ih
  | [], _ :: _, [], _, r, _ => by simp [Rps] at r
  | [], [], _ :: _, _, r, _ => by simp [Rps] at r
  | _ :: _, [], [], _, _, l => by simp at l
  | _ :: _, [], _ :: _, _, r, _ => by simp [Rps] at r
  | _ :: _, _ :: _, [], _, r, _ => by simp [Rps] at r
  | [], _ :: _, _ :: _, _, _, l => by simp at l
theorem putK_cons {p : κ × V} {kvs : List (κ × V)} {k : κ} {v : V} (e : ¬ p.1 = k) : putK (p :: kvs) k v = p :: putK kvs k v := by
  unfold putK
  simp only [List.any_cons, decide_eq_false e, Bool.false_or, List.map_cons, if_neg e]
  split <;> rfl
theorem putK_hit {p : κ × V} {kvs : List (κ × V)} {k : κ} {v : V} (e : p.1 = k) (h : ∀ q ∈ kvs, q.1 ≠ k) : putK (p :: kvs) k v = (p.1, v) :: kvs := by
  unfold putK
  simp only [List.any_cons, decide_eq_true e, Bool.true_or, if_true, List.map_cons, if_pos e]
  congr 1
  calc kvs.map _ = kvs.map id := List.map_congr_left fun q hq => if_neg (h q hq)
    _ = kvs := List.map_id _
theorem putD_ok : ∀ {ks : List κ} {xs : List D} {vs : List V} (k : κ) {y : D} {u : V}, ks.Nodup → Rps c W xs vs → ks.length = vs.length → Rp c W y u →
    ∃ vs', putK (ks.zip vs) k u = (putD ks xs k y).1.zip vs' ∧ (putD ks xs k y).1.length = vs'.length ∧ Rps c W (putD ks xs k y).2 vs'
  | [], [], [], k, y, u, _, r, l, ru => ⟨[u], rfl, rfl, Rps.one ru⟩
  | j :: ks, x :: xs, v :: vs, k, y, u, nd, r, l, ru => by
    simp only [Rps] at r
    obtain ⟨v', r', e, r1, r2⟩ := r
    cases e
    have l' : ks.length = vs.length := by simpa using l
    simp only [putD, List.zip_cons_cons]
    by_cases e : j = k
    · rw [if_pos e]
      refine ⟨u :: vs, ?_, by simpa using l', Rps.cons ru r2⟩
      rw [putK_hit (p := (j, v)) e]
      · rfl
      · intro q hq z
        have := (List.of_mem_zip (show (q.1, q.2) ∈ ks.zip vs from hq)).1
        rw [z, ← e] at this
        exact (List.nodup_cons.mp nd).1 this
    · rw [if_neg e]
      obtain ⟨vs', h1, h2, h3⟩ := putD_ok (ks := ks) k (List.nodup_cons.mp nd).2 r2 l' ru
      exact ⟨v :: vs', by rw [putK_cons (p := (j, v)) e, h1]; rfl, by simpa using h2, Rps.cons r1 h3⟩
  | [], _ :: _, [], _, _, _, _, r, _, _ => by simp [Rps] at r
  | [], [], _ :: _, _, _, _, _, r, _, _ => by simp [Rps] at r
  | _ :: _, [], [], _, _, _, _, _, l, _ => by simp at l
  | _ :: _, [], _ :: _, _, _, _, _, r, _, _ => by simp [Rps] at r
  | _ :: _, _ :: _, [], _, _, _, _, r, _, _ => by simp [Rps] at r
  | [], _ :: _, _ :: _, _, _, _, _, _, l, _ => by simp at l
end
/-- a dict's keys and values -/
def vwK (m : Mem) : D → Option (List L2.Key × List D)
  | .dk ks xs => some (ks, xs)
  | .loc f i => match m.get f i with
    | some (.dk ks xs) => some (ks, xs)
    | _ => none
  | _ => none
theorem vwK_ok {c : Ct} {W : Wd} {m : Mem} {H : Hp} (o : Ok c W m H) {d : D} {v : V} {ks : List L2.Key} {xs : List D} (h : vwK m d = some (ks, xs)) (r : Rp c W d v) : ∃ a vs, v = .ref a ∧ H a = some (.dK (ks.zip vs)) ∧ ks.length = vs.length ∧ Rps c W xs vs := by
  cases d with
  | dk js ys =>
    simp only [vwK, Option.some.injEq, Prod.mk.injEq] at h
    obtain ⟨rfl, rfl⟩ := h
    simp only [Rp] at r
    obtain ⟨a, vs, e, q, l, r⟩ := r
    exact ⟨a, vs, e, o.g _ _ q, l, r⟩
  | loc f i =>
    simp only [vwK] at h
    split at h
    · rename_i js ys hg
      simp only [Option.some.injEq, Prod.mk.injEq] at h
      obtain ⟨rfl, rfl⟩ := h
      simp only [Rp] at r
      obtain ⟨a, e, q⟩ := r
      obtain ⟨b, e1, ⟨vs, e2, e3, e4⟩, _⟩ := o.i _ _ _ hg rfl
      rw [q] at e1; cases e1
      exact ⟨a, vs, e, e2, e3, e4⟩
    · cases h
  | _ => cases h
def dDict : Ev := fun _ m => newObj (.dk [] []) m
def gIxA (d i : D) (m : Mem) : Rs D := match vwK m d with
  | some (ks, xs) => match keyD i with
    | some k => match lookD ks xs k with
      | some x => .ok x m
      | none => .stuck
    | none => .stuck
  | none => gIx d i m
def gInK (neg : Bool) (y d : D) (m : Mem) : Rs D := match vwK m d, keyD y with
  | some (ks, xs), some k => .ok (.bl (neg ^^ (lookD ks xs k).isSome)) m
  | _, _ => .stuck
section
variable {X : Cx} {c : Ct} {E : XK} {pos p2 : Pos} {a b e : Expr} {fa fb : Ev} {fin : List D → Mem → Rs D}
theorem pd_dict : PE X (.Dict [] [] pos) (tD c E dDict) :=
  PE.weak pe_dnewK fun σ H Q ⟨W, ρ, m, o, s, p⟩ => fun a ha => by
    unfold dDict newObj at p
    split at p
    · rename_i h
      obtain ⟨W', l, o', r'⟩ := o.alloc (o := .dk [] []) (u := .dK []) (fun z => h.1 (by rw [z]; rfl)) ha h.2 ⟨[], upd_same, rfl, Rps.nil⟩
      exact p _ _ _ l o' r'
    · exact p.elim
theorem dget_of {W : Wd} {m : Mem} {H : Hp} (o : Ok c W m H) {d i : D} {x y : V} {ks : List L2.Key} {xs : List D} {k : L2.Key} (h : vwK m d = some (ks, xs)) (hk : keyD i = some k) (rx : Rp c W d x) (ry : Rp c W i y) :
    ∃ a, x = .ref a ∧ (∀ z, lookD ks xs k = some z → ∃ v, DGet H a y (some v) ∧ Rp c W z v) ∧ (lookD ks xs k = none → DGet H a y none) := by
  obtain ⟨a, vs, rfl, q, l, r⟩ := vwK_ok o h rx
  have hl := lookD_ok k r l
  refine ⟨a, rfl, fun z hz => ?_, fun hz => .inl ⟨_, k, .inl q, keyD_ok hk ry, (hl.2 hz).symm⟩⟩
  obtain ⟨v, h1, h2⟩ := hl.1 z hz
  exact ⟨v, .inl ⟨_, k, .inl q, keyD_ok hk ry, h1.symm⟩, h2⟩
def rIxD : R2 := fun x y H Q => ∃ a v, x = .ref a ∧ DGet H a y (some v) ∧ Q v H
theorem ix_dict (hu : X.A.units + 1 < cLine) : IxR X rIxD := fun value slice pins s σ H x y v u Q I rx ry ⟨a, v', ex, g, q⟩ hs => by
  subst ex
  obtain rfl : v = Value.ref a := rx
  exact tail_any (dict_typeIs I g) PySem.F.slot_dict_getitem.lookup (d_getItem hu I g ry fun w' s3 I3 rw' => ⟨v', H, I3, rw', q⟩) hs
def rIxAll (K : PySem.W.Frag) : R2 := fun x y H Q => rIxD x y H Q ∨ rIx K x y H Q
theorem ix_all (hu : X.A.units + 1 < cLine) : IxR X (rIxAll X.K) := IxR.or (ix_dict hu) ix_seq
theorem os_ixA (hK : c.K = X.K := by rfl) : OpS c E (rIxAll X.K) gIxA := fun W m H x y dx dy Q o rx ry p => by
  unfold gIxA at p
  split at p
  · rename_i ks xs h
    split at p
    · rename_i k hk
      obtain ⟨a, ex, h1, _⟩ := dget_of o h hk rx ry
      split at p
      · rename_i z hz
        obtain ⟨v, g, rv⟩ := h1 z hz
        exact .inl ⟨a, v, ex, g, p W H v (le.refl _) o rv⟩
      · exact p.elim
    · exact p.elim
  · exact .inr (os_ix (X := X) hK W m H x y dx dy Q o rx ry p)
/-- a[b], over lists, tuples, texts and dicts -/
theorem pd_ixA (hu : X.A.units + 1 < cLine) (ha : PE X a (tD c E fa)) (hb : PE X b (tD c E fb)) (hK : c.K = X.K := by rfl) (hp : PlainIx b := by exact fun _ _ => rfl) : PE X (.Subscript a b pos) (tD c E (dOp gIxA fa fb)) :=
  PE.weak (pe_ix (ix_all hu) ha hb hp) (tOp_of (os_ixA (X := X) hK))
def rInKD (neg : Bool) : R2 := fun y x H Q => ∃ a o, x = .ref a ∧ DGet H a y o ∧ Q (.bl (neg ^^ o.isSome)) H
theorem os_inK {neg : Bool} : OpS c E (rInKD neg) (gInK neg) := fun W m H y x dy dx Q o ry rx p => by
  unfold gInK at p
  split at p
  · rename_i ks xs k h hk
    obtain ⟨a, ex, h1, h2⟩ := dget_of o h hk rx ry
    cases hz : lookD ks xs k with
    | some z =>
      obtain ⟨v, g, rv⟩ := h1 z hz
      rw [hz] at p
      exact ⟨a, _, ex, g, p W H _ (le.refl _) o (by simp [Rp])⟩
    | none =>
      rw [hz] at p
      exact ⟨a, _, ex, h2 hz, p W H _ (le.refl _) o (by simp [Rp])⟩
  · exact p.elim
theorem pd_inK (hu : X.A.units + 1 < cLine) (ha : PE X a (tD c E fa)) (hb : PE X b (tD c E fb)) (hm : behindInMarks .In b = false := by rfl) : PE X (.Compare a [.In] [b] pos) (tD c E (dOp (gInK false) fa fb)) :=
  PE.weak (pe_cmp (pc_din hu ha hb) hm) fun σ H Q h => by
    have := tOp_of (os_inK (c := c) (E := E) (neg := false)) (fa := fa) (fb := fb) σ H Q h
    simpa [tOp, tDIn, rInKD] using this
theorem ptd_inK (hu : X.A.units + 1 < cLine) (ha : PE X a (tD c E fa)) (hb : PE X b (tD c E fb)) (hm : behindInMarks .In b = false := by rfl) : PT X (.Compare a [.In] [b] pos) (tT c E (dTst (dOp (gInK false) fa fb))) :=
  PT.weak (pt_cmp (pc_din hu ha hb) hm) (tTest_of fun σ H Q h => by
    have := tOp_of (os_inK (c := c) (E := E) (neg := false)) (fa := fa) (fb := fb) σ H Q h
    simpa [tOp, tDIn, rInKD] using this)
theorem pd_ninK (hu : X.A.units + 1 < cLine) (ha : PE X a (tD c E fa)) (hb : PE X b (tD c E fb)) (hm : behindInMarks .NotIn b = false := by rfl) : PE X (.Compare a [.NotIn] [b] pos) (tD c E (dOp (gInK true) fa fb)) :=
  PE.weak (pe_cmp (pc_dnotin hu ha hb) hm) fun σ H Q h => by
    have := tOp_of (os_inK (c := c) (E := E) (neg := true)) (fa := fa) (fb := fb) σ H Q h
    simpa [tOp, tDNotIn, rInKD] using this
theorem ptd_ninK (hu : X.A.units + 1 < cLine) (ha : PE X a (tD c E fa)) (hb : PE X b (tD c E fb)) (hm : behindInMarks .NotIn b = false := by rfl) : PT X (.Compare a [.NotIn] [b] pos) (tT c E (dTst (dOp (gInK true) fa fb))) :=
  PT.weak (pt_cmp (pc_dnotin hu ha hb) hm) (tTest_of fun σ H Q h => by
    have := tOp_of (os_inK (c := c) (E := E) (neg := true)) (fa := fa) (fb := fb) σ H Q h
    simpa [tOp, tDNotIn, rInKD] using this)

/-! ### stores by place and key -/
def gSet (d i z : D) (m : Mem) : Rs Unit := match d with
  | .loc f n => if D.lt (f + 1) z = true then (match m.get f n with
    | some (.lst xs) => match i with
      | .int k => match ixN xs.length k with
        | some j => .ok () (m.put f n (.lst (xs.set j z)))
        | none => .stuck
      | _ => .stuck
    | some (.dk ks xs) => match keyD i with
      | some k => if ks.Nodup ∧ ks.length < 16777216 then .ok () (m.put f n (.dk (putD ks xs k z).1 (putD ks xs k z).2)) else .stuck
      | none => .stuck
    | _ => .stuck) else .stuck
  | _ => .stuck
def rSetAll : TSet := fun o i v H Q => rSetL o i v H Q ∨ rSetD o i v H Q
theorem set_all (hu : X.A.units + 1 < cLine) : PSet X rSetAll := fun pins s σ H o i v ov iv u Q I ro ri rv h => by
  rcases h with h | h
  · exact set_list pins s σ H o i v ov iv u Q I ro ri rv h
  · exact set_dict hu pins s σ H o i v ov iv u Q I ro ri rv h
theorem D.lts_set {n : Nat} {xs : List D} {j : Nat} {z : D} (h : D.lts n xs = true) (hz : D.lt n z = true) : D.lts n (xs.set j z) = true := by
  rw [D.lts_iff] at h ⊢
  intro d hd
  rcases List.mem_or_eq_of_mem_set hd with q | q
  · exact h d q
  · rw [q]; exact hz
theorem D.lts_app {n : Nat} {xs ys : List D} (h : D.lts n xs = true) (k : D.lts n ys = true) : D.lts n (xs ++ ys) = true := by
  rw [D.lts_iff] at h k ⊢
  intro d hd
  rcases List.mem_append.mp hd with q | q
  · exact h d q
  · exact k d q
theorem D.lts_put {κ : Type} [DecidableEq κ] {n : Nat} {z : D} (hz : D.lt n z = true) : ∀ {ks : List κ} {xs : List D} {k : κ}, D.lts n xs = true → D.lts n (putD ks xs k z).2 = true
  | [], [], _, _ => by simp [putD, D.lts, hz]
  | [], _ :: _, _, _ => by simp [putD, D.lts, hz]
  | _ :: _, [], _, _ => by simp [putD, D.lts, hz]
  | j :: ks, x :: xs, k, h => by
    simp only [D.lts, Bool.and_eq_true] at h
    simp only [putD]
    by_cases e : j = k
    · rw [if_pos e]; simp [D.lts, hz, h.2]
    · rw [if_neg e]; simp [D.lts, h.1, D.lts_put hz h.2]
theorem ss_set : SetS c E rSetAll gSet := fun W m H x y z dx dy dz Q o rx ry rz p => by
  unfold gSet at p
  split at p
  · rename_i f n
    split at p
    · rename_i hl
      simp only [Rp] at rx
      obtain ⟨a, rfl, ha⟩ := rx
      split at p
      · rename_i xs hg
        split at p
        · rename_i k
          simp only [Rp] at ry; subst ry
          split at p
          · rename_i j hj
            obtain ⟨b, e1, ⟨vs, e2, e3⟩, _⟩ := o.i _ _ _ hg rfl
            rw [ha] at e1; cases e1
            refine .inl ⟨a, vs, k, j, rfl, rfl, e2, by rw [← e3.length]; exact hj, ?_⟩
            exact p W _ () (le.refl _) (o.write (u := .lst (vs.set j z)) hg rfl ha rfl (D.lts_set (o.lt _ _ _ hg) hl) ⟨_, upd_same, e3.set rz j⟩) trivial
          · exact p.elim
        · exact p.elim
      · rename_i ks xs hg
        split at p
        · rename_i k hk
          split at p
          · rename_i hn
            obtain ⟨b, e1, ⟨vs, e2, e3, e4⟩, _⟩ := o.i _ _ _ hg rfl
            rw [ha] at e1; cases e1
            obtain ⟨vs', h1, h2, h3⟩ := putD_ok k hn.1 e4 e3 rz
            refine .inr ⟨a, _, rfl, .inl ⟨_, k, e2, keyD_ok hk ry, ?_, rfl⟩, ?_⟩
            · rw [List.length_zip, ← e3, Nat.min_self]
              have := hn.2
              rw [sizeLine_eq]; omega
            · rw [h1]
              exact p W _ () (le.refl _) (o.write (u := .dK ((putD ks xs k dz).1.zip vs')) hg rfl ha rfl (D.lts_put hl (o.lt _ _ _ hg)) ⟨vs', upd_same, h2, h3⟩) trivial
          · exact p.elim
        · exact p.elim
      · exact p.elim
    · exact p.elim
  · exact p.elim
/-- o[i] op= e over a list -/
def gIxL (d i : D) (m : Mem) : Rs D := match vwL m d, i with
  | some xs, .int k => match atI xs k with
    | some x => .ok x m
    | none => .stuck
  | _, _ => .stuck
theorem os_ixL : OpS c E (rIxL X.K) gIxL := fun W m H x y dx dy Q o rx ry p => by
  unfold gIxL at p
  split at p
  · rename_i xs k h
    simp only [Rp] at ry; subst ry
    obtain ⟨a, vs, rfl, q1, q2⟩ := vwL_ok o h rx
    split at p
    · rename_i d hd
      obtain ⟨v, h1, h2⟩ := q2.atI hd
      exact ⟨a, vs, _, v, rfl, rfl, SqL.of q1, h1, p W H v (le.refl _) o h2⟩
    · exact p.elim
  · exact p.elim
def sAugS (fo fi fe : Ev) (g : D → D → Mem → Rs D) : Bd := fun ρ m => (fo ρ m).bind fun d0 m1 => (fi ρ m1).bind fun di m2 => (gIxL d0 di m2).bind fun x m3 => (fe ρ m3).bind fun y m4 => (g x y m4).bind fun z m5 => (gSet d0 di z m5).bind fun _ m6 => .ok (.nx ρ) m6
theorem get_list : PGet X (rIxL X.K) := fun pins s σ H o i v u Q I rx ry h => by
  obtain ⟨p, xs, i, z, rfl, rfl, hq, he, q⟩ := h
  cases rx
  obtain ⟨t, rfl⟩ := ry
  obtain ⟨its, r, pl, hz⟩ := I.list hq
  obtain ⟨j, h1, h2, h3, h4, h5⟩ := atI_get he
  obtain ⟨w, ew, rw'⟩ := r.get h2
  have hl := r.length
  have hn := line63
  have fin : EP X pins σ Q w s := ⟨z, H, I, rw', q⟩
  by_cases h0 : 0 ≤ i
  · have hj : i.toNat = j := by
      rw [seqIndex_of h0 h5] at h1
      exact Option.some.inj h1
    exact wpAny_getItem_list pl.isList h0 (by omega) (by rw [hj]; simpa using ew) fin
  · have hj : (i + (its.toArray.size : Int)).toNat = j := by
      rw [seqIndex_neg (by omega) h4] at h1
      rw [List.size_toArray, ← hl]
      exact Option.some.inj h1
    exact wpAny_getItem_list_neg pl.isList (by omega) (by rw [List.size_toArray] <;> omega) (by omega) (by rw [hj]; simpa using ew) fin
theorem psd_augS {o i : Expr} {fo fi fe : Ev} {op : Operator} {r : R2} {g : D → D → Mem → Rs D} {tpos : Pos} (hu : X.A.units + 1 < cLine) (ho : PE X o (tD c E fo)) (hi : PE X i (tD c E fi)) (he : PE X e (tD c E fe)) (hop : OpR X (inplaceOp op) r) (hs : OpS c E r g)
    (ha : ∀ ov iv new, augStore i ov iv new = (do holding [new, ov, iv] (setItem ov iv new); release [new, ov, iv] []; pure .next) := by intros; rfl) : PS X (.AugAssign (.Subscript o i tpos) op e pos) (tS c E (sAugS fo fi fe g)) :=
  PS.weak (ps_augS (tip := r) ho hi get_list he hop (set_all hu) ha) fun Dn σ H ⟨W, ρ, m, o, s, p⟩ => by
    refine ⟨W, ρ, m, o, s, Pst.imp (PstS.bind p) fun x H1 ⟨W1, d0, m1, l1, o1, r1, p1⟩ => ?_⟩
    refine ⟨W1, ρ, m1, o1, s.mono l1, Pst.imp (PstS.bind p1) fun y H2 ⟨W2, di, m2, l2, o2, r2, p2⟩ => ?_⟩
    have s2 := (s.mono l1).mono l2
    have r1' := r1.mono l2 d0
    refine os_ixL (X := X) W2 m2 H2 x y d0 di _ o2 r1' r2 (Pst.imp (PstS.bind p2) fun z H3 ⟨W3, d3, m3, l3, o3, r3, p3⟩ => ?_)
    refine ⟨W3, ρ, m3, o3, s2.mono l3, Pst.imp (PstS.bind p3) fun w H4 ⟨W4, d4, m4, l4, o4, r4, p4⟩ => ?_⟩
    refine hs W4 m4 H4 z w d3 d4 _ o4 (r3.mono l4 d3) r4 (Pst.imp (PstS.bind p4) fun v H5 ⟨W5, d5, m5, l5, o5, r5, p5⟩ => ?_)
    refine ss_set W5 m5 H5 x y v d0 di d5 _ o5 (((r1'.mono l3 d0).mono l4 d0).mono l5 d0) (((r2.mono l3 di).mono l4 di).mono l5 di) r5 (Pst.imp (PstS.bind (RA := fun _ (_ : Unit) (_ : Unit) => True) p5) fun _ H6 ⟨W6, _, m6, l6, o6, _, p6⟩ => ?_)
    exact p6 W6 H6 σ (le.refl _) o6 ((((s2.mono l3).mono l4).mono l5).mono l6)

/-! ### methods of lists -/
def isL (m : Mem) (d : D) : Bool := (vwL m d).isSome
def isS (_ : Mem) : D → Bool
  | .str _ => true
  | _ => false
def dM (ck : Mem → D → Bool) (g : D → List D → Mem → Rs D) (fo : Ev) (fs : EvG (List D)) : Ev := fun ρ m => (fo ρ m).bind fun d0 m1 => if ck m1 d0 = true then (fs ρ m1).bind fun ds m2 => g d0 ds m2 else .stuck
def MtS (c : Ct) (E : XK) (r : V → List V → Hp → VK → Prop) (g : D → List D → Mem → Rs D) : Prop := ∀ (W : Wd) (m : Mem) (H : Hp) (x : V) (xs : List V) (dx : D) (ds : List D) (Q : VK), Ok c W m H → Rp c W dx x → Rps c W ds xs → Pst c E (Rp c) (g dx ds m) W Q → r x xs H Q
def TyS (c : Ct) (K : PySem.W.Frag) (T : String) (ck : Mem → D → Bool) : Prop := ∀ (W : Wd) (m : Mem) (H : Hp) (x : V) (d : D), Ok c W m H → Rp c W d x → ck m d = true → tyV K T x H
theorem ty_list {K : PySem.W.Frag} : TyS c K "list" isL := fun W m H x d o r h => by
  obtain ⟨xs, h⟩ := Option.isSome_iff_exists.mp h
  obtain ⟨a, vs, rfl, q, _⟩ := vwL_ok o h r
  exact .inl ⟨rfl, vs, SqL.of q⟩
theorem ty_str {K : PySem.W.Frag} : TyS c K "str" isS := fun W m H x d o r h => by
  cases d with
  | str s => simp only [Rp] at r; subst r; rfl
  | _ => cases h
section
variable {es : List Expr} {fo : Ev} {fs : EvG (List D)} {name : Str} {apos cpos : Pos} {T id : String} {r : V → List V → Hp → VK → Prop} {ck : Mem → D → Bool} {g : D → List D → Mem → Rs D} {o : Expr}
theorem pd_m (ap : PlainAttrs T) (sl : Slot T name id) (ty : typeOf (Value.builtin id) = pure (Value.type "method_descriptor")) (mt : MtR X id r) (tk : TyS c X.K T ck) (ms : MtS c E r g) (ho : PE X o (tD c E fo)) (ha : PA X (e :: es) (tDs c E fs))
    (h1 : attributeBase o name X.env (eval o X.env) = eval o X.env := by rfl)
    (h2 : ((((backTo cpos (starEach (e :: es) X.env)).all fun x => !x.fst) && (backToKw cpos (keywordEach [] X.env)).all fun x => x.fst.isSome) && decide (((e :: es).length + ([] : List Keyword).length + if ([] : List Keyword).isEmpty = true then 0 else 1) < 30)) = true := by rfl)
    (h3 : (apos.endLine == cpos.line) = true := by rfl) (h4 : starEach (e :: es) X.env = (false, eval e X.env) :: starEach es X.env := by rfl) (h5 : ((backTo cpos (starEach es X.env)).any fun x => x.fst) = false := by rfl) :
    PE X (.Call (.Attribute o name apos) (e :: es) [] cpos) (tD c E (dM ck g fo fs)) :=
  PE.weak (pe_bm ap sl ty mt ho ha h1 h2 h3 h4 h5) fun σ H Q ⟨W, ρ, m, o, s, q⟩ => by
    refine ⟨W, ρ, m, o, s, Pst.imp (Pst.bind q) fun x H1 ⟨W1, d, m1, l1, o1, r1, p1⟩ => ?_⟩
    split at p1
    · rename_i hck
      refine ⟨tk W1 m1 H1 x d o1 r1 hck, W1, ρ, m1, o1, s.mono l1, Pst.imp (Pst.bind p1) fun xs H2 ⟨W2, ds, m2, l2, o2, r2, p2⟩ => ?_⟩
      exact ms W2 m2 H2 x xs d ds Q o2 (r1.mono l2 d) r2 p2
    · exact p1.elim
theorem pd_m0 (ap : PlainAttrs T) (sl : Slot T name id) (ty : typeOf (Value.builtin id) = pure (Value.type "method_descriptor")) (mt : MtR X id r) (tk : TyS c X.K T ck) (ms : MtS c E r g) (ho : PE X o (tD c E fo))
    (h1 : attributeBase o name X.env (eval o X.env) = eval o X.env := by rfl) (h3 : (apos.endLine == cpos.line) = true := by rfl) :
    PE X (.Call (.Attribute o name apos) [] [] cpos) (tD c E (dM ck g fo dNil)) :=
  PE.weak (pe_bm0 ap sl ty mt ho h1 h3) fun σ H Q ⟨W, ρ, m, o, s, q⟩ => by
    refine ⟨W, ρ, m, o, s, Pst.imp (Pst.bind q) fun x H1 ⟨W1, d, m1, l1, o1, r1, p1⟩ => ?_⟩
    split at p1
    · rename_i hck
      exact ⟨tk W1 m1 H1 x d o1 r1 hck, ms W1 m1 H1 x [] d [] Q o1 r1 Rps.nil p1⟩
    · exact p1.elim
end
/-- a list that is changed: from its items and the arguments its new items and the answer -/
def gChg (h : List D → List D → Option (List D × D)) (d : D) (ds : List D) (m : Mem) : Rs D := match d with
  | .loc f n => match m.get f n with
    | some (.lst xs) => match h xs ds with
      | some (ys, z) => if D.lts (f + 1) ys = true ∧ lineOk ys.length = true then .ok z (m.put f n (.lst ys)) else .stuck
      | none => .stuck
    | _ => .stuck
  | _ => .stuck
theorem Ok.chg {W : Wd} {m : Mem} {H : Hp} (o : Ok c W m H) {f n : Nat} {xs ys : List D} {us : List V} {a : Addr} (hg : m.get f n = some (.lst xs)) (ha : W.ι f n = some a) (hl : D.lts (f + 1) ys = true) (r : Rps c W ys us) :
    Ok c W (m.put f n (.lst ys)) (upd H a (.lst us)) := o.write hg rfl ha rfl hl ⟨us, upd_same, r⟩
def hApp (xs ds : List D) : Option (List D × D) := match ds with
  | [d] => some (xs ++ [d], .non)
  | _ => none
def hRev (xs ds : List D) : Option (List D × D) := match ds with
  | [] => some (xs.reverse, .non)
  | _ => none
def hClr (_ ds : List D) : Option (List D × D) := match ds with
  | [] => some ([], .non)
  | _ => none
def hPop (xs ds : List D) : Option (List D × D) := match ds with
  | [] => match xs[xs.length - 1]? with
    | some x => some (xs.dropLast, x)
    | none => none
  | [.int i] => match ixN xs.length i with
    | some k => match xs[k]? with
      | some x => some (xs.eraseIdx k, x)
      | none => none
    | none => none
  | _ => none
theorem ms_app : MtS c E rAppend (gChg hApp) := fun W m H x us dx ds Q o rx rs p => by
  unfold gChg at p
  split at p
  · rename_i f n
    split at p
    · rename_i xs hg
      split at p
      · rename_i ys z hh
        split at p
        · rename_i hl
          simp only [Rp] at rx
          obtain ⟨a, rfl, ha⟩ := rx
          obtain ⟨b, e1, ⟨vs, e2, e3⟩, _⟩ := o.i _ _ _ hg rfl
          rw [ha] at e1; cases e1
          unfold hApp at hh
          split at hh
          · rename_i d
            cases hh
            obtain ⟨v, rfl, rv⟩ := rps1 rs
            have hz := lineOk_le hl.2
            rw [List.length_append, e3.length] at hz
            exact ⟨a, vs, v, rfl, rfl, e2, hz, p W _ .non (le.refl _) (o.chg hg ha hl.1 (e3.append (Rps.one rv))) (by simp [Rp])⟩
          · cases hh
        · exact p.elim
      · exact p.elim
    · exact p.elim
  · exact p.elim
theorem ms_rev : MtS c E rReverse (gChg hRev) := fun W m H x us dx ds Q o rx rs p => by
  unfold gChg at p
  split at p
  · rename_i f n
    split at p
    · rename_i xs hg
      split at p
      · rename_i ys z hh
        split at p
        · rename_i hl
          simp only [Rp] at rx
          obtain ⟨a, rfl, ha⟩ := rx
          obtain ⟨b, e1, ⟨vs, e2, e3⟩, _⟩ := o.i _ _ _ hg rfl
          rw [ha] at e1; cases e1
          unfold hRev at hh
          split at hh
          · cases hh
            simp only [Rps] at rs; subst rs
            exact ⟨a, vs, rfl, rfl, e2, p W _ .non (le.refl _) (o.chg hg ha hl.1 e3.reverse) (by simp [Rp])⟩
          · cases hh
        · exact p.elim
      · exact p.elim
    · exact p.elim
  · exact p.elim
theorem ms_clr : MtS c E rClear (gChg hClr) := fun W m H x us dx ds Q o rx rs p => by
  unfold gChg at p
  split at p
  · rename_i f n
    split at p
    · rename_i xs hg
      split at p
      · rename_i ys z hh
        split at p
        · rename_i hl
          simp only [Rp] at rx
          obtain ⟨a, rfl, ha⟩ := rx
          obtain ⟨b, e1, ⟨vs, e2, e3⟩, _⟩ := o.i _ _ _ hg rfl
          rw [ha] at e1; cases e1
          unfold hClr at hh
          split at hh
          · cases hh
            simp only [Rps] at rs; subst rs
            exact ⟨a, vs, rfl, rfl, e2, p W _ .non (le.refl _) (o.chg hg ha hl.1 Rps.nil) (by simp [Rp])⟩
          · cases hh
        · exact p.elim
      · exact p.elim
    · exact p.elim
  · exact p.elim
theorem Rps.dropLast {W : Wd} {xs : List D} {vs : List V} (r : Rps c W xs vs) : Rps c W xs.dropLast vs.dropLast := by
  rw [List.dropLast_eq_take, List.dropLast_eq_take, ← r.length]; exact r.take _
theorem Rps.eraseIdx {W : Wd} {xs : List D} {vs : List V} (r : Rps c W xs vs) (k : Nat) : Rps c W (xs.eraseIdx k) (vs.eraseIdx k) := by
  rw [List.eraseIdx_eq_take_drop_succ, List.eraseIdx_eq_take_drop_succ]; exact (r.take _).append (r.drop _)
def rPopAll : V → List V → Hp → VK → Prop := fun x vs H Q => rPop x vs H Q ∨ rPopAt x vs H Q
theorem mt_popAll : MtR X "list.pop" rPopAll := MtR.or mt_pop mt_popAt
theorem ms_pop : MtS c E rPopAll (gChg hPop) := fun W m H x us dx ds Q o rx rs p => by
  unfold gChg at p
  split at p
  · rename_i f n
    split at p
    · rename_i xs hg
      split at p
      · rename_i ys z hh
        split at p
        · rename_i hl
          simp only [Rp] at rx
          obtain ⟨a, rfl, ha⟩ := rx
          obtain ⟨b, e1, ⟨vs, e2, e3⟩, _⟩ := o.i _ _ _ hg rfl
          rw [ha] at e1; cases e1
          unfold hPop at hh
          split at hh
          · split at hh
            · rename_i y hy
              cases hh
              simp only [Rps] at rs; subst rs
              obtain ⟨v, h1, h2⟩ := e3.get hy
              rw [e3.length] at h1
              exact .inl ⟨a, vs, v, rfl, rfl, e2, h1, p W _ v (le.refl _) (o.chg hg ha hl.1 e3.dropLast) h2⟩
            · cases hh
          · rename_i i
            split at hh
            · rename_i k hk
              split at hh
              · rename_i y hy
                cases hh
                obtain ⟨v0, rfl, rv⟩ := rps1 rs
                simp only [Rp] at rv; subst rv
                obtain ⟨v, h1, h2⟩ := e3.get hy
                obtain ⟨q1, q2, q3, q4⟩ := ixN_seq hk
                have hz : xs.length ≤ sizeLine + 1 := by
                  have := lineOk_le hl.2
                  rw [List.length_eraseIdx] at this
                  split at this <;> omega
                rw [sizeLine_eq] at hz
                rw [e3.length] at q1
                exact .inr ⟨a, vs, i, k, v, rfl, rfl, e2, by omega, by omega, q1, h1, p W _ v (le.refl _) (o.chg hg ha hl.1 (e3.eraseIdx k)) h2⟩
              · cases hh
            · cases hh
          · cases hh
        · exact p.elim
      · exact p.elim
    · exact p.elim
  · exact p.elim
end
end LN
namespace LN
open PySem L2 PySem.Spec PyProof.Rows

/-! ### what a def makes and hands out to be changed -/
section
variable {c : Ct} {W : Wd} {m : Mem} {H : Hp} {n : Nat}
theorem Ok.kill (k : Ok c W m H) {f i : Nat} {o0 : MO} (h0 : m.get f i = some o0) : Ok c W (m.put f i .dead) H := by
  have gp := fun f' i' => Mem.get_put (o := .dead) h0 f' i'
  refine ⟨k.g, k.l, k.gl, fun f' i' o' h1 h2 => ?_, fun f1 i1 f2 i2 o1 o2 b h1 a1 h2 a2 q1 q2 => ?_, fun f' i' b h => ?_, fun f' i' o' h => ?_, k.ll⟩
  · rw [gp] at h1
    by_cases e : f' = f ∧ i' = i
    · rw [if_pos e] at h1; cases h1; cases h2
    · rw [if_neg e] at h1; exact k.i f' i' o' h1 h2
  · rw [gp] at h1 h2
    by_cases c1 : f1 = f ∧ i1 = i
    · rw [if_pos c1] at h1; cases h1; cases a1
    · by_cases c2 : f2 = f ∧ i2 = i
      · rw [if_pos c2] at h2; cases h2; cases a2
      · rw [if_neg c1] at h1; rw [if_neg c2] at h2
        exact k.inj _ _ _ _ _ _ _ h1 a1 h2 a2 q1 q2
  · rw [gp]
    by_cases e : f' = f ∧ i' = i
    · rw [if_pos e]; exact ⟨_, rfl⟩
    · rw [if_neg e]; exact k.rng _ _ _ h
  · rw [gp] at h
    by_cases e : f' = f ∧ i' = i
    · rw [if_pos e] at h; cases h; rfl
    · rw [if_neg e] at h; exact k.lt _ _ _ h
/-- an untracked place is looked away from -/
theorem Ok.away (k : Ok c W m H) {a : Addr} (hg : W.G a = none) (hl : W.L a = none) (ne : ∀ f i o, m.get f i = some o → o.alive = true → W.ι f i ≠ some a) : Ok c W m (rm H a) := by
  refine ⟨fun b o h => ?_, fun b o h => ?_, k.gl, fun f i o h1 h2 => ?_, k.inj, k.rng, k.lt, k.ll⟩
  · rw [rm_ne (ne_of_none h hg)]; exact k.g b o h
  · rw [rm_ne (ne_of_none h hl)]; exact k.l b o h
  · obtain ⟨b, e1, e2, e3, e4⟩ := k.i f i o h1 h2
    have nb : b ≠ a := by
      rintro rfl
      exact ne f i o h1 h2 e1
    exact ⟨b, e1, e2.mono (le.refl W) fun v h => by rw [rm_ne nb]; exact h, e3, e4⟩
theorem Ok.adopt (k : Ok c W m H) {a : Addr} {o : MO} {u : HO} (hm : m ≠ []) (hu : H a = some u) (hg : W.G a = none) (hl : W.L a = none) (ne : ∀ f i o, m.get f i = some o → o.alive = true → W.ι f i ≠ some a)
    (ol : o.lt m.length = true) (r : MoR c W H a o) (ou : o.lkd = false) : ∃ W', le W W' ∧ Ok c W' (m.new o) H ∧ Rp c W' m.nx (.ref a) := by
  have e : upd (rm H a) a u = H := by
    funext b
    by_cases e : b = a
    · subst e; rw [upd_same, hu]
    · rw [upd_ne e, rm_ne e]
  obtain ⟨W', l, o', r'⟩ := (k.away hg hl ne).alloc (p := a) (u := u) (o := o) hm rm_same ol (by rw [e]; exact r) ou
  rw [e] at o'
  exact ⟨W', l, o', r'⟩
end
def MO.map (h : D → D) : MO → MO
  | .lst xs => .lst (xs.map h)
  | .dk ks xs => .dk ks (xs.map h)
  | .dt ks xs => .dt ks (xs.map h)
  | .fk ks xs => .fk ks (xs.map h)
  | .ft ks xs => .ft ks (xs.map h)
  | .dead => .dead
theorem MoR.map {c : Ct} {W W' : Wd} {H : Hp} {a : Addr} {h : D → D} (k : ∀ d v, Rp c W d v → Rp c W' (h d) v) : ∀ {o : MO}, MoR c W H a o → MoR c W' H a (o.map h)
  | .lst xs, ⟨vs, q, r⟩ => ⟨vs, q, Rps.map k r⟩
  | .dk ks xs, ⟨vs, q, l, r⟩ => ⟨vs, q, l, Rps.map k r⟩
  | .dt ks xs, ⟨vs, q, l, r⟩ => ⟨vs, q, l, Rps.map k r⟩
  | .fk ks xs, ⟨ob, vs, q, l, r⟩ => ⟨ob, vs, q, l, Rps.map k r⟩
  | .ft ks xs, ⟨ob, vs, q, l, r⟩ => ⟨ob, vs, q, l, Rps.map k r⟩
  | .dead, _ => trivial
theorem MO.map_alive {h : D → D} : ∀ {o : MO}, (o.map h).alive = o.alive
  | .lst _ => rfl
  | .dk _ _ => rfl
  | .dt _ _ => rfl
  | .fk _ _ => rfl
  | .ft _ _ => rfl
  | .dead => rfl
theorem MO.map_lkd {h : D → D} : ∀ {o : MO}, (o.map h).lkd = o.lkd
  | .lst _ => rfl
  | .dk _ _ => rfl
  | .dt _ _ => rfl
  | .fk _ _ => rfl
  | .ft _ _ => rfl
  | .dead => rfl
/-- as lv; an own object that is handed out itself stays one that can be changed -/
def lvM (n : Nat) (R : Rs Fl) : Rs D := match R with
  | .ok (.rt (.loc f i)) m => if f = n then (match m.get f i with
      | some o => if (o.alive = true ∧ o.lkd = false) ∧ n ≠ 0 ∧ n ≤ m.length ∧ (o.map (fzl n (m.put f i .dead))).lt n = true then .ok (Mem.nx (m.take n)) (Mem.new (m.take n) (o.map (fzl n (m.put f i .dead)))) else .stuck
      | none => .stuck) else lv n R
  | R => lv n R
def fnM (np nl : Nat) (b : Bd) : Fn := fun ds m => if ds.length = np then lvM m.length (b (ds.map some ++ List.replicate (nl - np) none) (m ++ [[]])) else .stuck
theorem Mem.take_put {m : Mem} {n f i : Nat} {o : MO} (h : n ≤ f) : (List.take n (m.put f i o) : Mem) = List.take n m := by
  unfold Mem.put
  apply List.ext_getElem?
  intro j
  rw [List.getElem?_take, List.getElem?_take]
  split
  · rw [List.getElem?_modify]
    cases m[j]? with
    | none => rfl
    | some fr => show some (if f = j then _ else fr) = _; rw [if_neg (by omega)]
  · rfl
section
variable {c : Ct} {P : Program} {w : World} {mg : Str → Option Value} {base : Heap}
theorem lvM_ok {W W' : Wd} {m' : Mem} {H' : Hp} {E : XK} {Q : VK} {n f i : Nat} {v : V} {o : MO} (hf : f = n) (hg : m'.get f i = some o) (ha : o.alive = true) (hk : o.lkd = false) (h0 : n ≠ 0) (hn : n ≤ m'.length)
    (hl : (o.map (fzl n (m'.put f i .dead))).lt n = true) (lcut : ∀ {W2 : Wd}, le W W2 → le W (W2.cut n)) (l : le W W') (o' : Ok c W' m' H') (r : Rp c W' (.loc f i) v)
    (p : Pst c E (Rp c) (.ok (Mem.nx (m'.take n)) (Mem.new (m'.take n) (o.map (fzl n (m'.put f i .dead))))) W Q) : Q v H' := by
  subst hf
  simp only [Rp] at r
  obtain ⟨a, rfl, hi⟩ := r
  obtain ⟨b, e1, e2, e3, e4⟩ := o'.i _ _ _ hg ha
  rw [hi] at e1; cases e1
  obtain ⟨u, hu⟩ := e2.some ha
  have k := o'.kill hg
  have gk := fun f' i' => Mem.get_put (o := .dead) hg f' i'
  have na : ∀ (f' i' : Nat) (o1 : MO), (m'.put f i .dead).get f' i' = some o1 → o1.alive = true → W'.ι f' i' ≠ some a := fun f' i' o1 h1 h2 h3 => by
    rw [gk] at h1
    by_cases e : f' = f ∧ i' = i
    · rw [if_pos e] at h1; cases h1; cases h2
    · rw [if_neg e] at h1
      exact e (o'.inj _ _ _ _ _ _ _ h1 h2 hg ha h3 hi)
  have hG : gz W' (m'.put f i .dead) H' f a = none := gz_none e3 fun ⟨j, o1, h1, h2, h3⟩ => na f j o1 h1 h2.1 h3
  have oz := k.leaveZ f
  rw [Mem.take_put (Nat.le_refl f)] at oz
  have rz : MoR c { W' with G := gz W' (m'.put f i .dead) H' f } H' a (o.map (fzl f (m'.put f i .dead))) := e2.map fun d v r => Rp.fzl k d r
  have rc := rz.cut hl
  have nz : ∀ (f' i' : Nat) (o1 : MO), Mem.get (m'.take f) f' i' = some o1 → o1.alive = true → (Wd.cut { W' with G := gz W' (m'.put f i .dead) H' f } f).ι f' i' ≠ some a := fun f' i' o1 h1 h2 h3 => by
    rw [Mem.get_take] at h1
    split at h1
    · rename_i hlt
      have h3 : (if f' < f then W'.ι f' i' else none) = some a := h3
      rw [if_pos hlt] at h3
      refine na f' i' o1 ?_ h2 h3
      rw [gk, if_neg (by omega)]; exact h1
    · cases h1
  have hlen : (m'.take f).length = f := by rw [List.length_take]; omega
  obtain ⟨W2, l2, o2, r2⟩ := oz.adopt (a := a) (u := u) (o := o.map (fzl f (m'.put f i .dead))) (by intro z; rw [z] at hlen; exact h0 hlen.symm) hu hG (e4.un hk) nz (by rw [hlen]; exact hl) rc (by rw [MO.map_lkd]; exact hk)
  exact p W2 H' _ ((lcut (l.trans le_gz)).trans l2) o2 r2
theorem spM_len {np nl : Nat} {b : Bd} {n : Nat} (hn : n = np) : ∀ vs H Q E, spD c (fnM np nl b) vs H Q E → vs.length = n := fun vs H Q E ⟨W, ds, m, o, r, p⟩ => by
  unfold fnM at p
  split at p
  · rw [← r.length, hn]; assumption
  · exact p.elim
theorem bodyM_at {np nl : Nat} {b : Bd} {N : List Str} (hnl : N.length = nl) {vs : List V} {H : Hp} {Q : VK} {E : XK} (h : spD c (fnM np nl b) vs H Q E) : tS c E b { nx := fun _ H' => Q .non H', rt := Q } (L2.start N vs) H := by
  obtain ⟨W, ds, m, o, r, p⟩ := h
  unfold fnM at p
  split at p
  · rename_i hd
    refine ⟨W, _, m ++ [[]], o.enter, Sl.start r hd hnl, ?_⟩
    have lcut : ∀ {W' : Wd}, le W W' → le W (W'.cut m.length) := fun {W'} l => ⟨l.g, l.l, fun f i a h => by
      have hf : f < m.length := by
        obtain ⟨u, hu⟩ := o.rng f i a h
        unfold Mem.get at hu
        cases e : m[f]? with
        | none => rw [e] at hu; cases hu
        | some fr => exact (List.getElem?_eq_some_iff.mp e).1
      simp only [Wd.cut, hf, if_true]
      exact l.i f i a h⟩
    have old : ∀ {R : Rs Fl}, Pst c E (Rp c) (lv m.length R) W Q → PstS c E R W { nx := fun _ H' => Q .non H', rt := Q } := fun {R} p => by
      cases R with
      | stuck => exact p.elim
      | err e m' =>
        unfold lv at p
        dsimp only at p
        split at p
        · rename_i hl
          exact fun W' H' cl dx l o' ⟨x1, dd, xs, x2, x3, x4⟩ => p (W'.cut m.length) H' cl dx (lcut l) (o'.leave _) ⟨x1, dd, xs, x2, x3, Rps.cut _ hl x4⟩
        · exact p.elim
      | ok fl m' =>
        cases fl with
        | nx ρ => exact fun W' H' σ l o' s' => p (W'.cut m.length) H' .non (lcut l) (o'.leave _) (by simp [Rp])
        | bk ρ => exact p.elim
        | ct ρ => exact p.elim
        | rt d =>
          unfold lv at p
          dsimp only at p
          split at p
          · rename_i hl
            exact fun W' H' v l o' r' => p (Wd.cut { W' with G := gz W' m' H' m.length } m.length) H' v (lcut (l.trans le_gz)) (o'.leaveZ _) (Rp.cut _ hl (Rp.fzl o' d r'))
          · exact p.elim
    unfold lvM at p
    split at p
    · rename_i f i m' he
      rw [he]
      split at p
      · rename_i hf
        split at p
        · rename_i o1 hg
          split at p
          · rename_i hc
            exact fun W' H' v l o' r' => lvM_ok hf hg hc.1.1 hc.1.2 hc.2.1 hc.2.2.1 hc.2.2.2 lcut l o' r' p
          · exact p.elim
        · exact p.elim
      · rw [he] at p; exact old p
    · exact old p
  · exact p.elim
theorem fnOkM {x qual : Str} {st : Stmt} {f : Addr} {fd : FuncData} {N ps : List Str} {k np nl : Nat} {b : Bd} (F : Fun c.K x qual st f fd) (S : FnScope N ps (defScope st)) (hnp : ps.length = np) (hnl : N.length = nl)
    (hbody : ∀ (cdv : Value) (A : Around) (outer : List Env) (s : Shared) (H : Hp) (E : XK), Room k (A.deeper (envOfC qual (defScope st) s.heap.objs.size f cdv)) →
      PSs (cxOf (L2.CX P w) P w c.K mg base N qual (defScope st) f cdv A outer s H E) (defBody st) (tS c E b)) : FnOk P w c.K mg base (L2.CX P w) (k + 1) f fd ps (spD c (fnM np nl b)) :=
  F.okX S (spM_len hnp) fun cdv A outer s H vs Q E hr h => ⟨_, hbody cdv A outer s H E hr, bodyM_at hnl h⟩
end
end LN
namespace LN
open PySem L2 PySem.Spec PyProof.Rows

/-! ### dicts, their keys ints and texts or tuples of these -/
section
variable {c : Ct} {W : Wd} {m : Mem} {H : Hp}
/-- a tuple that stands in the heap is seen -/
theorem Ok.see (k : Ok c W m H) {a : Addr} {vs : List V} (h : H a = some (.tup vs)) : ∃ W', le W W' ∧ Ok c W' m H ∧ W'.G a = some (.tup vs) := by
  cases e : W.G a with
  | some o =>
    have := k.g a o e
    rw [h] at this; cases this
    exact ⟨W, le.refl _, k, e⟩
  | none =>
    have hl : W.L a = none := by
      cases e2 : W.L a with
      | none => rfl
      | some o =>
        rcases k.ll a o e2 with ⟨xs, rfl⟩ | ⟨ob, u, rfl⟩ | rfl
        · rw [k.l a _ e2] at h; cases h
        · rw [k.l a _ e2] at h; cases h
        · rw [k.l a _ e2] at h; cases h
    have na : ∀ {f i b o'}, m.get f i = some o' → o'.alive = true → W.ι f i = some b → b ≠ a := fun {f i b o'} h1 h2 h3 => by
      obtain ⟨b', e1, e2, _⟩ := k.i f i o' h1 h2
      rw [h3] at e1; cases e1
      rintro rfl
      cases o' with
      | lst xs => obtain ⟨vs, q, r⟩ := e2; rw [h] at q; cases q
      | dk ks xs => obtain ⟨vs, q, r⟩ := e2; rw [h] at q; cases q
      | dt ks xs => obtain ⟨vs, q, r⟩ := e2; rw [h] at q; cases q
      | fk ks xs => obtain ⟨ob, vs, q, r⟩ := e2; rw [h] at q; cases q
      | ft ks xs => obtain ⟨ob, vs, q, r⟩ := e2; rw [h] at q; cases q
      | dead => cases h2
    have L : le W { W with G := upd W.G a (.tup vs) } := ⟨fun b o q => by show upd W.G a _ b = _; rw [upd_ne (ne_of_none q e)]; exact q, fun _ _ h => h, fun _ _ _ h => h⟩
    refine ⟨_, L, ⟨fun b o q => ?_, k.l, fun b o q => ?_, fun f i o h1 h2 => ?_, k.inj, k.rng, k.lt, k.ll⟩, upd_same⟩
    · have q : upd W.G a (.tup vs) b = some o := q
      by_cases eb : b = a
      · subst eb; rw [upd_same] at q; cases q; exact h
      · rw [upd_ne eb] at q; exact k.g b o q
    · show upd W.G a _ b = none
      rw [upd_ne (ne_of_none q hl)]; exact k.gl b o q
    · obtain ⟨b, q1, q2, q3, q4⟩ := k.i f i o h1 h2
      refine ⟨b, q1, q2.mono L fun _ h => h, ?_, q4⟩
      show upd W.G a _ b = none
      rw [upd_ne (na h1 h2 q1)]; exact q3
end
def keyDs : List D → Option (List L2.Key)
  | [] => some []
  | d :: r => match keyD d, keyDs r with
    | some k, some ks => some (k :: ks)
    | _, _ => none
def keyT : D → Option (List L2.Key)
  | .tup xs => keyDs xs
  | _ => none
def dKeyT (k : List L2.Key) : D := .tup (k.map dKey)
theorem keyDs_ok {c : Ct} {W : Wd} : ∀ {ds : List D} {ks : List L2.Key} {vs : List V}, keyDs ds = some ks → Rps c W ds vs → vs = ks.map kV
  | [], ks, vs, h, r => by simp only [keyDs, Option.some.injEq, Rps] at h r; subst h; subst r; rfl
  | d :: ds, ks, vs, h, r => by
    simp only [keyDs] at h
    split at h
    · rename_i k ks' h1 h2
      cases h
      simp only [Rps] at r
      obtain ⟨v, r', rfl, r1, r2⟩ := r
      rw [keyD_ok h1 r1, keyDs_ok h2 r2]; rfl
    · cases h
/-- k is none of the module's written tuples -/
def CkOk (c : Ct) (ck : List L2.Key → Bool) : Prop := ∀ k, ck k = true → k.map kV ∉ c.cs
theorem keyT_ok {c : Ct} {W : Wd} {d : D} {k : List L2.Key} {v : V} (h : keyT d = some k) (r : Rp c W d v) : ∃ a, v = .ref a ∧ SqTk c.K c.cs W.G a (k.map kV) := by
  cases d with
  | tup xs =>
    simp only [Rp] at r
    obtain ⟨a, vs, e, q, r⟩ := r
    rw [keyDs_ok h r] at q
    exact ⟨a, e, q⟩
  | _ => cases h
def vwKA (m : Mem) : D → Option (List L2.Key × List D)
  | .dk ks xs => some (ks, xs)
  | .loc f i => match m.get f i with
    | some (.dk ks xs) => some (ks, xs)
    | some (.fk ks xs) => some (ks, xs)
    | _ => none
  | _ => none
def vwTA (m : Mem) : D → Option (List (List L2.Key) × List D)
  | .dt ks xs => some (ks, xs)
  | .loc f i => match m.get f i with
    | some (.dt ks xs) => some (ks, xs)
    | some (.ft ks xs) => some (ks, xs)
    | _ => none
  | _ => none
theorem vwKA_ok {c : Ct} {W : Wd} {m : Mem} {H : Hp} (o : Ok c W m H) {d : D} {v : V} {ks : List L2.Key} {xs : List D} (h : vwKA m d = some (ks, xs)) (r : Rp c W d v) : ∃ a vs, v = .ref a ∧ Rd H a (.dK (ks.zip vs)) ∧ ks.length = vs.length ∧ Rps c W xs vs := by
  cases d with
  | dk js ys =>
    simp only [vwKA, Option.some.injEq, Prod.mk.injEq] at h
    obtain ⟨rfl, rfl⟩ := h
    simp only [Rp] at r
    obtain ⟨a, vs, e, q, l, r⟩ := r
    exact ⟨a, vs, e, .inl (o.g _ _ q), l, r⟩
  | loc f i =>
    simp only [vwKA] at h
    simp only [Rp] at r
    obtain ⟨a, e, q⟩ := r
    split at h
    · rename_i js ys hg
      simp only [Option.some.injEq, Prod.mk.injEq] at h
      obtain ⟨rfl, rfl⟩ := h
      obtain ⟨b, e1, ⟨vs, e2, e3, e4⟩, _⟩ := o.i _ _ _ hg rfl
      rw [q] at e1; cases e1
      exact ⟨a, vs, e, .inl e2, e3, e4⟩
    · rename_i js ys hg
      simp only [Option.some.injEq, Prod.mk.injEq] at h
      obtain ⟨rfl, rfl⟩ := h
      obtain ⟨b, e1, ⟨ob, vs, e2, e3, e4⟩, _⟩ := o.i _ _ _ hg rfl
      rw [q] at e1; cases e1
      exact ⟨a, vs, e, .inr ⟨_, e2⟩, e3, e4⟩
    · cases h
  | _ => cases h
theorem vwTA_ok {c : Ct} {W : Wd} {m : Mem} {H : Hp} (o : Ok c W m H) {d : D} {v : V} {ks : List (List L2.Key)} {xs : List D} (h : vwTA m d = some (ks, xs)) (r : Rp c W d v) : ∃ a vs, v = .ref a ∧ Rd H a (.dT (ks.zip vs)) ∧ ks.length = vs.length ∧ Rps c W xs vs := by
  cases d with
  | dt js ys =>
    simp only [vwTA, Option.some.injEq, Prod.mk.injEq] at h
    obtain ⟨rfl, rfl⟩ := h
    simp only [Rp] at r
    obtain ⟨a, vs, e, q, l, r⟩ := r
    exact ⟨a, vs, e, .inl (o.g _ _ q), l, r⟩
  | loc f i =>
    simp only [vwTA] at h
    simp only [Rp] at r
    obtain ⟨a, e, q⟩ := r
    split at h
    · rename_i js ys hg
      simp only [Option.some.injEq, Prod.mk.injEq] at h
      obtain ⟨rfl, rfl⟩ := h
      obtain ⟨b, e1, ⟨vs, e2, e3, e4⟩, _⟩ := o.i _ _ _ hg rfl
      rw [q] at e1; cases e1
      exact ⟨a, vs, e, .inl e2, e3, e4⟩
    · rename_i js ys hg
      simp only [Option.some.injEq, Prod.mk.injEq] at h
      obtain ⟨rfl, rfl⟩ := h
      obtain ⟨b, e1, ⟨ob, vs, e2, e3, e4⟩, _⟩ := o.i _ _ _ hg rfl
      rw [q] at e1; cases e1
      exact ⟨a, vs, e, .inr ⟨_, e2⟩, e3, e4⟩
    · cases h
  | _ => cases h
/-- what a dict holds at a key: none: no dict, or no such key's kind -/
def dlk (ck : List L2.Key → Bool) (m : Mem) (d i : D) : Option (Option D) := match vwKA m d with
  | some (ks, xs) => match keyD i with
    | some k => some (lookD ks xs k)
    | none => none
  | none => match vwTA m d with
    | some (ks, xs) => match keyT i with
      | some k => if ck k = true then some (lookD ks xs k) else none
      | none => none
    | none => none
theorem dlk_ok {c : Ct} {ck : List L2.Key → Bool} (hck : CkOk c ck) {W : Wd} {m : Mem} {H : Hp} (o : Ok c W m H) {d i : D} {x y : V} {q : Option D} (h : dlk ck m d i = some q) (rx : Rp c W d x) (ry : Rp c W i y) :
    ∃ a ov, x = .ref a ∧ IsD H a ∧ DGet H a y ov ∧ ov.isSome = q.isSome ∧ ∀ z, q = some z → ∃ v, ov = some v ∧ Rp c W z v := by
  unfold dlk at h
  split at h
  · rename_i ks xs hv
    split at h
    · rename_i k hk
      cases h
      obtain ⟨a, vs, rfl, q1, l, r⟩ := vwKA_ok o hv rx
      have hl := lookD_ok k r l
      have ey := keyD_ok hk ry
      refine ⟨a, valV (ks.zip vs) k, rfl, .inl ⟨_, q1⟩, .inl ⟨_, k, q1, ey, rfl⟩, ?_, fun z hz => ?_⟩
      · cases e : lookD ks xs k with
        | none => rw [hl.2 e]; rfl
        | some z => obtain ⟨v, h1, _⟩ := hl.1 z e; rw [h1]; rfl
      · obtain ⟨v, h1, h2⟩ := hl.1 z hz
        exact ⟨v, h1, h2⟩
    · cases h
  · split at h
    · rename_i ks xs hv
      split at h
      · rename_i k hk
        split at h
        · rename_i hc
          cases h
          obtain ⟨a, vs, rfl, q1, l, r⟩ := vwTA_ok o hv rx
          have hl := lookD_ok k r l
          obtain ⟨b, rfl, hb⟩ := keyT_ok hk ry
          have hb := o.g _ _ (hb.trk (hck k hc))
          refine ⟨a, valV (ks.zip vs) k, rfl, .inr ⟨_, q1⟩, .inr ⟨_, k, b, q1, rfl, hb, rfl⟩, ?_, fun z hz => ?_⟩
          · cases e : lookD ks xs k with
            | none => rw [hl.2 e]; rfl
            | some z => obtain ⟨v, h1, _⟩ := hl.1 z e; rw [h1]; rfl
          · obtain ⟨v, h1, h2⟩ := hl.1 z hz
            exact ⟨v, h1, h2⟩
        · cases h
      · cases h
    · cases h
def gIxT (ck : List L2.Key → Bool) (d i : D) (m : Mem) : Rs D := match dlk ck m d i with
  | some (some x) => .ok x m
  | some none => .stuck
  | none => gIx d i m
def gInT (ck : List L2.Key → Bool) (neg : Bool) (y d : D) (m : Mem) : Rs D := match dlk ck m d y with
  | some r => .ok (.bl (neg ^^ r.isSome)) m
  | none => .stuck
def isDict (m : Mem) (d : D) : Bool := (vwKA m d).isSome || (vwTA m d).isSome
def dGet2 (ck : List L2.Key → Bool) (fo fi fx : Ev) : Ev := fun ρ m => (fo ρ m).bind fun d m1 => if isDict m1 d = true then (fi ρ m1).bind fun i m2 => (fx ρ m2).bind fun x m3 => match dlk ck m3 d i with
  | some r => .ok (r.getD x) m3
  | none => .stuck else .stuck
def dDictT : Ev := fun _ m => newObj (.dt [] []) m
theorem isDict_ok {c : Ct} {W : Wd} {m : Mem} {H : Hp} (o : Ok c W m H) {d : D} {v : V} (h : isDict m d = true) (r : Rp c W d v) : ∃ a, v = .ref a ∧ IsD H a := by
  unfold isDict at h
  rw [Bool.or_eq_true] at h
  rcases h with h | h
  · obtain ⟨⟨ks, xs⟩, h⟩ := Option.isSome_iff_exists.mp h
    obtain ⟨a, vs, rfl, q1, _⟩ := vwKA_ok o h r
    exact ⟨a, rfl, .inl ⟨_, q1⟩⟩
  · obtain ⟨⟨ks, xs⟩, h⟩ := Option.isSome_iff_exists.mp h
    obtain ⟨a, vs, rfl, q1, _⟩ := vwTA_ok o h r
    exact ⟨a, rfl, .inr ⟨_, q1⟩⟩
section
variable {X : Cx} {c : Ct} {E : XK} {pos p2 apos cpos : Pos} {a b e e2 : Expr} {fa fb fx : Ev} {fin : List D → Mem → Rs D} {ck : List L2.Key → Bool}
theorem pd_dictT : PE X (.Dict [] [] pos) (tD c E dDictT) :=
  PE.weak pe_dnewT fun σ H Q ⟨W, ρ, m, o, s, p⟩ => fun a ha => by
    unfold dDictT newObj at p
    split at p
    · rename_i h
      obtain ⟨W', l, o', r'⟩ := o.alloc (o := .dt [] []) (u := .dT []) (fun z => h.1 (by rw [z]; rfl)) ha h.2 ⟨[], upd_same, rfl, Rps.nil⟩
      exact p _ _ _ l o' r'
    · exact p.elim
theorem os_ixT (hck : CkOk c ck) (hK : c.K = X.K := by rfl) : OpS c E (rIxAll X.K) (gIxT ck) := fun W m H x y dx dy Q o rx ry p => by
  unfold gIxT at p
  split at p
  · rename_i z h
    obtain ⟨a, ov, ex, _, g, _, h1⟩ := dlk_ok hck o h rx ry
    obtain ⟨v, rfl, rv⟩ := h1 z rfl
    exact .inl ⟨a, v, ex, g, p W H v (le.refl _) o rv⟩
  · exact p.elim
  · exact .inr (os_ix (X := X) hK W m H x y dx dy Q o rx ry p)
/-- a[b], over lists, tuples, texts and dicts -/
theorem pd_ixT (hck : CkOk c ck) (hu : X.A.units + 1 < cLine) (ha : PE X a (tD c E fa)) (hb : PE X b (tD c E fb)) (hK : c.K = X.K := by rfl) (hp : PlainIx b := by exact fun _ _ => rfl) : PE X (.Subscript a b pos) (tD c E (dOp (gIxT ck) fa fb)) :=
  PE.weak (pe_ix (ix_all hu) ha hb hp) (tOp_of (os_ixT (X := X) hck hK))
theorem os_inT (hck : CkOk c ck) {neg : Bool} : OpS c E (rInKD neg) (gInT ck neg) := fun W m H y x dy dx Q o ry rx p => by
  unfold gInT at p
  split at p
  · rename_i r h
    obtain ⟨a, ov, ex, _, g, h0, _⟩ := dlk_ok hck o h rx ry
    rw [← h0] at p
    exact ⟨a, ov, ex, g, p W H _ (le.refl _) o (by simp [Rp])⟩
  · exact p.elim
theorem pd_inT (hck : CkOk c ck) (hu : X.A.units + 1 < cLine) (ha : PE X a (tD c E fa)) (hb : PE X b (tD c E fb)) (hm : behindInMarks .In b = false := by rfl) : PE X (.Compare a [.In] [b] pos) (tD c E (dOp (gInT ck false) fa fb)) :=
  PE.weak (pe_cmp (pc_din hu ha hb) hm) fun σ H Q h => by
    have := tOp_of (os_inT (c := c) (E := E) hck (neg := false)) (fa := fa) (fb := fb) σ H Q h
    simpa [tOp, tDIn, rInKD] using this
theorem ptd_inT (hck : CkOk c ck) (hu : X.A.units + 1 < cLine) (ha : PE X a (tD c E fa)) (hb : PE X b (tD c E fb)) (hm : behindInMarks .In b = false := by rfl) : PT X (.Compare a [.In] [b] pos) (tT c E (dTst (dOp (gInT ck false) fa fb))) :=
  PT.weak (pt_cmp (pc_din hu ha hb) hm) (tTest_of fun σ H Q h => by
    have := tOp_of (os_inT (c := c) (E := E) hck (neg := false)) (fa := fa) (fb := fb) σ H Q h
    simpa [tOp, tDIn, rInKD] using this)
theorem pd_ninT (hck : CkOk c ck) (hu : X.A.units + 1 < cLine) (ha : PE X a (tD c E fa)) (hb : PE X b (tD c E fb)) (hm : behindInMarks .NotIn b = false := by rfl) : PE X (.Compare a [.NotIn] [b] pos) (tD c E (dOp (gInT ck true) fa fb)) :=
  PE.weak (pe_cmp (pc_dnotin hu ha hb) hm) fun σ H Q h => by
    have := tOp_of (os_inT (c := c) (E := E) hck (neg := true)) (fa := fa) (fb := fb) σ H Q h
    simpa [tOp, tDNotIn, rInKD] using this
theorem ptd_ninT (hck : CkOk c ck) (hu : X.A.units + 1 < cLine) (ha : PE X a (tD c E fa)) (hb : PE X b (tD c E fb)) (hm : behindInMarks .NotIn b = false := by rfl) : PT X (.Compare a [.NotIn] [b] pos) (tT c E (dTst (dOp (gInT ck true) fa fb))) :=
  PT.weak (pt_cmp (pc_dnotin hu ha hb) hm) (tTest_of fun σ H Q h => by
    have := tOp_of (os_inT (c := c) (E := E) hck (neg := true)) (fa := fa) (fb := fb) σ H Q h
    simpa [tOp, tDNotIn, rInKD] using this)
theorem pd_get2 (hck : CkOk c ck) (hu : X.A.units + 1 < cLine) (ha : PE X a (tD c E fa)) (hb : PE X e (tD c E fb)) (hx : PE X e2 (tD c E fx)) (m : M2 X a "get" apos e e2 cpos) :
    PE X (.Call (.Attribute a "get" apos) [e, e2] [] cpos) (tD c E (dGet2 ck fa fb fx)) :=
  PE.weak (pe_dget2 hu ha hb hx m) fun σ H Q ⟨W, ρ, m, o, s, q⟩ => by
    refine ⟨W, ρ, m, o, s, Pst.imp (Pst.bind q) fun x H1 ⟨W1, d, m1, l1, o1, r1, p1⟩ => ?_⟩
    split at p1
    · rename_i hd
      obtain ⟨a, ex, hD⟩ := isDict_ok o1 hd r1
      refine ⟨a, ex, hD, W1, ρ, m1, o1, s.mono l1, Pst.imp (Pst.bind p1) fun y H2 ⟨W2, d2, m2, l2, o2, r2, p2⟩ => ?_⟩
      refine ⟨W2, ρ, m2, o2, (s.mono l1).mono l2, Pst.imp (Pst.bind p2) fun z H3 ⟨W3, d3, m3, l3, o3, r3, p3⟩ => ?_⟩
      split at p3
      · rename_i r h
        obtain ⟨a', ov, ex', _, g, h0, h1⟩ := dlk_ok hck o3 h ((r1.mono l2 d).mono l3 d) (r2.mono l3 d2)
        rw [ex] at ex'; cases ex'
        refine ⟨ov, g, p3 W3 H3 _ (le.refl _) o3 ?_⟩
        cases r with
        | none =>
          have : ov = none := by cases ov with
            | none => rfl
            | some _ => cases h0
          subst this
          exact r3
        | some w =>
          obtain ⟨v, rfl, rv⟩ := h1 w rfl
          exact rv
      · exact p3.elim
    · exact p1.elim
end

/-! ### stores -/
def gSetT (ck : List L2.Key → Bool) (d i z : D) (m : Mem) : Rs Unit := match d with
  | .loc f n => if D.lt (f + 1) z = true then (match m.get f n with
    | some (.lst xs) => match i with
      | .int k => match ixN xs.length k with
        | some j => .ok () (m.put f n (.lst (xs.set j z)))
        | none => .stuck
      | _ => .stuck
    | some (.dk ks xs) => match keyD i with
      | some k => if ks.Nodup ∧ ks.length < 16777216 then .ok () (m.put f n (.dk (putD ks xs k z).1 (putD ks xs k z).2)) else .stuck
      | none => .stuck
    | some (.dt ks xs) => match keyT i with
      | some k => if (ks.Nodup ∧ ks.length < 16777216) ∧ ck k = true then .ok () (m.put f n (.dt (putD ks xs k z).1 (putD ks xs k z).2)) else .stuck
      | none => .stuck
    | _ => .stuck) else .stuck
  | _ => .stuck
section
variable {X : Cx} {c : Ct} {E : XK} {ck : List L2.Key → Bool}
theorem ss_setT (hck : CkOk c ck) : SetS c E rSetAll (gSetT ck) := fun W m H x y z dx dy dz Q o rx ry rz p => by
  unfold gSetT at p
  split at p
  · rename_i f n
    split at p
    · rename_i hl
      simp only [Rp] at rx
      obtain ⟨a, rfl, ha⟩ := rx
      split at p
      · rename_i xs hg
        split at p
        · rename_i k
          simp only [Rp] at ry; subst ry
          split at p
          · rename_i j hj
            obtain ⟨b, e1, ⟨vs, e2, e3⟩, _⟩ := o.i _ _ _ hg rfl
            rw [ha] at e1; cases e1
            refine .inl ⟨a, vs, k, j, rfl, rfl, e2, by rw [← e3.length]; exact hj, ?_⟩
            exact p W _ () (le.refl _) (o.write (u := .lst (vs.set j z)) hg rfl ha rfl (D.lts_set (o.lt _ _ _ hg) hl) ⟨_, upd_same, e3.set rz j⟩) trivial
          · exact p.elim
        · exact p.elim
      · rename_i ks xs hg
        split at p
        · rename_i k hk
          split at p
          · rename_i hn
            obtain ⟨b, e1, ⟨vs, e2, e3, e4⟩, _⟩ := o.i _ _ _ hg rfl
            rw [ha] at e1; cases e1
            obtain ⟨vs', h1, h2, h3⟩ := putD_ok k hn.1 e4 e3 rz
            refine .inr ⟨a, _, rfl, .inl ⟨_, k, e2, keyD_ok hk ry, ?_, rfl⟩, ?_⟩
            · rw [List.length_zip, ← e3, Nat.min_self]
              have := hn.2
              rw [sizeLine_eq]; omega
            · rw [h1]
              exact p W _ () (le.refl _) (o.write (u := .dK ((putD ks xs k dz).1.zip vs')) hg rfl ha rfl (D.lts_put hl (o.lt _ _ _ hg)) ⟨vs', upd_same, h2, h3⟩) trivial
          · exact p.elim
        · exact p.elim
      · rename_i ks xs hg
        split at p
        · rename_i k hk
          split at p
          · rename_i hn
            obtain ⟨b, e1, ⟨vs, e2, e3, e4⟩, _⟩ := o.i _ _ _ hg rfl
            rw [ha] at e1; cases e1
            obtain ⟨vs', h1, h2, h3⟩ := putD_ok k hn.1.1 e4 e3 rz
            obtain ⟨b, rfl, hb⟩ := keyT_ok hk ry
            have hb := o.g _ _ (hb.trk (hck k hn.2))
            refine .inr ⟨a, _, rfl, .inr ⟨_, k, b, e2, rfl, hb, ?_, rfl⟩, ?_⟩
            · rw [List.length_zip, ← e3, Nat.min_self]
              have := hn.1.2
              rw [sizeLine_eq]; omega
            · rw [h1]
              exact p W _ () (le.refl _) (o.write (u := .dT ((putD ks xs k dz).1.zip vs')) hg rfl ha rfl (D.lts_put hl (o.lt _ _ _ hg)) ⟨vs', upd_same, h2, h3⟩) trivial
          · exact p.elim
        · exact p.elim
      · exact p.elim
    · exact p.elim
  · exact p.elim
end
end LN
/-! hand rules: the view of a dict's keys -/
namespace L2
open PySem PySem.Spec PyProof.Rows
def keysV (p d : Addr) : HO := .ext fun h => PySem.W.KdlKeysView h p d
theorem keysV_ok {P : Program} {w : World} {H : Hp} {h : Heap} {p d : Addr} (e : h.get? p = some { cls := .type "dict_keys", data := .fields #[.ref d] }) : ObjOk P w H h p (keysV p d) :=
  ⟨⟨_, e, rfl, rfl⟩, ⟨_, e⟩, fun h1 h2 x k => let ⟨o, ho, r⟩ := x; ⟨o, k o ho, r⟩⟩
theorem rawD {P : Program} {w : World} {H : Hp} {h : Heap} {d : Addr} {kvs : List (Key × V)} (hok : HOk P w H h) (hd : Rd H d (.dK kvs)) :
    (d == sysModules) = false ∧ ∃ es ep, h.DictRaw d es ep ∧ es.size = kvs.length ∧ kvs.length ≤ sizeLine ∧ ∀ i (hi : i < es.size) k v, kvs[i]? = some (k, v) → RelV (kV k) es[i].key := by
  obtain ⟨z, hs, vs, kv, dd⟩ := dk_rd hok hd
  obtain ⟨es, ep, hr, hsz, he⟩ := dd.raw
  have hl : kvs.length = vs.length := Paired.length kv
  refine ⟨hs, es, ep, hr, by omega, z, fun i hi k v hk => ?_⟩
  have e1 : (kvs.map (·.1))[i]? = some k := by rw [List.getElem?_map, hk]; rfl
  rw [KV.keys kv, List.getElem?_map] at e1
  cases e2 : vs[i]? with
  | none => rw [e2] at e1; cases e1
  | some p =>
    rw [e2] at e1
    obtain ⟨k', v'⟩ := p
    have e3 : k' = k := Option.some.inj e1
    subst e3
    exact keyIs_rel (he i hi _ _ e2).1
section
variable {X : Cx}
theorem mt_keysV : MtR X "dict.keys" (fun x xs H Q => ∃ a, x = .ref a ∧ xs = [] ∧ IsD H a ∧ ∀ p, H p = none → Q (.ref p) (upd H p (keysV p a))) := by
  intro pins s σ H x xs v us Q I rx rxs h
  obtain ⟨a, rfl, rfl, hd, q⟩ := h
  cases rx
  cases rxs
  have hraw : (a == sysModules) = false ∧ ∃ es ep, s.heap.DictRaw a es ep := by
    rcases hd with ⟨kvs, e⟩ | ⟨kvs, e⟩
    · obtain ⟨hs, es, ep, hr, _⟩ := rawD I.hok e
      exact ⟨hs, es, ep, hr⟩
    · obtain ⟨z, hs, xs, kt, o, es, ep, h1, h2, h3, _⟩ := dt_rd I.hok e
      exact ⟨hs, es, ep, o, h1, h2, h3⟩
  obtain ⟨hs, es, ep, hr⟩ := hraw
  have hf : H s.heap.objs.size = none := I.hok.fresh (Nat.le_refl _)
  exact call_meetsIn PySem.F.slot_dict_keys hr.typeIs PySem.F.entry_dict_keys (PySem.F.args_dict_keys_1 _) (meets_dict_keys_raw a hs) ⟨⟨es, ep, hr⟩,
    ⟨.ref s.heap.objs.size, upd H s.heap.objs.size (keysV s.heap.objs.size a), I.laid (t' := s.toks) (fun b u e => Heap.get?_push_of_some _ e) (Nat.le_refl _) (keysV_ok (Heap.get?_push_size _ rfl)), rfl, q _ hf⟩⟩
def rListKV : List V → Hp → VK → Prop := fun xs H Q => ∃ p d, xs = [.ref p] ∧ H p = some (keysV p d) ∧
  ((∃ kvs, Rd H d (.dK kvs) ∧ ∀ q, H q = none → Q (.ref q) (upd H q (.lst (kvs.map fun kv => kV kv.1)))) ∨
   ∃ kvs, Rd H d (.dT kvs) ∧ ∀ q bs, H q = none → IsKeys H kvs bs → Q (.ref q) (upd H q (.lst (bs.map V.ref))))
theorem call_list_kv (hc : X.calm = true) : CallR X (.type "list") rListKV := by
  intro pins s σ H xs us Q I r h
  obtain ⟨p, d, rfl, hp, h⟩ := h
  obtain ⟨u, rfl, rx⟩ := r.one
  cases rx
  have hv : PySem.W.KdlKeysView s.heap p d := (show ObjOk X.prog X.w H s.heap p (keysV p d) from I.hok p _ hp).1
  rcases h with ⟨kvs, hd, q⟩ | ⟨kvs, hd, q⟩
  · obtain ⟨hs, es, ep, hr, hsz, hz, hk⟩ := rawD I.hok hd
    refine PySem.W.kdl_call (PySem.KdlSrc.rawKeys (r := p) (d := d) (es := es) (ep := ep)) (I.ok.hd hc) ⟨hv, hr⟩ (by omega) fun h' tk acc' c' kp e it => ?_
    refine ⟨.ref s.heap.objs.size, _, I.laid (t' := tk) (o := .lst (kvs.map fun kv => kV kv.1)) kp (Nat.le_refl _) ⟨by rw [List.length_map]; exact hz, acc'.toList, c', ?_, by rw [Array.toArray_toList]; exact e⟩, rfl, q _ (I.hok.fresh (Nat.le_refl _))⟩
    have el : acc'.toList.length = acc'.size := by simp
    refine vals_of_at (by rw [List.length_map, el, it.1, hsz]) fun j x w h1 h2 => ?_
    obtain ⟨hi, hw⟩ := it.2 j w (by rw [← Array.getElem?_toList]; exact h2)
    rw [List.getElem?_map] at h1
    cases ek : kvs[j]? with
    | none => rw [ek] at h1; cases h1
    | some kv =>
      rw [ek] at h1
      cases h1
      rw [hw]
      exact hk j hi kv.1 kv.2 ek
  · obtain ⟨z, hs, ks, pr, o, es, ep, ho, hx, hdt, he, hn⟩ := (show ObjOk X.prog X.w H s.heap d (.dT kvs) from hd.ok I.hok)
    have l1 : es.size = ks.length := size_of_entries he
    have l2 : kvs.length = ks.length := Paired.length pr
    refine PySem.W.kdl_call (PySem.KdlSrc.rawKeys (r := p) (d := d) (es := es) (ep := ep)) (I.ok.hd hc) ⟨hv, ⟨o, ho, hx, hdt⟩⟩ (by omega) fun h' tk acc' c' kp e it => ?_
    have ea : acc'.toList = ks.map fun x => Value.ref x.2.1 := by
      have hl : acc'.toList.length = ks.length := by rw [Array.length_toList, it.1]; exact l1
      apply List.ext_getElem?
      intro j
      rw [List.getElem?_map]
      cases hj : acc'.toList[j]? with
      | none =>
        have h1 := List.getElem?_eq_none_iff.mp hj
        rw [List.getElem?_eq_none (by omega)]
        rfl
      | some v =>
        obtain ⟨hi, hv⟩ := it.2 j v (by rw [← Array.getElem?_toList]; exact hj)
        have qe := entry_at he j
        rw [Array.getElem?_eq_getElem hi] at qe
        cases hb : ks[j]? with
        | none =>
          rw [hb] at qe
          exact nomatch (show some es[j] = none from qe)
        | some b =>
          rw [hb] at qe
          have e2 : es[j] = entryOfKey (tupleKind (mixKind X.prog X.w)) b := Option.some.inj qe
          rw [hv, e2]
          rfl
    have eb : acc'.toList = (ks.map fun x => x.2.1).map Value.ref := by rw [ea, List.map_map]; rfl
    have rv : Vals ((ks.map fun x => x.2.1).map V.ref) acc'.toList := by rw [eb]; exact vals_refs _
    have hz : ((ks.map fun x => x.2.1).map V.ref).length ≤ sizeLine := by rw [List.length_map, List.length_map]; omega
    refine ⟨.ref s.heap.objs.size, _, I.laid (t' := tk) (o := .lst ((ks.map fun x => x.2.1).map V.ref)) kp (Nat.le_refl _) ?_, rfl, q _ _ (I.hok.fresh (Nat.le_refl _)) (isKeys_of pr)⟩
    exact ⟨hz, acc'.toList, c', rv, by rw [Array.toArray_toList]; exact e⟩
end
end L2
/-! hand rules: zip over lists and tuples, mixed (printed by gz.py) -/
namespace L2
open PySem PySem.Spec PyProof.Rows
def Sqk (k : Bool) (K : PySem.W.Frag) (H : Hp) (a : Addr) (xs : List V) : Prop := match k with
  | true => SqL K H a xs
  | false => SqT K H a xs
def Itek (k : Bool) (h : Heap) (it a : Addr) (i : Nat) : Prop := match k with
  | true => h.IsListIter it a i
  | false => h.IsTupleIter it a i
def Seqk (k : Bool) (h : Heap) (a : Addr) (its : Array Value) : Prop := match k with
  | true => h.IsList a its
  | false => h.IsTuple a its
theorem Itek.obj {k : Bool} {h : Heap} {it a : Addr} {i : Nat} (x : Itek k h it a i) : ∃ o, h.get? it = some o ∧ ∀ v, o.data ≠ .cell v := by
  cases k with
  | true => obtain ⟨o, e, _, d⟩ := x; exact ⟨o, e, fun v q => by rw [d] at q; cases q⟩
  | false => obtain ⟨o, e, _, d⟩ := x; exact ⟨o, e, fun v q => by rw [d] at q; cases q⟩
theorem Itek.at {k : Bool} {h h' : Heap} {it a : Addr} {i : Nat} (x : Itek k h it a i) (e : ∀ o, h.get? it = some o → h'.get? it = some o) : Itek k h' it a i := by
  cases k with
  | true => exact Heap.IsListIter.at x e
  | false => exact Heap.IsTupleIter.at x e
def begO (k : Bool) (a : Addr) : Obj := match k with
  | true => { cls := .type "list_iterator", data := .fields #[.ref a, .int 0 0] }
  | false => { cls := .type "tuple_iterator", data := .fields #[.ref a, .int 0 0] }
theorem begk {k : Bool} (a : Addr) (its : Array Value) : Begins (.ref a) (begO k a) fun h => Seqk k h a its := by
  cases k with
  | true => exact begins_list a its
  | false => exact begins_tuple a its
theorem itek_new {k : Bool} {h : Heap} {it a : Addr} (e : h.get? it = some (begO k a)) : Itek k h it a 0 := by
  cases k with
  | true => exact ⟨_, e, rfl, rfl⟩
  | false => exact ⟨_, e, rfl, rfl⟩
theorem sqk_lt {k : Bool} {h : Heap} {a : Addr} {its : Array Value} (p : Seqk k h a its) : a < h.objs.size := by
  cases k with
  | true => obtain ⟨o, e, _⟩ := p; exact Heap.lt_size e
  | false => obtain ⟨o, e, _⟩ := p; exact Heap.lt_size e
theorem drawk {prog : Program} {w : World} {A : Around} {k : Bool} (hh : A.handled = none) {it a : Addr} (hne : a ≠ it) (its : Array Value) :
    Draws prog w A.in1 it [it, a] its.size (fun i v => its[i]? = some v) (fun i h => Itek k h it a i ∧ Seqk k h a its) := by
  cases k with
  | true => exact Draws.list (A := A.in1) (show A.in1.handled = none from hh) it a hne its
  | false => exact Draws.tuple (A := A.in1) (show A.in1.handled = none from hh) it a hne its
section
variable {X : Cx} {pins : List (Addr × Obj)} {σ : St} {H : Hp} {s : Shared}
theorem sqk_at {k : Bool} {a : Addr} {xs : List V} (I : Inv X pins σ H s) (h : Sqk k X.K H a xs) : ∃ its : List Value, Vals xs its ∧ Seqk k s.heap a its.toArray := by
  cases k with
  | true => obtain ⟨its, r, p, _⟩ := I.list h; exact ⟨its, r, p.isList⟩
  | false => obtain ⟨its, r, p, _⟩ := I.tuple h; exact ⟨its, r, show s.heap.IsTuple a its.toArray from p⟩
theorem sqk_inj {k : Bool} {a : Addr} {xs ys : List V} (I : Inv X pins σ H s) (h : Sqk k X.K H a xs) (h' : Sqk k X.K H a ys) : xs = ys := by
  cases k with
  | true => exact I.list_inj h h'
  | false => exact I.tuple_inj h h'
end
theorem lt_of_at {its : List Value} {i : Nat} {u : Value} (h : its[i]? = some u) : i < its.toArray.size := by
  have := (List.getElem?_eq_some_iff.mp h).1
  simpa using this
theorem at_eq {its : List Value} {i : Nat} {u y : Value} (e : its.toArray[i]? = some y) (h : its[i]? = some u) : y = u := by
  have e : its[i]? = some y := by simpa using e
  rw [h] at e; cases e; rfl
theorem vals3' {x y z : V} {us : List Value} (r : Vals [x, y, z] us) : ∃ u1 u2 u3, us = [u1, u2, u3] ∧ RelV x u1 ∧ RelV y u2 ∧ RelV z u3 := by
  cases r with
  | cons a r => cases r with
    | cons b r => cases r with
      | cons c r => cases r; exact ⟨_, _, _, rfl, a, b, c⟩

def Itk2 (K : PySem.W.Frag) (k1 : Bool) (a : Addr) (k2 : Bool) (b : Addr) : It :=
  ⟨fun i H => ∃ (xs1 : List V) (xs2 : List V) (x1 : V) (x2 : V), Sqk k1 K H a xs1 ∧ Sqk k2 K H b xs2 ∧ xs1[i]? = some x1 ∧ xs2[i]? = some x2,
    fun i H v H' => ∃ T x1 x2, v = .ref T ∧ H T = none ∧ H' = upd H T (.tup [x1, x2]) ∧ (∀ xs, Sqk k1 K H a xs → xs[i]? = some x1) ∧ (∀ xs, Sqk k2 K H b xs → xs[i]? = some x2),
    fun i H => ∃ (xs1 : List V) (xs2 : List V), Sqk k1 K H a xs1 ∧ Sqk k2 K H b xs2 ∧ i ≤ xs1.length ∧ i ≤ xs2.length ∧ (i = xs1.length ∨ i = xs2.length)⟩
theorem turn_k2 {P : Program} {w : World} {K : PySem.W.Frag} {elts : List Expr} {kk : Nat} {tpos : Pos} {k1 : Bool} {k2 : Bool} {a b z TI TO i1 i2 : Addr} (S : ZipSep2 z TI TO i1 i2 [i1, a] [i2, b]) (n1 : a ≠ i1) (n2 : b ≠ i2) (t1 : TI ≠ i1) (t2 : TI ≠ i2) :
    Turn P w K (.Tuple elts kk tpos) (Itk2 K k1 a k2 b) [z, TI, TO, i1, i2] z (fun i h => IsZip h z TI TO .none ∧ IsTupOf2 h TI (.ref i1) (.ref i2) ∧ (∃ a1 a2, IsTupOf2 h TO a1 a2) ∧ Itek k1 h i1 a i ∧ Itek k2 h i2 b i) where
  mem := by simp
  obj := fun i h st c hc => by
    obtain ⟨hz, hTI, ⟨a1, a2, hTO⟩, h1, h2⟩ := st
    have e' : c = z ∨ c = TI ∨ c = TO ∨ c = i1 ∨ c = i2 := by simpa using hc
    rcases e' with q | q | q | q | q
    · rw [q]; exact ⟨_, hz, fun v q => nomatch q⟩
    · rw [q]; exact ⟨_, hTI, fun v q => nomatch q⟩
    · rw [q]; exact ⟨_, hTO, fun v q => nomatch q⟩
    · rw [q]; exact h1.obj
    · rw [q]; exact h2.obj
  keep := fun i h h' st k => by
    obtain ⟨hz, hTI, ⟨a1, a2, hTO⟩, h1, h2⟩ := st
    exact ⟨k z (by simp) _ hz, k TI (by simp) _ hTI, ⟨a1, a2, k TO (by simp) _ hTO⟩, h1.at fun o q => k i1 (by simp) o q, h2.at fun o q => k i2 (by simp) o q⟩
  item := by
    intro X hP hw hK hc i pins s σ H E I hf st hg
    subst hP hw hK
    obtain ⟨hz, hTI, ⟨a1, a2, hTO⟩, h1, h2⟩ := st
    obtain ⟨xs1, xs2, x1, x2, hq1, hq2, hx1, hx2⟩ := hg
    obtain ⟨its1, rv1, p1⟩ := sqk_at I hq1
    obtain ⟨u1, hu1, ru1⟩ := rv1.get hx1
    obtain ⟨its2, rv2, p2⟩ := sqk_at I hq2
    obtain ⟨u2, hu2, ru2⟩ := rv2.get hx2
    have hzl : z < s.heap.objs.size := Heap.lt_size hz
    refine wpAny_pyNext_zipD2_item S (drawk (I.ok.hd hc) n1 its1.toArray) (drawk (I.ok.hd hc) n2 its2.toArray) hz hTI hTO ⟨h1, p1⟩ ⟨h2, p2⟩ (lt_of_at hu1) (lt_of_at hu2) fun y1 y2 h' tk e1 e2 z' TO' s1 s2 hT hsz hk => ?_
    have e1 : y1 = u1 := at_eq e1 hu1
    subst e1
    have e2 : y2 = u2 := at_eq e2 hu2
    subst e2
    refine ⟨_, rfl, wpAny_letOwnedTupleGo_zip (s := { s with heap := h', toks := tk }) z' fun h'' z'' sb => ?_⟩
    have hT2 : h''.get? s.heap.objs.size = some { cls := .type "tuple", data := .seq #[y1, y2] } := (sb.2 _ (Nat.ne_of_gt hzl)).trans hT
    have new : ObjOk X.prog X.w (upd H s.heap.objs.size (.tup [x1, x2])) h'' s.heap.objs.size (.tup [x1, x2]) :=
      ⟨by show 2 ≤ sizeLine; decide, [y1, y2], .cons ru1 (.cons ru2 .nil), ⟨_, hT2, rfl, _, rfl⟩⟩
    have I1 : Inv X pins σ (upd H s.heap.objs.size (.tup [x1, x2])) { s with heap := h'', toks := tk } :=
      I.turnedNew (t' := tk) (ch := [z, TI, TO, i1, i2]) (fun c o hb q => (sb.2 c (fun q' => hb (by simp [q']))).trans (hk c o (fun q' => hb (by simp [q'])) (fun q' => hb (by simp [q'])) (fun q' => hb (by simp [q'])) (fun q' => hb (by simp [q'])) q)) hf (Nat.le_refl _) new
    refine ⟨.ref s.heap.objs.size, _, I1, rfl, ⟨_, x1, x2, rfl, I.hok.fresh (Nat.le_refl _), rfl, fun l hl => by rw [sqk_inj I hl hq1]; exact hx1, fun l hl => by rw [sqk_inj I hl hq2]; exact hx2⟩, ⟨z'', ?_, ⟨y1, y2, ?_⟩, ?_, ?_⟩, fun c hcm => ?_⟩
    · exact (sb.2 _ S.TIz).trans (hk _ _ S.TIz S.TITO t1 t2 hTI)
    · exact (sb.2 _ S.TOz).trans TO'
    · exact s1.1.at fun o q => (sb.2 _ S.zi1.symm).trans q
    · exact s2.1.at fun o q => (sb.2 _ S.zi2.symm).trans q
    · have hlt : c < s.heap.objs.size := by
        have e' : c = z ∨ c = TI ∨ c = TO ∨ c = i1 ∨ c = i2 := by simpa using hcm
        rcases e' with q | q | q | q | q
        · rw [q]; exact hzl
        · rw [q]; exact Heap.lt_size hTI
        · rw [q]; exact Heap.lt_size hTO
        · rw [q]; obtain ⟨_, e1, _⟩ := h1.obj; exact Heap.lt_size e1
        · rw [q]; obtain ⟨_, e1, _⟩ := h2.obj; exact Heap.lt_size e1
      rw [upd_ne (Nat.ne_of_lt hlt)]
      exact (hf c hcm).1
  done := by
    intro X hP hw hK hc i pins s σ H E I hf st hg
    subst hP hw hK
    obtain ⟨hz, hTI, ⟨a1, a2, hTO⟩, h1, h2⟩ := st
    obtain ⟨xs1, xs2, hq1, hq2, hl1, hl2, hend⟩ := hg
    obtain ⟨its1, rv1, p1⟩ := sqk_at I hq1
    have l1 : its1.toArray.size = xs1.length := by rw [rv1.length]; simp
    obtain ⟨its2, rv2, p2⟩ := sqk_at I hq2
    have l2 : its2.toArray.size = xs2.length := by rw [rv2.length]; simp
    exact wpAny_pyNext_zipD2_end S (drawk (I.ok.hd hc) n1 its1.toArray) (drawk (I.ok.hd hc) n2 its2.toArray) hz hTI hTO ⟨h1, p1⟩ ⟨h2, p2⟩ (by omega) (by omega) (by omega) fun h' tk hk => ⟨rfl, I.turnedL (t' := tk) (ch := [z, TI, TO, i1, i2]) (fun c o hb q =>
      hk c o (fun q' => hb (by simp [q'])) (fun q' => hb (by simp [q'])) (fun q' => hb (by simp [q'])) (fun q' => hb (by simp [q'])) q) hf⟩
  self := fun A i s Q E st h => wpAny_pyIter_zip st.1 h
def iZipK2 (K : PySem.W.Frag) (ta : TA) : TI := fun σ H R => ta σ H fun vs H1 => ∃ k1 a xs1 k2 b xs2, vs = [.ref a, .ref b] ∧ Sqk k1 K H1 a xs1 ∧ Sqk k2 K H1 b xs2 ∧ R (Itk2 K k1 a k2 b) H1
theorem pi_zipK2 {X : Cx} {e e2 : Expr} {ta : TA} {p pos tpos : Pos} {elts : List Expr} {kk : Nat} (hg : Gl X "zip") (hm : X.mg "zip" = none) (ha : PA X [e, e2] ta)
    (hs : starEach [e, e2] X.env = (false, eval e X.env) :: starEach [e2] X.env := by rfl) (hpl : (backTo pos (starEach [e2] X.env)).any (·.1) = false := by rfl) :
    PI X (.Tuple elts kk tpos) (.Call (.Name "zip" p) [e, e2] [] pos) (iZipK2 X.K ta) := by
  refine ⟨fun pins s σ H R I h => ?_⟩
  refine Call_ (ld_blt I hg hm PyProof.Rows.boot_zip (PyProof.Rows.callWith_type1 (thn (ha.run pos pins s σ H _ I h) fun us s1 ⟨vs, H1, I1, r1, q1⟩ => ?_) hs hpl))
  obtain ⟨k1, a, xs1, k2, b, xs2, ex, hq1, hq2, q⟩ := q1
  subst ex
  obtain ⟨v1, v2, rfl, r1, r2⟩ := vals2 r1
  cases r1
  cases r2
  obtain ⟨its1, rv1, p1⟩ := sqk_at I1 hq1
  obtain ⟨its2, rv2, p2⟩ := sqk_at I1 hq2
  refine zip_begins2 (begk a its1.toArray) (begk b its2.toArray) p1 p2 fun h' hz hTI hTO g1 g2 hsz hk => wpAny_pyIter_zip hz ?_
  have I2 : Inv X pins σ H1 { s1 with heap := h' } := I1.kept (t' := s1.toks) hk
  have fr : ∀ c, c ∈ [s1.heap.objs.size + 4, s1.heap.objs.size + 2, s1.heap.objs.size + 3, s1.heap.objs.size, s1.heap.objs.size + 1] → FpOk X pins H1 c := fun c hcm => by
    have e' : c = s1.heap.objs.size + 4 ∨ c = s1.heap.objs.size + 2 ∨ c = s1.heap.objs.size + 3 ∨ c = s1.heap.objs.size ∨ c = s1.heap.objs.size + 1 := by simpa using hcm
    have hle : s1.heap.objs.size ≤ c := by
      rcases e' with z | z | z | z | z
      all_goals rw [z]
      all_goals first | exact Nat.le_add_right _ _ | exact Nat.le_refl _
    exact I1.fpOk hle (I1.hok.fresh hle)
  exact ⟨s1.heap.objs.size + 4, [s1.heap.objs.size + 4, s1.heap.objs.size + 2, s1.heap.objs.size + 3, s1.heap.objs.size, s1.heap.objs.size + 1], _, _, H1, rfl, I2, turn_k2 (zip_sep2 (fun b hb => by rw [List.mem_singleton.mp hb]; exact sqk_lt p1) (fun b hb => by rw [List.mem_singleton.mp hb]; exact sqk_lt p2)) (Nat.ne_of_lt (sqk_lt p1)) (Nat.ne_of_lt (Nat.lt_of_lt_of_le (sqk_lt p2) (Nat.le_add_right _ _))) (show ((s1.heap.objs.size + 2 : Nat) ≠ s1.heap.objs.size + 0) by omega) (show ((s1.heap.objs.size + 2 : Nat) ≠ s1.heap.objs.size + 1) by omega), ⟨hz, hTI, ⟨_, _, hTO⟩, itek_new g1, itek_new g2⟩, fr, q⟩
def Itk3 (K : PySem.W.Frag) (k1 : Bool) (a : Addr) (k2 : Bool) (b : Addr) (k3 : Bool) (c : Addr) : It :=
  ⟨fun i H => ∃ (xs1 : List V) (xs2 : List V) (xs3 : List V) (x1 : V) (x2 : V) (x3 : V), Sqk k1 K H a xs1 ∧ Sqk k2 K H b xs2 ∧ Sqk k3 K H c xs3 ∧ xs1[i]? = some x1 ∧ xs2[i]? = some x2 ∧ xs3[i]? = some x3,
    fun i H v H' => ∃ T x1 x2 x3, v = .ref T ∧ H T = none ∧ H' = upd H T (.tup [x1, x2, x3]) ∧ (∀ xs, Sqk k1 K H a xs → xs[i]? = some x1) ∧ (∀ xs, Sqk k2 K H b xs → xs[i]? = some x2) ∧ (∀ xs, Sqk k3 K H c xs → xs[i]? = some x3),
    fun i H => ∃ (xs1 : List V) (xs2 : List V) (xs3 : List V), Sqk k1 K H a xs1 ∧ Sqk k2 K H b xs2 ∧ Sqk k3 K H c xs3 ∧ i ≤ xs1.length ∧ i ≤ xs2.length ∧ i ≤ xs3.length ∧ (i = xs1.length ∨ i = xs2.length ∨ i = xs3.length)⟩
theorem turn_k3 {P : Program} {w : World} {K : PySem.W.Frag} {elts : List Expr} {kk : Nat} {tpos : Pos} {k1 : Bool} {k2 : Bool} {k3 : Bool} {a b c z TI TO i1 i2 i3 : Addr} (S : ZipSep3 z TI TO i1 i2 i3 [i1, a] [i2, b] [i3, c]) (n1 : a ≠ i1) (n2 : b ≠ i2) (n3 : c ≠ i3) (t1 : TI ≠ i1) (t2 : TI ≠ i2) (t3 : TI ≠ i3) :
    Turn P w K (.Tuple elts kk tpos) (Itk3 K k1 a k2 b k3 c) [z, TI, TO, i1, i2, i3] z (fun i h => IsZip h z TI TO .none ∧ IsTupOf3 h TI (.ref i1) (.ref i2) (.ref i3) ∧ (∃ a1 a2 a3, IsTupOf3 h TO a1 a2 a3) ∧ Itek k1 h i1 a i ∧ Itek k2 h i2 b i ∧ Itek k3 h i3 c i) where
  mem := by simp
  obj := fun i h st c hc => by
    obtain ⟨hz, hTI, ⟨a1, a2, a3, hTO⟩, h1, h2, h3⟩ := st
    have e' : c = z ∨ c = TI ∨ c = TO ∨ c = i1 ∨ c = i2 ∨ c = i3 := by simpa using hc
    rcases e' with q | q | q | q | q | q
    · rw [q]; exact ⟨_, hz, fun v q => nomatch q⟩
    · rw [q]; exact ⟨_, hTI, fun v q => nomatch q⟩
    · rw [q]; exact ⟨_, hTO, fun v q => nomatch q⟩
    · rw [q]; exact h1.obj
    · rw [q]; exact h2.obj
    · rw [q]; exact h3.obj
  keep := fun i h h' st k => by
    obtain ⟨hz, hTI, ⟨a1, a2, a3, hTO⟩, h1, h2, h3⟩ := st
    exact ⟨k z (by simp) _ hz, k TI (by simp) _ hTI, ⟨a1, a2, a3, k TO (by simp) _ hTO⟩, h1.at fun o q => k i1 (by simp) o q, h2.at fun o q => k i2 (by simp) o q, h3.at fun o q => k i3 (by simp) o q⟩
  item := by
    intro X hP hw hK hc i pins s σ H E I hf st hg
    subst hP hw hK
    obtain ⟨hz, hTI, ⟨a1, a2, a3, hTO⟩, h1, h2, h3⟩ := st
    obtain ⟨xs1, xs2, xs3, x1, x2, x3, hq1, hq2, hq3, hx1, hx2, hx3⟩ := hg
    obtain ⟨its1, rv1, p1⟩ := sqk_at I hq1
    obtain ⟨u1, hu1, ru1⟩ := rv1.get hx1
    obtain ⟨its2, rv2, p2⟩ := sqk_at I hq2
    obtain ⟨u2, hu2, ru2⟩ := rv2.get hx2
    obtain ⟨its3, rv3, p3⟩ := sqk_at I hq3
    obtain ⟨u3, hu3, ru3⟩ := rv3.get hx3
    have hzl : z < s.heap.objs.size := Heap.lt_size hz
    refine wpAny_pyNext_zipD3_item S (drawk (I.ok.hd hc) n1 its1.toArray) (drawk (I.ok.hd hc) n2 its2.toArray) (drawk (I.ok.hd hc) n3 its3.toArray) hz hTI hTO ⟨h1, p1⟩ ⟨h2, p2⟩ ⟨h3, p3⟩ (lt_of_at hu1) (lt_of_at hu2) (lt_of_at hu3) fun y1 y2 y3 h' tk e1 e2 e3 z' TO' s1 s2 s3 hT hsz hk => ?_
    have e1 : y1 = u1 := at_eq e1 hu1
    subst e1
    have e2 : y2 = u2 := at_eq e2 hu2
    subst e2
    have e3 : y3 = u3 := at_eq e3 hu3
    subst e3
    refine ⟨_, rfl, wpAny_letOwnedTupleGo_zip (s := { s with heap := h', toks := tk }) z' fun h'' z'' sb => ?_⟩
    have hT2 : h''.get? s.heap.objs.size = some { cls := .type "tuple", data := .seq #[y1, y2, y3] } := (sb.2 _ (Nat.ne_of_gt hzl)).trans hT
    have new : ObjOk X.prog X.w (upd H s.heap.objs.size (.tup [x1, x2, x3])) h'' s.heap.objs.size (.tup [x1, x2, x3]) :=
      ⟨by show 3 ≤ sizeLine; decide, [y1, y2, y3], .cons ru1 (.cons ru2 (.cons ru3 .nil)), ⟨_, hT2, rfl, _, rfl⟩⟩
    have I1 : Inv X pins σ (upd H s.heap.objs.size (.tup [x1, x2, x3])) { s with heap := h'', toks := tk } :=
      I.turnedNew (t' := tk) (ch := [z, TI, TO, i1, i2, i3]) (fun c o hb q => (sb.2 c (fun q' => hb (by simp [q']))).trans (hk c o (fun q' => hb (by simp [q'])) (fun q' => hb (by simp [q'])) (fun q' => hb (by simp [q'])) (fun q' => hb (by simp [q'])) (fun q' => hb (by simp [q'])) q)) hf (Nat.le_refl _) new
    refine ⟨.ref s.heap.objs.size, _, I1, rfl, ⟨_, x1, x2, x3, rfl, I.hok.fresh (Nat.le_refl _), rfl, fun l hl => by rw [sqk_inj I hl hq1]; exact hx1, fun l hl => by rw [sqk_inj I hl hq2]; exact hx2, fun l hl => by rw [sqk_inj I hl hq3]; exact hx3⟩, ⟨z'', ?_, ⟨y1, y2, y3, ?_⟩, ?_, ?_, ?_⟩, fun c hcm => ?_⟩
    · exact (sb.2 _ S.TIz).trans (hk _ _ S.TIz S.TITO t1 t2 t3 hTI)
    · exact (sb.2 _ S.TOz).trans TO'
    · exact s1.1.at fun o q => (sb.2 _ S.zi1.symm).trans q
    · exact s2.1.at fun o q => (sb.2 _ S.zi2.symm).trans q
    · exact s3.1.at fun o q => (sb.2 _ S.zi3.symm).trans q
    · have hlt : c < s.heap.objs.size := by
        have e' : c = z ∨ c = TI ∨ c = TO ∨ c = i1 ∨ c = i2 ∨ c = i3 := by simpa using hcm
        rcases e' with q | q | q | q | q | q
        · rw [q]; exact hzl
        · rw [q]; exact Heap.lt_size hTI
        · rw [q]; exact Heap.lt_size hTO
        · rw [q]; obtain ⟨_, e1, _⟩ := h1.obj; exact Heap.lt_size e1
        · rw [q]; obtain ⟨_, e1, _⟩ := h2.obj; exact Heap.lt_size e1
        · rw [q]; obtain ⟨_, e1, _⟩ := h3.obj; exact Heap.lt_size e1
      rw [upd_ne (Nat.ne_of_lt hlt)]
      exact (hf c hcm).1
  done := by
    intro X hP hw hK hc i pins s σ H E I hf st hg
    subst hP hw hK
    obtain ⟨hz, hTI, ⟨a1, a2, a3, hTO⟩, h1, h2, h3⟩ := st
    obtain ⟨xs1, xs2, xs3, hq1, hq2, hq3, hl1, hl2, hl3, hend⟩ := hg
    obtain ⟨its1, rv1, p1⟩ := sqk_at I hq1
    have l1 : its1.toArray.size = xs1.length := by rw [rv1.length]; simp
    obtain ⟨its2, rv2, p2⟩ := sqk_at I hq2
    have l2 : its2.toArray.size = xs2.length := by rw [rv2.length]; simp
    obtain ⟨its3, rv3, p3⟩ := sqk_at I hq3
    have l3 : its3.toArray.size = xs3.length := by rw [rv3.length]; simp
    exact wpAny_pyNext_zipD3_end S (drawk (I.ok.hd hc) n1 its1.toArray) (drawk (I.ok.hd hc) n2 its2.toArray) (drawk (I.ok.hd hc) n3 its3.toArray) hz hTI hTO ⟨h1, p1⟩ ⟨h2, p2⟩ ⟨h3, p3⟩ (by omega) (by omega) (by omega) (by omega) fun h' tk hk => ⟨rfl, I.turnedL (t' := tk) (ch := [z, TI, TO, i1, i2, i3]) (fun c o hb q =>
      hk c o (fun q' => hb (by simp [q'])) (fun q' => hb (by simp [q'])) (fun q' => hb (by simp [q'])) (fun q' => hb (by simp [q'])) (fun q' => hb (by simp [q'])) q) hf⟩
  self := fun A i s Q E st h => wpAny_pyIter_zip st.1 h
def iZipK3 (K : PySem.W.Frag) (ta : TA) : TI := fun σ H R => ta σ H fun vs H1 => ∃ k1 a xs1 k2 b xs2 k3 c xs3, vs = [.ref a, .ref b, .ref c] ∧ Sqk k1 K H1 a xs1 ∧ Sqk k2 K H1 b xs2 ∧ Sqk k3 K H1 c xs3 ∧ R (Itk3 K k1 a k2 b k3 c) H1
theorem pi_zipK3 {X : Cx} {e e2 e3 : Expr} {ta : TA} {p pos tpos : Pos} {elts : List Expr} {kk : Nat} (hg : Gl X "zip") (hm : X.mg "zip" = none) (ha : PA X [e, e2, e3] ta)
    (hs : starEach [e, e2, e3] X.env = (false, eval e X.env) :: starEach [e2, e3] X.env := by rfl) (hpl : (backTo pos (starEach [e2, e3] X.env)).any (·.1) = false := by rfl) :
    PI X (.Tuple elts kk tpos) (.Call (.Name "zip" p) [e, e2, e3] [] pos) (iZipK3 X.K ta) := by
  refine ⟨fun pins s σ H R I h => ?_⟩
  refine Call_ (ld_blt I hg hm PyProof.Rows.boot_zip (PyProof.Rows.callWith_type1 (thn (ha.run pos pins s σ H _ I h) fun us s1 ⟨vs, H1, I1, r1, q1⟩ => ?_) hs hpl))
  obtain ⟨k1, a, xs1, k2, b, xs2, k3, c, xs3, ex, hq1, hq2, hq3, q⟩ := q1
  subst ex
  obtain ⟨v1, v2, v3, rfl, r1, r2, r3⟩ := vals3' r1
  cases r1
  cases r2
  cases r3
  obtain ⟨its1, rv1, p1⟩ := sqk_at I1 hq1
  obtain ⟨its2, rv2, p2⟩ := sqk_at I1 hq2
  obtain ⟨its3, rv3, p3⟩ := sqk_at I1 hq3
  refine zip_begins3 (begk a its1.toArray) (begk b its2.toArray) (begk c its3.toArray) p1 p2 p3 fun h' hz hTI hTO g1 g2 g3 hsz hk => wpAny_pyIter_zip hz ?_
  have I2 : Inv X pins σ H1 { s1 with heap := h' } := I1.kept (t' := s1.toks) hk
  have fr : ∀ c, c ∈ [s1.heap.objs.size + 5, s1.heap.objs.size + 3, s1.heap.objs.size + 4, s1.heap.objs.size, s1.heap.objs.size + 1, s1.heap.objs.size + 2] → FpOk X pins H1 c := fun c hcm => by
    have e' : c = s1.heap.objs.size + 5 ∨ c = s1.heap.objs.size + 3 ∨ c = s1.heap.objs.size + 4 ∨ c = s1.heap.objs.size ∨ c = s1.heap.objs.size + 1 ∨ c = s1.heap.objs.size + 2 := by simpa using hcm
    have hle : s1.heap.objs.size ≤ c := by
      rcases e' with z | z | z | z | z | z
      all_goals rw [z]
      all_goals first | exact Nat.le_add_right _ _ | exact Nat.le_refl _
    exact I1.fpOk hle (I1.hok.fresh hle)
  exact ⟨s1.heap.objs.size + 5, [s1.heap.objs.size + 5, s1.heap.objs.size + 3, s1.heap.objs.size + 4, s1.heap.objs.size, s1.heap.objs.size + 1, s1.heap.objs.size + 2], _, _, H1, rfl, I2, turn_k3 (zip_sep3 (fun b hb => by rw [List.mem_singleton.mp hb]; exact sqk_lt p1) (fun b hb => by rw [List.mem_singleton.mp hb]; exact sqk_lt p2) (fun b hb => by rw [List.mem_singleton.mp hb]; exact sqk_lt p3)) (Nat.ne_of_lt (sqk_lt p1)) (Nat.ne_of_lt (Nat.lt_of_lt_of_le (sqk_lt p2) (Nat.le_add_right _ _))) (Nat.ne_of_lt (Nat.lt_of_lt_of_le (sqk_lt p3) (Nat.le_add_right _ _))) (show ((s1.heap.objs.size + 3 : Nat) ≠ s1.heap.objs.size + 0) by omega) (show ((s1.heap.objs.size + 3 : Nat) ≠ s1.heap.objs.size + 1) by omega) (show ((s1.heap.objs.size + 3 : Nat) ≠ s1.heap.objs.size + 2) by omega), ⟨hz, hTI, ⟨_, _, _, hTO⟩, itek_new g1, itek_new g2, itek_new g3⟩, fr, q⟩
end L2
namespace LN
open PySem L2 PySem.Spec PyProof.Rows

/-! ### lists out of dicts -/
section
variable {c : Ct} {W : Wd} {m : Mem} {H : Hp}
/-- a new thing that nothing knows -/
theorem Ok.junk (k : Ok c W m H) {p : Addr} {u : HO} (hp : H p = none) : Ok c W m (upd H p u) := by
  refine ⟨fun b o h => ?_, fun b o h => ?_, k.gl, fun f i o h1 h2 => ?_, k.inj, k.rng, k.lt, k.ll⟩
  · rw [upd_ne (ne_of_none (k.g b o h) hp)]; exact k.g b o h
  · rw [upd_ne (ne_of_none (k.l b o h) hp)]; exact k.l b o h
  · obtain ⟨b, e1, e2, e3, e4⟩ := k.i f i o h1 h2
    obtain ⟨u', hu⟩ := e2.some h2
    exact ⟨b, e1, e2.mono (le.refl W) fun v h => by rw [upd_ne (ne_of_none hu hp)]; exact h, e3, e4⟩
theorem Ok.sees : ∀ {kvs : List (List L2.Key × V)} {bs : List Addr} {W : Wd}, Ok c W m H → IsKeys H kvs bs → ∃ W', le W W' ∧ Ok c W' m H ∧ Rps c W' (kvs.map fun kv => dKeyT kv.1) (bs.map V.ref)
  | _, _, W, k, .nil => ⟨W, le.refl _, k, Rps.nil⟩
  | p :: ps, b :: bs, W, k, .cons h t => by
    obtain ⟨W1, l1, k1, e1⟩ := k.see h
    obtain ⟨W2, l2, k2, r2⟩ := Ok.sees k1 t
    refine ⟨W2, l1.trans l2, k2, Rps.cons (x := dKeyT p.1) ?_ r2⟩
    unfold dKeyT
    simp only [Rp]
    refine ⟨b, p.1.map kV, rfl, .inl (l2.g _ _ e1), ?_⟩
    exact Rps.of (by simp) fun i d v h1 h2 => by
      rw [List.getElem?_map] at h1 h2
      cases e : p.1[i]? with
      | none => rw [e] at h1; cases h1
      | some x => rw [e] at h1 h2; cases h1; cases h2; exact dKey_ok x
end
def dkeysD (m : Mem) (d : D) : Option (List D) := match vwKA m d with
  | some (ks, _) => some (ks.map dKey)
  | none => match vwTA m d with
    | some (ks, _) => some (ks.map dKeyT)
    | none => none
theorem zip_keys {κ : Type} {ks : List κ} {vs : List V} (l : ks.length = vs.length) : (ks.zip vs).map (·.1) = ks := by
  rw [List.map_fst_zip (by omega)]
/-- a dict's keys in the heap -/
theorem dkeysD_ok {c : Ct} {W : Wd} {m : Mem} {H : Hp} (o : Ok c W m H) {d : D} {v : V} {xs : List D} (h : dkeysD m d = some xs) (r : Rp c W d v) : ∃ a, v = .ref a ∧
    ((∃ kvs, Rd H a (.dK kvs) ∧ Rps c W xs (kvs.map fun kv => kV kv.1)) ∨ ∃ kvs, Rd H a (.dT kvs) ∧ xs = kvs.map fun kv => dKeyT kv.1) := by
  unfold dkeysD at h
  split at h
  · rename_i ks ys hv
    cases h
    obtain ⟨a, vs, rfl, q1, l, r⟩ := vwKA_ok o hv r
    refine ⟨a, rfl, .inl ⟨_, q1, ?_⟩⟩
    have e : ((ks.zip vs).map fun kv => kV kv.1) = ks.map kV := by
      have := congrArg (List.map kV) (zip_keys (vs := vs) l)
      rw [List.map_map] at this
      exact this
    rw [e]
    exact Rps.of (by simp) fun i d v h1 h2 => by
      rw [List.getElem?_map] at h1 h2
      cases e : ks[i]? with
      | none => rw [e] at h1; cases h1
      | some x => rw [e] at h1 h2; cases h1; cases h2; exact dKey_ok x
  · split at h
    · rename_i ks ys hv
      cases h
      obtain ⟨a, vs, rfl, q1, l, r⟩ := vwTA_ok o hv r
      refine ⟨a, rfl, .inr ⟨_, q1, ?_⟩⟩
      have := congrArg (List.map dKeyT) (zip_keys (vs := vs) l)
      rw [List.map_map] at this
      exact this.symm
    · cases h
def bLstA (fin : List D → Mem → Rs D) : List D → Mem → Rs D
  | [d], m => match vwS m d with
    | some xs => fin xs m
    | none => match dkeysD m d with
      | some xs => fin xs m
      | none => .stuck
  | _, _ => .stuck
/-- not locked -/
def unlk (m : Mem) : D → Bool
  | .loc f i => match m.get f i with
    | some o => !o.lkd
    | none => false
  | _ => true
/-- list(d.keys()) -/
def dLstK (fin : List D → Mem → Rs D) (f : Ev) : Ev := fun ρ m => (f ρ m).bind fun d m1 => match dkeysD m1 d with
  | some xs => if unlk m1 d = true then fin xs m1 else .stuck
  | none => .stuck
theorem unlk_ok {c : Ct} {W : Wd} {m : Mem} {H : Hp} (o : Ok c W m H) {d : D} {v : V} {xs : List D} (h : dkeysD m d = some xs) (hu : unlk m d = true) (r : Rp c W d v) : ∃ a, v = .ref a ∧ ((∃ kvs, H a = some (.dK kvs)) ∨ ∃ kvs, H a = some (.dT kvs)) := by
  unfold dkeysD at h
  cases d with
  | dk ks ys =>
    simp only [Rp] at r
    obtain ⟨a, vs, rfl, q, _⟩ := r
    exact ⟨a, rfl, .inl ⟨_, o.g _ _ q⟩⟩
  | dt ks ys =>
    simp only [Rp] at r
    obtain ⟨a, vs, rfl, q, _⟩ := r
    exact ⟨a, rfl, .inr ⟨_, o.g _ _ q⟩⟩
  | loc f i =>
    simp only [Rp] at r
    obtain ⟨a, rfl, q⟩ := r
    cases hg : m.get f i with
    | none => simp [vwKA, vwTA, hg] at h
    | some ob =>
      simp only [unlk, hg] at hu
      cases ob with
      | lst xs => simp [vwKA, vwTA, hg] at h
      | dk ks ys =>
        obtain ⟨b, e1, ⟨vs, e2, _⟩, _⟩ := o.i _ _ _ hg rfl
        rw [q] at e1; cases e1
        exact ⟨a, rfl, .inl ⟨_, e2⟩⟩
      | dt ks ys =>
        obtain ⟨b, e1, ⟨vs, e2, _⟩, _⟩ := o.i _ _ _ hg rfl
        rw [q] at e1; cases e1
        exact ⟨a, rfl, .inr ⟨_, e2⟩⟩
      | fk ks ys => cases hu
      | ft ks ys => cases hu
      | dead => simp [vwKA, vwTA, hg] at h
  | _ => simp [vwKA, vwTA] at h
def rLstAll (K : PySem.W.Frag) : List V → Hp → VK → Prop := fun xs H Q =>
  (∃ p ys, xs = [.ref p] ∧ (SqL K H p ys ∨ SqT K H p ys) ∧ ∀ l, H l = none → Q (.ref l) (upd H l (.lst ys))) ∨
  (∃ (a : Addr) (kvs : List (L2.Key × V)), xs = [.ref a] ∧ Rd H a (.dK kvs) ∧ ∀ p, H p = none → Q (.ref p) (upd H p (.lst (kvs.map fun kv => kV kv.1)))) ∨
  (∃ d kvs, xs = [V.ref d] ∧ Rd H d (.dT kvs) ∧ ∀ p bs, H p = none → IsKeys H kvs bs → Q (.ref p) (upd H p (.lst (bs.map V.ref))))
section
variable {X : Cx} {c : Ct} {E : XK} {pos p apos cpos : Pos} {a e : Expr} {fa : Ev} {fin : List D → Mem → Rs D}
theorem cr_lstA (hc : X.calm = true) : CallR X (.type "list") (rLstAll X.K) := CallR.or call_list_of (CallR.or (call_listD hc) (call_list_dT hc))
theorem fin_keys (F : FinN fin) {W : Wd} {m : Mem} {H : Hp} {Q : VK} {kvs : List (List L2.Key × V)} (o : Ok c W m H) (q : Pst c E (Rp c) (fin (kvs.map fun kv => dKeyT kv.1) m) W Q) :
    ∀ p bs, H p = none → IsKeys H kvs bs → Q (.ref p) (upd H p (.lst (bs.map V.ref))) := fun p bs hp hk => by
  obtain ⟨W', l, o', r'⟩ := o.sees hk
  exact F.mak o' r' (Pst.mono l q) p hp
theorem cs_lstA (F : FinN fin) (hK : c.K = X.K := by rfl) : CallS c E (rLstAll X.K) (bLstA fin) := fun W m H xs ds Q o r q => by
  unfold bLstA at q
  split at q
  · obtain ⟨v, rfl, r1⟩ := rps1 r
    split at q
    · rename_i ys h
      obtain ⟨a, vs, rfl, q2, q3⟩ := vwS_ok o h r1
      exact .inl ⟨a, vs, rfl, hK ▸ q2, F.mak o q3 q⟩
    · split at q
      · rename_i ys h
        obtain ⟨a, rfl, h⟩ := dkeysD_ok o h r1
        rcases h with ⟨kvs, q1, q2⟩ | ⟨kvs, q1, rfl⟩
        · exact .inr (.inl ⟨a, kvs, rfl, q1, F.mak o q2 q⟩)
        · exact .inr (.inr ⟨a, kvs, rfl, q1, fin_keys F o q⟩)
      · exact q.elim
  · exact q.elim
theorem pd_lstK {nm : Pos} (F : FinN fin) (hc : X.calm = true) (hm : X.mg "list" = none) (ha : PE X a (tD c E fa)) (hg : Gl X "list" := by rfl)
    (hbase : attributeBase a "keys" X.env (eval a X.env) = eval a X.env := by rfl) (hline : (apos.endLine == cpos.line) = true := by rfl) (he : starEach [.Call (.Attribute a "keys" apos) [] [] cpos] X.env = [(false, eval (.Call (.Attribute a "keys" apos) [] [] cpos) X.env)] := by rfl) :
    PE X (.Call (.Name "list" nm) [.Call (.Attribute a "keys" apos) [] [] cpos] [] pos) (tD c E (dLstK fin fa)) :=
  PE.weak (pe_callTy (call_list_kv hc) hg hm (by decide +kernel) (pa_cons (pe_bm0 PySem.F.plainAttrs_dict PySem.F.slot_dict_keys PySem.F.type_dict_keys mt_keysV ha hbase hline) pa_nil he)) fun σ H Q ⟨W, ρ, m, o, s, q⟩ => by
    refine ⟨W, ρ, m, o, s, Pst.imp (Pst.bind q) fun x H1 ⟨W1, d, m1, l1, o1, r1, p1⟩ => ?_⟩
    split at p1
    · rename_i xs h0
      split at p1
      case isFalse => exact p1.elim
      rename_i hu
      obtain ⟨a, ex, h⟩ := dkeysD_ok o1 h0 r1
      obtain ⟨a', ex', hun⟩ := unlk_ok o1 h0 hu r1
      subst ex
      cases ex'
      have hD : IsD H1 a := by
        rcases h with ⟨kvs, q1, _⟩ | ⟨kvs, q1, _⟩
        · exact .inl ⟨_, q1⟩
        · exact .inr ⟨_, q1⟩
      have hty : tyV X.K "dict" (.ref a) H1 := by
        exact .inr (.inr (.inl ⟨rfl, hun⟩))
      refine ⟨hty, a, rfl, rfl, hD, fun p hp => ⟨p, a, rfl, upd_same, ?_⟩⟩
      have o2 := o1.junk (u := keysV p a) hp
      have np : ∀ {u : HO}, Rd H1 a u → Rd (upd H1 p (keysV p a)) a u := fun {u} h => by
        rcases h with h | ⟨ob, h⟩
        · exact .inl (by rw [upd_ne (ne_of_none h hp)]; exact h)
        · exact .inr ⟨ob, by rw [upd_ne (ne_of_none h hp)]; exact h⟩
      rcases h with ⟨kvs, q1, q2⟩ | ⟨kvs, q1, rfl⟩
      · exact .inl ⟨kvs, np q1, F.mak o2 q2 p1⟩
      · exact .inr ⟨kvs, np q1, fin_keys F o2 p1⟩
    · exact p1.elim
end
end LN
namespace LN
open PySem L2 PySem.Spec PyProof.Rows

/-! ### sorted -/
def lexLe : List Int → List Int → Bool
  | [], _ => true
  | _ :: _, [] => false
  | a :: r, b :: q => if a < b then true else if a = b then lexLe r q else false
theorem lexLe_total : ∀ a b, lexLe a b = true ∨ lexLe b a = true
  | [], _ => .inl rfl
  | _ :: _, [] => .inr rfl
  | a :: r, b :: q => by
    simp only [lexLe]
    by_cases h1 : a < b
    · simp [h1]
    · by_cases h2 : a = b
      · subst h2; simp [lexLe_total r q]
      · have : b < a := by omega
        simp [this]
theorem lexLe_trans : ∀ {a b d}, lexLe a b = true → lexLe b d = true → lexLe a d = true
  | [], _, _, _, _ => rfl
  | _ :: _, [], _, h, _ => by simp [lexLe] at h
  | _ :: _, _ :: _, [], _, h => by simp [lexLe] at h
  | a :: r, b :: q, d :: s, h, k => by
    simp only [lexLe] at h k ⊢
    split at h
    · split at k
      · rw [if_pos (by omega)]
      · split at k
        · rw [if_pos (by omega)]
        · cases k
    · split at h
      · subst_vars
        split at k
        · rw [if_pos (by omega)]
        · split at k
          · subst_vars
            rw [if_neg (by omega), if_pos rfl]
            exact lexLe_trans h k
          · cases k
      · cases h
theorem lexLe_anti : ∀ {a b}, lexLe a b = true → lexLe b a = true → a = b
  | [], [], _, _ => rfl
  | [], _ :: _, _, k => by simp [lexLe] at k
  | _ :: _, [], h, _ => by simp [lexLe] at h
  | a :: r, b :: q, h, k => by
    simp only [lexLe] at h k
    split at h
    · rw [if_neg (by omega), if_neg (by omega)] at k; cases k
    · split at h
      · subst_vars
        rw [if_neg (by omega), if_pos rfl] at k
        rw [lexLe_anti h k]
      · cases h
theorem lexLe_code {B : Int} : ∀ {n m : List Int}, n.length = m.length → TS.Bd B n → TS.Bd B m → TS.code B n ≤ TS.code B m → lexLe n m = true
  | [], _, _, _, _, _ => rfl
  | _ :: _, [], h, _, _, _ => by simp at h
  | a :: r, b :: q, hl, h1, h2, h => by
    have hl' : r.length = q.length := by simpa using hl
    simp only [lexLe]
    by_cases e1 : a < b
    · rw [if_pos e1]
    · rw [if_neg e1]
      by_cases e2 : a = b
      · subst e2
        rw [if_pos rfl]
        refine lexLe_code hl' h1.tail h2.tail ?_
        rcases Int.lt_or_le (TS.code B q) (TS.code B r) with z | z
        · have := (TS.code_same (B := B) (d := a) hl'.symm).mpr z
          omega
        · exact z
      · have z : b < a := by omega
        have := TS.code_lt hl'.symm h2.tail h1.tail z
        omega
/-- a sorted rearrangement is one -/
theorem perm_unique {α : Type} {le : α → α → Prop} (anti : ∀ a b, le a b → le b a → a = b) : ∀ {xs ys : List α}, xs.Perm ys → xs.Pairwise le → ys.Pairwise le → xs = ys
  | [], ys, p, _, _ => (List.nil_perm.mp p).symm
  | x :: xs, [], p, _, _ => absurd p.length_eq (by simp)
  | x :: xs, y :: ys, p, hx, hy => by
    obtain ⟨h1, h2⟩ := List.pairwise_cons.mp hx
    obtain ⟨k1, k2⟩ := List.pairwise_cons.mp hy
    have e : x = y := by
      have mx : x ∈ y :: ys := p.mem_iff.mp (List.mem_cons_self ..)
      have my : y ∈ x :: xs := p.mem_iff.mpr (List.mem_cons_self ..)
      rcases List.mem_cons.mp mx with e | m1
      · exact e
      · rcases List.mem_cons.mp my with e | m2
        · exact e.symm
        · exact anti _ _ (h1 _ m2) (k1 _ m1)
    subst e
    rw [perm_unique anti (List.Perm.cons_inv p) h2 k2]
def sortI (ns : List Int) : List Int := ns.mergeSort fun a b => decide (a ≤ b)
def sortT (ks : List (List Int)) : List (List Int) := ks.mergeSort lexLe
theorem sortI_perm (ns : List Int) : (sortI ns).Perm ns := List.mergeSort_perm _ _
theorem sortT_perm (ns : List (List Int)) : (sortT ns).Perm ns := List.mergeSort_perm _ _
theorem sortI_pw (ns : List Int) : (sortI ns).Pairwise (· ≤ ·) := by
  have := List.pairwise_mergeSort (le := fun a b : Int => decide (a ≤ b)) (by intro a b c h1 h2; simp at *; omega) (by intro a b; simp; omega) ns
  exact this.imp fun h => by simpa using h
theorem sortT_pw (ns : List (List Int)) : (sortT ns).Pairwise (fun a b => lexLe a b = true) :=
  List.pairwise_mergeSort (le := lexLe) (fun a b c h1 h2 => lexLe_trans h1 h2) (fun a b => by rw [Bool.or_eq_true]; exact lexLe_total a b) ns
def tupI (ns : List Int) : D := .tup (ns.map .int)
def dTups : List D → Option (List (List Int))
  | [] => some []
  | .tup xs :: r => match dInts xs, dTups r with
    | some n, some ns => some (n :: ns)
    | _, _ => none
  | _ => none
theorem dInts_eq : ∀ {xs : List D} {ns : List Int}, dInts xs = some ns → xs = ns.map .int
  | [], _, h => by simp only [dInts, Option.some.injEq] at h; subst h; rfl
  | .int i :: r, _, h => by
    simp only [dInts, Option.map_eq_some_iff] at h
    obtain ⟨ms, h1, rfl⟩ := h
    rw [dInts_eq h1]; rfl
theorem dTups_eq : ∀ {xs : List D} {ks : List (List Int)}, dTups xs = some ks → xs = ks.map tupI
  | [], _, h => by simp only [dTups, Option.some.injEq] at h; subst h; rfl
  | .tup ys :: r, _, h => by
    simp only [dTups] at h
    split at h
    · rename_i n ns h1 h2
      cases h
      rw [dTups_eq h2, dInts_eq h1]; rfl
    · cases h
def bdOf (ks : List (List Int)) : Int := ks.foldr (fun n b => n.foldr (fun i b => max b (i + 1)) b) 1
def okT (ks : List (List Int)) : Bool := decide (ks.length < 64) && match ks with
  | [] => true
  | k :: _ => decide (1 ≤ k.length) && ks.all fun n => decide (n.length = k.length) && n.all fun i => decide (0 ≤ i)
def bSort (fin : List D → Mem → Rs D) : List D → Mem → Rs D
  | [d], m => match vwL m d with
    | some xs => match dInts xs with
      | some ns => fin ((sortI ns).map .int) m
      | none => match dTups xs with
        | some ks => if okT ks = true then fin ((sortT ks).map tupI) m else .stuck
        | none => .stuck
    | none => .stuck
  | _, _ => .stuck
theorem Rps.perm {c : Ct} {W : Wd} {α : Type} {g : α → D} {xs : List α} {vs us : List V} (r : Rps c W (xs.map g) vs) (p : us.Perm vs) : ∃ ys : List α, ys.Perm xs ∧ Rps c W (ys.map g) us := by
  induction p generalizing xs with
  | nil =>
    have := r.length
    cases xs with
    | nil => exact ⟨[], .refl _, r⟩
    | cons => simp at this
  | cons v p ih =>
    cases xs with
    | nil => simp [Rps] at r
    | cons x xs =>
      simp only [List.map_cons, Rps] at r
      obtain ⟨v', r', e, r1, r2⟩ := r
      cases e
      obtain ⟨ys, hp, hr⟩ := ih r2
      exact ⟨x :: ys, hp.cons x, Rps.cons r1 hr⟩
  | swap v u l =>
    match xs, r with
    | [], r => simp [Rps] at r
    | [_], r => simp [Rps] at r
    | x :: y :: xs, r =>
      simp only [List.map_cons, Rps] at r
      obtain ⟨v', r', e, r1, w', r'', e2, r2, r3⟩ := r
      cases e; cases e2
      exact ⟨y :: x :: xs, .swap _ _ _, Rps.cons r2 (Rps.cons r1 r3)⟩
  | trans p q ih1 ih2 =>
    obtain ⟨ys, h1, r1⟩ := ih2 r
    obtain ⟨zs, h2, r2⟩ := ih1 r1
    exact ⟨zs, h2.trans h1, r2⟩
theorem bdOf_le : ∀ {ks : List (List Int)} {n : List Int} {i : Int}, n ∈ ks → i ∈ n → i < bdOf ks := by
  have inner : ∀ (n : List Int) (b : Int), b ≤ n.foldr (fun i b => max b (i + 1)) b ∧ ∀ i ∈ n, i < n.foldr (fun i b => max b (i + 1)) b := by
    intro n b
    induction n with
    | nil => exact ⟨Int.le_refl _, by simp⟩
    | cons x n ih =>
      simp only [List.foldr_cons]
      refine ⟨by omega, fun i hi => ?_⟩
      rcases List.mem_cons.mp hi with e | hi
      · subst e; omega
      · have := ih.2 i hi; omega
  intro ks
  induction ks with
  | nil => intro n i h; simp at h
  | cons k ks ih =>
    intro n i hn hi
    simp only [bdOf, List.foldr_cons]
    rcases List.mem_cons.mp hn with e | hn
    · subst e; exact (inner n _).2 i hi
    · exact Int.lt_of_lt_of_le (ih hn hi) (inner k _).1
section
variable {X : Cx} {c : Ct} {E : XK} {fin : List D → Mem → Rs D}
def rSortAll (K : PySem.W.Frag) : List V → Hp → VK → Prop := fun xs H Q => rSortedI K xs H Q ∨ ∃ d B, 1 ≤ d ∧ rSortU K d B xs H Q
theorem cr_sort : CallR X (.builtin "sorted") (rSortAll X.K) := fun pins s σ H xs us Q I r h => by
  rcases h with h | ⟨d, B, hd, h⟩
  · exact cr_sortedI pins s σ H xs us Q I r h
  · exact cr_sortT hd pins s σ H xs us Q I r h
theorem cs_sort (F : FinN fin) (hK : c.K = X.K := by rfl) : CallS c E (rSortAll X.K) (bSort fin) := fun W m H xs ds Q o r q => by
  unfold bSort at q
  split at q
  · obtain ⟨v, rfl, r1⟩ := rps1 r
    split at q
    · rename_i ys h
      obtain ⟨a, vs, rfl, q2, q3⟩ := vwL_ok o h r1
      split at q
      · rename_i ns hn
        have e := ints_ok hn q3
        subst e
        refine .inl ⟨a, ns, rfl, SqL.of q2, fun ns' p hp hs hf => ?_⟩
        have en : ns' = sortI ns := perm_unique (le := (· ≤ ·)) (fun a b h1 h2 => by omega) (hp.trans (sortI_perm ns).symm) hs (sortI_pw ns)
        subst en
        refine F.mak o (ds := (sortI ns).map .int) ?_ q p hf
        exact Rps.of (by simp) fun i d v h1 h2 => by
          rw [List.getElem?_map] at h1 h2
          cases e : (sortI ns)[i]? with
          | none => rw [e] at h1; cases h1
          | some x => rw [e] at h1 h2; cases h1; cases h2; simp [Rp]
      · split at q
        · rename_i ks hk
          have e := dTups_eq hk
          subst e
          split at q
          case isFalse => exact q.elim
          rename_i hok
          unfold okT at hok
          rw [Bool.and_eq_true] at hok
          have h64 : ks.length < 64 := of_decide_eq_true hok.1
          have tupOf : ∀ {H' : Hp} {W' : Wd} {n : List Int} {x : V}, (∀ a o, W'.G a = some o → H' a = some o) → Rp c W' (tupI n) x → TupI X.K H' x n := fun {H' W' n x} hg r => by
            unfold tupI at r
            simp only [Rp] at r
            obtain ⟨t, vs, rfl, q, r⟩ := r
            have e := ints_ok (ns := n) (xs := n.map .int) (by
              clear r
              induction n with
              | nil => rfl
              | cons i n ih => simp [dInts, ih]) r
            subst e
            exact ⟨t, rfl, hK ▸ (q.mono hg).sq⟩
          cases ks with
          | nil =>
            have hv : vs = [] := by simpa [Rps] using q3
            subst hv
            refine .inr ⟨1, 1, Nat.le_refl _, a, [], rfl, SqL.of q2, by decide, by simp, fun ys p hp _ hf => ?_⟩
            have : ys = [] := List.perm_nil.mp hp
            subst this
            have e0 : sortT [] = [] := List.perm_nil.mp (sortT_perm [])
            rw [e0] at q
            exact F.mak o (ds := []) Rps.nil q p hf
          | cons k0 ks0 =>
            have hok2 := hok.2
            simp only [Bool.and_eq_true, List.all_eq_true, decide_eq_true_eq] at hok2
            obtain ⟨hd, hall⟩ := hok2
            have hB : ∀ n ∈ k0 :: ks0, n.length = k0.length ∧ TS.Bd (bdOf (k0 :: ks0)) n := fun n hn => ⟨(hall n hn).1, fun i hi => ⟨(hall n hn).2 i hi, bdOf_le hn hi⟩⟩
            refine .inr ⟨k0.length, bdOf (k0 :: ks0), hd, a, vs, rfl, SqL.of q2, by rw [← q3.length]; simpa using h64, fun x hx => ?_, fun ys p hp hs hf => ?_⟩
            · obtain ⟨i, hi⟩ := List.getElem?_of_mem hx
              have hlt : i < ((k0 :: ks0).map tupI).length := by rw [q3.length]; exact (List.getElem?_eq_some_iff.mp hi).1
              have hk := List.getElem?_eq_getElem hlt
              have rr := q3.at hk hi
              simp only [List.getElem_map] at rr
              have hm : (k0 :: ks0)[i]'(by simpa using hlt) ∈ k0 :: ks0 := List.getElem_mem _
              exact ⟨_, tupOf o.g rr, (hB _ hm).1, (hB _ hm).2⟩
            · obtain ⟨ks', hp', r'⟩ := Rps.perm q3 hp
              have hsrt : ks'.Pairwise (fun a b => lexLe a b = true) := by
                rw [List.pairwise_iff_getElem]
                intro i j hi hj hij
                have hl := r'.length
                rw [List.length_map] at hl
                have e1 : (ks'.map tupI)[i]? = some (tupI ks'[i]) := by rw [List.getElem?_map, List.getElem?_eq_getElem hi]; rfl
                have e2 : (ks'.map tupI)[j]? = some (tupI ks'[j]) := by rw [List.getElem?_map, List.getElem?_eq_getElem hj]; rfl
                have g1 := r'.at e1 (List.getElem?_eq_getElem (by omega : i < ys.length))
                have g2 := r'.at e2 (List.getElem?_eq_getElem (by omega : j < ys.length))
                have m1 := hB _ (hp'.mem_iff.mp (List.getElem_mem hi))
                have m2 := hB _ (hp'.mem_iff.mp (List.getElem_mem hj))
                have := (List.pairwise_iff_getElem.mp hs) i j (by omega) (by omega) hij _ _ (tupOf o.g g1) (tupOf o.g g2)
                exact lexLe_code (m1.1.trans m2.1.symm) m1.2 m2.2 this
              have en : ks' = sortT (k0 :: ks0) := perm_unique (le := fun a b => lexLe a b = true) (fun a b h1 h2 => lexLe_anti h1 h2) (hp'.trans (sortT_perm _).symm) hsrt (sortT_pw _)
              subst en
              exact F.mak o r' q p hf
        · exact q.elim
    · exact q.elim
  · exact q.elim
end

/-! ### dict(pairs) -/
def dPairs : List D → Option (List (L2.Key × D))
  | [] => some []
  | .tup [k, x] :: r => match keyD k, dPairs r with
    | some k, some ps => some ((k, x) :: ps)
    | _, _ => none
  | _ => none
def mergeD (ps : List (L2.Key × D)) (ks : List L2.Key) (xs : List D) : List L2.Key × List D := match ps with
  | [] => (ks, xs)
  | (k, x) :: r => mergeD r (putD ks xs k x).1 (putD ks xs k x).2
/-- how a new dict is made of what was made -/
structure FinK (fin : List L2.Key → List D → Mem → Rs D) : Prop where
  mak : ∀ {c : Ct} {E : XK} {ks : List L2.Key} {ds : List D} {xs : List V} {m : Mem} {W : Wd} {H : Hp} {Q : VK}, Ok c W m H → ks.length = xs.length → Rps c W ds xs → Pst c E (Rp c) (fin ks ds m) W Q → ∀ p, H p = none → Q (.ref p) (upd H p (.dK (ks.zip xs)))
def finKF (ks : List L2.Key) (ds : List D) (m : Mem) : Rs D := .ok (.dk ks ds) m
def finKM (ks : List L2.Key) (ds : List D) (m : Mem) : Rs D := newObj (.dk ks ds) m
theorem finK_F : FinK finKF := ⟨fun {c E ks ds xs m W H Q} o hl r q p hp => by
  obtain ⟨l, o'⟩ := o.froz (o := .dK (ks.zip xs)) hp
  refine q _ _ _ l o' ?_
  simp only [Rp]
  exact ⟨p, xs, rfl, upd_same, hl, r.mono l ds⟩⟩
theorem finK_M : FinK finKM := ⟨fun {c E ks ds xs m W H Q} o hl r q p hp => by
  unfold finKM newObj at q
  split at q
  · rename_i h
    obtain ⟨W', l, o', r'⟩ := o.alloc (o := .dk ks ds) (u := .dK (ks.zip xs)) (fun z => h.1 (by rw [z]; rfl)) hp h.2 ⟨xs, upd_same, hl, r⟩
    exact q _ _ _ l o' r'
  · exact q.elim⟩
theorem putD_nodup {κ : Type} [DecidableEq κ] : ∀ {ks : List κ} {xs : List D} {k : κ} {y : D}, ks.length = xs.length → ks.Nodup → (putD ks xs k y).1.Nodup ∧ (putD ks xs k y).1.length = (putD ks xs k y).2.length ∧ ∀ j, j ∈ (putD ks xs k y).1 ↔ j = k ∨ j ∈ ks
  | [], [], k, y, _, _ => by simp [putD]
  | [], _ :: _, _, _, h, _ => by simp at h
  | _ :: _, [], _, _, h, _ => by simp at h
  | j :: ks, x :: xs, k, y, hl, nd => by
    simp only [putD]
    by_cases e : j = k
    · subst e
      rw [if_pos rfl]
      refine ⟨nd, by simpa using hl, fun i => ?_⟩
      simp only [List.mem_cons]
      constructor
      · intro h; exact .inr h
      · intro h; rcases h with h | h
        · exact .inl h
        · exact h
    · rw [if_neg e]
      obtain ⟨h1, h2, h3⟩ := putD_nodup (ks := ks) (xs := xs) (k := k) (y := y) (by simpa using hl) (List.nodup_cons.mp nd).2
      refine ⟨List.nodup_cons.mpr ⟨fun z => ?_, h1⟩, by simpa using h2, fun i => ?_⟩
      · rcases (h3 j).mp z with z | z
        · exact e z
        · exact (List.nodup_cons.mp nd).1 z
      · simp only [List.mem_cons, h3]
        constructor
        · rintro (h | h | h)
          · exact .inr (.inl h)
          · exact .inl h
          · exact .inr (.inr h)
        · rintro (h | h | h)
          · exact .inr (.inl h)
          · exact .inl h
          · exact .inr (.inr h)
def bDict (fin : List L2.Key → List D → Mem → Rs D) : List D → Mem → Rs D
  | [d], m => match vwL m d with
    | some xs => match dPairs xs with
      | some ps => fin (mergeD ps [] []).1 (mergeD ps [] []).2 m
      | none => .stuck
    | none => .stuck
  | _, _ => .stuck
def rDictP (K : PySem.W.Frag) : List V → Hp → VK → Prop := fun xs H Q => ∃ (a : Addr) (ps : List Addr) (kvs : List (L2.Key × V)), xs = [.ref a] ∧ SqL K H a (ps.map V.ref) ∧ Paired (fun p kv => SqT K H p [kV kv.1, kv.2]) ps kvs ∧
    ∀ p, H p = none → Q (.ref p) (upd H p (.dK (mergeK [] kvs)))
section
variable {X : Cx} {c : Ct} {E : XK} {fin : List L2.Key → List D → Mem → Rs D}
theorem dPairs_ok {W : Wd} {m : Mem} {H : Hp} (o : Ok c W m H) : ∀ {xs : List D} {ps : List (L2.Key × D)} {vs : List V}, dPairs xs = some ps → Rps c W xs vs →
    ∃ (as : List Addr) (us : List V), vs = as.map V.ref ∧ us.length = ps.length ∧ Paired (fun p kv => SqT c.K H p [kV kv.1, kv.2]) as ((ps.map (·.1)).zip us) ∧ Rps c W (ps.map (·.2)) us
  | [], ps, vs, h, r => by
    simp only [dPairs, Option.some.injEq, Rps] at h r
    subst h; subst r
    exact ⟨[], [], rfl, rfl, .nil, Rps.nil⟩
  | x :: xs, ps, vs, h, r => by
    unfold dPairs at h
    split at h
    · cases ‹x :: xs = []›
    · rename_i k y r0 e0
      cases e0
      split at h
      · rename_i k' ps' h1 h2
        cases h
        simp only [Rps, Rp] at r
        obtain ⟨v, r', rfl, ⟨a, vs2, rfl, q, v1, r3, rfl, s1, v2, r4, rfl, s2, rfl⟩, r2⟩ := r
        obtain ⟨as, us, e1, e2, e3, e4⟩ := dPairs_ok o h2 r2
        have ek := keyD_ok h1 s1
        subst ek
        refine ⟨a :: as, v2 :: us, by rw [e1]; rfl, by simpa using e2, .cons (q.mono o.g).sq e3, Rps.cons s2 e4⟩
      · cases h
    · cases h
theorem mergeD_ok {W : Wd} : ∀ {ps : List (L2.Key × D)} {us : List V} {ks : List L2.Key} {xs : List D} {vs : List V}, us.length = ps.length → Rps c W (ps.map (·.2)) us → ks.Nodup → ks.length = vs.length → Rps c W xs vs →
    ∃ vs', mergeK (ks.zip vs) ((ps.map (·.1)).zip us) = (mergeD ps ks xs).1.zip vs' ∧ (mergeD ps ks xs).1.length = vs'.length ∧ Rps c W (mergeD ps ks xs).2 vs'
  | [], us, ks, xs, vs, hl, r, nd, l, rx => by
    have : us = [] := List.eq_nil_of_length_eq_zero (by simpa using hl)
    subst this
    exact ⟨vs, rfl, l, rx⟩
  | (k, x) :: ps, [], ks, xs, vs, hl, _, _, _, _ => by simp at hl
  | (k, x) :: ps, u :: us, ks, xs, vs, hl, r, nd, l, rx => by
    simp only [List.map_cons, Rps] at r
    obtain ⟨v', r', e, r1, r2⟩ := r
    cases e
    obtain ⟨vs1, h1, h2, h3⟩ := putD_ok k nd rx l r1
    have h4 := putD_nodup (ks := ks) (xs := xs) (k := k) (y := x) (l.trans rx.length.symm) nd
    obtain ⟨vs2, g1, g2, g3⟩ := mergeD_ok (ps := ps) (by simpa using hl) r2 h4.1 h2 h3
    refine ⟨vs2, ?_, g2, g3⟩
    show _ = (mergeD ps (putD ks xs k x).1 (putD ks xs k x).2).1.zip vs2
    rw [← g1, ← h1]
    rfl
theorem cs_dict (F : FinK fin) (hK : c.K = X.K := by rfl) : CallS c E (rDictP X.K) (bDict fin) := fun W m H xs ds Q o r q => by
  unfold bDict at q
  split at q
  · obtain ⟨v, rfl, r1⟩ := rps1 r
    split at q
    · rename_i ys h
      obtain ⟨a, vs, rfl, q2, q3⟩ := vwL_ok o h r1
      split at q
      · rename_i ps hp
        obtain ⟨as, us, rfl, e2, e3, e4⟩ := dPairs_ok o hp q3
        obtain ⟨vs', h1, h2, h3⟩ := mergeD_ok (ks := []) (xs := []) (vs := []) e2 e4 List.nodup_nil rfl Rps.nil
        refine ⟨a, as, _, rfl, SqL.of q2, hK ▸ e3, fun p hf => ?_⟩
        have h1 : mergeK [] ((ps.map (·.1)).zip us) = (mergeD ps [] []).1.zip vs' := h1
        rw [h1]
        exact F.mak o h2 h3 q p hf
      · exact q.elim
    · exact q.elim
  · exact q.elim
end
end LN
namespace LN
open PySem L2 PySem.Spec PyProof.Rows

/-! ### a dict is walked: locked -/
theorem Sl_L {c : Ct} {G L L' : Hp} {ι : Nat → Nat → Option Addr} {ρ : Lc} {σ : L2.St} (s : Sl c ⟨G, L, ι⟩ ρ σ) : Sl c ⟨G, L', ι⟩ ρ σ :=
  ⟨s.1, fun i d e => let ⟨v, h, r⟩ := s.2 i d e; ⟨v, h, (Rp_L d).mp r⟩⟩
section
variable {c : Ct} {W : Wd} {m : Mem} {H : Hp}
theorem Ok.lockW (k : Ok c W m H) {f i : Nat} {a : Addr} {od : Obj} {u : HO} {o o0 : MO} (h0 : m.get f i = some o0) (a0 : o0.alive = true) (u0 : o0.lkd = false) (ha : W.ι f i = some a) (hu : H a = some u) (ol : o.lt (f + 1) = true) (ok : o.lkd = true)
    (r : MoR c W (upd H a (.frz od u)) a o) : le W { W with L := upd W.L a (.frz od u) } ∧ Ok c { W with L := upd W.L a (.frz od u) } (m.put f i o) (upd H a (.frz od u)) := by
  obtain ⟨b, e1, e2, e3, e4⟩ := k.i f i o0 h0 a0
  rw [ha] at e1; cases e1
  have e4 := e4.un u0
  have gp := fun f' i' => Mem.get_put (o := o) h0 f' i'
  have L : le W { W with L := upd W.L a (.frz od u) } := ⟨fun _ _ h => h, fun b v h => by show upd W.L a _ b = _; rw [upd_ne (ne_of_none h e4)]; exact h, fun _ _ _ h => h⟩
  have rL : ∀ {o : MO} {H : Hp} {b : Addr}, MoR c W H b o → MoR c { W with L := upd W.L a (.frz od u) } H b o := fun {o H b} r => MoR.L (G := W.G) (L := W.L) (ι := W.ι) r
  refine ⟨L, fun b v h => ?_, fun b v h => ?_, fun b v h => ?_, fun f' i' o' h1 h2 => ?_, fun f1 i1 f2 i2 o1 o2 b h1 a1 h2 a2 q1 q2 => ?_, fun f' i' b h => ?_, fun f' i' o' h => ?_, fun b v h => ?_⟩
  · rw [upd_ne (ne_of_none h e3)]; exact k.g b v h
  · have h : upd W.L a (.frz od u) b = some v := h
    by_cases e : b = a
    · subst e; rw [upd_same] at h ⊢; exact h
    · rw [upd_ne e] at h ⊢; exact k.l b v h
  · have h : upd W.L a (.frz od u) b = some v := h
    by_cases e : b = a
    · subst e; exact e3
    · rw [upd_ne e] at h; exact k.gl b v h
  · rw [gp] at h1
    by_cases e : f' = f ∧ i' = i
    · rw [if_pos e] at h1; cases h1
      refine ⟨a, by rw [e.1, e.2]; exact ha, rL r, e3, ?_⟩
      unfold Lkd
      rw [if_pos ok]
      exact ⟨od, u, upd_same⟩
    · rw [if_neg e] at h1
      obtain ⟨b, q1, q2, q3, q4⟩ := k.i f' i' o' h1 h2
      have nb : b ≠ a := by
        rintro rfl
        exact e (k.inj _ _ _ _ _ _ _ h1 h2 h0 a0 q1 ha)
      exact ⟨b, q1, rL (q2.mono (le.refl W) fun v h => by rw [upd_ne nb]; exact h), q3, q4.eq (by show upd W.L a _ b = W.L b; rw [upd_ne nb])⟩
  · rw [gp] at h1 h2
    by_cases c1 : f1 = f ∧ i1 = i
    · by_cases c2 : f2 = f ∧ i2 = i
      · exact ⟨c1.1.trans c2.1.symm, c1.2.trans c2.2.symm⟩
      · rw [if_neg c2] at h2
        rw [c1.1, c1.2] at q1 ⊢
        exact k.inj _ _ _ _ _ _ _ h0 a0 h2 a2 q1 q2
    · rw [if_neg c1] at h1
      by_cases c2 : f2 = f ∧ i2 = i
      · rw [c2.1, c2.2] at q2 ⊢
        exact k.inj _ _ _ _ _ _ _ h1 a1 h0 a0 q1 q2
      · rw [if_neg c2] at h2
        exact k.inj _ _ _ _ _ _ _ h1 a1 h2 a2 q1 q2
  · rw [gp]
    by_cases e : f' = f ∧ i' = i
    · rw [if_pos e]; exact ⟨_, rfl⟩
    · rw [if_neg e]; exact k.rng _ _ _ h
  · rw [gp] at h
    by_cases e : f' = f ∧ i' = i
    · rw [if_pos e] at h; cases h; rw [e.1]; exact ol
    · rw [if_neg e] at h; exact k.lt _ _ _ h
  · have h : upd W.L a (.frz od u) b = some v := h
    by_cases e : b = a
    · subst e; rw [upd_same] at h; cases h; exact .inr (.inl ⟨_, _, rfl⟩)
    · rw [upd_ne e] at h; exact k.ll b v h
theorem Ok.unlockW (k : Ok c W m H) {f i : Nat} {a : Addr} {od : Obj} {u : HO} {o o0 : MO} (h0 : m.get f i = some o0) (a0 : o0.alive = true) (ha : W.ι f i = some a) (hL : W.L a = some (.frz od u)) (ol : o.lt (f + 1) = true) (ok : o.lkd = false)
    (r : MoR c W (upd H a u) a o) : Ok c { W with L := rm W.L a } (m.put f i o) (upd H a u) := by
  obtain ⟨b, e1, e2, e3, e4⟩ := k.i f i o0 h0 a0
  rw [ha] at e1; cases e1
  have gp := fun f' i' => Mem.get_put (o := o) h0 f' i'
  have rL : ∀ {o : MO} {H : Hp} {b : Addr}, MoR c W H b o → MoR c { W with L := rm W.L a } H b o := fun {o H b} r => MoR.L (G := W.G) (L := W.L) (ι := W.ι) r
  refine ⟨fun b v h => ?_, fun b v h => ?_, fun b v h => k.gl b v (rm_some h).2, fun f' i' o' h1 h2 => ?_, fun f1 i1 f2 i2 o1 o2 b h1 a1 h2 a2 q1 q2 => ?_, fun f' i' b h => ?_, fun f' i' o' h => ?_, fun b v h => k.ll b v (rm_some h).2⟩
  · rw [upd_ne (ne_of_none h e3)]; exact k.g b v h
  · obtain ⟨e, h⟩ := rm_some h
    rw [upd_ne e]; exact k.l b v h
  · rw [gp] at h1
    by_cases e : f' = f ∧ i' = i
    · rw [if_pos e] at h1; cases h1
      exact ⟨a, by rw [e.1, e.2]; exact ha, rL r, e3, .of rm_same ok⟩
    · rw [if_neg e] at h1
      obtain ⟨b, q1, q2, q3, q4⟩ := k.i f' i' o' h1 h2
      have nb : b ≠ a := by
        rintro rfl
        exact e (k.inj _ _ _ _ _ _ _ h1 h2 h0 a0 q1 ha)
      exact ⟨b, q1, rL (q2.mono (le.refl W) fun v h => by rw [upd_ne nb]; exact h), q3, q4.eq (by show rm W.L a b = W.L b; rw [rm_ne nb])⟩
  · rw [gp] at h1 h2
    by_cases c1 : f1 = f ∧ i1 = i
    · by_cases c2 : f2 = f ∧ i2 = i
      · exact ⟨c1.1.trans c2.1.symm, c1.2.trans c2.2.symm⟩
      · rw [if_neg c2] at h2
        rw [c1.1, c1.2] at q1 ⊢
        exact k.inj _ _ _ _ _ _ _ h0 a0 h2 a2 q1 q2
    · rw [if_neg c1] at h1
      by_cases c2 : f2 = f ∧ i2 = i
      · rw [c2.1, c2.2] at q2 ⊢
        exact k.inj _ _ _ _ _ _ _ h1 a1 h0 a0 q1 q2
      · rw [if_neg c2] at h2
        exact k.inj _ _ _ _ _ _ _ h1 a1 h2 a2 q1 q2
  · rw [gp]
    by_cases e : f' = f ∧ i' = i
    · rw [if_pos e]; exact ⟨_, rfl⟩
    · rw [if_neg e]; exact k.rng _ _ _ h
  · rw [gp] at h
    by_cases e : f' = f ∧ i' = i
    · rw [if_pos e] at h; cases h; rw [e.1]; exact ol
    · rw [if_neg e] at h; exact k.lt _ _ _ h
end
def MO.lock : MO → Option MO
  | .dk ks xs => some (.fk ks xs)
  | .dt ks xs => some (.ft ks xs)
  | _ => none
theorem MO.lock_ok {o o' : MO} (h : o.lock = some o') : o.alive = true ∧ o.lkd = false ∧ o'.alive = true ∧ o'.lkd = true ∧ (∀ n, o'.lt n = o.lt n) ∧ ∀ {c : Ct} {W : Wd} {H : Hp} {a : Addr}, MoR c W H a o → ∃ u, H a = some u ∧ Mut (some u) ∧ (∀ od, MoR c W (upd H a (.frz od u)) a o') ∧
    ∀ {W2 : Wd} {H2 : Hp} {od : Obj}, MoR c W2 H2 a o' → H2 a = some (.frz od u) → MoR c W2 (upd H2 a u) a o := by
  cases o with
  | dk ks xs =>
    cases h
    refine ⟨rfl, rfl, rfl, rfl, fun _ => rfl, fun {c W H a} ⟨vs, q, l, r⟩ => ⟨_, q, trivial, fun od => ⟨od, vs, upd_same, l, r⟩, fun {W2 H2 od} ⟨ob, vs2, q2, l2, r2⟩ e => ⟨vs2, ?_, l2, r2⟩⟩⟩
    rw [e] at q2
    rw [upd_same]
    injection q2 with q2
    injection q2 with _ q2
    rw [q2]
  | dt ks xs =>
    cases h
    refine ⟨rfl, rfl, rfl, rfl, fun _ => rfl, fun {c W H a} ⟨vs, q, l, r⟩ => ⟨_, q, trivial, fun od => ⟨od, vs, upd_same, l, r⟩, fun {W2 H2 od} ⟨ob, vs2, q2, l2, r2⟩ e => ⟨vs2, ?_, l2, r2⟩⟩⟩
    rw [e] at q2
    rw [upd_same]
    injection q2 with q2
    injection q2 with _ q2
    rw [q2]
  | _ => cases h
open Classical in
/-- behind a lock: the object stands as it stood -/
noncomputable def unl {α : Type} (f i : Nat) (o o' : MO) : Rs α → Rs α
  | .ok a m => if m.get f i = some o' then .ok a (m.put f i o) else .stuck
  | .err e m => .err e m
  | .stuck => .stuck
noncomputable def lockV {α : Type} (i : Nat) (b : EvG α) : EvG α := fun ρ m => match ρ[i]? with
  | some (some (.loc f n)) => match m.get f n with
    | some o => match o.lock with
      | some o' => unl f n o o' (b ρ (m.put f n o'))
      | none => .stuck
    | none => .stuck
  | _ => .stuck
section
variable {X : Cx} {c : Ct} {E : XK}
theorem le.unlock {W W' : Wd} {a : Addr} {od : Obj} {u : HO} (h0 : W.L a = none) (l : le { W with L := upd W.L a (.frz od u) } W') : le W { W' with L := LN.rm W'.L a } :=
  ⟨l.g, fun b v h => by
    have nb := ne_of_none h h0
    show LN.rm W'.L a b = _
    rw [rm_ne nb]
    exact l.l b v (by show upd W.L a _ b = _; rw [upd_ne nb]; exact h), l.i⟩
theorem psd_lock (i : Nat) {st : Stmt} {b : Bd} (h : PS X st (tS c E b)) : PS X st (tS c E (lockV i b)) :=
  PS.weak (ps_lock h) fun Dn σ H ⟨W, ρ, m, o, s, p⟩ => by
    unfold lockV at p
    split at p
    case h_2 => exact p.elim
    rename_i f n hρ
    split at p
    case h_2 => exact p.elim
    rename_i ob hg
    split at p
    case h_2 => exact p.elim
    rename_i ob' hl
    obtain ⟨a1, a2, a3, a4, a5, a6⟩ := MO.lock_ok hl
    obtain ⟨a, e1, e2, e3, e4⟩ := o.i _ _ _ hg a1
    obtain ⟨u, hu, mu, hlk, hun⟩ := a6 e2
    refine ⟨a, u, hu, mu, fun od => ?_⟩
    obtain ⟨l1, o1⟩ := o.lockW hg a1 a2 e1 hu (by rw [a5]; exact o.lt _ _ _ hg) a4 (hlk od)
    refine ⟨_, ρ, m.put f n ob', o1, s.mono l1, ?_⟩
    have fin : ∀ {W' : Wd} {m' : Mem} {H' : Hp}, le { W with L := upd W.L a (.frz od u) } W' → Ok c W' m' H' → m'.get f n = some ob' → H' a = some (.frz od u) ∧ le W { W' with L := rm W'.L a } ∧ Ok c { W' with L := rm W'.L a } (m'.put f n ob) (upd H' a u) := fun {W' m' H'} l o' hg' => by
      have hL := l.l a _ upd_same
      have hH := o'.l _ _ hL
      obtain ⟨b, q1, q2, _⟩ := o'.i _ _ _ hg' a3
      have hi := l.i _ _ _ e1
      rw [hi] at q1; cases q1
      exact ⟨hH, le.unlock (e4.un a2) l, o'.unlockW hg' a3 hi hL (by rw [← a5]; exact o'.lt _ _ _ hg') a2 (hun q2 hH)⟩
    cases hb : b ρ (m.put f n ob') with
    | stuck => rw [hb] at p; exact p.elim
    | err e m' => rw [hb] at p; exact fun W' H' cl dx l o' r => p W' H' cl dx (l1.trans l) o' r
    | ok fl m' =>
      rw [hb] at p
      unfold unl at p
      dsimp only at p
      split at p
      case isFalse => exact p.elim
      rename_i hgt
      cases fl with
      | nx ρ' => exact fun W' H' σ' l o' s' => let ⟨q1, q2, q3⟩ := fin l o' hgt; ⟨q1, p _ _ σ' q2 q3 (Sl_L (G := W'.G) (L := W'.L) (ι := W'.ι) s')⟩
      | bk ρ' => exact fun W' H' σ' l o' s' => let ⟨q1, q2, q3⟩ := fin l o' hgt; ⟨q1, p _ _ σ' q2 q3 (Sl_L (G := W'.G) (L := W'.L) (ι := W'.ι) s')⟩
      | ct ρ' => exact fun W' H' σ' l o' s' => let ⟨q1, q2, q3⟩ := fin l o' hgt; ⟨q1, p _ _ σ' q2 q3 (Sl_L (G := W'.G) (L := W'.L) (ι := W'.ι) s')⟩
      | rt d => exact fun W' H' v l o' r' => let ⟨q1, q2, q3⟩ := fin l o' hgt; ⟨q1, p _ _ v q2 q3 ((Rp_L (G := W'.G) (L := W'.L) (ι := W'.ι) d).mp r')⟩
theorem pd_lock (i : Nat) {e : Expr} {f : Ev} (h : PE X e (tD c E f)) : PE X e (tD c E (lockV i f)) :=
  PE.weak (pe_lock h) fun σ H Q ⟨W, ρ, m, o, s, p⟩ => by
    unfold lockV at p
    split at p
    case h_2 => exact p.elim
    rename_i g n hρ
    split at p
    case h_2 => exact p.elim
    rename_i ob hg
    split at p
    case h_2 => exact p.elim
    rename_i ob' hl
    obtain ⟨a1, a2, a3, a4, a5, a6⟩ := MO.lock_ok hl
    obtain ⟨a, e1, e2, e3, e4⟩ := o.i _ _ _ hg a1
    obtain ⟨u, hu, mu, hlk, hun⟩ := a6 e2
    refine ⟨a, u, hu, mu, fun od => ?_⟩
    obtain ⟨l1, o1⟩ := o.lockW hg a1 a2 e1 hu (by rw [a5]; exact o.lt _ _ _ hg) a4 (hlk od)
    refine ⟨_, ρ, m.put g n ob', o1, s.mono l1, ?_⟩
    cases hb : f ρ (m.put g n ob') with
    | stuck => rw [hb] at p; exact p.elim
    | err e m' => rw [hb] at p; exact fun W' H' cl dx l o' r => p W' H' cl dx (l1.trans l) o' r
    | ok d m' =>
      rw [hb] at p
      unfold unl at p
      dsimp only at p
      split at p
      case isFalse => exact p.elim
      rename_i hg'
      intro W' H' v l o' r'
      have hL := l.l a _ upd_same
      have hH := o'.l _ _ hL
      obtain ⟨b, q1, q2, _⟩ := o'.i _ _ _ hg' a3
      have hi := l.i _ _ _ e1
      rw [hi] at q1; cases q1
      exact ⟨hH, p _ _ v (le.unlock (e4.un a2) l) (o'.unlockW hg' a3 hi hL (by rw [← a5]; exact o'.lt _ _ _ hg') a2 (hun q2 hH)) ((Rp_L (G := W'.G) (L := W'.L) (ι := W'.ι) d).mp r')⟩

/-! the walks over a locked dict -/
def dKeysW (f : Ev) : EvG Wk := fun ρ m => (f ρ m).bind fun d m1 => match d with
  | .loc g n => match m1.get g n with
    | some (.fk ks xs) => .ok ⟨ks.map dKey, fun m2 => m2.get g n = some (.fk ks xs)⟩ m1
    | some (.ft ks xs) => .ok ⟨ks.map dKeyT, fun m2 => m2.get g n = some (.ft ks xs)⟩ m1
    | _ => .stuck
  | _ => .stuck
def dItemsW (f : Ev) : EvG Wk := fun ρ m => (f ρ m).bind fun d m1 => match d with
  | .loc g n => match m1.get g n with
    | some (.fk ks xs) => .ok ⟨(ks.zip xs).map fun kx => .tup [dKey kx.1, kx.2], fun m2 => m2.get g n = some (.fk ks xs)⟩ m1
    | _ => .stuck
  | _ => .stuck
variable {tg e : Expr} {f : Ev} {apos cpos : Pos}
/-- what stands at a locked dict -/
theorem Ok.fkAt {W : Wd} {m : Mem} {H : Hp} (o : Ok c W m H) {g n : Nat} {a : Addr} {ks : List L2.Key} {xs : List D} (hg : m.get g n = some (.fk ks xs)) (ha : W.ι g n = some a) :
    ∃ ob vs, W.L a = some (.frz ob (.dK (ks.zip vs))) ∧ H a = some (.frz ob (.dK (ks.zip vs))) ∧ ks.length = vs.length ∧ Rps c W xs vs := by
  obtain ⟨b, e1, ⟨ob, vs, e2, e3, e4⟩, _, e5⟩ := o.i _ _ _ hg rfl
  rw [ha] at e1; cases e1
  obtain ⟨ob', u, hL⟩ := e5.lk rfl
  have := o.l _ _ hL
  rw [e2] at this; cases this
  exact ⟨ob, vs, hL, e2, e3, e4⟩
theorem Ok.ftAt {W : Wd} {m : Mem} {H : Hp} (o : Ok c W m H) {g n : Nat} {a : Addr} {ks : List (List L2.Key)} {xs : List D} (hg : m.get g n = some (.ft ks xs)) (ha : W.ι g n = some a) :
    ∃ ob vs, W.L a = some (.frz ob (.dT (ks.zip vs))) ∧ H a = some (.frz ob (.dT (ks.zip vs))) ∧ ks.length = vs.length ∧ Rps c W xs vs := by
  obtain ⟨b, e1, ⟨ob, vs, e2, e3, e4⟩, _, e5⟩ := o.i _ _ _ hg rfl
  rw [ha] at e1; cases e1
  obtain ⟨ob', u, hL⟩ := e5.lk rfl
  have := o.l _ _ hL
  rw [e2] at this; cases this
  exact ⟨ob, vs, hL, e2, e3, e4⟩
theorem zip_at {κ : Type} {ks : List κ} {vs : List V} {i : Nat} {k : κ} {v : V} (h : (ks.zip vs)[i]? = some (k, v)) : ks[i]? = some k ∧ vs[i]? = some v := by
  rw [List.getElem?_zip_eq_some] at h
  exact h
theorem dKeyT_ok {W : Wd} {b : Addr} {k : List L2.Key} (h : W.G b = some (.tup (k.map kV))) : Rp c W (dKeyT k) (.ref b) := by
  unfold dKeyT
  simp only [Rp]
  refine ⟨b, k.map kV, rfl, .inl h, Rps.of (by simp) fun i d v h1 h2 => ?_⟩
  rw [List.getElem?_map] at h1 h2
  cases e : k[i]? with
  | none => rw [e] at h1; cases h1
  | some x => rw [e] at h1 h2; cases h1; cases h2; exact dKey_ok x
theorem pid_keys (he : PE X e (tD c E f)) : PI X tg e (tI c E (dKeysW f)) :=
  PI.weak (pi_keys he) fun σ H R ⟨W, ρ, m, o, s, q⟩ => by
    refine ⟨W, ρ, m, o, s, Pst.imp (Pst.bind (RA := Rp c) q) fun x H1 ⟨W1, d, m1, l1, o1, r1, p1⟩ => ?_⟩
    cases d with
    | loc g n =>
      dsimp only at p1
      simp only [Rp] at r1
      obtain ⟨a, rfl, ha⟩ := r1
      split at p1
      · rename_i ks xs hg
        obtain ⟨ob, vs, hL, hH, hl, hr⟩ := o1.fkAt hg ha
        refine ⟨a, ob, rfl, .inl ⟨_, hH, p1 W1 H1 (Itk a ob (ks.zip vs)) (le.refl _) o1 ?_⟩⟩
        intro W2 m2 H2 i l2 o2 hck
        have h2 := o2.l _ _ (l2.l _ _ hL)
        have hz : (ks.zip vs).length = ks.length := by rw [List.length_zip]; omega
        refine ⟨fun d hd => ?_, fun hi => ⟨h2, by rw [hz]; simpa using Nat.le_of_eq hi⟩⟩
        have hd : (ks.map dKey)[i]? = some d := hd
        rw [List.getElem?_map] at hd
        cases hk : ks[i]? with
        | none => rw [hk] at hd; cases hd
        | some k =>
          rw [hk] at hd; cases hd
          have hlt := (List.getElem?_eq_some_iff.mp hk).1
          refine ⟨⟨h2, by rw [hz]; exact hlt⟩, fun x H3 hx => ?_⟩
          obtain ⟨rfl, k', v', hkv, rfl⟩ := hx
          have := (zip_at hkv).1
          rw [hk] at this; cases this
          exact ⟨W2, le.refl _, o2, dKey_ok k⟩
      · rename_i ks xs hg
        obtain ⟨ob, vs, hL, hH, hl, hr⟩ := o1.ftAt hg ha
        refine ⟨a, ob, rfl, .inr ⟨_, hH, p1 W1 H1 (Itkt a ob (ks.zip vs)) (le.refl _) o1 ?_⟩⟩
        intro W2 m2 H2 i l2 o2 hck
        have h2 := o2.l _ _ (l2.l _ _ hL)
        have hz : (ks.zip vs).length = ks.length := by rw [List.length_zip]; omega
        refine ⟨fun d hd => ?_, fun hi => ⟨h2, by rw [hz]; simpa using Nat.le_of_eq hi⟩⟩
        have hd : (ks.map dKeyT)[i]? = some d := hd
        rw [List.getElem?_map] at hd
        cases hk : ks[i]? with
        | none => rw [hk] at hd; cases hd
        | some k =>
          rw [hk] at hd; cases hd
          have hlt := (List.getElem?_eq_some_iff.mp hk).1
          refine ⟨⟨h2, by rw [hz]; exact hlt⟩, fun x H3 hx => ?_⟩
          obtain ⟨rfl, k', v', q, hkv, rfl, hq⟩ := hx
          have := (zip_at hkv).1
          rw [hk] at this; cases this
          obtain ⟨W3, l3, o3, e3⟩ := o2.see hq
          exact ⟨W3, l3, o3, dKeyT_ok e3⟩
      · exact p1.elim
    | _ => exact p1.elim
theorem pid_items {elts : List Expr} {kk : Nat} {tpos : Pos} (he : PE X e (tD c E f)) (hbase : attributeBase e "items" X.env (eval e X.env) = eval e X.env := by rfl) (hline : (apos.endLine == cpos.line) = true := by rfl) :
    PI X (.Tuple elts kk tpos) (.Call (.Attribute e "items" apos) [] [] cpos) (tI c E (dItemsW f)) :=
  PI.weak (pi_items he hbase hline) fun σ H R ⟨W, ρ, m, o, s, q⟩ => by
    refine ⟨W, ρ, m, o, s, Pst.imp (Pst.bind (RA := Rp c) q) fun x H1 ⟨W1, d, m1, l1, o1, r1, p1⟩ => ?_⟩
    cases d with
    | loc g n =>
      dsimp only at p1
      simp only [Rp] at r1
      obtain ⟨a, rfl, ha⟩ := r1
      split at p1
      · rename_i ks xs hg
        obtain ⟨ob, vs, hL, hH, hl, hr⟩ := o1.fkAt hg ha
        refine ⟨a, ob, _, rfl, hH, p1 W1 H1 (Iti a ob (ks.zip vs)) (le.refl _) o1 ?_⟩
        intro W2 m2 H2 i l2 o2 hck
        have h2 := o2.l _ _ (l2.l _ _ hL)
        have hz : (ks.zip vs).length = ks.length := by rw [List.length_zip]; omega
        have hz2 : (ks.zip xs).length = ks.length := by rw [List.length_zip, hr.length]; omega
        refine ⟨fun d hd => ?_, fun hi => ⟨h2, by rw [hz]; have hi : ((ks.zip xs).map _).length = i := hi; rw [List.length_map, hz2] at hi; omega⟩⟩
        have hd : ((ks.zip xs).map fun kx => D.tup [dKey kx.1, kx.2])[i]? = some d := hd
        rw [List.getElem?_map] at hd
        cases hk : (ks.zip xs)[i]? with
        | none => rw [hk] at hd; cases hd
        | some kx =>
          rw [hk] at hd; cases hd
          obtain ⟨k, x0⟩ := kx
          have hkx := List.getElem?_zip_eq_some.mp hk
          have hlt := (List.getElem?_eq_some_iff.mp hkx.1).1
          refine ⟨⟨h2, by rw [hz]; exact hlt⟩, fun x H3 hx => ?_⟩
          obtain ⟨T, k', v', hkv, rfl, hT, rfl⟩ := hx
          obtain ⟨z1, z2⟩ := zip_at hkv
          rw [hkx.1] at z1; cases z1
          have rv := (hr.at hkx.2 z2).mono l2 x0
          obtain ⟨l3, o3⟩ := o2.froz (o := .tup [kV k, v']) hT
          refine ⟨_, l3, o3, ?_⟩
          simp only [Rp]
          exact ⟨T, _, rfl, .inl upd_same, Rps.cons (dKey_ok k) (Rps.one (rv.mono l3 x0))⟩
      · exact p1.elim
    | _ => exact p1.elim
end
end LN
namespace LN
open PySem L2 PySem.Spec PyProof.Rows

/-! ### zip, enumerate -/
/-- what is walked in step: a list (true) or a tuple, its items, what must stand -/
def vwW (m : Mem) : D → Option (Bool × List D × (Mem → Prop))
  | .tup xs => some (false, xs, fun _ => True)
  | .lst xs => some (true, xs, fun _ => True)
  | .scr xs => some (true, xs.map .int, fun _ => True)
  | .loc f i => match m.get f i with
    | some (.lst xs) => some (true, xs, fun m2 => m2.get f i = some (.lst xs))
    | _ => none
  | _ => none
theorem vwW_ok {c : Ct} {W : Wd} {m : Mem} {H : Hp} (o : Ok c W m H) {d : D} {v : V} {k : Bool} {xs : List D} {ck : Mem → Prop} (h : vwW m d = some (k, xs, ck)) (r : Rp c W d v) : ck m ∧ ∃ a, v = .ref a ∧
    ∀ W1 m1 H1, le W W1 → Ok c W1 m1 H1 → ck m1 → ∃ vs, Sqk k c.K H1 a vs ∧ Rps c W1 xs vs := by
  cases d with
  | tup ys =>
    cases h
    simp only [Rp] at r
    obtain ⟨a, vs, rfl, q, r⟩ := r
    exact ⟨trivial, a, rfl, fun W1 m1 H1 l o1 _ => ⟨vs, ((q.mono l.g).mono o1.g).sq, r.mono l _⟩⟩
  | lst ys =>
    cases h
    simp only [Rp] at r
    obtain ⟨a, vs, rfl, q, r⟩ := r
    exact ⟨trivial, a, rfl, fun W1 m1 H1 l o1 _ => ⟨vs, SqL.of (o1.g _ _ (l.g _ _ q)), r.mono l _⟩⟩
  | scr ys =>
    cases h
    simp only [Rp] at r
    obtain ⟨a, rfl, q⟩ := r
    refine ⟨trivial, a, rfl, fun W1 m1 H1 l o1 _ => ⟨ys.map V.int, SqL.mono o1.g (SqL.mono l.g q), Rps.of (by simp) fun i d v h1 h2 => ?_⟩⟩
    rw [List.getElem?_map] at h1 h2
    cases e : ys[i]? with
    | none => rw [e] at h1; cases h1
    | some x => rw [e] at h1 h2; cases h1; cases h2; simp [Rp]
  | loc f i =>
    simp only [vwW] at h
    split at h
    · rename_i ys hg
      cases h
      simp only [Rp] at r
      obtain ⟨a, rfl, ha⟩ := r
      refine ⟨hg, a, rfl, fun W1 m1 H1 l o1 hck => ?_⟩
      obtain ⟨b, e1, ⟨vs, e2, e3⟩, _⟩ := o1.i _ _ _ hck rfl
      rw [l.i _ _ _ ha] at e1; cases e1
      exact ⟨vs, SqL.of e2, e3⟩
    · cases h
  | _ => cases h
def dZip2 (f g : Ev) : EvG Wk := fun ρ m => (f ρ m).bind fun d m1 => (g ρ m1).bind fun e m2 => match vwW m2 d, vwW m2 e with
  | some (_, xs, c1), some (_, ys, c2) => .ok ⟨(xs.zip ys).map fun p => .tup [p.1, p.2], fun m3 => c1 m3 ∧ c2 m3⟩ m2
  | _, _ => .stuck
def dZip3 (f g h : Ev) : EvG Wk := fun ρ m => (f ρ m).bind fun d m1 => (g ρ m1).bind fun e m2 => (h ρ m2).bind fun u m3 => match vwW m3 d, vwW m3 e, vwW m3 u with
  | some (_, xs, c1), some (_, ys, c2), some (_, zs, c3) => .ok ⟨(xs.zip (ys.zip zs)).map fun p => .tup [p.1, p.2.1, p.2.2], fun m4 => c1 m4 ∧ c2 m4 ∧ c3 m4⟩ m3
  | _, _, _ => .stuck
def enumD : Nat → List D → List D
  | _, [] => []
  | i, x :: xs => .tup [.int i, x] :: enumD (i + 1) xs
def dEnum (f : Ev) : EvG Wk := fun ρ m => (f ρ m).bind fun d m1 => match vwW m1 d with
  | some (true, xs, ck) => .ok ⟨enumD 0 xs, ck⟩ m1
  | _ => .stuck
theorem enumD_at : ∀ {xs : List D} {k i : Nat}, (enumD k xs)[i]? = (xs[i]?).map fun x => .tup [.int ((k + i : Nat) : Int), x]
  | [], _, _ => by simp [enumD]
  | x :: xs, k, 0 => by simp [enumD]
  | x :: xs, k, i + 1 => by
    simp only [enumD, List.getElem?_cons_succ]
    rw [enumD_at]
    congr 2
    funext x
    congr 3
    omega
theorem enumD_len : ∀ {xs : List D} {k : Nat}, (enumD k xs).length = xs.length
  | [], _ => rfl
  | x :: xs, k => by simp [enumD, enumD_len (xs := xs)]
section
variable {X : Cx} {c : Ct} {E : XK} {p pos tpos : Pos} {elts : List Expr} {kk : Nat} {e e2 e3 : Expr} {f g h : Ev}
theorem pid_zip2 (hm : X.mg "zip" = none) (h1 : PE X e (tD c E f)) (h2 : PE X e2 (tD c E g)) (hK : c.K = X.K := by rfl) (hg : Gl X "zip" := by rfl)
    (hs : starEach [e, e2] X.env = (false, eval e X.env) :: starEach [e2] X.env := by rfl) (hs2 : starEach [e2] X.env = [(false, eval e2 X.env)] := by rfl) (hpl : (backTo pos (starEach [e2] X.env)).any (·.1) = false := by rfl) :
    PI X (.Tuple elts kk tpos) (.Call (.Name "zip" p) [e, e2] [] pos) (tI c E (dZip2 f g)) :=
  PI.weak (pi_zipK2 hg hm (pad_cons (es := [e2]) h1 (pad_cons (es := []) h2 pad_nil hs2) hs) hs hpl) fun σ H R ⟨W, ρ, m, o, s, q⟩ => by
    refine ⟨W, ρ, m, o, s, ?_⟩
    have q : Pst c E (Yld c) ((f ρ m).bind fun d m1 => (g ρ m1).bind fun e m2 => match vwW m2 d, vwW m2 e with
      | some (_, xs, c1), some (_, ys, c2) => .ok ⟨(xs.zip ys).map fun p => .tup [p.1, p.2], fun m3 => c1 m3 ∧ c2 m3⟩ m2
      | _, _ => .stuck) W R := q
    show Pst c E (Rps c) ((f ρ m).bind fun d m1 => ((g ρ m1).bind fun d2 m3 => (Rs.ok [] m3).bind fun ds m2 => Rs.ok (d2 :: ds) m2).bind fun ds m2 => Rs.ok (d :: ds) m2) W _
    simp only [Rs.bind_ok, Rs.bind_assoc]
    cases hf : f ρ m with
    | stuck => rw [hf] at q; exact q
    | err e m1 => rw [hf] at q; exact q
    | ok d m1 =>
      rw [hf] at q
      simp only [Rs.bind_ok] at q ⊢
      cases hg2 : g ρ m1 with
      | stuck => rw [hg2] at q; exact q
      | err e m1 => rw [hg2] at q; exact q
      | ok d2 m2 =>
        rw [hg2] at q
        simp only [Rs.bind_ok] at q ⊢
        intro W1 H1 xs l1 o1 r1
        obtain ⟨v, u, rfl, r3, r4⟩ := rps2 r1
        split at q
        · rename_i k1 ys1 c1 k2 ys2 c2 q1 q2
          obtain ⟨i1, a, rfl, w1⟩ := vwW_ok o1 q1 r3
          obtain ⟨i2, b, rfl, w2⟩ := vwW_ok o1 q2 r4
          obtain ⟨vs1, s1, t1⟩ := w1 W1 m2 H1 (le.refl _) o1 i1
          obtain ⟨vs2, s2, t2⟩ := w2 W1 m2 H1 (le.refl _) o1 i2
          refine ⟨k1, a, vs1, k2, b, vs2, rfl, hK ▸ s1, hK ▸ s2, q W1 H1 (Itk2 X.K k1 a k2 b) l1 o1 ?_⟩
          intro W2 m3 H2 i l2 o2 hck
          obtain ⟨us1, g1, y1⟩ := w1 W2 m3 H2 l2 o2 hck.1
          obtain ⟨us2, g2, y2⟩ := w2 W2 m3 H2 l2 o2 hck.2
          rw [hK] at g1 g2
          have n1 := y1.length
          have n2 := y2.length
          refine ⟨fun d hd => ?_, fun hi => ?_⟩
          · have hd : ((ys1.zip ys2).map fun p => D.tup [p.1, p.2])[i]? = some d := hd
            rw [List.getElem?_map] at hd
            cases hz : (ys1.zip ys2)[i]? with
            | none => rw [hz] at hd; cases hd
            | some pr =>
              rw [hz] at hd; cases hd
              obtain ⟨x1, x2⟩ := pr
              obtain ⟨z1, z2⟩ := List.getElem?_zip_eq_some.mp hz
              obtain ⟨v1, b1, b2⟩ := y1.get z1
              obtain ⟨v2, b3, b4⟩ := y2.get z2
              refine ⟨⟨us1, us2, v1, v2, g1, g2, b1, b3⟩, fun x H3 hx => ?_⟩
              obtain ⟨T, w1, w2, rfl, hT, rfl, f1, f2⟩ := hx
              have f1 := f1 us1 g1
              have f2 := f2 us2 g2
              rw [b1] at f1; cases f1
              rw [b3] at f2; cases f2
              obtain ⟨l3, o3⟩ := o2.froz (o := .tup [v1, v2]) hT
              refine ⟨_, l3, o3, ?_⟩
              simp only [Rp]
              exact ⟨T, _, rfl, .inl upd_same, Rps.cons (b2.mono l3 x1) (Rps.one (b4.mono l3 x2))⟩
          · have hi : ((ys1.zip ys2).map _).length = i := hi
            rw [List.length_map, List.length_zip] at hi
            exact ⟨us1, us2, g1, g2, by omega, by omega, by omega⟩
        · exact q.elim
theorem pid_zip3 (hm : X.mg "zip" = none) (h1 : PE X e (tD c E f)) (h2 : PE X e2 (tD c E g)) (h3 : PE X e3 (tD c E h)) (hK : c.K = X.K := by rfl) (hg : Gl X "zip" := by rfl)
    (hs : starEach [e, e2, e3] X.env = (false, eval e X.env) :: starEach [e2, e3] X.env := by rfl) (hs2 : starEach [e2, e3] X.env = (false, eval e2 X.env) :: starEach [e3] X.env := by rfl) (hs3 : starEach [e3] X.env = [(false, eval e3 X.env)] := by rfl)
    (hpl : (backTo pos (starEach [e2, e3] X.env)).any (·.1) = false := by rfl) :
    PI X (.Tuple elts kk tpos) (.Call (.Name "zip" p) [e, e2, e3] [] pos) (tI c E (dZip3 f g h)) :=
  PI.weak (pi_zipK3 hg hm (pad_cons (es := [e2, e3]) h1 (pad_cons (es := [e3]) h2 (pad_cons (es := []) h3 pad_nil hs3) hs2) hs) hs hpl) fun σ H R ⟨W, ρ, m, o, s, q⟩ => by
    refine ⟨W, ρ, m, o, s, ?_⟩
    have q : Pst c E (Yld c) ((f ρ m).bind fun d m1 => (g ρ m1).bind fun e m2 => (h ρ m2).bind fun u m3 => match vwW m3 d, vwW m3 e, vwW m3 u with
      | some (_, xs, c1), some (_, ys, c2), some (_, zs, c3) => .ok ⟨(xs.zip (ys.zip zs)).map fun p => .tup [p.1, p.2.1, p.2.2], fun m4 => c1 m4 ∧ c2 m4 ∧ c3 m4⟩ m3
      | _, _, _ => .stuck) W R := q
    show Pst c E (Rps c) ((f ρ m).bind fun d m1 => ((g ρ m1).bind fun d2 m3 => ((h ρ m3).bind fun d3 m4 => (Rs.ok [] m4).bind fun ds m2 => Rs.ok (d3 :: ds) m2).bind fun ds m2 => Rs.ok (d2 :: ds) m2).bind fun ds m2 => Rs.ok (d :: ds) m2) W _
    simp only [Rs.bind_ok, Rs.bind_assoc]
    cases hf : f ρ m with
    | stuck => rw [hf] at q; exact q
    | err e m1 => rw [hf] at q; exact q
    | ok d m1 =>
      rw [hf] at q
      simp only [Rs.bind_ok] at q ⊢
      cases hg2 : g ρ m1 with
      | stuck => rw [hg2] at q; exact q
      | err e m1 => rw [hg2] at q; exact q
      | ok d2 m2 =>
        rw [hg2] at q
        simp only [Rs.bind_ok] at q ⊢
        cases hh2 : h ρ m2 with
        | stuck => rw [hh2] at q; exact q
        | err e m1 => rw [hh2] at q; exact q
        | ok d3 m3 =>
        rw [hh2] at q
        simp only [Rs.bind_ok] at q ⊢
        intro W1 H1 xs l1 o1 r1
        simp only [Rps] at r1
        obtain ⟨v, _, rfl, r3, u, _, rfl, r4, w, _, rfl, r5, rfl⟩ := r1
        split at q
        · rename_i k1 ys1 c1 k2 ys2 c2 k3 ys3 c3 q1 q2 q3
          obtain ⟨i1, a, rfl, w1⟩ := vwW_ok o1 q1 r3
          obtain ⟨i2, b, rfl, w2⟩ := vwW_ok o1 q2 r4
          obtain ⟨i3, b3, rfl, w3⟩ := vwW_ok o1 q3 r5
          obtain ⟨vs1, s1, t1⟩ := w1 W1 m3 H1 (le.refl _) o1 i1
          obtain ⟨vs2, s2, t2⟩ := w2 W1 m3 H1 (le.refl _) o1 i2
          obtain ⟨vs3, s3, t3⟩ := w3 W1 m3 H1 (le.refl _) o1 i3
          refine ⟨k1, a, vs1, k2, b, vs2, k3, b3, vs3, rfl, hK ▸ s1, hK ▸ s2, hK ▸ s3, q W1 H1 (Itk3 X.K k1 a k2 b k3 b3) l1 o1 ?_⟩
          intro W2 m4 H2 i l2 o2 hck
          obtain ⟨us1, g1, y1⟩ := w1 W2 m4 H2 l2 o2 hck.1
          obtain ⟨us2, g2, y2⟩ := w2 W2 m4 H2 l2 o2 hck.2.1
          obtain ⟨us3, g3, y3⟩ := w3 W2 m4 H2 l2 o2 hck.2.2
          rw [hK] at g1 g2 g3
          have n1 := y1.length
          have n2 := y2.length
          have n3 := y3.length
          refine ⟨fun d hd => ?_, fun hi => ?_⟩
          · have hd : ((ys1.zip (ys2.zip ys3)).map fun p => D.tup [p.1, p.2.1, p.2.2])[i]? = some d := hd
            rw [List.getElem?_map] at hd
            cases hz : (ys1.zip (ys2.zip ys3))[i]? with
            | none => rw [hz] at hd; cases hd
            | some pr =>
              rw [hz] at hd; cases hd
              obtain ⟨x1, x2, x3⟩ := pr
              obtain ⟨z1, z23⟩ := List.getElem?_zip_eq_some.mp hz
              obtain ⟨z2, z3⟩ := List.getElem?_zip_eq_some.mp z23
              obtain ⟨v1, b1, b2⟩ := y1.get z1
              obtain ⟨v2, b5, b4⟩ := y2.get z2
              obtain ⟨v3, b6, b7⟩ := y3.get z3
              refine ⟨⟨us1, us2, us3, v1, v2, v3, g1, g2, g3, b1, b5, b6⟩, fun x H3 hx => ?_⟩
              obtain ⟨T, w1, w2, w3, rfl, hT, rfl, f1, f2, f3⟩ := hx
              have f1 := f1 us1 g1
              have f2 := f2 us2 g2
              have f3 := f3 us3 g3
              rw [b1] at f1; cases f1
              rw [b5] at f2; cases f2
              rw [b6] at f3; cases f3
              obtain ⟨l3, o3⟩ := o2.froz (o := .tup [v1, v2, v3]) hT
              refine ⟨_, l3, o3, ?_⟩
              simp only [Rp]
              exact ⟨T, _, rfl, .inl upd_same, Rps.cons (b2.mono l3 x1) (Rps.cons (b4.mono l3 x2) (Rps.one (b7.mono l3 x3)))⟩
          · have hi : ((ys1.zip (ys2.zip ys3)).map _).length = i := hi
            rw [List.length_map, List.length_zip, List.length_zip] at hi
            exact ⟨us1, us2, us3, g1, g2, g3, by omega, by omega, by omega, by omega⟩
        · exact q.elim
theorem pid_enum (hm : X.mg "enumerate" = none) (h1 : PE X e (tD c E f)) (hK : c.K = X.K := by rfl) (hg : Gl X "enumerate" := by rfl) (hs : starEach [e] X.env = [(false, eval e X.env)] := by rfl) :
    PI X (.Tuple elts kk tpos) (.Call (.Name "enumerate" p) [e] [] pos) (tI c E (dEnum f)) :=
  PI.weak (pi_enum hg hm (pad_cons (es := []) h1 pad_nil hs) hs) fun σ H R ⟨W, ρ, m, o, s, q⟩ => by
    refine ⟨W, ρ, m, o, s, ?_⟩
    have q : Pst c E (Yld c) ((f ρ m).bind fun d m1 => match vwW m1 d with
      | some (true, xs, ck) => .ok ⟨enumD 0 xs, ck⟩ m1
      | _ => .stuck) W R := q
    show Pst c E (Rps c) ((f ρ m).bind fun d m1 => (Rs.ok [] m1).bind fun ds m2 => Rs.ok (d :: ds) m2) W _
    cases hf : f ρ m with
    | stuck => rw [hf] at q; exact q
    | err e m1 => rw [hf] at q; exact q
    | ok d m1 =>
      rw [hf] at q
      simp only [Rs.bind_ok] at q ⊢
      intro W1 H1 xs l1 o1 r1
      obtain ⟨v, rfl, r3⟩ := rps1 r1
      split at q
      · rename_i ys c1 q1
        obtain ⟨i1, a, rfl, w1⟩ := vwW_ok o1 q1 r3
        obtain ⟨vs1, s1, t1⟩ := w1 W1 m1 H1 (le.refl _) o1 i1
        refine ⟨a, vs1, rfl, hK ▸ (s1 : SqL c.K H1 a vs1), q W1 H1 (Ite X.K a) l1 o1 ?_⟩
        intro W2 m3 H2 i l2 o2 hck
        obtain ⟨us1, g1, y1⟩ := w1 W2 m3 H2 l2 o2 hck
        rw [hK] at g1
        have g1 : SqL X.K H2 a us1 := g1
        have n1 := y1.length
        refine ⟨fun d hd => ?_, fun hi => ?_⟩
        · have hd : (enumD 0 ys)[i]? = some d := hd
          rw [enumD_at] at hd
          cases hz : ys[i]? with
          | none => rw [hz] at hd; cases hd
          | some x1 =>
            rw [hz] at hd; cases hd
            obtain ⟨v1, b1, b2⟩ := y1.get hz
            refine ⟨⟨us1, v1, g1, b1⟩, fun x H3 hx => ?_⟩
            obtain ⟨T, w1, rfl, hT, rfl, f1⟩ := hx
            have f1 := f1 us1 g1
            rw [b1] at f1; cases f1
            obtain ⟨l3, o3⟩ := o2.froz (o := .tup [.int (i : Nat), v1]) hT
            refine ⟨_, l3, o3, ?_⟩
            simp only [Rp]
            exact ⟨T, _, rfl, .inl upd_same, Rps.cons (by simp [Rp]) (Rps.one (b2.mono l3 x1))⟩
        · have hi : (enumD 0 ys).length = i := hi
          rw [enumD_len] at hi
          exact ⟨us1, g1, by omega⟩
      · exact q.elim
end

/-! ### calls by name -/
section
variable {X : Cx} {c : Ct} {E : XK} {pos p : Pos} {CX : CXT} {k : Nat} {f : Addr} {fd : FuncData} {ps ks : List Str} {fn : Fn} {x : Str} {e : Expr} {es : List Expr} {kws : List Keyword} {fs fk : EvG (List D)} {g : List Value → List Value → List Value} {gV : List V → List V → List V} {gD : List D → List D → List D}
theorem pd_callK (F : FnOk X.prog X.w X.K X.mg X.base CX k f fd ps (spD c fn)) (hr : Room k X.A) (hm : X.mg x = some (.ref f)) (hk : PySem.W.keepIn X.K (.ref f) = true) (hb : KBinds X.K fd ps ks g gV) (hx : Passes CX X E)
    (hD : ∀ (W : Wd) (ds zs : List D) (vs us : List V), Rps c W ds vs → Rps c W zs us → Rps c W (gD ds zs) (gV vs us))
    (ha : PA X (e :: es) (tDs c E fs)) (hkw : PK X kws (tDs c E fk)) (hg : Gl X x := by rfl) (hall : (backToKw pos (keywordEach kws X.env)).all (·.1.isSome) = true := by rfl) (hks : (backToKw pos (keywordEach kws X.env)).filterMap (·.1) = ks := by rfl)
    (hdb : (x == ("__debug__" : Str)) = false := by decide) (he : starEach (e :: es) X.env = (false, eval e X.env) :: starEach es X.env := by rfl)
    (hpl : ((backTo pos (starEach (e :: es) X.env)).any (·.1) || (backToKw pos (keywordEach kws X.env)).any (·.1.isNone)) = false := by rfl) : PE X (.Call (.Name x p) (e :: es) kws pos) (tD c E (dCallK fn gD fs fk)) :=
  PE.weak (pe_callK F hr hg hm hk hb hx ha hkw hall hks hdb he hpl) fun σ H Q ⟨W, ρ, m, o, s, q⟩ => by
    refine ⟨W, ρ, m, o, s, Pst.imp (Pst.bind q) fun xs H1 ⟨W1, ds, m1, l1, o1, r1, p1⟩ => ?_⟩
    refine ⟨W1, ρ, m1, o1, s.mono l1, Pst.imp (Pst.bind p1) fun ys H2 ⟨W2, zs, m2, l2, o2, r2, p2⟩ => ?_⟩
    exact ⟨W2, gD ds zs, m2, o2, hD _ _ _ _ _ (r1.mono l2 ds) r2, p2⟩
theorem pe_callK0 {sp : Sp} {tk : TA} (F : FnOk X.prog X.w X.K X.mg X.base CX k f fd ps sp) (hr : Room k X.A) (hg : Gl X x) (hm : X.mg x = some (.ref f)) (hk : PySem.W.keepIn X.K (.ref f) = true) (hb : KBinds X.K fd ps ks g gV) (hx : Passes CX X E)
    (hkw : PK X kws tk) (hall : (backToKw pos (keywordEach kws X.env)).all (·.1.isSome) = true := by rfl) (hks : (backToKw pos (keywordEach kws X.env)).filterMap (·.1) = ks := by rfl)
    (hdb : (x == ("__debug__" : Str)) = false := by decide) (hpl : ((backTo pos (starEach [] X.env)).any (·.1) || (backToKw pos (keywordEach kws X.env)).any (·.1.isNone)) = false := by rfl) :
    PE X (.Call (.Name x p) [] kws pos) (fun σ H Q => tk σ H fun zs H2 => sp (gV [] zs) H2 Q E) := by
  refine ⟨fun pins s σ H Q I h => ?_⟩
  refine wpAny_Call_Name_kw (ld_glob I hg hm ?_ hdb)
  refine PySem.W.callWith_KW0 (h₀ := X.base) I.ok.mod.kin hk hall (thn (hkw.run pos pins s σ H _ I h) fun ws s2 ⟨zs, H2, I2, rz, q2⟩ => ⟨I2.kIn, ?_⟩) hpl
  rw [hks]
  exact run_fnk (us := []) (vs := []) F hr hb hx I2 .nil rz q2
def dCallK0 (fn : Fn) (h : List D → List D → List D) (ks : EvG (List D)) : Ev := fun ρ m => (ks ρ m).bind fun ws m2 => fn (h [] ws) m2
theorem pd_callK0 (F : FnOk X.prog X.w X.K X.mg X.base CX k f fd ps (spD c fn)) (hr : Room k X.A) (hm : X.mg x = some (.ref f)) (hk : PySem.W.keepIn X.K (.ref f) = true) (hb : KBinds X.K fd ps ks g gV) (hx : Passes CX X E)
    (hD : ∀ (W : Wd) (ds zs : List D) (vs us : List V), Rps c W ds vs → Rps c W zs us → Rps c W (gD ds zs) (gV vs us))
    (hkw : PK X kws (tDs c E fk)) (hg : Gl X x := by rfl) (hall : (backToKw pos (keywordEach kws X.env)).all (·.1.isSome) = true := by rfl) (hks : (backToKw pos (keywordEach kws X.env)).filterMap (·.1) = ks := by rfl)
    (hdb : (x == ("__debug__" : Str)) = false := by decide) (hpl : ((backTo pos (starEach [] X.env)).any (·.1) || (backToKw pos (keywordEach kws X.env)).any (·.1.isNone)) = false := by rfl) : PE X (.Call (.Name x p) [] kws pos) (tD c E (dCallK0 fn gD fk)) :=
  PE.weak (pe_callK0 F hr hg hm hk hb hx hkw hall hks hdb hpl) fun σ H Q ⟨W, ρ, m, o, s, q⟩ => by
    refine ⟨W, ρ, m, o, s, Pst.imp (Pst.bind q) fun ys H2 ⟨W2, zs, m2, l2, o2, r2, p2⟩ => ?_⟩
    exact ⟨W2, gD [] zs, m2, o2, hD _ _ _ _ _ Rps.nil r2, p2⟩
end
end LN
/-! hand rules: == and != of dicts whose values are data -/
namespace L2
open PySem PySem.Spec PyProof.Rows
inductive HitsV (K : PySem.W.Frag) (H : Hp) (ls : List (Key × V)) : List (Key × V) → Bool → Prop
  | nil : HitsV K H ls [] true
  | miss {k : Key} {v : V} {r : List (Key × V)} : valV ls k = none → HitsV K H ls ((k, v) :: r) false
  | hit {k : Key} {v u : V} {d e : PyData} {r : List (Key × V)} {b : Bool} : valV ls k = some u → Dp K H v d → Dp K H u e → SeqAt.shaped d = true → SeqAt.shaped e = true → HitsV K H ls r b → HitsV K H ls ((k, v) :: r) (PyData.eqv d e && b)
section
variable {X : Cx} {pins : List (Addr × Obj)} {σ : St} {H : Hp} {s : Shared}
theorem hitsV_run (I : Inv X pins σ H s) {A : Around} (hu : A.in1.units + 64 < cLine) {ls : List (Key × V)} {vb : List (Key × Value)} (rb : KV ls vb) {ks : List (Key × V)} {r : Bool} (h : HitsV X.K H ls ks r) :
    ∀ {va : List (Key × Value)}, KV ks va → PySem.W.KeqHits A.in1 s vb va r := by
  induction h with
  | nil => intro va ra; cases ra; exact .nil
  | @miss k v r e =>
    intro va ra
    cases ra with
    | @cons p q ps qs h t =>
      obtain ⟨key, w⟩ := q
      have h1 : k = key := h.1
      subst h1
      refine .miss ?_
      have := rb.val k
      rw [e] at this
      cases hv : valueAt vb k with
      | none => rfl
      | some z => rw [hv] at this; exact this.elim
  | @hit k v u d e r b e1 d1 d2 s1 s2 _ ih =>
    intro va ra
    cases ra with
    | @cons p q ps qs h t =>
      obtain ⟨key, w⟩ := q
      have h1 : k = key := h.1
      subst h1
      have rr : RelO (some u) (valueAt vb k) := by rw [← e1]; exact rb.val k
      obtain ⟨y, hy, ry⟩ := rr.some_of
      obtain ⟨as, r1⟩ := Dp.reads I d v w d1 h.2
      obtain ⟨bs, r2⟩ := Dp.reads I e u y d2 ry
      exact .hit hy (PySem.W.keq_at r1 r2 s1 s2 hu) (ih t)
def rEqK (neg : Bool) (K : PySem.W.Frag) : R2 := fun x y H Q => ∃ a b ks ls r, x = .ref a ∧ y = .ref b ∧ Rd H a (.dK ks) ∧ Rd H b (.dK ls) ∧ HitsV K H ls ks r ∧ Q (.bl (neg ^^ (ks.length == ls.length && r))) H
end
section
variable {X : Cx}
theorem op_eqK (hu : X.A.units + 66 < cLine) : OpR X (compareOp .Eq) (rEqK false X.K) := by
  intro pins s σ H x y v u Q I rx ry h
  obtain ⟨a, b, ks, ls, r, rfl, rfl, ha, hb, hh, q⟩ := h
  cases (show v = Value.ref a from rx)
  cases (show u = Value.ref b from ry)
  obtain ⟨_, ya, va, ra, da⟩ := dk_rd I.hok ha
  obtain ⟨_, yb, vb, rb, db⟩ := dk_rd I.hok hb
  refine PySem.W.keq_eq (knd := mixKind X.prog X.w) ya yb da db (by omega) (fun _ => hitsV_run I (A := X.A) (by show X.A.units + 1 + 64 < cLine; omega) rb hh ra) ?_
  have e1 : va.length = ks.length := (Paired.length ra).symm
  have e2 : vb.length = ls.length := (Paired.length rb).symm
  rw [e1, e2]
  exact ⟨.bl _, H, I, rfl, by simpa using q⟩
theorem op_neK (hu : X.A.units + 66 < cLine) : OpR X (compareOp .NotEq) (rEqK true X.K) := by
  intro pins s σ H x y v u Q I rx ry h
  obtain ⟨a, b, ks, ls, r, rfl, rfl, ha, hb, hh, q⟩ := h
  cases (show v = Value.ref a from rx)
  cases (show u = Value.ref b from ry)
  obtain ⟨_, ya, va, ra, da⟩ := dk_rd I.hok ha
  obtain ⟨_, yb, vb, rb, db⟩ := dk_rd I.hok hb
  refine PySem.W.keq_ne (knd := mixKind X.prog X.w) ya yb da db (by omega) (fun _ => hitsV_run I (A := X.A) (by show X.A.units + 1 + 64 < cLine; omega) rb hh ra) ?_
  have e1 : va.length = ks.length := (Paired.length ra).symm
  have e2 : vb.length = ls.length := (Paired.length rb).symm
  rw [e1, e2]
  exact ⟨.bl _, H, I, rfl, by simpa using q⟩
end
end L2
namespace LN
open PySem L2 PySem.Spec PyProof.Rows
def hitsD (js : List L2.Key) (ys : List D) : List L2.Key → List D → Option Bool
  | k :: ks, x :: xs => match lookD js ys k with
    | none => some false
    | some y => match py x, py y, hitsD js ys ks xs with
      | some a, some b, some r => if SeqAt.shaped a = true ∧ SeqAt.shaped b = true then some (PyData.eqv a b && r) else none
      | _, _, _ => none
  | _, _ => some true
def gEqA (neg : Bool) (x y : D) (m : Mem) : Rs D := match vwKA m x, vwKA m y with
  | some (ks, xs), some (js, ys) => match hitsD js ys ks xs with
    | some r => .ok (.bl (neg ^^ (ks.length == js.length && r))) m
    | none => .stuck
  | none, none => gEq neg x y m
  | _, _ => .stuck
section
variable {X : Cx} {c : Ct} {E : XK}
theorem hitsD_ok {W : Wd} {m : Mem} {H : Hp} (o : Ok c W m H) {js : List L2.Key} {ys : List D} {us : List V} (lj : js.length = us.length) (ry : Rps c W ys us) : ∀ {ks : List L2.Key} {xs : List D} {vs : List V} {r : Bool}, hitsD js ys ks xs = some r →
    ks.length = vs.length → Rps c W xs vs → HitsV c.K H (js.zip us) (ks.zip vs) r
  | [], xs, vs, r, h, l, rx => by
    have : vs = [] := List.eq_nil_of_length_eq_zero (by simpa using l.symm)
    subst this
    cases xs <;> simp only [hitsD, Option.some.injEq] at h <;> subst h <;> exact .nil
  | k :: ks, [], vs, r, h, l, rx => by
    have := rx.length
    simp at l this
    omega
  | k :: ks, x :: xs, [], r, h, l, rx => by simp at l
  | k :: ks, x :: xs, v :: vs, r, h, l, rx => by
    simp only [Rps] at rx
    obtain ⟨v', r', e, r1, r2⟩ := rx
    cases e
    have hl := lookD_ok k ry lj
    simp only [hitsD] at h
    simp only [List.zip_cons_cons]
    split at h
    · rename_i hn
      cases h
      exact .miss (hl.2 hn)
    · rename_i y hy
      obtain ⟨u, h1, h2⟩ := hl.1 y hy
      split at h
      · rename_i a b r3 p1 p2 p3
        split at h
        · rename_i hs
          cases h
          exact .hit h1 (py_dp o x p1 r1) (py_dp o y p2 h2) hs.1 hs.2 (hitsD_ok o lj ry p3 (by simpa using l) r2)
        · cases h
      · cases h
theorem os_eqK {neg : Bool} (hK : c.K = X.K := by rfl) : ∀ (W : Wd) (m : Mem) (H : Hp) (x y : V) (dx dy : D) (Q : VK), Ok c W m H → Rp c W dx x → Rp c W dy y → Pst c E (Rp c) (gEqA neg dx dy m) W Q →
    rEqK neg X.K x y H Q ∨ Pst c E (Rp c) (gEq neg dx dy m) W Q := fun W m H x y dx dy Q o rx ry p => by
  unfold gEqA at p
  split at p
  · rename_i ks xs js ys h1 h2
    split at p
    · rename_i r hr
      obtain ⟨a, vs, rfl, q1, l1, r1⟩ := vwKA_ok o h1 rx
      obtain ⟨b, us, rfl, q2, l2, r2⟩ := vwKA_ok o h2 ry
      refine .inl ⟨a, b, _, _, r, rfl, rfl, q1, q2, hK ▸ hitsD_ok o l2 r2 hr l1 r1, ?_⟩
      rw [List.length_zip, List.length_zip, ← l1, ← l2, Nat.min_self, Nat.min_self]
      exact p W H _ (le.refl _) o (by simp [Rp])
    · exact p.elim
  · exact .inr p
  · exact p.elim
theorem os_eqA (hK : c.K = X.K := by rfl) : OpS c E (fun x y H Q => rEqK false X.K x y H Q ∨ rEqD X.K x y H Q) (gEqA false) := fun W m H x y dx dy Q o rx ry p =>
  (os_eqK hK W m H x y dx dy Q o rx ry p).imp id fun p => os_eq (X := X) hK W m H x y dx dy Q o rx ry p
theorem os_neA (hK : c.K = X.K := by rfl) : OpS c E (fun x y H Q => rEqK true X.K x y H Q ∨ rNeD X.K x y H Q) (gEqA true) := fun W m H x y dx dy Q o rx ry p =>
  (os_eqK hK W m H x y dx dy Q o rx ry p).imp id fun p => os_ne (X := X) hK W m H x y dx dy Q o rx ry p
theorem op_eqA (hu : X.A.units + 66 < cLine) : OpR X (compareOp .Eq) (fun x y H Q => rEqK false X.K x y H Q ∨ rEqD X.K x y H Q) := OpR.or (op_eqK hu) (op_eqD (by omega))
theorem op_neA (hu : X.A.units + 66 < cLine) : OpR X (compareOp .NotEq) (fun x y H Q => rEqK true X.K x y H Q ∨ rNeD X.K x y H Q) := OpR.or (op_neK hu) (op_neD (by omega))
end
end LN
namespace LN
open PySem L2 PySem.Spec PyProof.Rows

/-! ### defs with defaults -/
section
variable {c : Ct} {P : Program} {w : World} {mg : Str → Option Value} {base : Heap} {x qual : Str} {params : Arguments} {body : List Stmt} {scope : Scope} {dvs : List V} {kws : List (Str × V)} {f : Addr} {fd : FuncData} {N ps : List Str} {k np nl : Nat} {b : Bd}
theorem fnOkD (F : FunD c.K x qual params body scope dvs kws f fd) (S : FnScope N ps scope) (hnp : ps.length = np) (hnl : N.length = nl)
    (hbody : ∀ (cdv : Value) (A : Around) (outer : List Env) (s : Shared) (H : Hp) (E : XK), Room k (A.deeper (envOfC qual scope s.heap.objs.size f cdv)) →
      PSs (cxOf (L2.CX P w) P w c.K mg base N qual scope f cdv A outer s H E) body (tS c E b)) : FnOk P w c.K mg base (L2.CX P w) (k + 1) f fd ps (spD c (fnD np nl b)) :=
  F.ok S (spD_len hnp) fun cdv A outer s H vs Q E hr h => ⟨_, hbody cdv A outer s H E hr, body_at hnl h⟩
theorem fnOkMD (F : FunD c.K x qual params body scope dvs kws f fd) (S : FnScope N ps scope) (hnp : ps.length = np) (hnl : N.length = nl)
    (hbody : ∀ (cdv : Value) (A : Around) (outer : List Env) (s : Shared) (H : Hp) (E : XK), Room k (A.deeper (envOfC qual scope s.heap.objs.size f cdv)) →
      PSs (cxOf (L2.CX P w) P w c.K mg base N qual scope f cdv A outer s H E) body (tS c E b)) : FnOk P w c.K mg base (L2.CX P w) (k + 1) f fd ps (spD c (fnM np nl b)) :=
  F.ok S (spM_len hnp) fun cdv A outer s H vs Q E hr h => ⟨_, hbody cdv A outer s H E hr, bodyM_at hnl h⟩
theorem kb_of {K : PySem.W.Frag} {ks : List Str} {g : {α : Type} → List α → List α → List α} (F : FunD K x qual params body scope [] kws f fd)
    (h : ∀ (kV doc pm : Value) (an : Option Addr) (cdv ct : Value) (us ws : List Value), (g us ws).length = ps.length → bindArgs (PySem.W.fnOf x qual params body scope .none kV doc pm an cdv ct) ⟨us, ks.zip ws⟩ = pure (ps.zip (g us ws)))
    (hrel : ∀ {vs : List V} {us : List Value} {zs : List V} {ws : List Value}, Vals vs us → Vals zs ws → Vals (g vs zs) (g us ws)) : KBinds K fd ps ks g g := by
  obtain ⟨oc, od, dV, kV, doc, pm, an, cdv, ct, osl, rfl, lk, hcd, hD, hK⟩ := F.ex
  rcases hD with ⟨_, rfl⟩ | ⟨e, _⟩
  · exact ⟨fun s us ws _ hl => .of_eq (h kV doc pm an cdv ct us ws hl), fun r1 r2 => hrel r1 r2⟩
  · exact absurd rfl e
end
section
variable {X : Cx} {E : XK}
theorem passE (hs : X.stack = X.env :: X.outer) (hf : X.env.frame = some X.env.locals) (hex : X.ex = []) {E₁ : Value → Shared → Prop}
    (hx : X.xe = fun e s' => wpAny (model X.prog X.w) X.A (leaving X.env e) (fun _ s'' => L2.CX X.prog X.w X.outer X.H_0 X.s_0 E e s'') E₁ s') : Passes (L2.CX X.prog X.w) X E :=
  passes_call (takes_of hs hf hex hx) (fun _ _ _ _ z => z)
theorem hu65_of {A : Around} {k : Nat} (hr : Room k A) : A.units + 65 < cLine := by have := hr.un; omega
theorem hu66_of {A : Around} {k : Nat} (hr : Room k A) : A.units + 66 < cLine := by have := hr.un; omega
theorem passE0 : Passes (L2.CX X.prog X.w) X E0 := fun _ _ _ _ _ _ _ ⟨_, _, _, _, _, _, _, _, _, _, _, _, h⟩ => h.elim
end
end LN
namespace L2
open PySem PySem.Spec PyProof.Rows
section
variable {X : Cx} {e st : Expr} {te : TE} {ts : TO} {pos p2 : Pos}
/-- a[::s], s is -1; a a list or a tuple of other than one item -/
def tRevS (K : PySem.W.Frag) (te : TE) (ts : TO) : TE := fun σ H Q => te σ H fun x H1 => ts σ H1 fun l H2 => l = some (-1) ∧
  ∃ a xs, x = .ref a ∧ SqL K H2 a xs ∧ ∀ p, H2 p = none → Q (.ref p) (upd H2 p (.lst xs.reverse))
theorem vals_rev : ∀ {xs : List V} {us : List Value}, Vals xs us → Vals xs.reverse us.reverse := fun {xs us} r => by
  have l := r.length
  refine vals_of_at (by simpa using l) fun j x u h1 h2 => ?_
  have hj : j < xs.length := by
    have := (List.getElem?_eq_some_iff.mp h1).1
    simpa using this
  rw [List.getElem?_reverse hj] at h1
  rw [List.getElem?_reverse (by omega)] at h2
  rw [← l] at h2
  obtain ⟨w, hw, rw'⟩ := r.get h1
  rw [h2] at hw; cases hw
  exact rw'
theorem pe_rev (he : PE X e te) (hs : PO X (some st) ts) : PE X (.Subscript e (.Slice none none (some st) p2) pos) (tRevS X.K te ts) := by
  refine ⟨fun pins s σ H Q I h => ?_⟩
  refine Subscript_ (thn (he.run pins s σ H _ I h) fun v s1 ⟨x, H1, I1, r1, q1⟩ => ?_)
  refine wpAny_Slice ?_
  rw [evalPart_none]
  refine wpAny_pure (wpAny_pure ?_)
  refine thn (hs.run pins s1 σ H1 _ I1 q1) fun vs s3 ⟨l, H3, I3, pl, el, q3⟩ => ?_
  subst el
  have I4 : Inv X pins σ H3 { s3 with heap := s3.heap.push { cls := .type "slice", data := .fields #[.none, .none, vs] } } := I3.kept (t' := s3.toks) fun b ob q => Heap.get?_push_of_some _ q
  show wpAny (model X.prog X.w) X.A (subscriptTail e (.Slice none none (some st) p2) v (.ref s3.heap.objs.size)) (EP X pins σ Q) X.xe { s3 with heap := s3.heap.push { cls := .type "slice", data := .fields #[.none, .none, vs] } }
  obtain ⟨a, xs, rfl, hx, q⟩ := q3
  cases r1
  obtain ⟨its, r, ht, hz⟩ := I4.list hx
  refine tail_any (ops := [.ref a, .ref s3.heap.objs.size]) (T := "list") ht.isList.typeIs slot_list_getitem.lookup ?_ (by with_unfolding_all rfl)
  refine wpAny_getItem_list_slice ht.isList (Heap.IsSliceOf.new ..) .none .none pl (by decide) ?_ (by rw [List.size_toArray, ← r.length]; exact hz)
  rw [PySem.W.krv_pick]
  refine ⟨.ref _, _, I4.laid (t' := s3.toks) (o := .lst xs.reverse) (fun b ob q => Heap.get?_push_of_some _ q) (Nat.le_refl _) ?_, rfl, q _ (I4.hok.fresh (Nat.le_refl _))⟩
  exact ⟨by rw [List.length_reverse]; exact hz, its.reverse, 0, vals_rev r, Heap.get?_push_size _ rfl⟩
end
end L2
namespace HT
open PySem PySem.Spec PyProof.Rows
section
variable {prog : Program} {w : World} {A : Around} {E : Value → Shared → Prop} {s : Shared}
theorem places_rev (n : Nat) : Builtin.Slice.slicePlaces ((n : Int) - 1) (-1) (-1) = n := by
  unfold Builtin.Slice.slicePlaces
  rw [if_neg (by decide)]
  by_cases h : n = 0
  · subst h; rfl
  · rw [if_pos (by omega)]
    have : ((n : Int) - 1 - (-1) - 1) / (- -1) + 1 = n := by
      rw [show (- -1 : Int) = 1 by decide, Int.ediv_one]; omega
    rw [this]; simp
theorem sliceApplied_rev {sl : Addr} {vs : Value} {n : Nat} {Q : Int × Int × Nat → Shared → Prop} (hs : s.heap.IsSliceOf sl .none .none vs) (ps : IsPart vs (some (-1)))
    (h : Q ((n : Int) - 1, -1, n) s) : wpAny (model prog w) A (Builtin.Slice.sliceApplied (.ref sl) (pure (n : Int))) Q E s := by
  obtain ⟨os, hos, hcs, hds⟩ := id hs
  unfold Builtin.Slice.sliceApplied Builtin.Slice.sliceFields
  refine wpAny_bind (wpAny_bind (wpAny_field hos hds (x := .none) rfl (wpAny_bind (wpAny_field hos hds (x := .none) rfl (wpAny_bind (wpAny_field hos hds (x := vs) rfl (wpAny_pure ?_)))))))
  refine wpAny_bind (slicePart_ ps ?_)
  show wpAny _ _ (if ((-1 : Int) == 0) = true then _ else _) _ _ s
  rw [if_neg (by decide)]
  refine wpAny_bind (slicePart_none (wpAny_bind (slicePart_none (wpAny_bind (wpAny_pure ?_)))))
  show wpAny _ _ (pure ((n : Int) - 1, (-1 : Int), Builtin.Slice.slicePlaces ((n : Int) - 1) (-1) (-1))) _ _ s
  rw [places_rev]
  exact wpAny_pure h
theorem pick_back (xs : Array Value) : ((List.range xs.size).filterMap fun (m : Nat) => xs[((xs.size : Int) - 1 + (m : Int) * -1).toNat]?).toArray = xs.toList.reverse.toArray := by
  congr 1
  have e : (List.range xs.size).filterMap (fun (m : Nat) => xs[((xs.size : Int) - 1 + (m : Int) * -1).toNat]?) = ((List.range xs.size).map fun k => xs.size - 1 - k).filterMap (xs[·]?) := by
    rw [List.filterMap_map]
    have key : ∀ l : List Nat, (∀ m ∈ l, m < xs.size) → l.filterMap (fun (m : Nat) => xs[((xs.size : Int) - 1 + (m : Int) * -1).toNat]?) = l.filterMap ((xs[·]?) ∘ fun k => xs.size - 1 - k) := by
      intro l
      induction l with
      | nil => intro _; rfl
      | cons m l ih =>
        intro h
        have hm := h m (by simp)
        have e2 : ((xs.size : Int) - 1 + (m : Int) * -1).toNat = xs.size - 1 - m := by omega
        rw [List.filterMap_cons, List.filterMap_cons, ih fun x hx => h x (by simp [hx]), e2]
        rfl
    exact key _ fun m hm => List.mem_range.mp hm
  rw [e, PySem.W.krv_range, List.filterMap_reverse, PySem.W.krv_all]
theorem getItem_tuple_rev {t sl : Addr} {items : Array Value} {vs : Value} {Q : Value → Shared → Prop} (ht : IsTup s.heap t items) (hs : s.heap.IsSliceOf sl .none .none vs) (ps : IsPart vs (some (-1)))
    (h : Q (.ref s.heap.objs.size) { s with heap := s.heap.push { cls := .type "tuple", data := .seq items.toList.reverse.toArray } })
    (hsz : items.size ≤ sizeLine) : wpAny (model prog w) A (getItem (.ref t) (.ref sl)) Q E s := by
  have htake : sizeOk (.seq items.toList.reverse.toArray) := by
    show items.toList.reverse.toArray.size ≤ sizeLine
    rw [List.size_toArray, List.length_reverse, Array.length_toList]
    exact hsz
  obtain ⟨os, hos, hcs, hds⟩ := id hs
  have hTs : s.TypeIs (.ref sl) "slice" := ⟨os, hos, hcs⟩
  unfold getItem
  try with_reducible refine wpAny_holding ?_
  first | refine wpAny_bind (wpAny_pure ?_) | skip
  refine wpAny_bind (wpAny_sequenceKey ht.typeIs (by decide) ?_)
  refine wpAny_bind (wpAny_callSpecial?_slot (name := Str.ofString "__getitem__") ht.typeIs PyProof.Rows.slot_tuple_getitem
    (wpAny_call_entry PyProof.Rows.slot_tuple_getitem ht.typeIs entry_tuple_getitem ?_ (args_tuple_getitem _ _)))
  show wpAny _ _ (Builtin.Tuple.tupleItemsOf (.ref t) >>= _) _ _ s
  refine wpAny_bind (tupleItemsOf_ ht ?_)
  refine wpAny_bind (wpAny_typeOf hTs ?_)
  rw [if_pos (by decide)]
  refine wpAny_bind (sliceApplied_rev (n := items.size) hs ps ?_)
  have hno : ¬ ((((items.size : Int) - 1) == 0 && (-1 : Int) == 1 && items.size == items.size) = true) := by
    intro q
    rw [Bool.and_eq_true, Bool.and_eq_true] at q
    exact absurd q.1.2 (by decide)
  show wpAny _ _ (if (((items.size : Int) - 1) == 0 && (-1 : Int) == 1 && items.size == items.size) = true then _ else _) _ _ s
  rw [if_neg hno, pick_back]
  first
    | exact wpAny_bind (m := Builtin.Tuple.tupleExact _) (wpAny_newObj_type (wpAny_pure ⟨_, rfl, wpAny_pure h⟩) htake)
    | exact wpAny_bind (m := Builtin.Tuple.tupleExact _) (wpAny_newObj_type (wpAny_bind (wpAny_pure (wpAny_pure ⟨_, rfl, wpAny_pure h⟩))) htake)
    | exact wpAny_bind (wpAny_bind (m := Builtin.Tuple.tupleExact _) (wpAny_newObj_type (wpAny_pure (wpAny_pure ⟨_, rfl, wpAny_pure h⟩)) htake))
    | exact wpAny_bind (wpAny_bind (m := Builtin.Tuple.tupleExact _) (wpAny_newObj_type (wpAny_pure ⟨_, rfl, wpAny_pure h⟩) htake))
end
end HT
namespace L2
open PySem PySem.Spec PyProof.Rows
section
variable {X : Cx} {e st : Expr} {te : TE} {ts : TO} {pos p2 : Pos}
/-- a[::s], s is -1; a a list or a tuple -/
def tRevA (K : PySem.W.Frag) (te : TE) (ts : TO) : TE := fun σ H Q => te σ H fun x H1 => ts σ H1 fun l H2 => l = some (-1) ∧
  ((∃ a xs, x = .ref a ∧ SqL K H2 a xs ∧ ∀ p, H2 p = none → Q (.ref p) (upd H2 p (.lst xs.reverse))) ∨
   (∃ a xs, x = .ref a ∧ SqT K H2 a xs ∧ ∀ p, H2 p = none → Q (.ref p) (upd H2 p (.tup xs.reverse))))
theorem pe_revA (he : PE X e te) (hs : PO X (some st) ts) : PE X (.Subscript e (.Slice none none (some st) p2) pos) (tRevA X.K te ts) := by
  refine ⟨fun pins s σ H Q I h => ?_⟩
  refine Subscript_ (thn (he.run pins s σ H _ I h) fun v s1 ⟨x, H1, I1, r1, q1⟩ => ?_)
  refine wpAny_Slice ?_
  rw [evalPart_none]
  refine wpAny_pure (wpAny_pure ?_)
  refine thn (hs.run pins s1 σ H1 _ I1 q1) fun vs s3 ⟨l, H3, I3, pl, el, q3⟩ => ?_
  subst el
  have I4 : Inv X pins σ H3 { s3 with heap := s3.heap.push { cls := .type "slice", data := .fields #[.none, .none, vs] } } := I3.kept (t' := s3.toks) fun b ob q => Heap.get?_push_of_some _ q
  show wpAny (model X.prog X.w) X.A (subscriptTail e (.Slice none none (some st) p2) v (.ref s3.heap.objs.size)) (EP X pins σ Q) X.xe { s3 with heap := s3.heap.push { cls := .type "slice", data := .fields #[.none, .none, vs] } }
  rcases q3 with q3 | q3
  · obtain ⟨a, xs, rfl, hx, q⟩ := q3
    cases r1
    obtain ⟨its, r, ht, hz⟩ := I4.list hx
    refine tail_any (ops := [.ref a, .ref s3.heap.objs.size]) (T := "list") ht.isList.typeIs slot_list_getitem.lookup ?_ (by with_unfolding_all rfl)
    refine wpAny_getItem_list_slice ht.isList (Heap.IsSliceOf.new ..) .none .none pl (by decide) ?_ (by rw [List.size_toArray, ← r.length]; exact hz)
    rw [PySem.W.krv_pick]
    refine ⟨.ref _, _, I4.laid (t' := s3.toks) (o := .lst xs.reverse) (fun b ob q => Heap.get?_push_of_some _ q) (Nat.le_refl _) ?_, rfl, q _ (I4.hok.fresh (Nat.le_refl _))⟩
    exact ⟨by rw [List.length_reverse]; exact hz, its.reverse, 0, vals_rev r, Heap.get?_push_size _ rfl⟩
  · obtain ⟨a, xs, rfl, hx, q⟩ := q3
    cases r1
    obtain ⟨its, r, ht, hz⟩ := I4.tuple hx
    refine tail_any (ops := [.ref a, .ref s3.heap.objs.size]) (T := "tuple") ht.typeIs PyProof.Rows.slot_tuple_getitem.lookup ?_ (by with_unfolding_all rfl)
    refine HT.getItem_tuple_rev ht (Heap.IsSliceOf.new ..) pl ?_ (by rw [List.size_toArray, ← r.length]; exact hz)
    refine ⟨.ref _, _, I4.laid (t' := s3.toks) (o := .tup xs.reverse) (fun b ob q => Heap.get?_push_of_some _ q) (Nat.le_refl _) ?_, rfl, q _ (I4.hok.fresh (Nat.le_refl _))⟩
    exact ⟨by rw [List.length_reverse]; exact hz, its.reverse, vals_rev r, IsTup.new _ _⟩
end
end L2
namespace LN
open PySem L2 PySem.Spec PyProof.Rows
/-- a[::-1], a list or a tuple -/
def gRv (fin : List D → Mem → Rs D) (d : D) (m : Mem) : Rs D := match d with
  | .tup xs => .ok (.tup xs.reverse) m
  | d => match vwL m d with
    | some xs => fin xs.reverse m
    | none => .stuck
def dRev (fin : List D → Mem → Rs D) (f : Ev) (fs : EvG (Option Int)) : Ev := fun ρ m => (f ρ m).bind fun d m1 => (fs ρ m1).bind fun o m2 => if o = some (-1) then gRv fin d m2 else .stuck
section
variable {X : Cx} {c : Ct} {E : XK} {e st : Expr} {f : Ev} {fs : EvG (Option Int)} {pos p2 : Pos} {fin : List D → Mem → Rs D}
theorem pd_rev (F : FinN fin) (he : PE X e (tD c E f)) (hs : PO X (some st) (tG c E Ro fs)) (hK : c.K = X.K := by rfl) : PE X (.Subscript e (.Slice none none (some st) p2) pos) (tD c E (dRev fin f fs)) :=
  PE.weak (pe_revA he hs) fun σ H Q ⟨W, ρ, m, o, s, q⟩ => by
    refine ⟨W, ρ, m, o, s, Pst.imp (Pst.bind q) fun x H1 ⟨W1, d, m1, l1, o1, r1, p1⟩ => ?_⟩
    refine ⟨W1, ρ, m1, o1, s.mono l1, Pst.imp (Pst.bind p1) fun l H2 ⟨W2, l2', m2, l2, o2, r2, p2⟩ => ?_⟩
    have e2 : l2' = l := r2
    subst e2
    split at p2
    case isFalse => exact p2.elim
    rename_i e1
    refine ⟨e1, ?_⟩
    have r1 := r1.mono l2 d
    unfold gRv at p2
    split at p2
    · rename_i xs
      simp only [Rp] at r1
      obtain ⟨a, vs, rfl, q1, r1⟩ := r1
      exact .inr ⟨a, vs, rfl, hK ▸ (q1.mono o2.g).sq, Pst.tup o2 r1.reverse p2⟩
    · split at p2
      · rename_i xs hx
        obtain ⟨a, vs, rfl, q1, q2⟩ := vwL_ok o2 hx r1
        exact .inl ⟨a, vs, rfl, SqL.of q1, F.mak o2 q2.reverse p2⟩
      · exact p2.elim
end
/-! x op= y over whole numbers -/
def gAddI : D → D → Mem → Rs D
  | .int i, .int j, m => .ok (.int (i + j)) m
  | _, _, _ => .stuck
theorem os_addI {c : Ct} {E : XK} : OpS c E (rI0 fun i j => .int (i + j)) gAddI := fun W m H x y dx dy Q o rx ry p => by
  unfold gAddI at p
  split at p
  · simp only [Rp] at rx ry; subst rx; subst ry
    exact ⟨_, _, rfl, rfl, p W H _ (le.refl _) o (by simp [Rp])⟩
  · exact p.elim
def gSubI : D → D → Mem → Rs D
  | .int i, .int j, m => .ok (.int (i - j)) m
  | _, _, _ => .stuck
theorem os_subI {c : Ct} {E : XK} : OpS c E (rI0 fun i j => .int (i - j)) gSubI := fun W m H x y dx dy Q o rx ry p => by
  unfold gSubI at p
  split at p
  · simp only [Rp] at rx ry; subst rx; subst ry
    exact ⟨_, _, rfl, rfl, p W H _ (le.refl _) o (by simp [Rp])⟩
  · exact p.elim
/-! len, of dicts too -/
def bLenA : List D → Mem → Rs D
  | [d], m => match dictLen m d with
    | some n => .ok (.int n) m
    | none => bLen [d] m
  | _, _ => .stuck
def rLenB (K : PySem.W.Frag) : List V → Hp → VK → Prop := fun xs H Q => rLenAll K xs H Q ∨ (∃ a kvs, xs = [V.ref a] ∧ H a = some (.dK kvs) ∧ Q (.int kvs.length) H) ∨ rLenT xs H Q
theorem cr_lenA {X : Cx} : CallR X (.builtin "len") (rLenB X.K) := CallR.or cr_len (CallR.or call_lenD call_len_dT)
theorem zip_len {α β : Type} {xs : List α} {ys : List β} (h : xs.length = ys.length) : (xs.zip ys).length = xs.length := by simp [h]
theorem cs_lenA {X : Cx} {c : Ct} {E : XK} (hK : c.K = X.K := by rfl) : CallS c E (rLenB X.K) bLenA := fun W m H xs ds Q o r p => by
  unfold bLenA at p
  split at p
  · rename_i d m'
    split at p
    · rename_i n hn
      obtain ⟨v, rfl, q⟩ := rps1 r
      have q1 := p W H (.int n) (le.refl _) o (by simp [Rp])
      unfold dictLen at hn
      split at hn
      · rename_i ks ys
        cases hn
        simp only [Rp] at q
        obtain ⟨a, vs, rfl, h1, h2, h3⟩ := q
        refine .inr (.inl ⟨a, _, rfl, o.g _ _ h1, ?_⟩)
        rw [zip_len h2]; exact q1
      · rename_i ks ys
        cases hn
        simp only [Rp] at q
        obtain ⟨a, vs, rfl, h1, h2, h3⟩ := q
        refine .inr (.inr ⟨a, _, rfl, o.g _ _ h1, ?_⟩)
        rw [zip_len h2]; exact q1
      · rename_i f i
        simp only [Rp] at q
        obtain ⟨a, rfl, hi⟩ := q
        split at hn
        · rename_i ks ys hg
          cases hn
          obtain ⟨b, e1, ⟨vs, e2, e3, e4⟩, _⟩ := o.i _ _ _ hg rfl
          rw [hi] at e1; cases e1
          refine .inr (.inl ⟨a, _, rfl, e2, ?_⟩)
          rw [zip_len e3]; exact q1
        · rename_i ks ys hg
          cases hn
          obtain ⟨b, e1, ⟨vs, e2, e3, e4⟩, _⟩ := o.i _ _ _ hg rfl
          rw [hi] at e1; cases e1
          refine .inr (.inr ⟨a, _, rfl, e2, ?_⟩)
          rw [zip_len e3]; exact q1
        · cases hn
      · cases hn
    · exact .inl (cs_len (X := X) hK W m H xs _ Q o r p)
  · exact p.elim
end LN
/-! LNta: dicts that are displayed, lists that are unpacked. -/
namespace LN
open PySem L2 PySem.Spec PyProof.Rows

section
variable {c : Ct} {W : Wd} {m : Mem} {H : Hp} {D : Addr}
/-- a dict that is displayed stands empty while its pairs are made -/
theorem Ok.pinD (k : Ok c W m H) {p : Addr} (hp : H p = none) : Ok c { W with L := upd W.L p (.dK []) } m (upd H p (.dK [])) := by
  generalize hu : HO.dK [] = u
  have gn : W.G p = none := by
    cases e : W.G p with
    | none => rfl
    | some u => rw [k.g _ _ e] at hp; cases hp
  have ne : ∀ {f i a o'}, m.get f i = some o' → o'.alive = true → W.ι f i = some a → a ≠ p := fun {f i a o'} h1 h2 h3 => by
    obtain ⟨b, e1, e2, _⟩ := k.i f i o' h1 h2
    rw [h3] at e1; cases e1
    obtain ⟨u, e⟩ := e2.some h2
    exact ne_of_none e hp
  refine ⟨fun a v h => ?_, fun a v h => ?_, fun a v h => ?_, fun f i o h1 h2 => ?_, k.inj, k.rng, k.lt, fun a v h => ?_⟩
  · have := k.g a v h
    rw [upd_ne (ne_of_none this hp)]; exact this
  · have h : upd W.L p u a = some v := h
    by_cases e : a = p
    · subst e; rw [upd_same] at h ⊢; exact h
    · rw [upd_ne e] at h ⊢; exact k.l a v h
  · have h : upd W.L p u a = some v := h
    by_cases e : a = p
    · rw [e]; exact gn
    · rw [upd_ne e] at h; exact k.gl a v h
  · obtain ⟨a, e1, e2, e3, e4⟩ := k.i f i o h1 h2
    have na := ne h1 h2 e1
    refine ⟨a, e1, ?_, e3, e4.eq (by show upd W.L p u a = W.L a; rw [upd_ne na])⟩
    have e2' : MoR c { W with L := upd W.L p u } H a o := e2.L
    exact e2'.mono (le.refl _) fun v h => by rw [upd_ne na]; exact h
  · have h : upd W.L p u a = some v := h
    by_cases e : a = p
    · subst e; rw [upd_same] at h; cases h; exact .inr (.inr hu.symm)
    · rw [upd_ne e] at h; exact k.ll a v h
theorem Ok.ne_pinD (k : Ok c W m H) (hD : W.L D = some (.dK [])) : ∀ {f i a o'}, m.get f i = some o' → o'.alive = true → W.ι f i = some a → a ≠ D := fun {f i a o'} h1 h2 h3 => by
  obtain ⟨b, e1, e2, e3, e4⟩ := k.i f i o' h1 h2
  rw [h3] at e1; cases e1
  rintro rfl
  have hd := k.l _ _ hD
  cases o' with
  | fk ks xs => obtain ⟨ob, vs, q, r⟩ := e2; rw [hd] at q; cases q
  | ft ks xs => obtain ⟨ob, vs, q, r⟩ := e2; rw [hd] at q; cases q
  | lst xs => rw [e4.un rfl] at hD; cases hD
  | dk ks xs => rw [e4.un rfl] at hD; cases hD
  | dt ks xs => rw [e4.un rfl] at hD; cases hD
  | dead => cases h2
theorem Ok.dropD (k : Ok c W m H) (hD : W.L D = some (.dK [])) : Ok c { W with L := rm W.L D } m (rm H D) := by
  have hG := k.gl D _ hD
  refine ⟨fun a v h => ?_, fun a v h => ?_, fun a v h => k.gl a v (rm_some h).2, fun f i o h1 h2 => ?_, k.inj, k.rng, k.lt, fun a v h => k.ll a v (rm_some h).2⟩
  · rw [rm_ne (ne_of_none h hG)]; exact k.g a v h
  · obtain ⟨e, h⟩ := rm_some h
    rw [rm_ne e]; exact k.l a v h
  · obtain ⟨a, e1, e2, e3, e4⟩ := k.i f i o h1 h2
    have na := k.ne_pinD hD h1 h2 e1
    refine ⟨a, e1, ?_, e3, e4.eq (by show rm W.L D a = W.L a; rw [rm_ne na])⟩
    have e2' : MoR c { W with L := rm W.L D } H a o := e2.L
    exact e2'.mono (le.refl _) fun v h => by rw [rm_ne na]; exact h
end
theorem upd_rm {H : Hp} {D : Addr} {u : HO} : upd (rm H D) D u = upd H D u := by
  funext b
  by_cases e : b = D
  · subst e; rw [upd_same, upd_same]
  · rw [upd_ne e, upd_ne e, rm_ne e]
/-- the pairs of a display -/
def dPrs : List (Ev × Ev) → EvG (List (D × D))
  | [], _, m => .ok [] m
  | (f, g) :: r, ρ, m => (f ρ m).bind fun k m1 => (g ρ m1).bind fun x m2 => (dPrs r ρ m2).bind fun ps m3 => .ok ((k, x) :: ps) m3
def keyPs : List (D × D) → Option (List (L2.Key × D))
  | [] => some []
  | (k, x) :: r => match keyD k, keyPs r with
    | some k, some ps => some ((k, x) :: ps)
    | _, _ => none
def mkDisp (fin : List L2.Key → List D → Mem → Rs D) (ps : List (D × D)) (m : Mem) : Rs D := match keyPs ps with
  | some kx => if kx.length ≤ 15 then fin (mergeD kx [] []).1 (mergeD kx [] []).2 m else .stuck
  | none => .stuck
/-- {k: x, ..} -/
def dDisp (fin : List L2.Key → List D → Mem → Rs D) (fs : List (Ev × Ev)) : Ev := fun ρ m => (dPrs fs ρ m).bind fun ps m1 => mkDisp fin ps m1
def Rpp (c : Ct) (W : Wd) (ps : List (D × D)) (vs : List (V × V)) : Prop := Rps c W (ps.map (·.1)) (vs.map (·.1)) ∧ Rps c W (ps.map (·.2)) (vs.map (·.2))
section
variable {c : Ct} {E : XK} {X : Cx} {pos : Pos} {fin : List L2.Key → List D → Mem → Rs D}
theorem tPairs_of : ∀ (fs : List (Ev × Ev)) (σ : L2.St) (H : Hp) (Q : List (V × V) → Hp → Prop) (W : Wd) (ρ : Lc) (m : Mem), Ok c W m H → Sl c W ρ σ → Pst c E (Rpp c) (dPrs fs ρ m) W Q →
    tPairs (fs.map fun p => (tD c E p.1, tD c E p.2)) σ H Q
  | [], σ, H, Q, W, ρ, m, o, s, p => p W H [] (le.refl _) o ⟨Rps.nil, Rps.nil⟩
  | (f, g) :: r, σ, H, Q, W, ρ, m, o, s, p => by
    refine ⟨W, ρ, m, o, s, Pst.imp (Pst.bind p) fun x H1 ⟨W1, d1, m1, l1, o1, r1, p1⟩ => ?_⟩
    refine ⟨W1, ρ, m1, o1, s.mono l1, Pst.imp (Pst.bind p1) fun y H2 ⟨W2, d2, m2, l2, o2, r2, p2⟩ => ?_⟩
    refine tPairs_of r σ H2 _ W2 ρ m2 o2 ((s.mono l1).mono l2) (Pst.imp (Pst.bind p2) fun ps H3 ⟨W3, ds, m3, l3, o3, r3, p3⟩ => ?_)
    exact p3 W3 H3 _ (le.refl _) o3 ⟨Rps.cons ((r1.mono l2 d1).mono l3 d1) r3.1, Rps.cons (r2.mono l3 d2) r3.2⟩
theorem keyPs_ok {W : Wd} : ∀ {ps : List (D × D)} {kx : List (L2.Key × D)} {vs : List (V × V)}, keyPs ps = some kx → Rpp c W ps vs →
    ∃ us, vs = ((kx.map (·.1)).zip us).map (fun kv => (kV kv.1, kv.2)) ∧ us.length = kx.length ∧ Rps c W (kx.map (·.2)) us
  | [], kx, vs, h, r => by
    cases h
    obtain ⟨r1, r2⟩ := r
    simp only [List.map_nil, Rps, List.map_eq_nil_iff] at r1
    subst r1
    exact ⟨[], rfl, rfl, Rps.nil⟩
  | (k, x) :: ps, kx, vs, h, r => by
    simp only [keyPs] at h
    split at h
    · rename_i k' kx' h1 h2
      cases h
      obtain ⟨r1, r2⟩ := r
      cases vs with
      | nil => simp [Rps] at r1
      | cons v vs =>
        simp only [List.map_cons, Rps] at r1 r2
        obtain ⟨_, _, e1, q1, t1⟩ := r1
        cases e1
        obtain ⟨_, _, e2, q2, t2⟩ := r2
        cases e2
        obtain ⟨us, g1, g2, g3⟩ := keyPs_ok h2 ⟨t1, t2⟩
        have ek := keyD_ok h1 q1
        refine ⟨v.2 :: us, ?_, by simp [g2], Rps.cons q2 g3⟩
        rw [g1]
        obtain ⟨v1, v2⟩ := v
        dsimp only at ek ⊢
        simp only [List.map_cons, List.zip_cons_cons, List.cons.injEq, Prod.mk.injEq, and_true]
        exact ek
    · cases h
theorem pd_disp (F : FinK fin) {keys : List (Option Expr)} {values : List Expr} {fs : List (Ev × Ev)} (h : PPs X pos keys values (fs.map fun p => (tD c E p.1, tD c E p.2))) (hall : keys.all (·.isSome) = true := by rfl) (hl : keys.length = values.length := by rfl) (h0 : keys ≠ [] := by exact fun z => by cases z)
    (h15 : keys.length ≤ 15 := by decide) : PE X (.Dict keys values pos) (tD c E (dDisp fin fs)) :=
  PE.weak (pe_disp h hall hl h0 h15) fun σ H Q ⟨W, ρ, m, o, s, q⟩ => fun p hp => by
    have ln : W.L p = none := by
      cases e : W.L p with
      | none => rfl
      | some u => rw [o.l _ _ e] at hp; cases hp
    have l0 : le W { W with L := upd W.L p (.dK []) } := ⟨fun _ _ h => h, fun a u h => by show upd W.L p _ a = _; rw [upd_ne (ne_of_none h ln)]; exact h, fun _ _ _ h => h⟩
    refine tPairs_of fs σ _ _ _ ρ m (o.pinD hp) (s.mono l0) (Pst.imp (Pst.bind2 q l0) fun vs H1 ⟨W1, ps, m1, l1, o1, r1, p1⟩ => ?_)
    have hL : W1.L p = some (.dK []) := l1.l _ _ upd_same
    refine ⟨o1.l _ _ hL, ?_⟩
    unfold mkDisp at p1
    split at p1
    · rename_i kx hk
      split at p1
      · rename_i h15
        obtain ⟨us, g1, g2, g3⟩ := keyPs_ok hk r1
        refine ⟨_, g1, by rw [List.length_zip, List.length_map, g2, Nat.min_self]; exact h15, ?_⟩
        obtain ⟨vs', k1, k2, k3⟩ := mergeD_ok (ks := []) (xs := []) (vs := []) g2 g3 List.nodup_nil rfl Rps.nil
        have k1 : mergeK [] ((kx.map (·.1)).zip us) = (mergeD kx [] []).1.zip vs' := k1
        rw [k1, ← upd_rm]
        have l2 : le W { W1 with L := rm W1.L p } := le.rm (l0.trans l1) ln
        exact F.mak (o1.dropD hL) k2 ((Rps_L _).mp k3) (Pst.mono l2 p1) p rm_same
      · exact p1.elim
    · exact p1.elim
/-- (a, b, ..) = a list -/
def gTL (gs : Tgs) : Tg := fun d ρ m => match vwL m d with
  | some ds => gs ds ρ m
  | none => .stuck
theorem pgd_unl {es : List Expr} {gs : Tgs} {is : List Nat} {k} {n : Nat} (hc : X.calm = true) (h : PGs X es (tTgs c E is gs)) (hl : Tgs.len gs n) (hn : (assignEach es X.env).length = n := by rfl) (hst : (assignEach es X.env).findIdx? (·.1) = none := by rfl) (hK : c.K = X.K := by rfl) :
    PG X (.Tuple es k pos) (tTg c E is (gTL gs)) :=
  PG.weak (pg_unl hc h hn hst) fun v σ H Q ⟨W, ρ, m, d, o, s, r, p⟩ => by
    unfold gTL at p
    split at p
    · rename_i ds hv
      obtain ⟨a, vs, rfl, q1, q2⟩ := vwL_ok o hv r
      have hd : ds.length = n := Decidable.byContradiction fun z => by
        have p : Pst c E _ (gs ds ρ m) W Q := p
        rw [hl ds ρ m z] at p; exact p
      exact ⟨a, vs, rfl, SqL.of q1, by rw [← q2.length]; exact hd, W, ρ, m, ds, o, s, q2, p⟩
    · exact p.elim
end
end LN
/-! LNtb: max of a list, a list that is repeated, the place of an item. -/
namespace LN
open PySem L2 PySem.Spec PyProof.Rows

theorem fmax_ok : ∀ (ns : List Int) (n : Int), (ns.foldl max n = n ∨ ns.foldl max n ∈ ns) ∧ n ≤ ns.foldl max n ∧ ∀ y ∈ ns, y ≤ ns.foldl max n
  | [], n => ⟨.inl rfl, Int.le_refl _, by simp⟩
  | a :: ns, n => by
    obtain ⟨h1, h2, h3⟩ := fmax_ok ns (max n a)
    rw [List.foldl_cons]
    refine ⟨?_, by omega, fun y hy => ?_⟩
    · rcases h1 with h1 | h1
      · rw [h1]
        by_cases h : a ≤ n
        · left; omega
        · right; have : max n a = a := by omega
          rw [this]; simp
      · right; simp [h1]
    · rcases List.mem_cons.mp hy with e | e
      · subst e; omega
      · exact h3 y e
theorem fmax_eq {ns : List Int} {n m : Int} (hm : m ∈ n :: ns) (hy : ∀ y ∈ n :: ns, y ≤ m) : ns.foldl max n = m := by
  obtain ⟨h1, h2, h3⟩ := fmax_ok ns n
  have a1 : ns.foldl max n ≤ m := by
    rcases h1 with h1 | h1
    · rw [h1]; exact hy n (by simp)
    · exact hy _ (by simp [h1])
  have a2 : m ≤ ns.foldl max n := by
    rcases List.mem_cons.mp hm with e | e
    · rw [e]; exact h2
    · exact h3 m e
  omega
def bMaxL : List D → Mem → Rs D
  | [d], m => match vwL m d with
    | some ys => match dInts ys with
      | some (n :: ns) => .ok (.int (ns.foldl max n)) m
      | _ => .stuck
    | none => .stuck
  | _, _ => .stuck
/-- list * int -/
def gMulA (fin : List D → Mem → Rs D) (x y : D) (m : Mem) : Rs D := match x, y with
  | .lst xs, .int k => if (-(2 ^ 63) ≤ k ∧ k < 2 ^ 63) ∧ xs.length * k.toNat ≤ 16777216 then fin (List.replicate k.toNat xs).flatten m else .stuck
  | x, y => gMul x y m
/-- xs.index(y) -/
def gIdx (d : D) (ds : List D) (m : Mem) : Rs D := match ds with
  | [y] => match vwL m d, toPy m d, toPy m y with
    | some _, some (.list es), some e => if SeqAt.shaped (.list es) = true ∧ SeqAt.shaped e = true then (match es.findIdx? (fun z => PyData.eqv z e) with
      | some j => .ok (.int (j : Nat)) m
      | none => .stuck) else .stuck
    | _, _, _ => .stuck
  | _ => .stuck
section
variable {X : Cx} {c : Ct} {E : XK} {fin : List D → Mem → Rs D}
theorem cs_maxL (hK : c.K = X.K := by rfl) : CallS c E (rMax X.K) bMaxL := fun W m H xs ds Q o r p => by
  unfold bMaxL at p
  split at p
  · obtain ⟨v, rfl, q⟩ := rps1 r
    split at p
    · rename_i ys h
      obtain ⟨a, vs, rfl, q2, q3⟩ := vwL_ok o h q
      split at p
      · rename_i n ns h2
        refine ⟨a, n :: ns, rfl, SqL.of (by rw [q2, ints_ok h2 q3]), by simp, fun k hk hy => ?_⟩
        rw [fmax_eq hk hy] at p
        exact p W H _ (le.refl _) o (by simp [Rp])
      · exact p.elim
    · exact p.elim
  · exact p.elim
def rMulA : R2 := fun x y H Q => rRep x y H Q ∨ rI (fun i j => mulOk i j = true) (fun i j => .int (i * j)) x y H Q
theorem op_mulAA : OpR X (binaryOp .Mult) rMulA := OpR.or op_rep op_mulA
theorem Rps.rep {W : Wd} {xs : List D} {vs : List V} (r : Rps c W xs vs) : ∀ k : Nat, Rps c W (List.replicate k xs).flatten (List.replicate k vs).flatten
  | 0 => Rps.nil
  | k + 1 => by
    rw [List.replicate_succ, List.replicate_succ, List.flatten_cons, List.flatten_cons]
    exact r.append (Rps.rep r k)
theorem os_mulA (F : FinN fin) : OpS c E rMulA (gMulA fin) := fun W m H x y dx dy Q o rx ry p => by
  unfold gMulA at p
  split at p
  · rename_i xs k
    split at p
    · rename_i h
      simp only [Rp] at rx ry
      obtain ⟨a, vs, rfl, q1, r1⟩ := rx
      subst ry
      refine .inl ⟨a, k, vs, rfl, rfl, o.g _ _ q1, h.1.1, h.1.2, ?_, F.mak o (r1.rep k.toNat) p⟩
      rw [← r1.length, sizeLine_eq]
      exact h.2
    · exact p.elim
  · exact .inr (os_mul W m H x y _ _ Q o rx ry p)
theorem ms_idx (hK : c.K = X.K := by rfl) : MtS c E (rIndexD X.K) gIdx := fun W m H x xs dx ds Q o rx rs p => by
  unfold gIdx at p
  split at p
  · rename_i y
    obtain ⟨v, rfl, q⟩ := rps1 rs
    split at p
    · rename_i zs es e h1 h2 h3
      split at p
      · rename_i hs
        split at p
        · rename_i j hj
          obtain ⟨a, vs, rfl, q2, q3⟩ := vwL_ok o h1 rx
          obtain ⟨hl, k1, k2⟩ := List.findIdx?_eq_some_iff_getElem.mp hj
          refine ⟨a, v, e, es, j, es[j], rfl, rfl, hK ▸ toPy_dp o h2 rx, hK ▸ toPy_dp o h3 q, hs.1, hs.2, List.getElem?_eq_getElem hl, k1, fun i z hi hz => ?_, p W H _ (le.refl _) o (by simp [Rp])⟩
          have := k2 i hi
          obtain ⟨h4, h5⟩ := List.getElem?_eq_some_iff.mp hz
          rw [h5] at this
          simpa using this
        · exact p.elim
      · exact p.elim
    · exact p.elim
  · exact p.elim
end
end LN
/-! LNtc: enumerate of a list or a tuple. -/
namespace L2
open PySem PySem.Spec PyProof.Rows
set_option maxHeartbeats 4000000 in
theorem meets_enumerate_new1 {v : Value} {o : Obj} {H : Heap → Prop} (B : Begins v o H) :
    Meets (Builtin.«enumerate.__new__» ⟨[.type "enumerate", v], []⟩) (fun _ R s => H s.heap ∧
      R (.ok (.ret (.ref (s.heap.push o).objs.size))) { s with heap := (s.heap.push o).push { cls := .type "enumerate", data := .fields #[.none, .bool false, .ref s.heap.objs.size, rawInt 0, .none, .none] } }) :=
  .of_wp fun prog w A R s h => by
    obtain ⟨hp, g, d, tk, os⟩ := s; obtain ⟨h1, h⟩ := h
    have hsub := sub_enumerate
    have q1 : ∀ {A' : Around} {E : Value → Shared → Prop} {Q : Value → Shared → Prop}, Q (.ref hp.objs.size) ⟨hp.push o, g, d, tk, os⟩ → wpAny (model prog w) A' (pyIter v) Q E ⟨hp, g, d, tk, os⟩ :=
      fun q => B.iter prog w _ _ ⟨hp, g, d, tk, os⟩ _ h1 q
    wp_walk using q1
    refine wpAny_stack_any fun st => wpAny_pure ?_
    split
    · rename_i c _ _ _ _ _
      cases (c == Value.type "enumerate")
      · wp_walk using q1
        exact ⟨_, rfl, h⟩
      · wp_walk using q1
        exact ⟨_, rfl, h⟩
    · wp_walk using q1
      exact ⟨_, rfl, h⟩
section
variable {prog : Program} {w : World} {A : Around} {E : Value → Shared → Prop} {s : Shared}
theorem enum_begins1 {v : Value} {o : Obj} {H : Heap → Prop} {Q : Value → Shared → Prop} (B : Begins v o H) (h1 : H s.heap)
    (h : ∀ h', IsEnum h' (s.heap.objs.size + 1) s.heap.objs.size 0 .none → h'.get? s.heap.objs.size = some o → h'.objs.size = s.heap.objs.size + 2 →
      (∀ b o, s.heap.get? b = some o → h'.get? b = some o) → Q (.ref (s.heap.objs.size + 1)) { s with heap := h' }) :
    wpAny (model prog w) A (call (.type "enumerate") [v]) Q E s := by
  refine callType_new F.called_enumerate (by decide) (F.typeCall_enumerate_1 _) (F.newCall_enumerate_1 _) (fun obj => F.args_object_init_2 obj _) F.entry_enumerate_new
    (meets_enumerate_new1 B) ⟨h1, ?_⟩
  have hz : (s.heap.push o).objs.size = s.heap.objs.size + 1 := Heap.size_push ..
  show _ ∧ _
  rw [hz]
  have he : IsEnum ((s.heap.push o).push { cls := .type "enumerate", data := .fields #[.none, .bool false, .ref s.heap.objs.size, rawInt 0, .none, .none] }) (s.heap.objs.size + 1) s.heap.objs.size 0 .none := by
    have := Heap.get?_push_size (s.heap.push o) (o := { cls := .type "enumerate", data := .fields #[.none, .bool false, .ref s.heap.objs.size, rawInt 0, .none, .none] }) rfl
    rw [hz] at this; exact this
  refine ⟨⟨_, he, rfl⟩, h _ he (Heap.get?_push_of_some _ (Heap.get?_push_size _ B.free)) (by rw [Heap.size_push, hz]) fun b o x => Heap.get?_push_of_some _ (Heap.get?_push_of_some _ x)⟩
end
def Iteq (k : Bool) (K : PySem.W.Frag) (a : Addr) : It :=
  ⟨fun i H => ∃ (xs : List V) (x : V), Sqk k K H a xs ∧ xs[i]? = some x, fun i H v H' => ∃ T x, v = .ref T ∧ H T = none ∧ H' = upd H T (.tup [.int (i : Nat), x]) ∧ ∀ xs, Sqk k K H a xs → xs[i]? = some x, fun i H => ∃ xs : List V, Sqk k K H a xs ∧ i = xs.length⟩
theorem turn_enumq {P : Program} {w : World} {K : PySem.W.Frag} {elts : List Expr} {kk : Nat} {tpos : Pos} {k : Bool} {a e it : Addr} (nai : a ≠ it) (nei : e ≠ it) (nea : e ≠ a) :
    Turn P w K (.Tuple elts kk tpos) (Iteq k K a) [e, it] e (fun i h => (∃ old, IsEnum h e it ((i : Nat) : Int) old) ∧ Itek k h it a i) where
  mem := by simp
  obj := fun i h st b hb => by
    obtain ⟨⟨old, he⟩, hi⟩ := st
    have e' : b = e ∨ b = it := by simpa using hb
    rcases e' with z | z
    · rw [z]; exact ⟨_, he, fun v q => nomatch q⟩
    · rw [z]; exact hi.obj
  keep := fun i h h' st k => let ⟨⟨old, he⟩, hi⟩ := st; ⟨⟨old, k e (by simp) _ he⟩, hi.at fun o q => k it (by simp) o q⟩
  item := by
    intro X hP hw hK hc i pins s σ H E I hf st hg
    subst hP hw hK
    obtain ⟨⟨old, he⟩, hit⟩ := st
    obtain ⟨xs, x, hq, hx⟩ := hg
    obtain ⟨its, rv, p⟩ := sqk_at I hq
    obtain ⟨u, hu, ru⟩ := rv.get hx
    have hel : e < s.heap.objs.size := Heap.lt_size he
    have hil : it < s.heap.objs.size := by obtain ⟨o, q, _⟩ := hit.obj; exact Heap.lt_size q
    refine wpAny_pyNext_enum_itemD (drawk (I.ok.hd hc) nai its.toArray) he ⟨hit, p⟩ (lt_of_at hu) nei (by simp [nei, nea]) fun y h' tk ey ho st' hT hsz hk => ?_
    have ey : y = u := at_eq ey hu
    subst ey
    refine ⟨_, rfl, wpAny_letOwnedTupleGo_enum (s := { s with heap := h', toks := tk + 1 }) ho fun h'' he' sb => ?_⟩
    have hT2 : h''.get? s.heap.objs.size = some { cls := .type "tuple", data := .seq #[.int i tk, y] } := (sb.2 _ (Nat.ne_of_gt hel)).trans hT
    have new : ObjOk X.prog X.w (upd H s.heap.objs.size (.tup [.int (i : Nat), x])) h'' s.heap.objs.size (.tup [.int (i : Nat), x]) :=
      ⟨by show 2 ≤ sizeLine; decide, [.int i tk, y], .cons ⟨_, rfl⟩ (.cons ru .nil), ⟨_, hT2, rfl, _, rfl⟩⟩
    have I1 : Inv X pins σ (upd H s.heap.objs.size (.tup [.int (i : Nat), x])) { s with heap := h'', toks := tk + 1 } :=
      I.turnedNew (t' := tk + 1) (ch := [e, it]) (fun b ob hb q => (sb.2 b (fun z => hb (by simp [z]))).trans (hk b ob (fun z => hb (by simp [z])) (fun z => hb (by simp [z])) q)) hf (Nat.le_refl _) new
    refine ⟨.ref s.heap.objs.size, _, I1, rfl, ⟨_, x, rfl, I.hok.fresh (Nat.le_refl _), rfl, fun ys hy => by rw [sqk_inj I hy hq]; exact hx⟩, ⟨⟨y, ?_⟩, st'.1.at fun o q => (sb.2 it (Ne.symm nei)).trans q⟩, fun b hb => ?_⟩
    · have e1 : ((i + 1 : Nat) : Int) = (i : Int) + 1 := by omega
      rw [e1]; exact he'
    · have hb' : b < s.heap.objs.size := by
        have e' : b = e ∨ b = it := by simpa using hb
        rcases e' with z | z
        · rw [z]; exact hel
        · rw [z]; exact hil
      rw [upd_ne (Nat.ne_of_lt hb')]
      exact (hf b hb).1
  done := by
    intro X hP hw hK hc i pins s σ H E I hf st hg
    subst hP hw hK
    obtain ⟨⟨old, he⟩, hit⟩ := st
    obtain ⟨xs, hq, hx⟩ := hg
    obtain ⟨its, rv, p⟩ := sqk_at I hq
    obtain ⟨f0, f1, f2, f3, f4, f5⟩ := hf it (by simp)
    have hl := rv.length
    have hi : i = its.toArray.size := by rw [List.size_toArray]; omega
    rw [hi] at hit
    exact wpAny_pyNext_enum_endD (drawk (I.ok.hd hc) nai its.toArray) he ⟨hit, p⟩ fun h' eb => ⟨rfl, I.turned (t' := s.toks) (fun b o hb q => eb b o hb q) f0 f1 f3 f4 f5⟩
  self := fun A i s Q E st h => let ⟨⟨_, he⟩, _⟩ := st; wpAny_pyIter_enum he h
def iEnumq (K : PySem.W.Frag) (ta : TA) : TI := fun σ H R => ta σ H fun vs H1 => ∃ k a xs, vs = [.ref a] ∧ Sqk k K H1 a xs ∧ R (Iteq k K a) H1
theorem pi_enumq {X : Cx} {e : Expr} {ta : TA} {p pos tpos : Pos} {elts : List Expr} {kk : Nat} (hg : Gl X "enumerate") (hm : X.mg "enumerate" = none) (ha : PA X [e] ta) (hs : starEach [e] X.env = [(false, eval e X.env)] := by rfl) :
    PI X (.Tuple elts kk tpos) (.Call (.Name "enumerate" p) [e] [] pos) (iEnumq X.K ta) := by
  refine ⟨fun pins s σ H R I h => ?_⟩
  refine Call_ (ld_blt I hg hm boot_enumerate (PyProof.Rows.callWith_type1 (thn (ha.run pos pins s σ H _ I h) fun us s1 ⟨vs, H1, I1, r1, q1⟩ => ?_) hs rfl))
  obtain ⟨k, a, xs, ex, hq, q⟩ := q1
  subst ex
  cases r1 with
  | cons r rr =>
    cases rr
    cases r
    obtain ⟨its, rv, p'⟩ := sqk_at I1 hq
    have hlt : a < s1.heap.objs.size := sqk_lt p'
    refine enum_begins1 (begk a its.toArray) p' fun h' he hit hsz hk => wpAny_pyIter_enum he ?_
    have I2 : Inv X pins σ H1 { s1 with heap := h' } := I1.kept (t' := s1.toks) hk
    refine ⟨s1.heap.objs.size + 1, [s1.heap.objs.size + 1, s1.heap.objs.size], _, _, H1, rfl, I2, turn_enumq (k := k) (a := a) (Nat.ne_of_lt hlt) (Nat.succ_ne_self _) (Nat.ne_of_gt (Nat.lt_succ_of_lt hlt)), ⟨⟨.none, he⟩, itek_new hit⟩, fun b hb => ?_, q⟩
    have e' : b = s1.heap.objs.size + 1 ∨ b = s1.heap.objs.size := by simpa using hb
    have hle : s1.heap.objs.size ≤ b := by
      rcases e' with z | z
      · rw [z]; exact Nat.le_add_right _ _
      · rw [z]; exact Nat.le_refl _
    exact I1.fpOk hle (I1.hok.fresh hle)
end L2
namespace LN
open PySem L2 PySem.Spec PyProof.Rows
def dEnumA (f : Ev) : EvG Wk := fun ρ m => (f ρ m).bind fun d m1 => match vwW m1 d with
  | some (_, xs, ck) => .ok ⟨enumD 0 xs, ck⟩ m1
  | _ => .stuck
section
variable {X : Cx} {c : Ct} {E : XK} {pos p tpos : Pos} {e : Expr} {f : Ev} {elts : List Expr} {kk : Nat}
theorem pid_enumA (hm : X.mg "enumerate" = none) (h1 : PE X e (tD c E f)) (hK : c.K = X.K := by rfl) (hg : Gl X "enumerate" := by rfl) (hs : starEach [e] X.env = [(false, eval e X.env)] := by rfl) :
    PI X (.Tuple elts kk tpos) (.Call (.Name "enumerate" p) [e] [] pos) (tI c E (dEnumA f)) :=
  PI.weak (pi_enumq hg hm (pad_cons (es := []) h1 pad_nil hs) hs) fun σ H R ⟨W, ρ, m, o, s, q⟩ => by
    refine ⟨W, ρ, m, o, s, ?_⟩
    have q : Pst c E (Yld c) ((f ρ m).bind fun d m1 => match vwW m1 d with
      | some (_, xs, ck) => .ok ⟨enumD 0 xs, ck⟩ m1
      | _ => .stuck) W R := q
    show Pst c E (Rps c) ((f ρ m).bind fun d m1 => (Rs.ok [] m1).bind fun ds m2 => Rs.ok (d :: ds) m2) W _
    cases hf : f ρ m with
    | stuck => rw [hf] at q; exact q
    | err e m1 => rw [hf] at q; exact q
    | ok d m1 =>
      rw [hf] at q
      simp only [Rs.bind_ok] at q ⊢
      intro W1 H1 xs l1 o1 r1
      obtain ⟨v, rfl, r3⟩ := rps1 r1
      split at q
      · rename_i k ys c1 q1
        obtain ⟨i1, a, rfl, w1⟩ := vwW_ok o1 q1 r3
        obtain ⟨vs1, s1, t1⟩ := w1 W1 m1 H1 (le.refl _) o1 i1
        refine ⟨k, a, vs1, rfl, hK ▸ s1, q W1 H1 (Iteq k X.K a) l1 o1 ?_⟩
        intro W2 m3 H2 i l2 o2 hck
        obtain ⟨us1, g1, y1⟩ := w1 W2 m3 H2 l2 o2 hck
        rw [hK] at g1
        have n1 := y1.length
        refine ⟨fun d hd => ?_, fun hi => ?_⟩
        · have hd : (enumD 0 ys)[i]? = some d := hd
          rw [enumD_at] at hd
          cases hz : ys[i]? with
          | none => rw [hz] at hd; cases hd
          | some x1 =>
            rw [hz] at hd; cases hd
            obtain ⟨v1, b1, b2⟩ := y1.get hz
            refine ⟨⟨us1, v1, g1, b1⟩, fun x H3 hx => ?_⟩
            obtain ⟨T, w1, rfl, hT, rfl, f1⟩ := hx
            have f1 := f1 us1 g1
            rw [b1] at f1; cases f1
            obtain ⟨l3, o3⟩ := o2.froz (o := .tup [.int (i : Nat), v1]) hT
            refine ⟨_, l3, o3, ?_⟩
            simp only [Rp]
            exact ⟨T, _, rfl, .inl upd_same, Rps.cons (by simp [Rp]) (Rps.one (b2.mono l3 x1))⟩
        · have hi : (enumD 0 ys).length = i := hi
          rw [enumD_len] at hi
          exact ⟨us1, g1, by omega⟩
      · exact q.elim
end
end LN
/-! LNu: running the combinators by simp, from the inside out. -/
namespace LN
open PySem L2 PySem.Spec PyProof.Rows

/-! ### memory -/
section
variable {m r : Mem} {fr a b : List MO} {o : MO} {f i : Nat}
@[simp] theorem Mem.get_app : Mem.get (m ++ [fr]) m.length i = fr[i]? := by simp [Mem.get]
@[simp] theorem Mem.get_z : Mem.get (a :: r) 0 i = a[i]? := by simp [Mem.get]
@[simp] theorem Mem.get_s : Mem.get (a :: r) (f + 1) i = Mem.get r f i := by simp [Mem.get]
@[simp] theorem Mem.put_z : Mem.put (a :: r) 0 i o = a.set i o :: r := by simp [Mem.put]
@[simp] theorem Mem.put_s : Mem.put (a :: r) (f + 1) i o = a :: Mem.put r f i o := by simp [Mem.put]
@[simp] theorem Mem.put_app : Mem.put (m ++ [fr]) m.length i o = m ++ [fr.set i o] := by
  induction m with
  | nil => simp
  | cons x m ih => simp [ih]
@[simp] theorem Mem.put_len : (Mem.put m f i o).length = m.length := by simp [Mem.put]
@[simp] theorem Mem.new_app : Mem.new (m ++ [fr]) o = m ++ [fr ++ [o]] := by
  unfold Mem.new
  induction m with
  | nil => simp
  | cons x m ih =>
    have : (x :: m ++ [fr]).length - 1 = m.length + 1 := by simp
    rw [this]
    have h2 : (m ++ [fr]).length - 1 = m.length := by simp
    rw [h2] at ih
    simp [ih]
@[simp] theorem Mem.new_one : Mem.new [a] o = [a ++ [o]] := Mem.new_app (m := [])
@[simp] theorem Mem.new_cons : Mem.new (a :: b :: r) o = a :: Mem.new (b :: r) o := by simp [Mem.new]
@[simp] theorem Mem.nx_app : Mem.nx (m ++ [fr]) = .loc m.length fr.length := by simp [Mem.nx]
@[simp] theorem Mem.nx_one : Mem.nx [a] = .loc 0 a.length := by simp [Mem.nx]
def topLen : Mem → Nat
  | [] => 0
  | [a] => a.length
  | _ :: r => topLen r
@[simp] theorem topLen_one : topLen [a] = a.length := rfl
@[simp] theorem topLen_cons : topLen (a :: b :: r) = topLen (b :: r) := rfl
@[simp] theorem topLen_app : topLen (m ++ [fr]) = fr.length := by
  induction m with
  | nil => rfl
  | cons x m ih =>
    cases m with
    | nil => rfl
    | cons y m => exact ih
theorem topLen_eq : ∀ m : Mem, topLen m = ((m[m.length - 1]?).getD []).length
  | [] => rfl
  | [a] => by simp [topLen]
  | a :: b :: r => by
    have := topLen_eq (b :: r)
    simp only [topLen_cons, this]
    simp
@[simp] theorem Mem.nx_cons : Mem.nx (a :: b :: r) = .loc (r.length + 1) (topLen (b :: r)) := by
  unfold Mem.nx
  rw [topLen_eq]
  simp
@[simp] theorem Mem.get_app1 : Mem.get (m ++ a :: r) m.length i = a[i]? := by simp [Mem.get]
@[simp] theorem Mem.get_app2 : Mem.get (m ++ a :: b :: r) (m.length + 1) i = b[i]? := by
  unfold Mem.get
  rw [List.getElem?_append_right (by omega)]
  simp
@[simp] theorem Mem.put_app1 : Mem.put (m ++ a :: r) m.length i o = m ++ a.set i o :: r := by
  induction m with
  | nil => simp
  | cons x m ih => simp [ih]
@[simp] theorem Mem.put_app2 : Mem.put (m ++ a :: b :: r) (m.length + 1) i o = m ++ a :: b.set i o :: r := by
  induction m with
  | nil => simp
  | cons x m ih => simp [ih]
@[simp] theorem Mem.nx_app2 : Mem.nx (m ++ [a, b]) = .loc (m.length + 1) b.length := by
  have := Mem.nx_app (m := m ++ [a]) (fr := b)
  simpa using this
@[simp] theorem Mem.new_app2 : Mem.new (m ++ [a, b]) o = m ++ [a, b ++ [o]] := by
  have := Mem.new_app (m := m ++ [a]) (fr := b) (o := o)
  simpa using this
@[simp] theorem Mem.new_capp : Mem.new (a :: (r ++ [b])) o = a :: (r ++ [b ++ [o]]) := by
  have := Mem.new_app (m := a :: r) (fr := b) (o := o)
  simpa using this
@[simp] theorem Mem.nx_capp : Mem.nx (a :: (r ++ [b])) = .loc (r.length + 1) b.length := by
  have := Mem.nx_app (m := a :: r) (fr := b)
  simpa using this
@[simp] theorem Mem.take_app2 : List.take (m.length + 1) (m ++ [a, b]) = m ++ [a] := by
  rw [List.take_append]
  simp [List.take_of_length_le]
theorem newObj_app (h : o.lt (m.length + 1) = true) : newObj o (m ++ [fr]) = .ok (.loc m.length fr.length) (m ++ [fr ++ [o]]) := by
  unfold newObj
  rw [if_pos ⟨by simp, by simpa using h⟩]
  simp
@[simp] theorem set_last {α : Type} {l : List α} {a b : α} : (l ++ [a]).set l.length b = l ++ [b] := by
  rw [List.set_append_right _ _ (Nat.le_refl _)]; simp
theorem map_eraseI {α β : Type} {h : α → β} : ∀ {l : List α} {i : Nat}, (l.map h).eraseIdx i = (l.eraseIdx i).map h
  | [], i => by cases i <;> rfl
  | a :: l, 0 => rfl
  | a :: l, i + 1 => by simp [map_eraseI (l := l) (i := i)]
theorem perm_eraseI {α : Type} {a : α} : ∀ {l : List α} {i : Nat}, l[i]? = some a → (a :: l.eraseIdx i).Perm l
  | [], i, h => by simp at h
  | x :: l, 0, h => by simp at h; subst h; exact List.Perm.refl _
  | x :: l, i + 1, h => by
    have := perm_eraseI (l := l) (i := i) (by simpa using h)
    exact (List.Perm.swap _ _ _).trans (this.cons x)
@[simp] theorem newObj_eq : newObj o m = if m.length ≠ 0 ∧ o.lt m.length = true then .ok m.nx (m.new o) else .stuck := rfl
end
section
variable {n f i : Nat} {x : D} {xs : List D}
@[simp] theorem dlt_non : D.lt n .non = true := rfl
@[simp] theorem dlt_bl {b} : D.lt n (.bl b) = true := rfl
@[simp] theorem dlt_int {b} : D.lt n (.int b) = true := rfl
@[simp] theorem dlt_str {b} : D.lt n (.str b) = true := rfl
@[simp] theorem dlt_ty {b} : D.lt n (.ty b) = true := rfl
@[simp] theorem dlt_cls {b} : D.lt n (.cls b) = true := rfl
@[simp] theorem dlt_scr {b} : D.lt n (.scr b) = true := rfl
@[simp] theorem dlt_tup : D.lt n (.tup xs) = D.lts n xs := by simp only [D.lt]
@[simp] theorem dlt_lst : D.lt n (.lst xs) = D.lts n xs := by simp only [D.lt]
@[simp] theorem dlt_dk {ks} : D.lt n (.dk ks xs) = D.lts n xs := by simp only [D.lt]
@[simp] theorem dlt_dt {ks} : D.lt n (.dt ks xs) = D.lts n xs := by simp only [D.lt]
@[simp] theorem dlt_loc : D.lt n (.loc f i) = decide (f < n) := by simp only [D.lt]
@[simp] theorem dlts_nil : D.lts n [] = true := rfl
@[simp] theorem dlts_cons : D.lts n (x :: xs) = (D.lt n x && D.lts n xs) := rfl
@[simp] theorem molt_lst : (MO.lst xs).lt n = D.lts n xs := rfl
@[simp] theorem molt_dk {ks} : (MO.dk ks xs).lt n = D.lts n xs := rfl
@[simp] theorem molt_dt {ks} : (MO.dt ks xs).lt n = D.lts n xs := rfl
theorem dlts_map {α : Type} {g : α → D} {l : List α} (h : ∀ a ∈ l, D.lt n (g a) = true) : D.lts n (l.map g) = true := by
  rw [D.lts_iff]
  intro d hd
  obtain ⟨a, h1, rfl⟩ := List.mem_map.mp hd
  exact h a h1
@[simp] theorem dlts_app {ys : List D} : D.lts n (xs ++ ys) = (D.lts n xs && D.lts n ys) := by
  induction xs with
  | nil => simp
  | cons x xs ih => simp [ih, Bool.and_assoc]
end
@[simp] theorem lineOk_eq {n : Nat} : lineOk n = decide (n ≤ 16777216) := rfl

/-! ### expressions -/
section
variable {α β : Type} {ρ : Lc} {m : Mem} {i : Nat} {d da db : D} {g : D → D → Mem → Rs D} {fa fb f : Ev} {fs : EvG (List D)} {ds : List D} {b : Bool} {t u : EvG Bool}
theorem dV_eq : dV i ρ m = match ρ[i]? with
  | some (some d) => .ok d m
  | _ => .stuck := rfl
theorem dV_ok (h : ρ[i]? = some (some d)) : dV i ρ m = .ok d m := by rw [dV_eq, h]
def gV : Option (Option D) → Mem → Rs D
  | some (some d), m => .ok d m
  | _, _ => .stuck
@[simp] theorem gV_ok : gV (some (some d)) m = .ok d m := rfl
@[simp] theorem dV_run : dV i ρ m = gV ρ[i]? m := by
  rw [dV_eq]
  split
  · rename_i h; rw [h]; rfl
  · rename_i h
    unfold gV
    split
    · rename_i d h2; exact absurd h2 (h d)
    · rfl
@[simp] theorem dK_run : dK d ρ m = .ok d m := rfl
def kO1 (g : D → D → Mem → Rs D) (fb : Ev) (ρ : Lc) (a : D) (m : Mem) : Rs D := (fb ρ m).bind (g a)
@[simp] theorem dOp_run : dOp g fa fb ρ m = (fa ρ m).bind (kO1 g fb ρ) := rfl
@[simp] theorem kO1_run : kO1 g fb ρ da m = (fb ρ m).bind (g da) := rfl
def kTst (d : D) (m : Mem) : Rs Bool := match d with
  | .bl b => .ok b m
  | _ => .stuck
@[simp] theorem dTst_run : dTst f ρ m = (f ρ m).bind kTst := rfl
@[simp] theorem kTst_run : kTst (.bl b) m = .ok b m := rfl
def kAnd (u : EvG Bool) (ρ : Lc) (b : Bool) (m : Mem) : Rs Bool := if b = true then u ρ m else .ok false m
def kOr (u : EvG Bool) (ρ : Lc) (b : Bool) (m : Mem) : Rs Bool := if b = true then .ok true m else u ρ m
def kNot (b : Bool) (m : Mem) : Rs Bool := .ok (!b) m
@[simp] theorem dAnd_run : dAnd t u ρ m = (t ρ m).bind (kAnd u ρ) := rfl
@[simp] theorem dOr_run : dOr t u ρ m = (t ρ m).bind (kOr u ρ) := rfl
@[simp] theorem dNot_run : dNot t ρ m = (t ρ m).bind kNot := rfl
@[simp] theorem kAnd_t : kAnd u ρ true m = u ρ m := rfl
@[simp] theorem kAnd_f : kAnd u ρ false m = .ok false m := rfl
@[simp] theorem kOr_t : kOr u ρ true m = .ok true m := rfl
@[simp] theorem kOr_f : kOr u ρ false m = u ρ m := rfl
@[simp] theorem kNot_run : kNot b m = .ok (!b) m := rfl
def kAndV (fb : Ev) (ρ : Lc) (d : D) (m : Mem) : Rs D := match d with
  | .bl true => fb ρ m
  | .bl false => .ok (.bl false) m
  | _ => .stuck
def kOrV (fb : Ev) (ρ : Lc) (d : D) (m : Mem) : Rs D := match d with
  | .bl false => fb ρ m
  | .bl true => .ok (.bl true) m
  | _ => .stuck
def kNotV (d : D) (m : Mem) : Rs D := match d with
  | .bl b => .ok (.bl (!b)) m
  | _ => .stuck
@[simp] theorem dAndV_run : dAndV fa fb ρ m = (fa ρ m).bind (kAndV fb ρ) := rfl
@[simp] theorem dOrV_run : dOrV fa fb ρ m = (fa ρ m).bind (kOrV fb ρ) := rfl
@[simp] theorem dNotV_run : dNotV fa ρ m = (fa ρ m).bind kNotV := rfl
@[simp] theorem kAndV_t : kAndV fb ρ (.bl true) m = fb ρ m := rfl
@[simp] theorem kAndV_f : kAndV fb ρ (.bl false) m = .ok (.bl false) m := rfl
@[simp] theorem kOrV_t : kOrV fb ρ (.bl true) m = .ok (.bl true) m := rfl
@[simp] theorem kOrV_f : kOrV fb ρ (.bl false) m = fb ρ m := rfl
@[simp] theorem kNotV_run : kNotV (.bl b) m = .ok (.bl (!b)) m := rfl
def kIfV (fa fb : Ev) (ρ : Lc) (b : Bool) (m : Mem) : Rs D := if b = true then fa ρ m else fb ρ m
@[simp] theorem dIf_run : dIf t fa fb ρ m = (t ρ m).bind (kIfV fa fb ρ) := rfl
@[simp] theorem kIfV_t : kIfV fa fb ρ true m = fa ρ m := rfl
@[simp] theorem kIfV_f : kIfV fa fb ρ false m = fb ρ m := rfl
def kC1 (fs : EvG (List D)) (ρ : Lc) (d : D) (m : Mem) : Rs (List D) := (fs ρ m).bind fun ds m2 => .ok (d :: ds) m2
def kC2 (d : D) (ds : List D) (m : Mem) : Rs (List D) := .ok (d :: ds) m
@[simp] theorem dNil_run : dNil ρ m = .ok [] m := rfl
@[simp] theorem dCons_run : dCons f fs ρ m = (f ρ m).bind (kC1 fs ρ) := rfl
@[simp] theorem kC1_run : kC1 fs ρ d m = (fs ρ m).bind (kC2 d) := rfl
@[simp] theorem kC2_run : kC2 d ds m = .ok (d :: ds) m := rfl
def kTup (ds : List D) (m : Mem) : Rs D := if lineOk ds.length = true then .ok (.tup ds) m else .stuck
def kLst (ds : List D) (m : Mem) : Rs D := if lineOk ds.length = true then .ok (.lst ds) m else .stuck
def kLstM (ds : List D) (m : Mem) : Rs D := if lineOk ds.length = true then newObj (.lst ds) m else .stuck
@[simp] theorem dTup_run : dTup fs ρ m = (fs ρ m).bind kTup := rfl
@[simp] theorem dLst_run : dLst fs ρ m = (fs ρ m).bind kLst := rfl
@[simp] theorem dLstM_run : dLstM fs ρ m = (fs ρ m).bind kLstM := rfl
@[simp] theorem kTup_run : kTup ds m = if lineOk ds.length = true then .ok (.tup ds) m else .stuck := rfl
@[simp] theorem kLst_run : kLst ds m = if lineOk ds.length = true then .ok (.lst ds) m else .stuck := rfl
@[simp] theorem kLstM_run : kLstM ds m = if lineOk ds.length = true then newObj (.lst ds) m else .stuck := rfl
@[simp] theorem dUn_run {g : D → Mem → Rs D} : dUn g f ρ m = (f ρ m).bind g := rfl
@[simp] theorem dB_run {g : List D → Mem → Rs D} : dB g fs ρ m = (fs ρ m).bind g := rfl
@[simp] theorem dDict_run : dDict ρ m = newObj (.dk [] []) m := rfl
@[simp] theorem dDictT_run : dDictT ρ m = newObj (.dt [] []) m := rfl
def kCh1 (g g' : D → D → Mem → Rs D) (fb fc : Ev) (ρ : Lc) (a : D) (m : Mem) : Rs D := (fb ρ m).bind fun db m2 => (g a db m2).bind fun d m3 => match d with
  | .bl true => (fc ρ m3).bind fun dc m4 => g' db dc m4
  | .bl false => .ok (.bl false) m3
  | _ => .stuck
def kCh2 (g g' : D → D → Mem → Rs D) (fc : Ev) (ρ : Lc) (a b : D) (m : Mem) : Rs D := (g a b m).bind fun d m3 => match d with
  | .bl true => (fc ρ m3).bind fun dc m4 => g' b dc m4
  | .bl false => .ok (.bl false) m3
  | _ => .stuck
def kCh3 (g' : D → D → Mem → Rs D) (fc : Ev) (ρ : Lc) (b d : D) (m3 : Mem) : Rs D := match d with
  | .bl true => (fc ρ m3).bind (g' b)
  | .bl false => .ok (.bl false) m3
  | _ => .stuck
variable {g' : D → D → Mem → Rs D} {fc : Ev}
@[simp] theorem dChain_run : dChain g g' fa fb fc ρ m = (fa ρ m).bind (kCh1 g g' fb fc ρ) := rfl
@[simp] theorem kCh1_run : kCh1 g g' fb fc ρ da m = (fb ρ m).bind (kCh2 g g' fc ρ da) := rfl
@[simp] theorem kCh2_run : kCh2 g g' fc ρ da db m = (g da db m).bind (kCh3 g' fc ρ db) := rfl
@[simp] theorem kCh3_t : kCh3 g' fc ρ db (.bl true) m = (fc ρ m).bind (g' db) := rfl
@[simp] theorem kCh3_f : kCh3 g' fc ρ db (.bl false) m = .ok (.bl false) m := rfl
def kCall (fn : Fn) (dd ds : List D) (m : Mem) : Rs D := fn (ds ++ dd) m
@[simp] theorem dCall_run {fn : Fn} {dd : List D} : dCall fn dd fs ρ m = (fs ρ m).bind (kCall fn dd) := rfl
@[simp] theorem kCall_run {fn : Fn} {dd : List D} : kCall fn dd ds m = fn (ds ++ dd) m := rfl
def kCallK0 (fn : Fn) (h : List D → List D → List D) (ws : List D) (m : Mem) : Rs D := fn (h [] ws) m
@[simp] theorem dCallK0_run {fn : Fn} {h : List D → List D → List D} : dCallK0 fn h fs ρ m = (fs ρ m).bind (kCallK0 fn h) := rfl
@[simp] theorem kCallK0_run {fn : Fn} {h : List D → List D → List D} {ws : List D} : kCallK0 fn h ws m = fn (h [] ws) m := rfl
def kPart (d : D) (m : Mem) : Rs (Option Int) := match d with
  | .int i => .ok (some i) m
  | _ => .stuck
@[simp] theorem dPart_run : dPart f ρ m = (f ρ m).bind kPart := rfl
@[simp] theorem kPart_run {i : Int} : kPart (.int i) m = .ok (some i) m := rfl
@[simp] theorem dNo_run : dNo ρ m = .ok none m := rfl
variable {gs : D → Option Int → Option Int → Mem → Rs D} {fl fh : EvG (Option Int)} {lo hi : Option Int}
def kSl1 (gs : D → Option Int → Option Int → Mem → Rs D) (fl fh : EvG (Option Int)) (ρ : Lc) (d : D) (m1 : Mem) : Rs D := (fl ρ m1).bind fun lo m2 => (fh ρ m2).bind fun hi m3 => gs d lo hi m3
def kSl2 (gs : D → Option Int → Option Int → Mem → Rs D) (fh : EvG (Option Int)) (ρ : Lc) (d : D) (lo : Option Int) (m1 : Mem) : Rs D := (fh ρ m1).bind (gs d lo)
@[simp] theorem dSl_run : dSl gs f fl fh ρ m = (f ρ m).bind (kSl1 gs fl fh ρ) := rfl
@[simp] theorem kSl1_run : kSl1 gs fl fh ρ d m = (fl ρ m).bind (kSl2 gs fh ρ d) := rfl
@[simp] theorem kSl2_run : kSl2 gs fh ρ d lo m = (fh ρ m).bind (gs d lo) := rfl
variable {ck : Mem → D → Bool} {gm : D → List D → Mem → Rs D}
def kM1 (ck : Mem → D → Bool) (gm : D → List D → Mem → Rs D) (fs : EvG (List D)) (ρ : Lc) (d : D) (m : Mem) : Rs D := if ck m d = true then (fs ρ m).bind (gm d) else .stuck
@[simp] theorem dM_run : dM ck gm f fs ρ m = (f ρ m).bind (kM1 ck gm fs ρ) := rfl
@[simp] theorem kM1_run : kM1 ck gm fs ρ d m = if ck m d = true then (fs ρ m).bind (gm d) else .stuck := rfl
def kTru (d : D) (m : Mem) : Rs Bool := match truD m d with
  | some k => .ok k m
  | none => .stuck
@[simp] theorem dTru_run : dTru f ρ m = (f ρ m).bind kTru := by
  unfold dTru
  congr 1
@[simp] theorem kTru_bl : kTru (.bl b) m = .ok b m := rfl
end
end LN
/-! LNv: statements, operators, subscripts by simp. -/
namespace LN
open PySem L2 PySem.Spec PyProof.Rows

/-! ### statements -/
section
variable {ρ ρ' : Lc} {m m' : Mem} {d : D} {a b : Bd} {f : Ev} {g : Tg} {fs : EvG (List D)} {t : EvG Bool}
def kS (b : Bd) (R : Rs Fl) : Rs Fl := match R with
  | .ok (.nx ρ') m' => b ρ' m'
  | r => r
@[simp] theorem sSeq_run : sSeq a b ρ m = kS b (a ρ m) := rfl
@[simp] theorem kS_nx : kS b (.ok (.nx ρ') m') = b ρ' m' := rfl
@[simp] theorem kS_rt : kS b (.ok (.rt d) m') = .ok (.rt d) m' := rfl
@[simp] theorem kS_bk : kS b (.ok (.bk ρ) m') = .ok (.bk ρ) m' := rfl
@[simp] theorem kS_ct : kS b (.ok (.ct ρ) m') = .ok (.ct ρ) m' := rfl
def kRet (d : D) (m : Mem) : Rs Fl := .ok (.rt d) m
def kNx (ρ : Lc) (_ : D) (m : Mem) : Rs Fl := .ok (.nx ρ) m
def kNx2 (ρ' : Lc) (m : Mem) : Rs Fl := .ok (.nx ρ') m
def kIf (a b : Bd) (ρ : Lc) (k : Bool) (m : Mem) : Rs Fl := if k = true then a ρ m else b ρ m
@[simp] theorem sNil_run : sNil ρ m = .ok (.nx ρ) m := rfl
@[simp] theorem sBrk_run : sBrk ρ m = .ok (.bk ρ) m := rfl
@[simp] theorem sCnt_run : sCnt ρ m = .ok (.ct ρ) m := rfl
@[simp] theorem sRetN_run : sRetN ρ m = .ok (.rt .non) m := rfl
@[simp] theorem sNever_run : sNever ρ m = .stuck := rfl
@[simp] theorem sRet_run : sRet f ρ m = (f ρ m).bind kRet := rfl
@[simp] theorem kRet_run : kRet d m = .ok (.rt d) m := rfl
@[simp] theorem sExpr_run : sExpr f ρ m = (f ρ m).bind (kNx ρ) := rfl
@[simp] theorem kNx_run : kNx ρ d m = .ok (.nx ρ) m := rfl
@[simp] theorem kNx2_run : kNx2 ρ m = .ok (.nx ρ) m := rfl
@[simp] theorem sIf_run : sIf t a b ρ m = (t ρ m).bind (kIf a b ρ) := rfl
@[simp] theorem kIf_t : kIf a b ρ true m = a ρ m := rfl
@[simp] theorem kIf_f : kIf a b ρ false m = b ρ m := rfl
def kAsg (g : Tg) (ρ : Lc) (d : D) (m : Mem) : Rs Fl := (g d ρ m).bind kNx2
@[simp] theorem sAsg_run : sAsg f g ρ m = (f ρ m).bind (kAsg g ρ) := rfl
@[simp] theorem kAsg_run : kAsg g ρ d m = (g d ρ m).bind kNx2 := rfl
@[simp] theorem gN_run {i : Nat} : gN i d ρ m = .ok (ρ.set i (some d)) m := rfl
variable {gs : Tgs} {ds : List D}
def kGs (gs : Tgs) (r : List D) (ρ : Lc) (m : Mem) : Rs Lc := gs r ρ m
@[simp] theorem gT_run : gT gs (.tup ds) ρ m = gs ds ρ m := rfl
@[simp] theorem gsNil_run : gsNil [] ρ m = .ok ρ m := rfl
@[simp] theorem gsCons_run : gsCons g gs (d :: ds) ρ m = (g d ρ m).bind (gs ds) := rfl
def kPar (i j : Nat) (ρ : Lc) (ds : List D) (m : Mem) : Rs Fl := match ds with
  | [d1, d2] => .ok (.nx ((ρ.set i (some d1)).set j (some d2))) m
  | _ => .stuck
@[simp] theorem sPar_run {i j : Nat} : sPar i j fs ρ m = (fs ρ m).bind (kPar i j ρ) := by
  unfold sPar
  congr 1
@[simp] theorem kPar_run {i j : Nat} {x y : D} : kPar i j ρ [x, y] m = .ok (.nx ((ρ.set i (some x)).set j (some y))) m := rfl
variable {fo fi : Ev} {st : D → D → D → Mem → Rs Unit} {o x : D}
def kG1 (st : D → D → D → Mem → Rs Unit) (fi : Ev) (d : D) (ρ : Lc) (o : D) (m : Mem) : Rs Lc := (fi ρ m).bind fun di m2 => (st o di d m2).bind fun _ m3 => .ok ρ m3
def kG2 (st : D → D → D → Mem → Rs Unit) (d : D) (ρ : Lc) (o i : D) (m : Mem) : Rs Lc := (st o i d m).bind fun _ m3 => .ok ρ m3
def kG3 (ρ : Lc) (_ : Unit) (m : Mem) : Rs Lc := .ok ρ m
@[simp] theorem gSub_run : gSub' fo fi st d ρ m = (fo ρ m).bind (kG1 st fi d ρ) := rfl
@[simp] theorem kG1_run : kG1 st fi d ρ o m = (fi ρ m).bind (kG2 st d ρ o) := rfl
@[simp] theorem kG2_run : kG2 st d ρ o x m = (st o x d m).bind (kG3 ρ) := rfl
@[simp] theorem kG3_run : kG3 ρ () m = .ok ρ m := rfl
variable {fwk : EvG Wk} {ck : Mem → Prop}
noncomputable def kFor (g : Tg) (b : Bd) (ρ : Lc) (wk : Wk) (m : Mem) : Rs Fl := forD wk.ck g b wk.ds ρ m
@[simp] theorem sFor_run : sFor fwk g b ρ m = (fwk ρ m).bind (kFor g b ρ) := rfl
@[simp] theorem kFor_run : kFor g b ρ ⟨ds, ck⟩ m = forD ck g b ds ρ m := rfl
@[simp] theorem kFor_of : kFor g b ρ (.of ds) m = forD (fun _ => True) g b ds ρ m := rfl
theorem forD_nil (h : ck m) : forD ck g b [] ρ m = .ok (.nx ρ) m := by rw [forD, if_pos h]
theorem forD_step {ρ1 ρ2 : Lc} {m1 m2 : Mem} (h : ck m) (h1 : g d ρ m = .ok ρ1 m1) (h2 : b ρ1 m1 = .ok (.nx ρ2) m2) : forD ck g b (d :: ds) ρ m = forD ck g b ds ρ2 m2 := by
  rw [forD, if_pos h, h1, Rs.bind_ok, h2]
theorem forD_stepC {ρ1 ρ2 : Lc} {m1 m2 : Mem} (h : ck m) (h1 : g d ρ m = .ok ρ1 m1) (h2 : b ρ1 m1 = .ok (.ct ρ2) m2) : forD ck g b (d :: ds) ρ m = forD ck g b ds ρ2 m2 := by
  rw [forD, if_pos h, h1, Rs.bind_ok, h2]
theorem forD_brk {ρ1 ρ2 : Lc} {m1 m2 : Mem} (h : ck m) (h1 : g d ρ m = .ok ρ1 m1) (h2 : b ρ1 m1 = .ok (.bk ρ2) m2) : forD ck g b (d :: ds) ρ m = .ok (.nx ρ2) m2 := by
  rw [forD, if_pos h, h1, Rs.bind_ok, h2]
theorem forD_ret {ρ1 : Lc} {m1 m2 : Mem} {x : D} (h : ck m) (h1 : g d ρ m = .ok ρ1 m1) (h2 : b ρ1 m1 = .ok (.rt x) m2) : forD ck g b (d :: ds) ρ m = .ok (.rt x) m2 := by
  rw [forD, if_pos h, h1, Rs.bind_ok, h2]
/-- each turn takes I (of what is left) to I of the rest -/
theorem forD_ind (I : List D → Lc → Mem → Prop) : ∀ (ds : List D) (ρ : Lc) (m : Mem), I ds ρ m → (∀ ds ρ m, I ds ρ m → ck m) →
    (∀ d ds ρ m, I (d :: ds) ρ m → ∃ ρ1 m1 ρ2 m2, g d ρ m = .ok ρ1 m1 ∧ (b ρ1 m1 = .ok (.nx ρ2) m2 ∨ b ρ1 m1 = .ok (.ct ρ2) m2) ∧ I ds ρ2 m2) →
    ∃ ρ' m', forD ck g b ds ρ m = .ok (.nx ρ') m' ∧ I [] ρ' m'
  | [], ρ, m, h, hc, _ => ⟨ρ, m, forD_nil (hc _ _ _ h), h⟩
  | d :: ds, ρ, m, h, hc, hs => by
    obtain ⟨ρ1, m1, ρ2, m2, e1, e2, h2⟩ := hs d ds ρ m h
    obtain ⟨ρ', m', e3, h3⟩ := forD_ind I ds ρ2 m2 h2 hc hs
    refine ⟨ρ', m', ?_, h3⟩
    rcases e2 with e2 | e2
    · rw [forD_step (hc _ _ _ h) e1 e2, e3]
    · rw [forD_stepC (hc _ _ _ h) e1 e2, e3]
end
/-! ### loops that are folds -/
section
variable {ck : Mem → Prop} {g : Tg} {b : Bd} {t : EvG Bool} {f : Ev}
theorem forD_fold {σ α : Type} (R : σ → Lc) (M : σ → Mem) (e : α → D) (step : σ → α → σ) (J : σ → Prop) : ∀ (xs : List α) (s : σ), J s → (∀ s, J s → ck (M s)) →
    (∀ s x, x ∈ xs → J s → J (step s x) ∧ ∃ ρ1 m1, g (e x) (R s) (M s) = .ok ρ1 m1 ∧ (b ρ1 m1 = .ok (.nx (R (step s x))) (M (step s x)) ∨ b ρ1 m1 = .ok (.ct (R (step s x))) (M (step s x)))) →
    forD ck g b (xs.map e) (R s) (M s) = .ok (.nx (R (xs.foldl step s))) (M (xs.foldl step s)) ∧ J (xs.foldl step s)
  | [], s, j, hc, _ => ⟨forD_nil (hc _ j), j⟩
  | x :: xs, s, j, hc, hs => by
    obtain ⟨j2, ρ1, m1, e1, e2⟩ := hs s x (by simp) j
    have ih := forD_fold R M e step J xs (step s x) j2 hc fun s y hy => hs s y (by simp [hy])
    refine ⟨?_, ih.2⟩
    rw [List.map_cons, List.foldl_cons]
    rcases e2 with e2 | e2
    · rw [forD_step (hc _ j) e1 e2, ih.1]
    · rw [forD_stepC (hc _ j) e1 e2, ih.1]
theorem forD_stepB {ρ ρ2 : Lc} {m m2 : Mem} {d : D} {ds : List D} (h : ck m) (h1 : (g d ρ m).bind b = .ok (.nx ρ2) m2) : forD ck g b (d :: ds) ρ m = forD ck g b ds ρ2 m2 := by
  rw [forD, if_pos h]
  cases hg : g d ρ m with
  | stuck => rw [hg] at h1; cases h1
  | err e m1 => rw [hg] at h1; cases h1
  | ok ρ1 m1 =>
    rw [hg] at h1
    have h1 : b ρ1 m1 = _ := h1
    rw [Rs.bind_ok, h1]
/-- a loop whose turns are steps of a function; z is what its turns leave behind -/
theorem forD_pure {σ α ζ : Type} (R : σ → ζ → Lc) (M : σ → Mem) (e : α → D) (step : σ → α → σ) (J : List α → σ → Prop) : ∀ (xs : List α) (s : σ) (z : ζ), J xs s → (∀ xs s, J xs s → ck (M s)) →
    (∀ x xs s z, J (x :: xs) s → J xs (step s x) ∧ ∃ z', (g (e x) (R s z) (M s)).bind b = .ok (.nx (R (step s x) z')) (M (step s x))) →
    ∃ z', forD ck g b (xs.map e) (R s z) (M s) = .ok (.nx (R (xs.foldl step s) z')) (M (xs.foldl step s)) ∧ J [] (xs.foldl step s)
  | [], s, z, j, hc, _ => ⟨z, forD_nil (hc _ _ j), j⟩
  | x :: xs, s, z, j, hc, hs => by
    obtain ⟨j2, z', e1⟩ := hs x xs s z j
    obtain ⟨z2, e2, j3⟩ := forD_pure R M e step J xs (step s x) z' j2 hc hs
    exact ⟨z2, by rw [List.map_cons, forD_stepB (hc _ _ j) e1, e2]; rfl, j3⟩
def kFl (ck : Mem → Prop) (g : Tg) (b : Bd) (k : Lc → Mem → Rs Fl) (R : Rs Fl) : Rs Fl := match R with
  | .ok (.nx ρ2) m2 => k ρ2 m2
  | .ok (.ct ρ2) m2 => k ρ2 m2
  | .ok (.bk ρ2) m2 => .ok (.nx ρ2) m2
  | r => r
@[simp] theorem kFl_nx {k : Lc → Mem → Rs Fl} {ρ2 : Lc} {m2 : Mem} : kFl ck g b k (.ok (.nx ρ2) m2) = k ρ2 m2 := rfl
@[simp] theorem kFl_ct {k : Lc → Mem → Rs Fl} {ρ2 : Lc} {m2 : Mem} : kFl ck g b k (.ok (.ct ρ2) m2) = k ρ2 m2 := rfl
@[simp] theorem kFl_bk {k : Lc → Mem → Rs Fl} {ρ2 : Lc} {m2 : Mem} : kFl ck g b k (.ok (.bk ρ2) m2) = .ok (.nx ρ2) m2 := rfl
@[simp] theorem kFl_rt {k : Lc → Mem → Rs Fl} {d : D} {m2 : Mem} : kFl ck g b k (.ok (.rt d) m2) = .ok (.rt d) m2 := rfl
theorem forD_cons {ρ : Lc} {m : Mem} {d : D} {ds : List D} (h : ck m) : forD ck g b (d :: ds) ρ m = kFl ck g b (forD ck g b ds) ((g d ρ m).bind b) := by
  rw [forD, if_pos h]
  cases hg : g d ρ m with
  | stuck => rfl
  | err e m1 => rfl
  | ok ρ1 m1 =>
    show (match b ρ1 m1 with
      | .ok (.nx ρ2) m2 => forD ck g b ds ρ2 m2
      | .ok (.ct ρ2) m2 => forD ck g b ds ρ2 m2
      | .ok (.bk ρ2) m2 => .ok (.nx ρ2) m2
      | r => r) = kFl ck g b (forD ck g b ds) (b ρ1 m1)
    rcases b ρ1 m1 with _ | ⟨fl, m2⟩ | ⟨e, m2⟩
    · rfl
    · cases fl <;> rfl
    · rfl
@[simp] theorem forD_consT {ρ : Lc} {m : Mem} {d : D} {ds : List D} : forD (fun _ => True) g b (d :: ds) ρ m = kFl (fun _ => True) g b (forD (fun _ => True) g b ds) ((g d ρ m).bind b) := forD_cons trivial
@[simp] theorem forD_nilT {ρ : Lc} {m : Mem} : forD (fun _ => True) g b [] ρ m = .ok (.nx ρ) m := forD_nil trivial
theorem lcD_nil {ρ : Lc} {m : Mem} (h : ck m) : lcD ck g t f [] ρ m = .ok [] m := by rw [lcD, if_pos h]
theorem lcD_put {ρ ρ1 : Lc} {m m1 m2 m3 : Mem} {d y : D} {ds : List D} (h : ck m) (h1 : g d ρ m = .ok ρ1 m1) (h2 : t ρ1 m1 = .ok true m2) (h3 : f ρ1 m2 = .ok y m3) :
    lcD ck g t f (d :: ds) ρ m = (lcD ck g t f ds ρ m3).bind fun ys m4 => .ok (y :: ys) m4 := by
  rw [lcD, if_pos h, h1]
  simp only [Rs.nox, Rs.bind_ok, h2, if_true, h3]
theorem lcD_skip {ρ ρ1 : Lc} {m m1 m2 : Mem} {d : D} {ds : List D} (h : ck m) (h1 : g d ρ m = .ok ρ1 m1) (h2 : t ρ1 m1 = .ok false m2) :
    lcD ck g t f (d :: ds) ρ m = lcD ck g t f ds ρ m2 := by
  rw [lcD, if_pos h, h1]
  simp [Rs.nox, h2]
/-- a comprehension that leaves the memory as it is -/
theorem lcD_fm {α : Type} (e : α → D) (h : α → Option D) {ρ : Lc} {m : Mem} : ∀ (xs : List α), ck m →
    (∀ x, x ∈ xs → ∃ ρ1, g (e x) ρ m = .ok ρ1 m ∧ ((h x = none ∧ t ρ1 m = .ok false m) ∨ ∃ y, h x = some y ∧ t ρ1 m = .ok true m ∧ f ρ1 m = .ok y m)) →
    lcD ck g t f (xs.map e) ρ m = .ok (xs.filterMap h) m
  | [], hc, _ => lcD_nil hc
  | x :: xs, hc, hs => by
    obtain ⟨ρ1, e1, e2⟩ := hs x (by simp)
    have ih := lcD_fm e h xs hc fun y hy => hs y (by simp [hy])
    rw [List.map_cons, List.filterMap_cons]
    rcases e2 with ⟨h1, h2⟩ | ⟨y, h1, h2, h3⟩
    · rw [lcD_skip hc e1 h2, h1, ih]
    · rw [lcD_put hc e1 h2 h3, h1, ih]; rfl
theorem lcD_map {α : Type} (e : α → D) (h : α → D) {ρ : Lc} {m : Mem} (xs : List α) (hc : ck m) (hs : ∀ x, x ∈ xs → ∃ ρ1, g (e x) ρ m = .ok ρ1 m ∧ t ρ1 m = .ok true m ∧ f ρ1 m = .ok (h x) m) :
    lcD ck g t f (xs.map e) ρ m = .ok (xs.map h) m := by
  have := lcD_fm (ck := ck) (g := g) (t := t) (f := f) e (fun x => some (h x)) (ρ := ρ) (m := m) xs hc fun x hx => by
    obtain ⟨ρ1, e1, e2, e3⟩ := hs x hx
    exact ⟨ρ1, e1, .inr ⟨_, rfl, e2, e3⟩⟩
  rw [this]
  simp
/-- a comprehension that changes the memory: I is of what is made -/
theorem lcD_ind {α : Type} (e : α → D) {ρ : Lc} (I : List α → List D → Mem → Prop) : ∀ (xs : List α) (zs : List D) (m : Mem), I xs zs m → (∀ xs zs m, I xs zs m → ck m) →
    (∀ x xs zs m, I (x :: xs) zs m → ∃ ρ1 m1 y m2, g (e x) ρ m = .ok ρ1 m1 ∧ t ρ1 m1 = .ok true m1 ∧ f ρ1 m1 = .ok y m2 ∧ I xs (zs ++ [y]) m2) →
    ∃ ys m', lcD ck g t f (xs.map e) ρ m = .ok ys m' ∧ I [] (zs ++ ys) m'
  | [], zs, m, h, hc, _ => ⟨[], m, lcD_nil (hc _ _ _ h), by rw [List.append_nil]; exact h⟩
  | x :: xs, zs, m, h, hc, hs => by
    obtain ⟨ρ1, m1, y, m2, e1, e2, e3, h2⟩ := hs x xs zs m h
    obtain ⟨ys, m', e4, h4⟩ := lcD_ind e I xs (zs ++ [y]) m2 h2 hc hs
    refine ⟨y :: ys, m', ?_, by simpa using h4⟩
    rw [List.map_cons, lcD_put (hc _ _ _ h) e1 e2 e3, e4]; rfl
end
section
variable {ρ ρ' : Lc} {m m' : Mem} {d : D} {f : Ev} {g : Tg} {t : EvG Bool} {fin : List D → Mem → Rs D} {fi : EvG Wk} {vs : List Nat} {ds : List D} {ck : Mem → Prop}
noncomputable def kLc (g : Tg) (t : EvG Bool) (f : Ev) (fin : List D → Mem → Rs D) (ρ : Lc) (wk : Wk) (m : Mem) : Rs D := (lcD wk.ck g t f wk.ds ρ m).bind fin
@[simp] theorem dLc_run : dLc fin fi vs g t f ρ m = (fi ρ m).bind (kLc g t f fin (wipeD ρ vs)) := rfl
@[simp] theorem kLc_run : kLc g t f fin ρ ⟨ds, ck⟩ m = (lcD ck g t f ds ρ m).bind fin := rfl
@[simp] theorem kLc_of : kLc g t f fin ρ (.of ds) m = (lcD (fun _ => True) g t f ds ρ m).bind fin := rfl
@[simp] theorem wipeD_nil : wipeD ρ [] = ρ := rfl
@[simp] theorem wipeD_cons {v : Nat} : wipeD ρ (v :: vs) = (wipeD ρ vs).set v none := rfl
@[simp] theorem tAll_run : tAll ρ m = .ok true m := rfl
@[simp] theorem finF_run : finF ds m = if lineOk ds.length = true then .ok (.lst ds) m else .stuck := rfl
@[simp] theorem finM_run : finM ds m = if lineOk ds.length = true then newObj (.lst ds) m else .stuck := rfl
@[simp] theorem finKF_run {ks : List L2.Key} : finKF ks ds m = .ok (.dk ks ds) m := rfl
@[simp] theorem finKM_run {ks : List L2.Key} : finKM ks ds m = newObj (.dk ks ds) m := rfl
/-! walks -/
def kWalk (d : D) (m1 : Mem) : Rs Wk := match d with
  | .str s => .ok (.of (signs s)) m1
  | .loc f i => match m1.get f i with
    | some (.lst xs) => .ok ⟨xs, fun m2 => m2.get f i = some (.lst xs)⟩ m1
    | _ => .stuck
  | d => match vwS m1 d with
    | some xs => .ok (.of xs) m1
    | none => .stuck
@[simp] theorem dWalk_run : dWalk f ρ m = (f ρ m).bind kWalk := by
  unfold dWalk
  congr 1
@[simp] theorem kWalk_lst : kWalk (.lst ds) m = .ok (.of ds) m := rfl
@[simp] theorem kWalk_tup : kWalk (.tup ds) m = .ok (.of ds) m := rfl
@[simp] theorem kWalk_scr {xs : List Int} : kWalk (.scr xs) m = .ok (.of (xs.map .int)) m := rfl
theorem kWalk_loc {i j : Nat} (h : m.get i j = some (.lst ds)) : kWalk (.loc i j) m = .ok ⟨ds, fun m2 => m2.get i j = some (.lst ds)⟩ m := by
  unfold kWalk
  dsimp only
  rw [h]
def ckL (i j : Nat) (ds : List D) (m : Mem) : Prop := m.get i j = some (.lst ds)
def gW (i j : Nat) (o : Option MO) (m : Mem) : Rs Wk := match o with
  | some (.lst ds) => .ok ⟨ds, ckL i j ds⟩ m
  | _ => .stuck
@[simp] theorem gW_run {i j : Nat} : gW i j (some (.lst ds)) m = .ok ⟨ds, ckL i j ds⟩ m := rfl
@[simp] theorem kWalk_loc' {i j : Nat} : kWalk (.loc i j) m = gW i j (m.get i j) m := by
  unfold kWalk gW
  dsimp only
  cases h : m.get i j with
  | none => rfl
  | some o => cases o <;> rfl
def kRng1 (d : D) (m : Mem) : Rs Wk := match d with
  | .int n => if n < 2 ^ 62 ∧ -(2 ^ 62) ≤ n then .ok (.of ((List.range n.toNat).map fun (i : Nat) => D.int (i : Int))) m else .stuck
  | _ => .stuck
@[simp] theorem dRng1_run : dRng1 f ρ m = (f ρ m).bind kRng1 := by
  unfold dRng1
  congr 1
def rngOk (n : Int) : Bool := decide (n < 2 ^ 62 ∧ -(2 ^ 62) ≤ n)
@[simp] theorem kRng1_run {n : Int} : kRng1 (.int n) m = if rngOk n = true then .ok (.of ((List.range n.toNat).map fun (i : Nat) => D.int (i : Int))) m else .stuck := by
  unfold kRng1 rngOk
  simp only [decide_eq_true_eq]
theorem rngOk_of {n : Int} (h0 : 0 ≤ n) (h : n < 1000000000) : rngOk n = true := by
  unfold rngOk
  rw [decide_eq_true_eq]
  omega
end

/-! ### operators -/
section
variable {m : Mem} {i j : Int} {b c neg : Bool} {xs ys ds : List D} {fin : List D → Mem → Rs D} {x y : Str} {p : Int → Int → Bool} {ck : List L2.Key → Bool} {d : D}
@[simp] theorem gAdd_int : gAdd fin (.int i) (.int j) m = .ok (.int (i + j)) m := rfl
@[simp] theorem gAdd_tup : gAdd fin (.tup xs) (.tup ys) m = if lineOk (xs.length + ys.length) = true then .ok (.tup (xs ++ ys)) m else .stuck := rfl
@[simp] theorem gAdd_lst : gAdd fin (.lst xs) (.lst ys) m = fin (xs ++ ys) m := rfl
def gA2 (fin : List D → Mem → Rs D) (a b : Option (List D)) (m : Mem) : Rs D := match a, b with
  | some xs, some ys => fin (xs ++ ys) m
  | _, _ => .stuck
@[simp] theorem gA2_run : gA2 fin (some xs) (some ys) m = fin (xs ++ ys) m := rfl
@[simp] theorem gAdd_ll {f n : Nat} : gAdd fin (.loc f n) (.lst ys) m = gA2 fin (vwL m (.loc f n)) (some ys) m := rfl
@[simp] theorem gAdd_lr {f n : Nat} : gAdd fin (.lst xs) (.loc f n) m = gA2 fin (some xs) (vwL m (.loc f n)) m := rfl
@[simp] theorem gAdd_lo {f n f' n' : Nat} : gAdd fin (.loc f' n') (.loc f n) m = gA2 fin (vwL m (.loc f' n')) (vwL m (.loc f n)) m := rfl
@[simp] theorem gAdd_str : gAdd fin (.str x) (.str y) m = if lineOk (x.length + y.length) = true then .ok (.str (x ++ y)) m else .stuck := rfl
@[simp] theorem gSub_int : gSub (.int i) (.int j) m = .ok (.int (i - j)) m := rfl
@[simp] theorem gMul_int : gMul (.int i) (.int j) m = if mulOk i j = true then .ok (.int (i * j)) m else .stuck := rfl
@[simp] theorem gFdiv_int : gFdiv (.int i) (.int j) m = if divOk j = true then .ok (.int (i.fdiv j)) m else .stuck := rfl
@[simp] theorem gMod_int : gMod (.int i) (.int j) m = if j ≠ 0 then .ok (.int (i.fmod j)) m else .stuck := rfl
@[simp] theorem gPow_int : gPow (.int i) (.int j) m = if powOk i j = true then .ok (.int (i ^ j.toNat)) m else .stuck := rfl
@[simp] theorem gCmp_int : gCmp p (.int i) (.int j) m = .ok (.bl (p i j)) m := rfl
@[simp] theorem gNeg_int : gNeg (.int i) m = .ok (.int (-i)) m := rfl
@[simp] theorem gIsN_nn : gIsN neg .non .non m = .ok (.bl (!neg)) m := rfl
@[simp] theorem gIsN_i : gIsN neg (.int i) .non m = .ok (.bl neg) m := rfl
@[simp] theorem gIsN_t : gIsN neg (.tup xs) .non m = .ok (.bl neg) m := rfl
@[simp] theorem gIsN_l : gIsN neg (.lst xs) .non m = .ok (.bl neg) m := rfl
@[simp] theorem gIsN_s : gIsN neg (.str x) .non m = .ok (.bl neg) m := rfl
@[simp] theorem gIsN_b : gIsN neg (.bl b) .non m = .ok (.bl neg) m := rfl
@[simp] theorem gIsN_o {f n : Nat} : gIsN neg (.loc f n) .non m = .ok (.bl neg) m := rfl
@[simp] theorem bInt_int : bInt [.int i] m = .ok (.int i) m := rfl
@[simp] theorem bAbs_int : bAbs [.int i] m = .ok (.int i.natAbs) m := by
  show Rs.ok (D.int _) m = _
  congr 2
  omega
@[simp] theorem bMax2_run : bMax2 [.int i, .int j] m = .ok (.int (max i j)) m := by
  show Rs.ok (D.int _) m = _
  congr 2
  omega
@[simp] theorem bMin2_run : bMin2 [.int i, .int j] m = .ok (.int (min i j)) m := by
  show Rs.ok (D.int _) m = _
  congr 2
  omega
@[simp] theorem bGcd_run : bGcd [.int i, .int j] m = .ok (.int ((Nat.gcd i.natAbs j.natAbs : Nat) : Int)) m := rfl
@[simp] theorem bLen_str : bLen [.str x] m = if lineOk x.length = true then .ok (.int x.length) m else .stuck := rfl
@[simp] theorem bLen_tup : bLen [.tup xs] m = .ok (.int xs.length) m := rfl
@[simp] theorem bLen_lst : bLen [.lst xs] m = .ok (.int xs.length) m := rfl
@[simp] theorem bLen_scr {xs : List Int} : bLen [.scr xs] m = .ok (.int xs.length) m := by
  show Rs.ok (D.int _) m = _
  simp
def gLen : Option (List D) → Mem → Rs D
  | some xs, m => .ok (.int xs.length) m
  | none, _ => .stuck
@[simp] theorem gLen_run : gLen (some xs) m = .ok (.int xs.length) m := rfl
@[simp] theorem bLen_loc {f n : Nat} : bLen [.loc f n] m = gLen (vwL m (.loc f n)) m := by
  show (match vwL m (.loc f n) with
    | some xs => Rs.ok (D.int xs.length) m
    | none => .stuck) = _
  cases vwL m (.loc f n) <;> rfl
def vO : Option MO → Option (List D)
  | some (.lst xs) => some xs
  | _ => none
@[simp] theorem vO_lst : vO (some (.lst xs)) = some xs := rfl
@[simp] theorem vO_dk {ks} : vO (some (.dk ks xs)) = none := rfl
@[simp] theorem vO_dt {ks} : vO (some (.dt ks xs)) = none := rfl
@[simp] theorem vO_fk {ks} : vO (some (.fk ks xs)) = none := rfl
@[simp] theorem vO_ft {ks} : vO (some (.ft ks xs)) = none := rfl
@[simp] theorem vwL_loc {f n : Nat} : vwL m (.loc f n) = vO (m.get f n) := by
  unfold vwL vO
  dsimp only
  try
    cases h : m.get f n with
    | none => rfl
    | some o => cases o <;> rfl
@[simp] theorem vwL_lst : vwL m (.lst xs) = some xs := rfl
@[simp] theorem vwS_lst : vwS m (.lst xs) = some xs := rfl
@[simp] theorem vwS_tup : vwS m (.tup xs) = some xs := rfl
@[simp] theorem vwS_scr {xs : List Int} : vwS m (.scr xs) = some (xs.map .int) := rfl
@[simp] theorem vwS_loc {f n : Nat} : vwS m (.loc f n) = vO (m.get f n) := by rw [← vwL_loc]; rfl
def gTup : Option (List D) → Mem → Rs D
  | some xs, m => .ok (.tup xs) m
  | none, _ => .stuck
@[simp] theorem gTup_run : gTup (some xs) m = .ok (.tup xs) m := rfl
@[simp] theorem bTup_tup : bTup [.tup xs] m = .ok (.tup xs) m := rfl
@[simp] theorem bTup_lst : bTup [.lst xs] m = .ok (.tup xs) m := rfl
@[simp] theorem bTup_loc {f n : Nat} : bTup [.loc f n] m = gTup (vwL m (.loc f n)) m := by
  show (match vwL m (.loc f n) with
    | some xs => Rs.ok (D.tup xs) m
    | none => .stuck) = _
  cases vwL m (.loc f n) <;> rfl
theorem ixN_nat {n k : Nat} (h : k < n) : ixN n (k : Int) = some k := by
  unfold ixN
  rw [if_pos (by omega), if_pos (by omega)]; simp
/-! slices -/
section
variable {lo hi : Option Int}
@[simp] theorem gSl_tup : gSl fin (.tup xs) lo hi m = .ok (.tup (cutL xs lo hi)) m := rfl
@[simp] theorem gSl_lst : gSl fin (.lst xs) lo hi m = fin (cutL xs lo hi) m := rfl
@[simp] theorem gSl_scr {xs : List Int} : gSl fin (.scr xs) lo hi m = fin ((cutL xs lo hi).map .int) m := rfl
@[simp] theorem gSl_str : gSl fin (.str x) lo hi m = if lineOk x.length = true then .ok (.str (cutS x lo hi)) m else .stuck := rfl
def gSlO (fin : List D → Mem → Rs D) (lo hi : Option Int) (m : Mem) : Option (List D) → Rs D
  | some xs => fin (cutL xs lo hi) m
  | none => .stuck
@[simp] theorem gSlO_run : gSlO fin lo hi m (some xs) = fin (cutL xs lo hi) m := rfl
@[simp] theorem gSl_loc {f n : Nat} : gSl fin (.loc f n) lo hi m = gSlO fin lo hi m (vwL m (.loc f n)) := by
  show (match vwL m (.loc f n) with
    | some xs => fin (cutL xs lo hi) m
    | none => .stuck) = _
  cases vwL m (.loc f n) <;> rfl
theorem cutL_to {α : Type} {l : List α} {k : Nat} : cutL l none (some (k : Int)) = l.take k := by
  unfold cutL
  rw [HT.sIx_none, HT.sIx_nat, List.drop_zero, Nat.sub_zero]
  by_cases h : k ≤ l.length
  · rw [Nat.min_eq_left h]
  · rw [Nat.min_eq_right (by omega), List.take_length, List.take_of_length_le (by omega)]
theorem cutL_from {α : Type} {l : List α} {k : Nat} : cutL l (some (k : Int)) none = l.drop k := by
  unfold cutL
  rw [HT.sIx_none, HT.sIx_nat]
  by_cases h : k ≤ l.length
  · rw [Nat.min_eq_left h, List.take_of_length_le (by simp)]
  · rw [Nat.min_eq_right (by omega), List.drop_eq_nil_of_le (by omega), List.drop_eq_nil_of_le (by omega), List.take_nil]
theorem cutL_n1 {α : Type} {l : List α} : cutL l none (some (-1)) = l.dropLast := by
  unfold cutL
  rw [HT.sIx_none]
  have : HT.sIx l.length l.length (some (-1)) = l.length - 1 := by
    show (if (-1 : Int) < 0 then ((-1 : Int) + (l.length : Int)).toNat else min (-1 : Int).toNat l.length) = _
    rw [if_pos (by omega)]
    omega
  rw [this, List.drop_zero, Nat.sub_zero, List.dropLast_eq_take]
end
def gLst (fin : List D → Mem → Rs D) (m : Mem) : Option (List D) → Rs D
  | some xs => fin xs m
  | none => .stuck
@[simp] theorem gLst_run : gLst fin m (some xs) = fin xs m := rfl
@[simp] theorem bLstA_tup : bLstA fin [.tup xs] m = fin xs m := rfl
@[simp] theorem bLstA_lst : bLstA fin [.lst xs] m = fin xs m := rfl
@[simp] theorem bLstA_scr {xs : List Int} : bLstA fin [.scr xs] m = fin (xs.map .int) m := rfl
def gLstO (fin : List D → Mem → Rs D) (m : Mem) : Option MO → Rs D
  | some (.lst xs) => fin xs m
  | some (.dk ks _) => fin (ks.map dKey) m
  | some (.fk ks _) => fin (ks.map dKey) m
  | some (.dt ks _) => fin (ks.map dKeyT) m
  | some (.ft ks _) => fin (ks.map dKeyT) m
  | _ => .stuck
@[simp] theorem gLstO_lst : gLstO fin m (some (.lst xs)) = fin xs m := rfl
@[simp] theorem gLstO_dk {ks} : gLstO fin m (some (.dk ks xs)) = fin (ks.map dKey) m := rfl
@[simp] theorem gLstO_dt {ks} : gLstO fin m (some (.dt ks xs)) = fin (ks.map dKeyT) m := rfl
@[simp] theorem bLstA_dk {ks} : bLstA fin [.dk ks xs] m = fin (ks.map dKey) m := rfl
@[simp] theorem bLstA_loc {f n : Nat} : bLstA fin [.loc f n] m = gLstO fin m (m.get f n) := by
  unfold bLstA gLstO dkeysD
  dsimp only [vwS, vwL, vwKA, vwTA]
  cases h : m.get f n with
  | none => rfl
  | some o => cases o <;> rfl
/-! methods of lists -/
def gChO (h : List D → List D → Option (List D × D)) (f n : Nat) (ds : List D) (m : Mem) (o : Option MO) : Rs D := match o with
  | some (.lst xs) => match h xs ds with
    | some (ys, z) => if D.lts (f + 1) ys = true ∧ lineOk ys.length = true then .ok z (m.put f n (.lst ys)) else .stuck
    | none => .stuck
  | _ => .stuck
@[simp] theorem gChg_loc {h : List D → List D → Option (List D × D)} {f n : Nat} : gChg h (.loc f n) ds m = gChO h f n ds m (m.get f n) := rfl
def kCh (f n : Nat) (m : Mem) : Option (List D × D) → Rs D
  | some (ys, z) => if D.lts (f + 1) ys = true ∧ lineOk ys.length = true then .ok z (m.put f n (.lst ys)) else .stuck
  | none => .stuck
@[simp] theorem gChO_run {h : List D → List D → Option (List D × D)} {f n : Nat} : gChO h f n ds m (some (.lst xs)) = kCh f n m (h xs ds) := by
  unfold gChO kCh
  dsimp only
@[simp] theorem kCh_run {f n : Nat} : kCh f n m (some (ys, d)) = if D.lts (f + 1) ys = true ∧ lineOk ys.length = true then .ok d (m.put f n (.lst ys)) else .stuck := rfl
@[simp] theorem hApp_run : hApp xs [d] = some (xs ++ [d], .non) := rfl
@[simp] theorem hRev_run : hRev xs [] = some (xs.reverse, .non) := rfl
@[simp] theorem hPop_last : hPop (xs ++ [d]) [] = some (xs, d) := by
  unfold hPop
  simp
theorem hPop_at {k : Nat} {x : D} (h : xs[k]? = some x) : hPop xs [.int k] = some (xs.eraseIdx k, x) := by
  have hk : k < xs.length := (List.getElem?_eq_some_iff.mp h).1
  show (match ixN xs.length (k : Int) with
    | some k => (match xs[k]? with
      | some x => some (xs.eraseIdx k, x)
      | none => none)
    | none => none) = _
  rw [ixN_nat hk]
  dsimp only
  rw [h]
theorem hPop_end {x : D} (h : xs[xs.length - 1]? = some x) : hPop xs [] = some (xs.dropLast, x) := by
  unfold hPop
  dsimp only
  rw [h]
@[simp] theorem isL_lst : isL m (.lst xs) = true := rfl
@[simp] theorem isL_loc {f n : Nat} : isL m (.loc f n) = (vO (m.get f n)).isSome := by
  unfold isL
  rw [vwL_loc]
/-! sequences at a place -/
def kIx : Option D → Mem → Rs D
  | some x, m => .ok x m
  | none, _ => .stuck
@[simp] theorem kIx_run : kIx (some d) m = .ok d m := rfl
@[simp] theorem gIxT_tup : gIxT ck (.tup xs) (.int i) m = kIx (atI xs i) m := by
  unfold gIxT dlk gIx
  dsimp only [vwKA, vwTA, vwS, vwL]
  generalize atI _ i = o
  cases o <;> rfl
@[simp] theorem gIxT_lst : gIxT ck (.lst xs) (.int i) m = kIx (atI xs i) m := by
  unfold gIxT dlk gIx
  dsimp only [vwKA, vwTA, vwS, vwL]
  generalize atI _ i = o
  cases o <;> rfl
@[simp] theorem gIxT_scr {xs : List Int} : gIxT ck (.scr xs) (.int i) m = kIx (atI (xs.map .int) i) m := by
  unfold gIxT dlk gIx
  dsimp only [vwKA, vwTA, vwS, vwL]
  generalize atI _ i = o
  cases o <;> rfl
def gIxO (ck : List L2.Key → Bool) (o : Option MO) (y : D) (m : Mem) : Rs D := match o with
  | some (.lst xs) => match y with
    | .int i => kIx (atI xs i) m
    | _ => .stuck
  | some (.dk ks xs) => match keyD y with
    | some k => kIx (lookD ks xs k) m
    | none => .stuck
  | some (.fk ks xs) => match keyD y with
    | some k => kIx (lookD ks xs k) m
    | none => .stuck
  | some (.dt ks xs) => match keyT y with
    | some k => if ck k = true then kIx (lookD ks xs k) m else .stuck
    | none => .stuck
  | some (.ft ks xs) => match keyT y with
    | some k => if ck k = true then kIx (lookD ks xs k) m else .stuck
    | none => .stuck
  | _ => .stuck
theorem atI_natE {α : Type} {xs : List α} {k : Nat} : atI xs (k : Int) = xs[k]? := by
  unfold atI ixN
  rw [if_pos (by omega)]
  by_cases h : k < xs.length
  · rw [if_pos (by omega)]; simp
  · rw [if_neg (by omega)]
    simp [List.getElem?_eq_none (by omega : xs.length ≤ k)]
@[simp] theorem atI_0 {α : Type} {a : α} {xs : List α} : atI (a :: xs) 0 = some a := atI_natE (k := 0)
@[simp] theorem atI_1 {α : Type} {a b : α} {xs : List α} : atI (a :: b :: xs) 1 = some b := atI_natE (k := 1)
@[simp] theorem atI_2 {α : Type} {a b c : α} {xs : List α} : atI (a :: b :: c :: xs) 2 = some c := atI_natE (k := 2)
@[simp] theorem atI_3 {α : Type} {a b c d : α} {xs : List α} : atI (a :: b :: c :: d :: xs) 3 = some d := atI_natE (k := 3)
@[simp] theorem atI_4 {α : Type} {a b c d e : α} {xs : List α} : atI (a :: b :: c :: d :: e :: xs) 4 = some e := atI_natE (k := 4)
@[simp] theorem atI_5 {α : Type} {a b c d e f : α} {xs : List α} : atI (a :: b :: c :: d :: e :: f :: xs) 5 = some f := atI_natE (k := 5)
theorem atI_neg1 {α : Type} {xs : List α} : atI xs (-1) = xs[xs.length - 1]? := by
  unfold atI ixN
  rw [if_neg (by omega)]
  by_cases h : xs.length = 0
  · rw [if_neg (by omega)]
    rw [List.getElem?_eq_none (by omega)]
    rfl
  · rw [if_pos (by omega)]
    show xs[_]? = _
    congr 1
    omega
@[simp] theorem atI_n1 {α : Type} {a : α} {xs : List α} : atI (xs ++ [a]) (-1) = some a := by rw [atI_neg1]; simp
@[simp] theorem gIxT_loc {f n : Nat} : gIxT ck (.loc f n) (.int i) m = gIxO ck (m.get f n) (.int i) m := by
  unfold gIxT dlk gIxO gIx
  dsimp only [vwKA, vwTA, keyD, keyT, vwS, vwL]
  cases h : m.get f n with
  | none => rfl
  | some o =>
    cases o with
    | lst xs =>
      dsimp only
      generalize atI xs i = o
      cases o <;> rfl
    | dk ks xs => dsimp only; cases lookD ks xs (.inl i) <;> rfl
    | fk ks xs => dsimp only; cases lookD ks xs (.inl i) <;> rfl
    | dt ks xs => rfl
    | ft ks xs => rfl
    | dead => rfl
@[simp] theorem gIxO_lst : gIxO ck (some (.lst xs)) (.int i) m = kIx (atI xs i) m := rfl
@[simp] theorem gIxO_dk {ks} : gIxO ck (some (.dk ks xs)) (.int i) m = kIx (lookD ks xs (.inl i)) m := rfl
@[simp] theorem gIxO_fk {ks} : gIxO ck (some (.fk ks xs)) (.int i) m = kIx (lookD ks xs (.inl i)) m := rfl
@[simp] theorem gIxT_dk {ks} : gIxT ck (.dk ks xs) (.int i) m = kIx (lookD ks xs (.inl i)) m := by
  unfold gIxT dlk
  dsimp only [vwKA, keyD]
  cases lookD ks xs (.inl i) <;> rfl
/-! stores -/
def gStO (ck : List L2.Key → Bool) (o : Option MO) (f n : Nat) (y z : D) (m : Mem) : Rs Unit := match o with
  | some (.lst xs) => match y with
    | .int k => match ixN xs.length k with
      | some j => .ok () (m.put f n (.lst (xs.set j z)))
      | none => .stuck
    | _ => .stuck
  | some (.dk ks xs) => match keyD y with
    | some k => if ks.Nodup ∧ ks.length < 16777216 then .ok () (m.put f n (.dk (putD ks xs k z).1 (putD ks xs k z).2)) else .stuck
    | none => .stuck
  | some (.dt ks xs) => match keyT y with
    | some k => if (ks.Nodup ∧ ks.length < 16777216) ∧ ck k = true then .ok () (m.put f n (.dt (putD ks xs k z).1 (putD ks xs k z).2)) else .stuck
    | none => .stuck
  | _ => .stuck
theorem gSetT_loc {f n : Nat} {y z : D} (h : D.lt (f + 1) z = true) : gSetT ck (.loc f n) y z m = gStO ck (m.get f n) f n y z m := by
  unfold gSetT gStO
  dsimp only
  rw [if_pos h]
  try rfl
@[simp] theorem gSetT_loc' {f n : Nat} {y z : D} : gSetT ck (.loc f n) y z m = if D.lt (f + 1) z = true then gStO ck (m.get f n) f n y z m else .stuck := by
  by_cases h : D.lt (f + 1) z = true
  · rw [if_pos h, gSetT_loc h]
  · rw [if_neg h]; unfold gSetT; dsimp only; rw [if_neg h]
def kStL (xs : List D) (f n : Nat) (z : D) (m : Mem) : Option Nat → Rs Unit
  | some j => .ok () (m.put f n (.lst (xs.set j z)))
  | none => .stuck
@[simp] theorem kStL_run {f n j : Nat} : kStL xs f n d m (some j) = .ok () (m.put f n (.lst (xs.set j d))) := rfl
@[simp] theorem gStO_lst {f n : Nat} : gStO ck (some (.lst xs)) f n (.int i) d m = kStL xs f n d m (ixN xs.length i) := by
  unfold gStO kStL
  dsimp only
@[simp] theorem gStO_dk {f n : Nat} {ks} : gStO ck (some (.dk ks xs)) f n (.int i) d m = if ks.Nodup ∧ ks.length < 16777216 then .ok () (m.put f n (.dk (putD ks xs (.inl i) d).1 (putD ks xs (.inl i) d).2)) else .stuck := rfl
@[simp] theorem ixN_0 {n : Nat} : ixN (n + 1) 0 = some 0 := ixN_nat (k := 0) (by omega)
@[simp] theorem ixN_1 {n : Nat} : ixN (n + 2) 1 = some 1 := ixN_nat (k := 1) (by omega)
@[simp] theorem ixN_2 {n : Nat} : ixN (n + 3) 2 = some 2 := ixN_nat (k := 2) (by omega)
@[simp] theorem ixN_3 {n : Nat} : ixN (n + 4) 3 = some 3 := ixN_nat (k := 3) (by omega)
@[simp] theorem ixN_4 {n : Nat} : ixN (n + 5) 4 = some 4 := ixN_nat (k := 4) (by omega)
@[simp] theorem gInT_dk {ks} : gInT ck neg (.int i) (.dk ks xs) m = .ok (.bl (neg ^^ (lookD ks xs (.inl i)).isSome)) m := rfl
def gInO (neg : Bool) (i : Int) (o : Option MO) (m : Mem) : Rs D := match o with
  | some (.dk ks xs) => .ok (.bl (neg ^^ (lookD ks xs (.inl i)).isSome)) m
  | some (.fk ks xs) => .ok (.bl (neg ^^ (lookD ks xs (.inl i)).isSome)) m
  | _ => .stuck
@[simp] theorem gInO_dk {ks} : gInO neg i (some (.dk ks xs)) m = .ok (.bl (neg ^^ (lookD ks xs (.inl i)).isSome)) m := rfl
@[simp] theorem gInO_fk {ks} : gInO neg i (some (.fk ks xs)) m = .ok (.bl (neg ^^ (lookD ks xs (.inl i)).isSome)) m := rfl
@[simp] theorem gInT_loc {f n : Nat} : gInT ck neg (.int i) (.loc f n) m = gInO neg i (m.get f n) m := by
  unfold gInT dlk gInO
  dsimp only [vwKA, vwTA, keyD, keyT]
  cases h : m.get f n with
  | none => rfl
  | some o => cases o <;> rfl
/-! o[i] op= e -/
def kA1 (fi fe : Ev) (g : D → D → Mem → Rs D) (ρ : Lc) (d0 : D) (m1 : Mem) : Rs Fl := (fi ρ m1).bind fun di m2 => (gIxL d0 di m2).bind fun x m3 => (fe ρ m3).bind fun y m4 => (g x y m4).bind fun z m5 => (gSet d0 di z m5).bind fun _ m6 => .ok (.nx ρ) m6
def kA2 (fe : Ev) (g : D → D → Mem → Rs D) (ρ : Lc) (d0 di : D) (m2 : Mem) : Rs Fl := (gIxL d0 di m2).bind fun x m3 => (fe ρ m3).bind fun y m4 => (g x y m4).bind fun z m5 => (gSet d0 di z m5).bind fun _ m6 => .ok (.nx ρ) m6
def kA3 (fe : Ev) (g : D → D → Mem → Rs D) (ρ : Lc) (d0 di x : D) (m3 : Mem) : Rs Fl := (fe ρ m3).bind fun y m4 => (g x y m4).bind fun z m5 => (gSet d0 di z m5).bind fun _ m6 => .ok (.nx ρ) m6
def kA4 (g : D → D → Mem → Rs D) (ρ : Lc) (d0 di x y : D) (m4 : Mem) : Rs Fl := (g x y m4).bind fun z m5 => (gSet d0 di z m5).bind fun _ m6 => .ok (.nx ρ) m6
def kA5 (ρ : Lc) (d0 di z : D) (m5 : Mem) : Rs Fl := (gSet d0 di z m5).bind fun _ m6 => .ok (.nx ρ) m6
def kA6 (ρ : Lc) (_ : Unit) (m6 : Mem) : Rs Fl := .ok (.nx ρ) m6
section
variable {fo fi fe : Ev} {g : D → D → Mem → Rs D} {ρ : Lc} {d0 di y z : D}
def gSeO (m : Mem) (f n : Nat) (i : Int) (z : D) : Option MO → Rs Unit
  | some (.lst xs) => kStL xs f n z m (ixN xs.length i)
  | some (.dk ks xs) => if ks.Nodup ∧ ks.length < 16777216 then .ok () (m.put f n (.dk (putD ks xs (.inl i) z).1 (putD ks xs (.inl i) z).2)) else .stuck
  | _ => .stuck
@[simp] theorem gSeO_lst {f n : Nat} : gSeO m f n i z (some (.lst xs)) = kStL xs f n z m (ixN xs.length i) := rfl
theorem sAugS_run : sAugS fo fi fe g ρ m = (fo ρ m).bind (kA1 fi fe g ρ) := rfl
@[simp] theorem kA1_run : kA1 fi fe g ρ d0 m = (fi ρ m).bind (kA2 fe g ρ d0) := rfl
@[simp] theorem kA2_run : kA2 fe g ρ d0 di m = (gIxL d0 di m).bind (kA3 fe g ρ d0 di) := rfl
@[simp] theorem kA3_run : kA3 fe g ρ d0 di d m = (fe ρ m).bind (kA4 g ρ d0 di d) := rfl
@[simp] theorem kA4_run : kA4 g ρ d0 di d y m = (g d y m).bind (kA5 ρ d0 di) := rfl
@[simp] theorem kA5_run : kA5 ρ d0 di z m = (gSet d0 di z m).bind (kA6 ρ) := rfl
@[simp] theorem kA6_run : kA6 ρ () m = .ok (.nx ρ) m := rfl
@[simp] theorem gAddI_int : gAddI (.int i) (.int j) m = .ok (.int (i + j)) m := rfl
@[simp] theorem gSubI_int : gSubI (.int i) (.int j) m = .ok (.int (i - j)) m := rfl
def gIxLO (m : Mem) (i : Int) : Option MO → Rs D
  | some (.lst xs) => kIx (atI xs i) m
  | _ => .stuck
@[simp] theorem gIxLO_run : gIxLO m i (some (.lst xs)) = kIx (atI xs i) m := rfl
@[simp] theorem gIxL_loc {f n : Nat} : gIxL (.loc f n) (.int i) m = gIxLO m i (m.get f n) := by
  unfold gIxL
  rw [vwL_loc]
  cases h : m.get f n with
  | none => rfl
  | some o =>
    cases o with
    | lst xs =>
      show (match atI xs i with
        | some x => Rs.ok x m
        | none => .stuck) = kIx (atI xs i) m
      cases atI xs i <;> rfl
    | _ => rfl
@[simp] theorem gSet_loc {f n : Nat} : gSet (.loc f n) (.int i) z m = if D.lt (f + 1) z = true then gSeO m f n i z (m.get f n) else .stuck := by
  unfold gSet gSeO
  dsimp only
  split
  · cases h : m.get f n with
    | none => rfl
    | some o => cases o <;> rfl
  · rfl
end
end
end LN
/-! LNw: calls, plain equality, more built-ins by simp. -/
namespace LN
open PySem L2 PySem.Spec PyProof.Rows

section
variable {n np nl : Nat} {d : D} {m : Mem} {b : Bd} {ds : List D} {ρ : Lc}
theorem lv_rt (h : D.lt n d = true) : lv n (.ok (.rt d) m) = .ok d (m.take n) := by
  unfold lv fzl
  dsimp only
  rw [if_pos h, if_pos h]
def kLv (n : Nat) (d : D) (m : Mem) (k : Bool) : Rs D := if k = true then .ok d (m.take n) else (if D.lt n (fzl n m d) = true then .ok (fzl n m d) (m.take n) else .stuck)
@[simp] theorem lv_rtk : lv n (.ok (.rt d) m) = kLv n d m (D.lt n d) := by
  unfold kLv
  split
  · rename_i h; exact lv_rt h
  · rfl
@[simp] theorem kLv_t : kLv n d m true = .ok d (m.take n) := rfl
@[simp] theorem lv_nx : lv n (.ok (.nx ρ) m) = .ok .non (m.take n) := rfl
theorem fzl_of (h : D.lt n d = true) : fzl n m d = d := by unfold fzl; rw [if_pos h]
def kFz (n : Nat) (m : Mem) (d : D) (k : Bool) : D := if k = true then d else fz 8 n m d
@[simp] theorem fzl_k : fzl n m d = kFz n m d (D.lt n d) := rfl
@[simp] theorem kFz_t : kFz n m d true = d := rfl
def kLvM (n f i : Nat) (m : Mem) (o : Option MO) : Rs D := match o with
  | some o => if (o.alive = true ∧ o.lkd = false) ∧ n ≠ 0 ∧ n ≤ m.length ∧ (o.map (fzl n (m.put f i .dead))).lt n = true then .ok (Mem.nx (m.take n)) (Mem.new (m.take n) (o.map (fzl n (m.put f i .dead)))) else .stuck
  | none => .stuck
theorem lvM_loc {i : Nat} : lvM n (.ok (.rt (.loc n i)) m) = kLvM n n i m (m.get n i) := by
  unfold lvM kLvM
  dsimp only
  rw [if_pos rfl]
  try rfl
@[simp] theorem kLvM_lst {f i : Nat} {xs : List D} : kLvM n f i m (some (.lst xs)) = if n ≠ 0 ∧ n ≤ m.length ∧ D.lts n (xs.map (fzl n (m.put f i .dead))) = true then .ok (Mem.nx (m.take n)) (Mem.new (m.take n) (.lst (xs.map (fzl n (m.put f i .dead))))) else .stuck := by
  unfold kLvM
  dsimp only [MO.map, MO.lt]
  have : MO.alive (.lst xs) = true ∧ MO.lkd (.lst xs) = false := ⟨rfl, rfl⟩
  simp only [this, and_self, true_and]
theorem map_fzl {m' : Mem} (h : D.lts n ds = true) : ds.map (fzl n m') = ds := by
  have := D.lts_iff.mp h
  conv => rhs; rw [← List.map_id ds]
  exact List.map_congr_left fun d hd => fzl_of (this d hd)
theorem lvM_lv (h : ∀ f i, d ≠ .loc f i) : lvM n (.ok (.rt d) m) = lv n (.ok (.rt d) m) := by
  cases d <;> first | rfl | exact absurd rfl (h _ _)
theorem fnD_run (h : ds.length = np) : fnD np nl b ds m = lv m.length (b (ds.map some ++ List.replicate (nl - np) none) (m ++ [[]])) := by
  unfold fnD
  rw [if_pos h]
theorem fnM_run (h : ds.length = np) : fnM np nl b ds m = lvM m.length (b (ds.map some ++ List.replicate (nl - np) none) (m ++ [[]])) := by
  unfold fnM
  rw [if_pos h]
end

section
variable {nl : Nat} {m : Mem} {b : Bd} {x y z u v : D}
theorem fnD1 : fnD 1 nl b [x] m = lv m.length (b (some x :: List.replicate (nl - 1) none) (m ++ [[]])) := rfl
theorem fnD2 : fnD 2 nl b [x, y] m = lv m.length (b (some x :: some y :: List.replicate (nl - 2) none) (m ++ [[]])) := rfl
theorem fnD3 : fnD 3 nl b [x, y, z] m = lv m.length (b (some x :: some y :: some z :: List.replicate (nl - 3) none) (m ++ [[]])) := rfl
theorem fnD4 : fnD 4 nl b [x, y, z, u] m = lv m.length (b (some x :: some y :: some z :: some u :: List.replicate (nl - 4) none) (m ++ [[]])) := rfl
theorem fnD5 : fnD 5 nl b [x, y, z, u, v] m = lv m.length (b (some x :: some y :: some z :: some u :: some v :: List.replicate (nl - 5) none) (m ++ [[]])) := rfl
theorem fnM1 : fnM 1 nl b [x] m = lvM m.length (b (some x :: List.replicate (nl - 1) none) (m ++ [[]])) := rfl
theorem fnM2 : fnM 2 nl b [x, y] m = lvM m.length (b (some x :: some y :: List.replicate (nl - 2) none) (m ++ [[]])) := rfl
theorem fnM3 : fnM 3 nl b [x, y, z] m = lvM m.length (b (some x :: some y :: some z :: List.replicate (nl - 3) none) (m ++ [[]])) := rfl
end
/-! ### plain data without truth values: equality is identity -/
mutual
def plD : Nat → D → Bool
  | _, .non => true
  | _, .int _ => true
  | _, .str x => PyData.strOk x
  | k + 1, .tup xs => plDs k xs
  | k + 1, .lst xs => plDs k xs
  | _, _ => false
def plDs : Nat → List D → Bool
  | _, [] => true
  | k, x :: xs => plD k x && plDs k xs
end
@[simp] theorem plD_non {k} : plD k .non = true := by simp [plD]
@[simp] theorem plD_int {k i} : plD k (.int i) = true := by simp [plD]
@[simp] theorem plD_str {k x} : plD k (.str x) = PyData.strOk x := by simp [plD]
@[simp] theorem plD_tup {k xs} : plD (k + 1) (.tup xs) = plDs k xs := by simp [plD]
@[simp] theorem plD_lst {k xs} : plD (k + 1) (.lst xs) = plDs k xs := by simp [plD]
@[simp] theorem plDs_nil {k} : plDs k [] = true := by simp [plDs]
@[simp] theorem plDs_cons {k x xs} : plDs k (x :: xs) = (plD k x && plDs k xs) := by simp [plDs]
theorem plDs_iff {k : Nat} : ∀ {xs : List D}, plDs k xs = true ↔ ∀ d ∈ xs, plD k d = true
  | [] => by simp
  | x :: xs => by simp [plDs_iff (xs := xs)]
@[simp] theorem plDs_app {k : Nat} {xs ys : List D} : plDs k (xs ++ ys) = (plDs k xs && plDs k ys) := by
  induction xs with
  | nil => simp
  | cons x xs ih => simp [ih, Bool.and_assoc]
theorem plDs_map {k : Nat} {α : Type} {g : α → D} {l : List α} (h : ∀ a ∈ l, plD k (g a) = true) : plDs k (l.map g) = true := by
  rw [plDs_iff]
  intro d hd
  obtain ⟨a, h1, rfl⟩ := List.mem_map.mp hd
  exact h a h1
/-- what the comparisons see -/
structure PyOk (k : Nat) (d : D) (e : PyData) : Prop where
  py : py d = some e
  lay : e.canLay0 = true
  dep : e.depth ≤ k
structure PysOk (k : Nat) (d : List D) (e : List PyData) : Prop where
  py : pys d = some e
  lay : PyData.canLayAll0 e = true
  dep : PyData.depthAll e ≤ k
mutual
theorem plD_py : ∀ {k : Nat} {d : D}, plD k d = true → ∃ e, PyOk k d e
  | k, .non, _ => ⟨_, rfl, rfl, Nat.zero_le _⟩
  | k, .int i, _ => ⟨_, rfl, rfl, Nat.zero_le _⟩
  | k, .str x, h => ⟨_, rfl, by simpa [PyData.canLay0] using h, Nat.zero_le _⟩
  | k + 1, .tup xs, h => by
    obtain ⟨e, h1, h2, h3⟩ := plDs_py (k := k) (xs := xs) (by simpa using h)
    exact ⟨.tuple e, by simp only [py, h1], by simpa only [PyData.canLay0] using h2, by simp only [PyData.depth]; omega⟩
  | k + 1, .lst xs, h => by
    obtain ⟨e, h1, h2, h3⟩ := plDs_py (k := k) (xs := xs) (by simpa using h)
    exact ⟨.list e, by simp only [py, h1], by simpa only [PyData.canLay0] using h2, by simp only [PyData.depth]; omega⟩
  | 0, .tup xs, h => by simp [plD] at h
  | 0, .lst xs, h => by simp [plD] at h
  | k, .bl _, h => by simp [plD] at h
  | k, .ty _, h => by simp [plD] at h
  | k, .cls _, h => by simp [plD] at h
  | k, .dk _ _, h => by simp [plD] at h
  | k, .dt _ _, h => by simp [plD] at h
  | k, .loc _ _, h => by simp [plD] at h
  | k, .scr _, h => by simp [plD] at h
theorem plDs_py : ∀ {k : Nat} {xs : List D}, plDs k xs = true → ∃ e, PysOk k xs e
  | k, [], _ => ⟨[], rfl, rfl, Nat.zero_le _⟩
  | k, x :: xs, h => by
    simp only [plDs_cons, Bool.and_eq_true] at h
    obtain ⟨e, h1, h2, h3⟩ := plD_py h.1
    obtain ⟨es, k1, k2, k3⟩ := plDs_py h.2
    exact ⟨e :: es, by simp only [pys, h1, k1], by simp only [PyData.canLayAll0, h2, k2, Bool.and_self], by simp only [PyData.depthAll]; omega⟩
end
open Classical in
mutual
theorem plD_eqv : ∀ {k j : Nat} {d d' : D} {e e' : PyData}, plD k d = true → plD j d' = true → py d = some e → py d' = some e' → PyData.eqv e e' = decide (d = d')
  | k, j, d, d', e, e', h, h', p, p' => by
    cases d with
    | non => cases d' <;> simp [plD] at h' <;> simp only [py] at p p' <;> (try split at p') <;> simp_all <;> subst p <;> subst p' <;> simp [PyData.eqv]
    | int i => cases d' <;> simp [plD] at h' <;> simp only [py] at p p' <;> (try split at p') <;> simp_all <;> subst p <;> subst p' <;> simp [PyData.eqv] <;> (try rfl)
    | str x => cases d' <;> simp [plD] at h' <;> simp only [py] at p p' <;> (try split at p') <;> simp_all <;> subst p <;> subst p' <;> simp [PyData.eqv] <;> (try rfl)
    | tup xs =>
      cases k with
      | zero => simp [plD] at h
      | succ k =>
        simp only [py] at p
        split at p
        case h_2 => cases p
        rename_i ys hy
        cases p
        cases d' with
        | tup xs' =>
          cases j with
          | zero => simp [plD] at h'
          | succ j =>
            simp only [py] at p'
            split at p'
            case h_2 => cases p'
            rename_i ys' hy'
            cases p'
            simp only [PyData.eqv]
            rw [plDs_eqv (by simpa using h) (by simpa using h') hy hy']
            simp
        | non => cases p'; simp [PyData.eqv]
        | int i => cases p'; simp [PyData.eqv]
        | str x => cases p'; simp [PyData.eqv]
        | lst xs' =>
          simp only [py] at p'
          split at p'
          · cases p'; simp [PyData.eqv]
          · cases p'
        | _ => simp [plD] at h'
    | lst xs =>
      cases k with
      | zero => simp [plD] at h
      | succ k =>
        simp only [py] at p
        split at p
        case h_2 => cases p
        rename_i ys hy
        cases p
        cases d' with
        | lst xs' =>
          cases j with
          | zero => simp [plD] at h'
          | succ j =>
            simp only [py] at p'
            split at p'
            case h_2 => cases p'
            rename_i ys' hy'
            cases p'
            simp only [PyData.eqv]
            rw [plDs_eqv (by simpa using h) (by simpa using h') hy hy']
            simp
        | non => cases p'; simp [PyData.eqv]
        | int i => cases p'; simp [PyData.eqv]
        | str x => cases p'; simp [PyData.eqv]
        | tup xs' =>
          simp only [py] at p'
          split at p'
          · cases p'; simp [PyData.eqv]
          · cases p'
        | _ => simp [plD] at h'
    | _ => simp [plD] at h
theorem plDs_eqv : ∀ {k j : Nat} {d d' : List D} {e e' : List PyData}, plDs k d = true → plDs j d' = true → pys d = some e → pys d' = some e' → PyData.eqvAll e e' = decide (d = d')
  | k, j, [], [], e, e', _, _, p, p' => by cases p; cases p'; simp [PyData.eqvAll]
  | k, j, [], y :: ys, e, e', _, _, p, p' => by
    cases p
    simp only [pys] at p'
    split at p'
    · cases p'; simp [PyData.eqvAll]
    · cases p'
  | k, j, x :: xs, [], e, e', _, _, p, p' => by
    cases p'
    simp only [pys] at p
    split at p
    · cases p; simp [PyData.eqvAll]
    · cases p
  | k, j, x :: xs, y :: ys, e, e', h, h', p, p' => by
    simp only [plDs_cons, Bool.and_eq_true] at h h'
    simp only [pys] at p p'
    split at p
    case h_2 => cases p
    rename_i a as ha has
    cases p
    split at p'
    case h_2 => cases p'
    rename_i b bs hb hbs
    cases p'
    simp only [PyData.eqvAll]
    rw [plD_eqv h.1 h'.1 ha hb, plDs_eqv h.2 h'.2 has hbs]
    simp
end
theorem shaped_of {k : Nat} {d : D} {e : PyData} (h : PyOk k d e) (hk : k ≤ 64) : SeqAt.shaped e = true := by
  have h3 := h.dep
  simp only [SeqAt.shaped, h.lay, Bool.true_and, decide_eq_true_eq]
  omega
theorem toPy_pl {m : Mem} {d : D} {k : Nat} (h : plD k d = true) : toPy m d = py d := by
  cases d <;> first | rfl | simp [plD] at h
theorem vwKA_pl {m : Mem} {d : D} {k : Nat} (h : plD k d = true) : vwKA m d = none := by
  cases d <;> first | rfl | simp [plD] at h
open Classical in
theorem gEqA_pl {neg : Bool} {m : Mem} {d d' : D} (h : plD 60 d = true) (h' : plD 60 d' = true) : gEqA neg d d' m = .ok (.bl (neg ^^ decide (d = d'))) m := by
  obtain ⟨e, h1⟩ := plD_py h
  obtain ⟨e', h1'⟩ := plD_py h'
  unfold gEqA
  rw [vwKA_pl h, vwKA_pl h']
  dsimp only
  unfold gEq
  rw [toPy_pl h, toPy_pl h', h1.py, h1'.py]
  dsimp only
  rw [if_pos ⟨shaped_of h1 (by omega), shaped_of h1' (by omega)⟩, plD_eqv h h' h1.py h1'.py]
@[simp] theorem gEqA_int {neg : Bool} {m : Mem} {i j : Int} : gEqA neg (.int i) (.int j) m = .ok (.bl (neg ^^ decide (i = j))) m := by
  rw [gEqA_pl (by simp) (by simp)]
  simp
@[simp] theorem gEqA_bl {neg : Bool} {m : Mem} {i j : Bool} : gEqA neg (.bl i) (.bl j) m = .ok (.bl (neg ^^ decide (i = j))) m := by
  unfold gEqA vwKA gEq toPy py
  dsimp only
  rw [if_pos ⟨rfl, rfl⟩]
  congr 3
/-- a list of our own, read -/
def rdD (m : Mem) : D → D
  | .loc f i => match m.get f i with
    | some (.lst xs) => .lst xs
    | _ => .loc f i
  | d => d
theorem toPy_rd {m : Mem} {d : D} {k : Nat} (h : plD k (rdD m d) = true) : toPy m d = py (rdD m d) := by
  cases d with
  | loc f i =>
    unfold rdD at h ⊢
    unfold toPy
    dsimp only at h ⊢
    split at h
    · rename_i hg
      first
        | (rw [hg]; rfl)
        | (simp only [py]; done)
        | rfl
    · simp [plD] at h
  | _ => rfl
theorem vwKA_rd {m : Mem} {d : D} {k : Nat} (h : plD k (rdD m d) = true) : vwKA m d = none := by
  cases d with
  | loc f i =>
    unfold rdD at h
    unfold vwKA
    dsimp only at h ⊢
    split at h
    · rename_i hg; rw [hg]
    · simp [plD] at h
  | _ => exact vwKA_pl h
open Classical in
theorem gEqA_rd {neg : Bool} {m : Mem} {d d' : D} (h : plD 60 (rdD m d) = true) (h' : plD 60 (rdD m d') = true) : gEqA neg d d' m = .ok (.bl (neg ^^ decide (rdD m d = rdD m d'))) m := by
  obtain ⟨e, h1⟩ := plD_py h
  obtain ⟨e', h1'⟩ := plD_py h'
  unfold gEqA
  rw [vwKA_rd h, vwKA_rd h']
  dsimp only
  unfold gEq
  rw [toPy_rd h, toPy_rd h', h1.py, h1'.py]
  dsimp only
  rw [if_pos ⟨shaped_of h1 (by omega), shaped_of h1' (by omega)⟩, plD_eqv h h' h1.py h1'.py]
/-! what is in a list -/
theorem pys_mem {k : Nat} : ∀ {xs : List D} {es : List PyData}, plDs k xs = true → pys xs = some es → ∀ {d : D} {e : PyData}, plD 60 d = true → py d = some e → ((es.any fun z => PyData.eqv z e) = true ↔ d ∈ xs)
  | [], es, _, p, d, e, _, _ => by cases p; simp
  | x :: xs, es, h, p, d, e, hd, pd => by
    simp only [plDs_cons, Bool.and_eq_true] at h
    simp only [pys] at p
    split at p
    case h_2 => cases p
    rename_i a as ha has
    cases p
    have ih := pys_mem h.2 has hd pd
    rw [List.any_cons, Bool.or_eq_true, ih, plD_eqv h.1 hd ha pd, List.mem_cons]
    simp only [decide_eq_true_eq]
    exact or_congr ⟨Eq.symm, Eq.symm⟩ Iff.rfl
open Classical in
theorem gIn_rd {neg : Bool} {m : Mem} {d l : D} {xs : List D} (hl : rdD m l = .lst xs) (h : plD 60 d = true) (h' : plDs 59 xs = true) : gIn neg d l m = .ok (.bl (neg ^^ decide (d ∈ xs))) m := by
  obtain ⟨e, h1⟩ := plD_py h
  have h'' : plD 60 (rdD m l) = true := by rw [hl]; simpa using h'
  obtain ⟨e', h1'⟩ := plD_py h''
  have hp := h1'.py
  rw [hl] at hp
  simp only [py] at hp
  split at hp
  case h_2 => cases hp
  rename_i es hes
  cases hp
  unfold gIn
  rw [toPy_pl h, toPy_rd h'', h1.py, h1'.py]
  dsimp only
  rw [if_pos ⟨shaped_of h1 (by omega), shaped_of h1' (by omega)⟩]
  congr 3
  have := pys_mem h' hes h h1.py
  by_cases hm : d ∈ xs
  · rw [this.mpr hm]; simp [hm]
  · cases hb : (es.any fun z => PyData.eqv z e) with
    | true => exact absurd (this.mp hb) hm
    | false => simp [hm]
/-! ### dicts by tuples, d.get(k, x) -/
section
variable {ck : List L2.Key → Bool} {ks : List L2.Key} {kt : List (List L2.Key)} {xs ys : List D} {m : Mem} {ρ : Lc} {fo fi fx : Ev} {d i x : D} {f n : Nat} {k : Int} {neg : Bool} {q : Str}
@[simp] theorem keyDs_nil : keyDs [] = some [] := rfl
@[simp] theorem keyDs_int : keyDs (.int k :: xs) = (keyDs xs).map (fun r => .inl k :: r) := by
  simp only [keyDs, keyD]
  cases keyDs xs <;> rfl
@[simp] theorem keyDs_str : keyDs (.str q :: xs) = (keyDs xs).map (fun r => .inr q :: r) := by
  simp only [keyDs, keyD]
  cases keyDs xs <;> rfl
theorem keyDs_ints (ns : List Int) : keyDs (ns.map .int) = some (ns.map .inl) := by
  induction ns with
  | nil => rfl
  | cons n ns ih => rw [List.map_cons, keyDs_int, ih]; rfl
def dlO (ck : List L2.Key → Bool) (o : Option MO) (i : D) : Option (Option D) := match o with
  | some (.dk ks xs) => match keyD i with
    | some k => some (lookD ks xs k)
    | none => none
  | some (.fk ks xs) => match keyD i with
    | some k => some (lookD ks xs k)
    | none => none
  | some (.dt ks xs) => match keyT i with
    | some k => if ck k = true then some (lookD ks xs k) else none
    | none => none
  | some (.ft ks xs) => match keyT i with
    | some k => if ck k = true then some (lookD ks xs k) else none
    | none => none
  | _ => none
@[simp] theorem dlk_loc : dlk ck m (.loc f n) i = dlO ck (m.get f n) i := by
  unfold dlk dlO
  dsimp only [vwKA, vwTA]
  cases h : m.get f n with
  | none => rfl
  | some o => cases o <;> rfl
@[simp] theorem dlO_dk : dlO ck (some (.dk ks xs)) (.int k) = some (lookD ks xs (.inl k)) := rfl
@[simp] theorem dlO_dks : dlO ck (some (.dk ks xs)) (.str q) = some (lookD ks xs (.inr q)) := rfl
@[simp] theorem dlO_fk : dlO ck (some (.fk ks xs)) (.int k) = some (lookD ks xs (.inl k)) := rfl
def dlT (ck : List L2.Key → Bool) (kt : List (List L2.Key)) (xs : List D) : Option (List L2.Key) → Option (Option D)
  | some k => if ck k = true then some (lookD kt xs k) else none
  | none => none
@[simp] theorem dlT_run {k : List L2.Key} : dlT ck kt xs (some k) = if ck k = true then some (lookD kt xs k) else none := rfl
@[simp] theorem dlO_dt : dlO ck (some (.dt kt xs)) (.tup ys) = dlT ck kt xs (keyDs ys) := by
  unfold dlO dlT
  dsimp only [keyT]
@[simp] theorem dlk_dk : dlk ck m (.dk ks xs) (.int k) = some (lookD ks xs (.inl k)) := rfl
def isDO : Option MO → Bool
  | some (.dk _ _) => true
  | some (.dt _ _) => true
  | some (.fk _ _) => true
  | some (.ft _ _) => true
  | _ => false
@[simp] theorem isDict_loc : isDict m (.loc f n) = isDO (m.get f n) := by
  unfold isDict isDO
  dsimp only [vwKA, vwTA]
  cases h : m.get f n with
  | none => rfl
  | some o => cases o <;> rfl
@[simp] theorem isDict_dk : isDict m (.dk ks xs) = true := rfl
@[simp] theorem isDO_dk : isDO (some (.dk ks xs)) = true := rfl
@[simp] theorem isDO_dt : isDO (some (.dt kt xs)) = true := rfl
def gGe : Option (Option D) → D → Mem → Rs D
  | some r, x, m => .ok (r.getD x) m
  | none, _, _ => .stuck
@[simp] theorem gGe_run {r : Option D} : gGe (some r) x m = .ok (r.getD x) m := rfl
def kGe1 (ck : List L2.Key → Bool) (fi fx : Ev) (ρ : Lc) (d : D) (m1 : Mem) : Rs D := if isDict m1 d = true then (fi ρ m1).bind fun i m2 => (fx ρ m2).bind fun x m3 => match dlk ck m3 d i with
  | some r => .ok (r.getD x) m3
  | none => .stuck else .stuck
def kGe2 (ck : List L2.Key → Bool) (fx : Ev) (ρ : Lc) (d i : D) (m2 : Mem) : Rs D := (fx ρ m2).bind fun x m3 => match dlk ck m3 d i with
  | some r => .ok (r.getD x) m3
  | none => .stuck
def kGe3 (ck : List L2.Key → Bool) (d i x : D) (m3 : Mem) : Rs D := match dlk ck m3 d i with
  | some r => .ok (r.getD x) m3
  | none => .stuck
@[simp] theorem dGet2_run : dGet2 ck fo fi fx ρ m = (fo ρ m).bind (kGe1 ck fi fx ρ) := rfl
@[simp] theorem kGe1_run : kGe1 ck fi fx ρ d m = if isDict m d = true then (fi ρ m).bind (kGe2 ck fx ρ d) else .stuck := rfl
@[simp] theorem kGe2_run : kGe2 ck fx ρ d i m = (fx ρ m).bind (kGe3 ck d i) := rfl
@[simp] theorem kGe3_run : kGe3 ck d i x m = gGe (dlk ck m d i) x m := by
  unfold kGe3 gGe
  cases dlk ck m d i <;> rfl
def gIxOT (ck : List L2.Key → Bool) (kt : List (List L2.Key)) (xs : List D) (m : Mem) : Option (List L2.Key) → Rs D
  | some k => if ck k = true then kIx (lookD kt xs k) m else .stuck
  | none => .stuck
@[simp] theorem gIxOT_run {k : List L2.Key} : gIxOT ck kt xs m (some k) = if ck k = true then kIx (lookD kt xs k) m else .stuck := rfl
@[simp] theorem gIxT_locT : gIxT ck (.loc f n) (.tup ys) m = gIxO ck (m.get f n) (.tup ys) m := by
  unfold gIxT dlk gIxO gIx
  dsimp only [vwKA, vwTA, keyD, keyT]
  cases h : m.get f n with
  | none => rfl
  | some o =>
    cases o with
    | dt ks xs =>
      dsimp only
      cases keyDs ys with
      | none => rfl
      | some k =>
        dsimp only
        by_cases hc : ck k = true
        · rw [if_pos hc, if_pos hc]
          cases lookD ks xs k <;> rfl
        · rw [if_neg hc, if_neg hc]
    | ft ks xs =>
      dsimp only
      cases keyDs ys with
      | none => rfl
      | some k =>
        dsimp only
        by_cases hc : ck k = true
        · rw [if_pos hc, if_pos hc]
          cases lookD ks xs k <;> rfl
        · rw [if_neg hc, if_neg hc]
    | _ => rfl
@[simp] theorem gIxO_dt : gIxO ck (some (.dt kt xs)) (.tup ys) m = gIxOT ck kt xs m (keyDs ys) := by
  unfold gIxO gIxOT
  dsimp only [keyT]
  try (cases keyDs ys <;> rfl)
def kStT (ck : List L2.Key → Bool) (kt : List (List L2.Key)) (xs : List D) (f n : Nat) (z : D) (m : Mem) : Option (List L2.Key) → Rs Unit
  | some k => if (kt.Nodup ∧ kt.length < 16777216) ∧ ck k = true then .ok () (m.put f n (.dt (putD kt xs k z).1 (putD kt xs k z).2)) else .stuck
  | none => .stuck
@[simp] theorem kStT_run {k : List L2.Key} {z : D} : kStT ck kt xs f n z m (some k) = if (kt.Nodup ∧ kt.length < 16777216) ∧ ck k = true then .ok () (m.put f n (.dt (putD kt xs k z).1 (putD kt xs k z).2)) else .stuck := rfl
@[simp] theorem gStO_dt {z : D} : gStO ck (some (.dt kt xs)) f n (.tup ys) z m = kStT ck kt xs f n z m (keyDs ys) := by
  unfold gStO kStT
  dsimp only [keyT]
  try (cases keyDs ys <;> rfl)
/-! len, of dicts too -/
@[simp] theorem bLenA_tup : bLenA [.tup xs] m = .ok (.int xs.length) m := rfl
@[simp] theorem bLenA_lst : bLenA [.lst xs] m = .ok (.int xs.length) m := rfl
@[simp] theorem bLenA_str {x : Str} : bLenA [.str x] m = if lineOk x.length = true then .ok (.int x.length) m else .stuck := rfl
@[simp] theorem bLenA_scr {l : List Int} : bLenA [.scr l] m = .ok (.int l.length) m := bLen_scr
@[simp] theorem bLenA_dk : bLenA [.dk ks xs] m = .ok (.int ks.length) m := rfl
def gLenO (m : Mem) : Option MO → Rs D
  | some (.lst xs) => .ok (.int xs.length) m
  | some (.dk ks _) => .ok (.int ks.length) m
  | some (.dt ks _) => .ok (.int ks.length) m
  | _ => .stuck
@[simp] theorem gLenO_lst : gLenO m (some (.lst xs)) = .ok (.int xs.length) m := rfl
@[simp] theorem gLenO_dk : gLenO m (some (.dk ks xs)) = .ok (.int ks.length) m := rfl
@[simp] theorem bLenA_loc : bLenA [.loc f n] m = gLenO m (m.get f n) := by
  unfold bLenA dictLen
  dsimp only
  rw [bLen_loc, vwL_loc]
  cases h : m.get f n with
  | none => rfl
  | some o => cases o <;> rfl
/-! list(d.keys()) -/
def kLk (fin : List D → Mem → Rs D) (d : D) (m1 : Mem) : Rs D := match dkeysD m1 d with
  | some xs => if unlk m1 d = true then fin xs m1 else .stuck
  | none => .stuck
def kLkO (fin : List D → Mem → Rs D) (m : Mem) : Option MO → Rs D
  | some (.dk ks _) => fin (ks.map dKey) m
  | some (.dt ks _) => fin (ks.map dKeyT) m
  | _ => .stuck
variable {fin : List D → Mem → Rs D} {g : Ev}
@[simp] theorem dLstK_run : dLstK fin g ρ m = (g ρ m).bind (kLk fin) := rfl
@[simp] theorem kLk_loc : kLk fin (.loc f n) m = kLkO fin m (m.get f n) := by
  have : ∀ o, m.get f n = o → kLk fin (.loc f n) m = kLkO fin m o := fun o h => by
    cases o with
    | none => simp only [kLk, kLkO, dkeysD, unlk, vwKA, vwTA, h]
    | some o => cases o <;> simp only [kLk, kLkO, dkeysD, unlk, vwKA, vwTA, h] <;> rfl
  exact this _ rfl
@[simp] theorem kLkO_dk : kLkO fin m (some (.dk ks xs)) = fin (ks.map dKey) m := rfl
@[simp] theorem kLkO_dt : kLkO fin m (some (.dt kt xs)) = fin (kt.map dKeyT) m := rfl
end
/-! last ones of short lists -/
section
variable {α : Type} {a b c d : α}
@[simp] theorem atI_m1 : atI [a] (-1) = some a := rfl
@[simp] theorem atI_m2 : atI [a, b] (-1) = some b := rfl
@[simp] theorem atI_m3 : atI [a, b, c] (-1) = some c := rfl
@[simp] theorem atI_m4 : atI [a, b, c, d] (-1) = some d := rfl
end
/-! walks over locked dicts -/
section
variable {ks : List L2.Key} {kt : List (List L2.Key)} {xs : List D} {m : Mem} {ρ : Lc} {g : Ev} {f n : Nat}
def ckF (f n : Nat) (ks : List L2.Key) (xs : List D) (m : Mem) : Prop := m.get f n = some (.fk ks xs)
def kKw (d : D) (m1 : Mem) : Rs Wk := match d with
  | .loc g n => match m1.get g n with
    | some (.fk ks xs) => .ok ⟨ks.map dKey, fun m2 => m2.get g n = some (.fk ks xs)⟩ m1
    | some (.ft ks xs) => .ok ⟨ks.map dKeyT, fun m2 => m2.get g n = some (.ft ks xs)⟩ m1
    | _ => .stuck
  | _ => .stuck
def kKwO (f n : Nat) (m : Mem) : Option MO → Rs Wk
  | some (.fk ks xs) => .ok ⟨ks.map dKey, ckF f n ks xs⟩ m
  | some (.ft ks xs) => .ok ⟨ks.map dKeyT, fun m2 => m2.get f n = some (.ft ks xs)⟩ m
  | _ => .stuck
@[simp] theorem dKeysW_run : dKeysW g ρ m = (g ρ m).bind kKw := by
  unfold dKeysW
  congr 1
@[simp] theorem kKw_loc : kKw (.loc f n) m = kKwO f n m (m.get f n) := by
  unfold kKw kKwO
  dsimp only
  cases h : m.get f n with
  | none => rfl
  | some o => cases o <;> rfl
@[simp] theorem kKwO_fk : kKwO f n m (some (.fk ks xs)) = .ok ⟨ks.map dKey, ckF f n ks xs⟩ m := rfl
/-- a comprehension or loop that walks over a dict of its own frame -/
theorem lockV_run {α : Type} {i f n : Nat} {b : EvG α} {ρ : Lc} {m : Mem} {a : α} (h1 : ρ[i]? = some (some (.loc f n))) (h2 : m.get f n = some (.dk ks xs)) (h3 : b ρ (m.put f n (.fk ks xs)) = .ok a (m.put f n (.fk ks xs))) : lockV i b ρ m = .ok a m := by
  have hg := Mem.get_put (o := .fk ks xs) h2 f n
  rw [if_pos ⟨rfl, rfl⟩] at hg
  have hp : (m.put f n (.fk ks xs)).put f n (.dk ks xs) = m := by
    unfold Mem.put Mem.get at *
    apply List.ext_getElem?
    intro j
    rw [List.getElem?_modify, List.getElem?_modify]
    by_cases hj : f = j
    · subst hj
      cases e : m[f]? with
      | none => rfl
      | some fr =>
        rw [e] at h2
        have h2 : fr[n]? = some (.dk ks xs) := h2
        simp only [if_true, Option.map_some, Option.some.injEq]
        show some ((fr.set n (MO.fk ks xs)).set n (MO.dk ks xs)) = some fr
        rw [List.set_set]
        have hn := (List.getElem?_eq_some_iff.mp h2)
        obtain ⟨hn1, hn2⟩ := hn
        rw [← hn2, List.set_getElem_self]
    · cases e : m[j]? with
      | none => rfl
      | some fr => simp [hj]
  unfold lockV
  rw [h1]
  dsimp only
  rw [h2]
  dsimp only [MO.lock]
  rw [h3]
  unfold unl
  dsimp only
  rw [if_pos hg, hp]
theorem lockV_run2 {α : Type} {i f n : Nat} {b : EvG α} {ρ : Lc} {m m2 : Mem} {a : α} (h1 : ρ[i]? = some (some (.loc f n))) (h2 : m.get f n = some (.dk ks xs)) (h3 : b ρ (m.put f n (.fk ks xs)) = .ok a m2) (h4 : m2.get f n = some (.fk ks xs)) : lockV i b ρ m = .ok a (m2.put f n (.dk ks xs)) := by
  unfold lockV
  rw [h1]
  dsimp only
  rw [h2]
  dsimp only [MO.lock]
  rw [h3]
  unfold unl
  dsimp only
  rw [if_pos h4]
def kIw (d : D) (m1 : Mem) : Rs Wk := match d with
  | .loc g n => match m1.get g n with
    | some (.fk ks xs) => .ok ⟨(ks.zip xs).map fun kx => .tup [dKey kx.1, kx.2], fun m2 => m2.get g n = some (.fk ks xs)⟩ m1
    | _ => .stuck
  | _ => .stuck
def kIwO (f n : Nat) (m : Mem) : Option MO → Rs Wk
  | some (.fk ks xs) => .ok ⟨(ks.zip xs).map fun kx => .tup [dKey kx.1, kx.2], ckF f n ks xs⟩ m
  | _ => .stuck
@[simp] theorem dItemsW_run : dItemsW g ρ m = (g ρ m).bind kIw := by
  unfold dItemsW
  congr 1
@[simp] theorem kIw_loc : kIw (.loc f n) m = kIwO f n m (m.get f n) := by
  unfold kIw kIwO
  dsimp only
  cases h : m.get f n with
  | none => rfl
  | some o => cases o <;> rfl
@[simp] theorem kIwO_fk : kIwO f n m (some (.fk ks xs)) = .ok ⟨(ks.zip xs).map fun kx => .tup [dKey kx.1, kx.2], ckF f n ks xs⟩ m := rfl
end
/-! zip, enumerate -/
section
variable {f g h : Ev} {ρ : Lc} {m : Mem} {d e u : D} {xs ys zs : List D} {c1 c2 c3 : Mem → Prop} {k1 k2 k3 : Bool} {i j : Nat}
def vwO (i j : Nat) : Option MO → Option (Bool × List D × (Mem → Prop))
  | some (.lst xs) => some (true, xs, ckL i j xs)
  | _ => none
@[simp] theorem vwO_lst : vwO i j (some (.lst xs)) = some (true, xs, ckL i j xs) := rfl
@[simp] theorem vwW_tup : vwW m (.tup xs) = some (false, xs, fun _ => True) := rfl
@[simp] theorem vwW_lst : vwW m (.lst xs) = some (true, xs, fun _ => True) := rfl
@[simp] theorem vwW_scr {xs : List Int} : vwW m (.scr xs) = some (true, xs.map .int, fun _ => True) := rfl
@[simp] theorem vwW_loc : vwW m (.loc i j) = vwO i j (m.get i j) := by
  unfold vwW vwO
  dsimp only
  cases h : m.get i j with
  | none => rfl
  | some o => cases o <;> rfl
abbrev VW := Option (Bool × List D × (Mem → Prop))
def gZip (a b : VW) (m : Mem) : Rs Wk := match a, b with
  | some (_, xs, c1), some (_, ys, c2) => .ok ⟨(xs.zip ys).map fun p => .tup [p.1, p.2], fun m3 => c1 m3 ∧ c2 m3⟩ m
  | _, _ => .stuck
def kZ1 (g : Ev) (ρ : Lc) (d : D) (m : Mem) : Rs Wk := (g ρ m).bind fun e m2 => gZip (vwW m2 d) (vwW m2 e) m2
def kZ2 (d e : D) (m2 : Mem) : Rs Wk := gZip (vwW m2 d) (vwW m2 e) m2
@[simp] theorem dZip2_run : dZip2 f g ρ m = (f ρ m).bind (kZ1 g ρ) := rfl
@[simp] theorem kZ1_run : kZ1 g ρ d m = (g ρ m).bind (kZ2 d) := rfl
@[simp] theorem kZ2_run : kZ2 d e m = gZip (vwW m d) (vwW m e) m := rfl
@[simp] theorem gZip_run : gZip (some (k1, xs, c1)) (some (k2, ys, c2)) m = .ok ⟨(xs.zip ys).map fun p => .tup [p.1, p.2], fun m3 => c1 m3 ∧ c2 m3⟩ m := rfl
def gZip3 (a b c : VW) (m : Mem) : Rs Wk := match a, b, c with
  | some (_, xs, c1), some (_, ys, c2), some (_, zs, c3) => .ok ⟨(xs.zip (ys.zip zs)).map fun p => .tup [p.1, p.2.1, p.2.2], fun m4 => c1 m4 ∧ c2 m4 ∧ c3 m4⟩ m
  | _, _, _ => .stuck
def kY1 (g h : Ev) (ρ : Lc) (d : D) (m : Mem) : Rs Wk := (g ρ m).bind fun e m2 => (h ρ m2).bind fun u m3 => gZip3 (vwW m3 d) (vwW m3 e) (vwW m3 u) m3
def kY2 (h : Ev) (ρ : Lc) (d e : D) (m : Mem) : Rs Wk := (h ρ m).bind fun u m3 => gZip3 (vwW m3 d) (vwW m3 e) (vwW m3 u) m3
def kY3 (d e u : D) (m3 : Mem) : Rs Wk := gZip3 (vwW m3 d) (vwW m3 e) (vwW m3 u) m3
@[simp] theorem dZip3_run : dZip3 f g h ρ m = (f ρ m).bind (kY1 g h ρ) := rfl
@[simp] theorem kY1_run : kY1 g h ρ d m = (g ρ m).bind (kY2 h ρ d) := rfl
@[simp] theorem kY2_run : kY2 h ρ d e m = (h ρ m).bind (kY3 d e) := rfl
@[simp] theorem kY3_run : kY3 d e u m = gZip3 (vwW m d) (vwW m e) (vwW m u) m := rfl
@[simp] theorem gZip3_run : gZip3 (some (k1, xs, c1)) (some (k2, ys, c2)) (some (k3, zs, c3)) m = .ok ⟨(xs.zip (ys.zip zs)).map fun p => .tup [p.1, p.2.1, p.2.2], fun m4 => c1 m4 ∧ c2 m4 ∧ c3 m4⟩ m := rfl
def kEn (d : D) (m1 : Mem) : Rs Wk := match vwW m1 d with
  | some (true, xs, ck) => .ok ⟨enumD 0 xs, ck⟩ m1
  | _ => .stuck
def gEn : VW → Mem → Rs Wk
  | some (true, xs, ck), m => .ok ⟨enumD 0 xs, ck⟩ m
  | _, _ => .stuck
@[simp] theorem dEnum_run : dEnum f ρ m = (f ρ m).bind kEn := rfl
@[simp] theorem kEn_run : kEn d m = gEn (vwW m d) m := by
  unfold kEn gEn
  rcases vwW m d with _ | ⟨b, xs, ck⟩
  · rfl
  · cases b <;> rfl
@[simp] theorem gEn_run : gEn (some (true, xs, c1)) m = .ok ⟨enumD 0 xs, c1⟩ m := rfl
end
/-! isinstance -/
section
variable {m : Mem} {x : D} {n t : String} {ns : List String} {ts xs : List D} {i j : Nat}
def kIsi (n : String) (m : Mem) : Option String → Rs D
  | some t => if n ∈ known then .ok (.bl (isTy t n)) m else .stuck
  | none => .stuck
@[simp] theorem kIsi_run : kIsi n m (some t) = if n ∈ known then .ok (.bl (isTy t n)) m else .stuck := rfl
@[simp] theorem bIsi_ty : bIsi [x, .ty n] m = kIsi n m (tyN m x) := by
  show (match tyN m x with
    | some t => if n ∈ known then Rs.ok (D.bl (isTy t n)) m else .stuck
    | none => .stuck) = _
  cases tyN m x <;> rfl
def kIsis (m : Mem) : Option String → Option (List String) → Rs D
  | some t, some ns => if ∀ n ∈ ns, n ∈ known then .ok (.bl (ns.any (isTy t))) m else .stuck
  | _, _ => .stuck
@[simp] theorem kIsis_run : kIsis m (some t) (some ns) = if ∀ n ∈ ns, n ∈ known then .ok (.bl (ns.any (isTy t))) m else .stuck := rfl
@[simp] theorem bIsi_tup : bIsi [x, .tup ts] m = kIsis m (tyN m x) (tys ts) := by
  show (match tyN m x, tys ts with
    | some t, some ns => if ∀ n ∈ ns, n ∈ known then Rs.ok (D.bl (ns.any (isTy t))) m else .stuck
    | _, _ => .stuck) = _
  cases tyN m x <;> cases tys ts <;> rfl
@[simp] theorem tys_nil : tys [] = some [] := rfl
@[simp] theorem tys_cons : tys (.ty n :: ts) = (tys ts).map (n :: ·) := rfl
@[simp] theorem tyN_non : tyN m .non = some "NoneType" := rfl
@[simp] theorem tyN_bl {b} : tyN m (.bl b) = some "bool" := rfl
@[simp] theorem tyN_int {b} : tyN m (.int b) = some "int" := rfl
@[simp] theorem tyN_str {b} : tyN m (.str b) = some "str" := rfl
@[simp] theorem tyN_tup : tyN m (.tup xs) = some "tuple" := rfl
@[simp] theorem tyN_lst : tyN m (.lst xs) = some "list" := rfl
@[simp] theorem tyN_dk {ks} : tyN m (.dk ks xs) = some "dict" := rfl
def tyO : Option MO → Option String
  | some (.lst _) => some "list"
  | some (.dk _ _) => some "dict"
  | some (.dt _ _) => some "dict"
  | _ => none
@[simp] theorem tyO_lst : tyO (some (.lst xs)) = some "list" := rfl
@[simp] theorem tyO_dk {ks} : tyO (some (.dk ks xs)) = some "dict" := rfl
@[simp] theorem tyN_loc : tyN m (.loc i j) = tyO (m.get i j) := by
  unfold tyN tyO
  dsimp only
  try
    cases h : m.get i j with
    | none => rfl
    | some o => cases o <;> rfl
@[simp] theorem kn_int : "int" ∈ known := by decide
@[simp] theorem kn_bool : "bool" ∈ known := by decide
@[simp] theorem kn_str : "str" ∈ known := by decide
@[simp] theorem kn_list : "list" ∈ known := by decide
@[simp] theorem kn_tuple : "tuple" ∈ known := by decide
@[simp] theorem kn_dict : "dict" ∈ known := by decide
@[simp] theorem isTy_eq : isTy t n = (t == n || (t == "bool" && n == "int")) := rfl
end
theorem dBools_map {α : Type} (l : List α) (h : α → Bool) : dBools (l.map fun a => .bl (h a)) = some (l.map h) := by
  induction l with
  | nil => rfl
  | cons a l ih => simp only [List.map_cons, dBools, ih]; rfl
theorem bAll_map {α : Type} {l : List α} {h : α → Bool} {m : Mem} : bAll [.lst (l.map fun a => .bl (h a))] m = .ok (.bl (l.all h)) m := by
  unfold bAll
  dsimp only [vwL]
  rw [dBools_map]
  simp [List.all_map]
theorem bAny_map {α : Type} {l : List α} {h : α → Bool} {m : Mem} : bAny [.lst (l.map fun a => .bl (h a))] m = .ok (.bl (l.any h)) m := by
  unfold bAny
  dsimp only [vwL]
  rw [dBools_map]
  simp [List.any_map]
theorem bSum_ints {ns : List Int} {m : Mem} {d : D} (h : vwL m d = some (ns.map .int)) (hi : dInts (ns.map .int) = some ns) : bSum [d] m = .ok (.int ns.sum) m := by
  unfold bSum
  dsimp only
  rw [h]
  dsimp only
  rw [hi]
/-! the law's comparison -/
mutual
def lkD : Nat → D → Bool
  | _, .non => true
  | _, .int _ => true
  | _, .bl _ => true
  | _, .str x => PyData.strOk x
  | k + 1, .tup xs => decide (xs.length ≤ 16777216) && lkDs k xs
  | k + 1, .lst xs => decide (xs.length ≤ 16777216) && lkDs k xs
  | _, _ => false
def lkDs : Nat → List D → Bool
  | _, [] => true
  | k, x :: xs => lkD k x && lkDs k xs
end
theorem lkDs_iff {k : Nat} : ∀ {xs : List D}, lkDs k xs = true ↔ ∀ d ∈ xs, lkD k d = true
  | [] => by simp [lkDs]
  | x :: xs => by simp [lkDs, lkDs_iff (xs := xs)]
/-! a[::-1] -/
section
variable {fin : List D → Mem → Rs D} {f : Ev} {fs : EvG (Option Int)} {ρ : Lc} {m : Mem} {d : D} {xs : List D} {i j : Nat}
def kRv1 (fin : List D → Mem → Rs D) (fs : EvG (Option Int)) (ρ : Lc) (d : D) (m : Mem) : Rs D := (fs ρ m).bind fun o m2 => if o = some (-1) then gRv fin d m2 else .stuck
def kRv2 (fin : List D → Mem → Rs D) (d : D) (o : Option Int) (m : Mem) : Rs D := if o = some (-1) then gRv fin d m else .stuck
def gRvO (fin : List D → Mem → Rs D) (m : Mem) : Option (List D) → Rs D
  | some xs => fin xs.reverse m
  | none => .stuck
@[simp] theorem gRvO_run : gRvO fin m (some xs) = fin xs.reverse m := rfl
@[simp] theorem dRev_run : dRev fin f fs ρ m = (f ρ m).bind (kRv1 fin fs ρ) := rfl
@[simp] theorem kRv1_run : kRv1 fin fs ρ d m = (fs ρ m).bind (kRv2 fin d) := rfl
@[simp] theorem kRv2_run : kRv2 fin d (some (-1)) m = gRv fin d m := if_pos rfl
@[simp] theorem gRv_tup : gRv fin (.tup xs) m = .ok (.tup xs.reverse) m := rfl
@[simp] theorem gRv_lst : gRv fin (.lst xs) m = fin xs.reverse m := rfl
@[simp] theorem gRv_loc : gRv fin (.loc i j) m = gRvO fin m (vwL m (.loc i j)) := by
  show (match vwL m (.loc i j) with
    | some xs => fin xs.reverse m
    | none => .stuck) = _
  cases vwL m (.loc i j) <;> rfl
end
/-! dicts that are displayed, lists that are unpacked -/
section
variable {fin : List L2.Key → List D → Mem → Rs D} {f g : Ev} {fs : List (Ev × Ev)} {ρ : Lc} {m : Mem} {d x : D} {ps : List (D × D)} {xs : List D} {i : Int} {j k : Nat} {gs : Tgs}
def kP1 (g : Ev) (fs : List (Ev × Ev)) (ρ : Lc) (k : D) (m1 : Mem) : Rs (List (D × D)) := (g ρ m1).bind fun x m2 => (dPrs fs ρ m2).bind fun ps m3 => .ok ((k, x) :: ps) m3
def kP2 (fs : List (Ev × Ev)) (ρ : Lc) (k x : D) (m2 : Mem) : Rs (List (D × D)) := (dPrs fs ρ m2).bind fun ps m3 => .ok ((k, x) :: ps) m3
def kP3 (k x : D) (ps : List (D × D)) (m3 : Mem) : Rs (List (D × D)) := .ok ((k, x) :: ps) m3
@[simp] theorem dDisp_run : dDisp fin fs ρ m = (dPrs fs ρ m).bind (mkDisp fin) := rfl
@[simp] theorem dPrs_nil : dPrs [] ρ m = .ok [] m := rfl
@[simp] theorem dPrs_cons : dPrs ((f, g) :: fs) ρ m = (f ρ m).bind (kP1 g fs ρ) := rfl
@[simp] theorem kP1_run : kP1 g fs ρ d m = (g ρ m).bind (kP2 fs ρ d) := rfl
@[simp] theorem kP2_run : kP2 fs ρ d x m = (dPrs fs ρ m).bind (kP3 d x) := rfl
@[simp] theorem kP3_run : kP3 d x ps m = .ok ((d, x) :: ps) m := rfl
def mkDispO (fin : List L2.Key → List D → Mem → Rs D) (m : Mem) : Option (List (L2.Key × D)) → Rs D
  | some kx => if kx.length ≤ 15 then fin (mergeD kx [] []).1 (mergeD kx [] []).2 m else .stuck
  | none => .stuck
@[simp] theorem mkDisp_run : mkDisp fin ps m = mkDispO fin m (keyPs ps) := by
  unfold mkDisp mkDispO
  cases keyPs ps <;> rfl
theorem mkDispO_run {kx : List (L2.Key × D)} : mkDispO fin m (some kx) = if kx.length ≤ 15 then fin (mergeD kx [] []).1 (mergeD kx [] []).2 m else .stuck := rfl
theorem keyPs_int : keyPs ((.int i, x) :: ps) = (keyPs ps).map (fun r => (.inl i, x) :: r) := by
  simp only [keyPs, keyD]
  cases keyPs ps <;> rfl
@[simp] theorem keyPs_nil : keyPs [] = some [] := rfl
def gTLO (gs : Tgs) (ρ : Lc) (m : Mem) : Option (List D) → Rs Lc
  | some ds => gs ds ρ m
  | none => .stuck
@[simp] theorem gTLO_run : gTLO gs ρ m (some xs) = gs xs ρ m := rfl
@[simp] theorem gTL_run : gTL gs d ρ m = gTLO gs ρ m (vwL m d) := by
  unfold gTL gTLO
  cases vwL m d <;> rfl
end
end LN
/-! LNx: fractions as data. -/
namespace LN
open PySem L2 PySem.Spec PyProof.Rows

def fr (q : Rat) : D := .tup [.int q.num, .int (q.den : Int)]
@[simp] theorem dlt_fr {n : Nat} {q : Rat} : D.lt n (fr q) = true := by simp [fr]
@[simp] theorem plD_fr {k : Nat} {q : Rat} : plD (k + 1) (fr q) = true := by simp [fr]
theorem fr_inj {a b : Rat} : fr a = fr b ↔ a = b := by
  constructor
  · intro h
    simp only [fr, D.tup.injEq, List.cons.injEq, D.int.injEq, and_true] at h
    exact Rat.ext h.1 (by omega)
  · rintro rfl; rfl
theorem fr_one : fr 1 = .tup [.int 1, .int 1] := rfl
theorem fr_zero : fr 0 = .tup [.int 0, .int 1] := rfl
theorem fr_int (i : Int) : fr (i : Rat) = .tup [.int i, .int 1] := rfl
def Sz (n : Nat) (q : Rat) : Prop := q.num.natAbs < 2 ^ n ∧ q.den < 2 ^ n
theorem log2_le_of_lt {x n : Nat} (h : x < 2 ^ n) : x.log2 ≤ n := by
  by_cases hx : x = 0
  · subst hx; simp
  · have := (Nat.log2_lt hx).mpr h
    omega
theorem mulOk_of {i j : Int} {a b : Nat} (hi : i.natAbs < 2 ^ a) (hj : j.natAbs < 2 ^ b) (h : a + b < 1000000) : mulOk i j = true := by
  unfold mulOk
  have h1 := log2_le_of_lt hi
  have h2 := log2_le_of_lt hj
  simp only [decide_eq_true_eq]
  omega
theorem divOk_of {j : Int} {n : Nat} (h0 : j ≠ 0) (h : j.natAbs < 2 ^ n) (hn : n ≤ 9000) : divOk j = true := by
  unfold divOk
  have : j.natAbs.log2 < n := (Nat.log2_lt (by omega)).mpr h
  simp only [decide_eq_true_eq]
  exact ⟨h0, by omega⟩
theorem powb {a b x y : Nat} (hx : x < 2 ^ a) (hy : y < 2 ^ b) : x * y < 2 ^ (a + b) := by
  rw [Nat.pow_add]
  exact Nat.mul_lt_mul_of_lt_of_lt hx hy
theorem powb_int {a b : Nat} {x y : Int} (hx : x.natAbs < 2 ^ a) (hy : y.natAbs < 2 ^ b) : (x * y).natAbs < 2 ^ (a + b) := by
  rw [Int.natAbs_mul]; exact powb hx hy
theorem powmono {a b x : Nat} (hx : x < 2 ^ a) (h : a ≤ b) : x < 2 ^ b := Nat.lt_of_lt_of_le hx (Nat.pow_le_pow_right (by omega) h)
theorem Sz.mono {a b : Nat} {q : Rat} (h : Sz a q) (k : a ≤ b) : Sz b q := ⟨powmono h.1 k, powmono h.2 k⟩
/-- lowest terms by the common divisor with a sign -/
theorem divInt_parts {p q : Int} (hq : q ≠ 0) : ((Rat.divInt p q).num = p.fdiv (q.sign * (Nat.gcd p.natAbs q.natAbs : Nat))) ∧ (((Rat.divInt p q).den : Int) = q.fdiv (q.sign * (Nat.gcd p.natAbs q.natAbs : Nat))) := by
  have hg : ((Nat.gcd p.natAbs q.natAbs : Nat) : Int) ≠ 0 := by
    have : Nat.gcd p.natAbs q.natAbs ≠ 0 := fun h => by
      have := Nat.eq_zero_of_gcd_eq_zero_right h
      omega
    omega
  have d1 : ((Nat.gcd p.natAbs q.natAbs : Nat) : Int) ∣ p := Int.ofNat_dvd_left.mpr (Nat.gcd_dvd_left _ _)
  have d2 : ((Nat.gcd p.natAbs q.natAbs : Nat) : Int) ∣ q := Int.ofNat_dvd_left.mpr (Nat.gcd_dvd_right _ _)
  have e : (q.gcd p : Int) = ((Nat.gcd p.natAbs q.natAbs : Nat) : Int) := by
    unfold Int.gcd; rw [Nat.gcd_comm]
  rw [Rat.num_divInt, Rat.den_divInt, if_neg hq, e]
  obtain ⟨u, hu⟩ := d1
  obtain ⟨v, hv⟩ := d2
  generalize hG : ((Nat.gcd p.natAbs q.natAbs : Nat) : Int) = G at *
  have hs : q.sign * q.sign = 1 := by
    rcases Int.lt_trichotomy q 0 with h | h | h
    · rw [Int.sign_eq_neg_one_of_neg h]; rfl
    · exact absurd h hq
    · rw [Int.sign_eq_one_of_pos h]; rfl
  have hs0 : q.sign * G ≠ 0 := by
    intro h
    rcases Int.mul_eq_zero.mp h with h | h
    · rw [h] at hs; simp at hs
    · exact hg h
  constructor
  · have : p = (q.sign * G) * (q.sign * u) := by
      rw [Int.mul_assoc, Int.mul_left_comm G, ← Int.mul_assoc, hs, Int.one_mul]; exact hu
    rw [show q.sign * p = G * (q.sign * u) by rw [hu, Int.mul_left_comm], Int.mul_ediv_cancel_left _ hg]
    conv => rhs; rw [this]
    rw [Int.mul_fdiv_cancel_left _ hs0]
  · have : q = (q.sign * G) * (q.sign * v) := by
      rw [Int.mul_assoc, Int.mul_left_comm G, ← Int.mul_assoc, hs, Int.one_mul]; exact hv
    have e2 : ((q.natAbs / q.gcd p : Nat) : Int) = q.sign * v := by
      have h1 : (q.natAbs : Int) = q.sign * q := by
        rcases Int.lt_trichotomy q 0 with h | h | h
        · rw [Int.sign_eq_neg_one_of_neg h]; omega
        · exact absurd h hq
        · rw [Int.sign_eq_one_of_pos h]; omega
      rw [Int.natCast_ediv, h1, e, show q.sign * q = G * (q.sign * v) by conv => lhs; rw [hv, Int.mul_left_comm]; rw [← hv]]
      rw [Int.mul_ediv_cancel_left _ hg]
    rw [e2]
    conv => rhs; arg 1; rw [this]
    rw [Int.mul_fdiv_cancel_left _ hs0]
theorem fr_divInt {p q : Int} (hq : q ≠ 0) : fr (Rat.divInt p q) = .tup [.int (p.fdiv (q.sign * (Nat.gcd p.natAbs q.natAbs : Nat))), .int (q.fdiv (q.sign * (Nat.gcd p.natAbs q.natAbs : Nat)))] := by
  unfold fr
  rw [(divInt_parts hq).1, (divInt_parts hq).2]
theorem add_parts (a b : Rat) : a + b = Rat.divInt (a.num * b.den + b.num * a.den) (a.den * b.den) := by
  have h1 : a = Rat.divInt a.num a.den := (Rat.num_divInt_den a).symm
  have h2 : b = Rat.divInt b.num b.den := (Rat.num_divInt_den b).symm
  conv => lhs; rw [h1, h2]
  rw [Rat.divInt_add_divInt _ _ (by simpa using a.den_nz) (by simpa using b.den_nz)]
theorem mul_parts (a b : Rat) : a * b = Rat.divInt (a.num * b.num) (a.den * b.den) := by
  have h1 : a = Rat.divInt a.num a.den := (Rat.num_divInt_den a).symm
  have h2 : b = Rat.divInt b.num b.den := (Rat.num_divInt_den b).symm
  conv => lhs; rw [h1, h2]
  rw [Rat.divInt_mul_divInt]
theorem divInt_le {p q : Int} (hq : q ≠ 0) : (Rat.divInt p q).num.natAbs ≤ p.natAbs ∧ (Rat.divInt p q).den ≤ q.natAbs := by
  rw [Rat.num_divInt, Rat.den_divInt, if_neg hq]
  constructor
  · refine Nat.le_trans (Int.natAbs_ediv_le_natAbs _ _) ?_
    rw [Int.natAbs_mul]
    have : q.sign.natAbs ≤ 1 := by
      rcases Int.lt_trichotomy q 0 with h | h | h
      · rw [Int.sign_eq_neg_one_of_neg h]; decide
      · exact absurd h hq
      · rw [Int.sign_eq_one_of_pos h]; decide
    calc q.sign.natAbs * p.natAbs ≤ 1 * p.natAbs := Nat.mul_le_mul_right _ this
      _ = p.natAbs := Nat.one_mul _
  · exact Nat.div_le_self _ _
theorem Sz.add {a b : Nat} {x y : Rat} (h : Sz a x) (k : Sz b y) : Sz (a + b + 1) (x + y) := by
  rw [add_parts]
  have hd : ((x.den : Int) * y.den) ≠ 0 := by
    have := x.den_nz; have := y.den_nz
    exact Int.mul_ne_zero (by omega) (by omega)
  have := divInt_le (p := x.num * y.den + y.num * x.den) hd
  have h1 := powb_int (x := x.num) (y := y.den) h.1 (by simpa using k.2)
  have h2 := powb_int (x := y.num) (y := x.den) k.1 (by simpa using h.2)
  have h3 := powb h.2 k.2
  have e : 2 ^ (a + b + 1) = 2 ^ (a + b) + 2 ^ (a + b) := by rw [Nat.pow_succ]; omega
  rw [Nat.add_comm b a] at h2
  refine ⟨?_, ?_⟩
  · refine Nat.lt_of_le_of_lt this.1 ?_
    rw [e]
    have := Int.natAbs_add_le (x.num * y.den) (y.num * x.den)
    omega
  · refine Nat.lt_of_le_of_lt this.2 ?_
    rw [Int.natAbs_mul]
    simp only [Int.natAbs_natCast]
    omega
theorem Sz.mul {a b : Nat} {x y : Rat} (h : Sz a x) (k : Sz b y) : Sz (a + b) (x * y) := by
  rw [mul_parts]
  have hd : ((x.den : Int) * y.den) ≠ 0 := by
    have := x.den_nz; have := y.den_nz
    exact Int.mul_ne_zero (by omega) (by omega)
  have := divInt_le (p := x.num * y.num) hd
  have h1 := powb_int h.1 k.1
  have h3 := powb h.2 k.2
  refine ⟨Nat.lt_of_le_of_lt this.1 h1, Nat.lt_of_le_of_lt this.2 ?_⟩
  rw [Int.natAbs_mul]
  simpa using h3
/-- Euclid by remainders -/
def euc : Nat → Int → Int → Int
  | 0, a, _ => a
  | n + 1, a, b => if b = 0 then a else euc n b (a.fmod b)
theorem euc_gcd : ∀ (n : Nat) (a b : Int), 0 ≤ a → 0 ≤ b → b < n → euc n a b = (Nat.gcd a.natAbs b.natAbs : Nat)
  | 0, a, b, _, h, k => by omega
  | n + 1, a, b, ha, hb, hn => by
    unfold euc
    by_cases h : b = 0
    · rw [if_pos h, h]
      simp; omega
    · rw [if_neg h]
      have hp : 0 < b := by omega
      have h1 : 0 ≤ a.fmod b := Int.fmod_nonneg_of_pos a hp
      have h2 : a.fmod b < b := Int.fmod_lt_of_pos a hp
      rw [euc_gcd n b (a.fmod b) hb h1 (by omega), Nat.gcd_comm a.natAbs b.natAbs, Nat.gcd_rec b.natAbs a.natAbs, Nat.gcd_comm (a.natAbs % b.natAbs)]
      have e3 : a.fmod b = a % b := Int.fmod_eq_emod_of_nonneg a hb
      rw [e3] at h1 ⊢
      have e1 : (a.natAbs : Int) = a := Int.natAbs_of_nonneg ha
      have e2 : (b.natAbs : Int) = b := Int.natAbs_of_nonneg hb
      have e4 : (a % b).natAbs = a.natAbs % b.natAbs := by
        have : ((a % b).natAbs : Int) = ((a.natAbs % b.natAbs : Nat) : Int) := by rw [Int.natAbs_of_nonneg h1, Int.natCast_emod, e1, e2]
        omega
      rw [e4]
end LN
/-! LNy: dicts as lists of pairs, sums by keys, normal forms. -/
namespace LN
open PySem L2 PySem.Spec PyProof.Rows

section
variable {α β κ : Type} [DecidableEq α] [DecidableEq κ]
def lkA : List (α × β) → α → Option β
  | [], _ => none
  | p :: r, a => if p.1 = a then some p.2 else lkA r a
def stA : List (α × β) → α → β → List (α × β)
  | [], a, b => [(a, b)]
  | p :: r, a, b => if p.1 = a then (p.1, b) :: r else p :: stA r a b
def keysA (A : List (α × β)) : List α := A.map (·.1)
theorem lookD_map {K : α → κ} (hK : ∀ a b, K a = K b → a = b) (v : β → D) (a : α) : ∀ A : List (α × β), lookD (A.map fun p => K p.1) (A.map fun p => v p.2) (K a) = (lkA A a).map v
  | [] => rfl
  | p :: r => by
    simp only [List.map_cons, lookD, lkA]
    by_cases h : p.1 = a
    · rw [if_pos (by rw [h]), if_pos h]; rfl
    · rw [if_neg (fun z => h (hK _ _ z)), if_neg h, lookD_map hK v a r]
theorem putD_map {K : α → κ} (hK : ∀ a b, K a = K b → a = b) (v : β → D) (a : α) (b : β) : ∀ A : List (α × β), putD (A.map fun p => K p.1) (A.map fun p => v p.2) (K a) (v b) = ((stA A a b).map (fun p => K p.1), (stA A a b).map fun p => v p.2)
  | [] => rfl
  | p :: r => by
    simp only [List.map_cons, putD, stA]
    by_cases h : p.1 = a
    · rw [if_pos (by rw [h]), if_pos h]; rfl
    · rw [if_neg (fun z => h (hK _ _ z)), if_neg h, putD_map hK v a b r]; rfl
theorem lkA_stA (a c : α) (b : β) : ∀ A : List (α × β), lkA (stA A a b) c = if a = c then some b else lkA A c
  | [] => by simp [stA, lkA]
  | p :: r => by
    simp only [stA]
    by_cases h : p.1 = a
    · rw [if_pos h]
      simp only [lkA]
      by_cases h2 : a = c
      · rw [if_pos (h.trans h2), if_pos h2]
      · rw [if_neg (fun z => h2 (h.symm.trans z)), if_neg h2, if_neg (fun z => h2 (h.symm.trans z))]
    · rw [if_neg h]
      simp only [lkA]
      by_cases h2 : p.1 = c
      · rw [if_pos h2, if_pos h2, if_neg (fun z => h (h2.trans z.symm))]
      · rw [if_neg h2, if_neg h2, lkA_stA a c b r]
theorem keysA_stA (a : α) (b : β) : ∀ A : List (α × β), keysA (stA A a b) = if a ∈ keysA A then keysA A else keysA A ++ [a]
  | [] => by simp [stA, keysA]
  | p :: r => by
    simp only [stA]
    have ih := keysA_stA a b r
    unfold keysA at ih ⊢
    by_cases h : p.1 = a
    · rw [if_pos h, if_pos (by simp [h])]; rfl
    · rw [if_neg h]
      have h' : ¬ a = p.1 := fun z => h z.symm
      simp only [List.map_cons, ih, List.mem_cons, h', false_or]
      split <;> simp_all
theorem nodup_stA {A : List (α × β)} {a : α} {b : β} (h : (keysA A).Nodup) : (keysA (stA A a b)).Nodup := by
  rw [keysA_stA]
  split
  · exact h
  · rename_i hn
    rw [List.nodup_append]
    exact ⟨h, by simp, fun x hx y hy => by rintro rfl; simp at hy; subst hy; exact hn hx⟩
theorem len_stA {A : List (α × β)} {a : α} {b : β} : (stA A a b).length ≤ A.length + 1 := by
  have := congrArg List.length (keysA_stA a b A)
  unfold keysA at this
  simp only [List.length_map] at this
  rw [this]
  split <;> simp
theorem lkA_mem {a : α} {b : β} : ∀ {A : List (α × β)}, lkA A a = some b → (a, b) ∈ A
  | p :: r, h => by
    simp only [lkA] at h
    split at h
    · rename_i e; cases h; subst e; simp
    · exact List.mem_cons_of_mem _ (lkA_mem h)
theorem lkA_none {a : α} : ∀ {A : List (α × β)}, lkA A a = none ↔ a ∉ keysA A
  | [] => by simp [lkA, keysA]
  | p :: r => by
    simp only [lkA, keysA, List.map_cons, List.mem_cons, not_or]
    by_cases h : p.1 = a
    · rw [if_pos h]; simp [h]
    · rw [if_neg h, lkA_none (A := r)]
      exact ⟨fun z => ⟨fun e => h e.symm, z⟩, fun z => z.2⟩
theorem lkA_some {a : α} {A : List (α × β)} (h : a ∈ keysA A) : ∃ b, lkA A a = some b := by
  cases e : lkA A a with
  | none => exact absurd h (lkA_none.mp e)
  | some b => exact ⟨b, rfl⟩
theorem nodup_K {K : α → κ} (hK : ∀ a b, K a = K b → a = b) {A : List (α × β)} (h : (keysA A).Nodup) : (A.map fun p => K p.1).Nodup := by
  have : (A.map fun p => K p.1) = (keysA A).map K := by unfold keysA; rw [List.map_map]; rfl
  rw [this]
  exact List.Pairwise.map K (fun a b hab e => hab (hK _ _ e)) h
theorem mem_stA {A : List (α × β)} {a : α} {b : β} : ∀ {p : α × β}, p ∈ stA A a b → p = (a, b) ∨ p ∈ A := by
  induction A with
  | nil => intro p h; simp [stA] at h; exact .inl h
  | cons x r ih =>
    intro p h
    simp only [stA] at h
    split at h
    · rename_i e
      rcases List.mem_cons.mp h with h | h
      · left; rw [h, ← e]
      · right; simp [h]
    · rcases List.mem_cons.mp h with h | h
      · right; simp [h]
      · rcases ih h with h | h
        · exact .inl h
        · right; simp [h]
end

/-! ### sums by keys -/
section
variable {α : Type} [DecidableEq α]
def addA (A : List (α × Rat)) (e : α × Rat) : List (α × Rat) := stA A e.1 ((lkA A e.1).getD 0 + e.2)
def sumsA (es : List (α × Rat)) : List (α × Rat) := es.foldl addA []
/-- the sum of what belongs to a key -/
def totA (es : List (α × Rat)) (a : α) : Rat := es.foldl (fun s e => if e.1 = a then s + e.2 else s) 0
theorem nodup_addA {A : List (α × Rat)} {e : α × Rat} (h : (keysA A).Nodup) : (keysA (addA A e)).Nodup := nodup_stA h
theorem lk_addA {A : List (α × Rat)} {e : α × Rat} {a : α} : (lkA (addA A e) a).getD 0 = if e.1 = a then (lkA A a).getD 0 + e.2 else (lkA A a).getD 0 := by
  unfold addA
  rw [lkA_stA]
  split
  · rename_i h; rw [h]; rfl
  · rfl
theorem sumsA_tot (es : List (α × Rat)) (a : α) : (lkA (sumsA es) a).getD 0 = totA es a := by
  unfold sumsA totA
  have : ∀ (es : List (α × Rat)) (A : List (α × Rat)) (s : Rat), (lkA A a).getD 0 = s → (lkA (es.foldl addA A) a).getD 0 = es.foldl (fun s e => if e.1 = a then s + e.2 else s) s := by
    intro es
    induction es with
    | nil => intro A s h; exact h
    | cons e es ih =>
      intro A s h
      rw [List.foldl_cons, List.foldl_cons]
      refine ih _ _ ?_
      rw [lk_addA, h]
  exact this es [] 0 rfl
theorem keys_sumsA (es : List (α × Rat)) (a : α) : a ∈ keysA (sumsA es) ↔ a ∈ es.map (·.1) := by
  unfold sumsA
  have : ∀ (es : List (α × Rat)) (A : List (α × Rat)), a ∈ keysA (es.foldl addA A) ↔ a ∈ keysA A ∨ a ∈ es.map (·.1) := by
    intro es
    induction es with
    | nil => intro A; simp
    | cons e es ih =>
      intro A
      rw [List.foldl_cons, ih]
      unfold addA
      rw [keysA_stA]
      split
      · rename_i h
        simp only [List.map_cons, List.mem_cons]
        constructor
        · rintro (h | h)
          · exact .inl h
          · exact .inr (.inr h)
        · rintro (h1 | h1 | h1)
          · exact .inl h1
          · exact .inl (h1 ▸ h)
          · exact .inr h1
      · simp only [List.mem_append, List.map_cons, List.mem_cons, or_assoc, List.not_mem_nil, false_or]
  rw [this es []]
  simp [keysA]
theorem nodup_sumsA (es : List (α × Rat)) : (keysA (sumsA es)).Nodup := by
  unfold sumsA
  have : ∀ (es : List (α × Rat)) (A : List (α × Rat)), (keysA A).Nodup → (keysA (es.foldl addA A)).Nodup := by
    intro es
    induction es with
    | nil => intro A h; exact h
    | cons e es ih => intro A h; exact ih _ (nodup_addA h)
  exact this es [] (by simp [keysA])
theorem len_sumsA (es : List (α × Rat)) : (sumsA es).length ≤ es.length := by
  unfold sumsA
  have : ∀ (es : List (α × Rat)) (A : List (α × Rat)), (es.foldl addA A).length ≤ A.length + es.length := by
    intro es
    induction es with
    | nil => intro A; simp
    | cons e es ih =>
      intro A
      rw [List.foldl_cons]
      have h1 := ih (addA A e)
      have h2 : (addA A e).length ≤ A.length + 1 := len_stA
      simp only [List.length_cons]
      omega
  simpa using this es []
/-- all values are small -/
def SzA (n : Nat) (A : List (α × Rat)) : Prop := ∀ p ∈ A, Sz n p.2
theorem Sz0 : Sz 1 0 := ⟨by decide, by decide⟩
theorem SzA.add {A : List (α × Rat)} {e : α × Rat} {n k : Nat} (h : SzA n A) (he : Sz k e.2) (h1 : 1 ≤ n) : SzA (n + k + 1) (addA A e) := fun p hp => by
  rcases mem_stA hp with h2 | h2
  · rw [h2]
    refine Sz.add ?_ he
    cases e2 : lkA A e.1 with
    | none => exact Sz0.mono h1
    | some q => exact h _ (lkA_mem e2)
  · exact (h p h2).mono (by omega)
theorem SzA.sums {es : List (α × Rat)} {k : Nat} (h : SzA k es) : SzA (1 + (k + 1) * es.length) (sumsA es) := by
  unfold sumsA
  have : ∀ (es : List (α × Rat)) (A : List (α × Rat)) (n : Nat), 1 ≤ n → SzA k es → SzA n A → SzA (n + (k + 1) * es.length) (es.foldl addA A) := by
    intro es
    induction es with
    | nil => intro A n _ _ h; exact h
    | cons e es ih =>
      intro A n hn hs h
      rw [List.foldl_cons]
      have := ih (addA A e) (n + k + 1) (by omega) (fun p hp => hs p (by simp [hp])) (h.add (hs e (by simp)) hn)
      have e2 : n + (k + 1) * (e :: es).length = n + k + 1 + (k + 1) * es.length := by
        rw [List.length_cons, Nat.mul_add, Nat.mul_one]; omega
      rw [e2]; exact this
  exact this es [] 1 (by omega) h (fun p hp => by simp at hp)
end

/-! ### what is sorted -/
theorem dInts_map (ns : List Int) : dInts (ns.map .int) = some ns := by
  induction ns with
  | nil => rfl
  | cons n ns ih => simp only [List.map_cons, dInts, ih]; rfl
theorem dTups_map (ks : List (List Int)) : dTups (ks.map tupI) = some ks := by
  induction ks with
  | nil => rfl
  | cons n ns ih =>
    show (match dInts (n.map .int), dTups (ns.map tupI) with
      | some n, some ns => some (n :: ns)
      | _, _ => none) = _
    rw [dInts_map, ih]
section
variable {fin : List D → Mem → Rs D} {m : Mem}
theorem bSort_ints (ns : List Int) : bSort fin [.lst (ns.map .int)] m = fin ((sortI ns).map .int) m := by
  unfold bSort
  dsimp only [vwL]
  rw [dInts_map]
theorem bSort_tups (ks : List (List Int)) (h : okT ks = true) : bSort fin [.lst (ks.map tupI)] m = fin ((sortT ks).map tupI) m := by
  unfold bSort
  dsimp only [vwL]
  cases ks with
  | nil => simp [dInts, sortI, sortT]
  | cons k r =>
    have : dInts ((k :: r).map tupI) = none := rfl
    rw [this, dTups_map]
    dsimp only
    rw [if_pos h]
end
theorem lexLe_one {a b : Int} : lexLe [a] [b] = true ↔ a ≤ b := by
  simp [lexLe]
  omega
theorem sortT_one (ns : List Int) : sortT (ns.map fun n => [n]) = (sortI ns).map fun n => [n] := by
  refine perm_unique (le := fun a b => lexLe a b = true) (fun a b => lexLe_anti) ?_ (sortT_pw _) ?_
  · exact (sortT_perm _).trans ((sortI_perm ns).symm.map _)
  · exact List.Pairwise.map _ (fun a b h => lexLe_one.mpr h) (sortI_pw ns)
theorem sortI_mem {ns : List Int} {n : Int} : n ∈ sortI ns ↔ n ∈ ns := (sortI_perm ns).mem_iff
theorem sortI_len {ns : List Int} : (sortI ns).length = ns.length := (sortI_perm ns).length_eq
/-- the normal form: by the keys, without zeros -/
def nfA (A : List (Int × Rat)) : List (Int × Rat) := (sortI (keysA A)).filterMap fun c => if (lkA A c).getD 0 = 0 then none else some (c, (lkA A c).getD 0)
def ent (e : Int × Rat) : D := .tup [.int e.1, fr e.2]
@[simp] theorem dlt_ent {n : Nat} {e : Int × Rat} : D.lt n (ent e) = true := by simp [ent]
@[simp] theorem plD_ent {k : Nat} {e : Int × Rat} : plD (k + 2) (ent e) = true := by simp [ent]
@[simp] theorem dlts_ints {n : Nat} {l : List Int} : D.lts n (l.map .int) = true := dlts_map fun _ _ => rfl
@[simp] theorem dlt_tupI {n : Nat} {l : List Int} : D.lt n (tupI l) = true := by simp [tupI]
@[simp] theorem dlts_tupI {n : Nat} {l : List (List Int)} : D.lts n (l.map tupI) = true := dlts_map fun _ _ => dlt_tupI
@[simp] theorem dlts_ent {n : Nat} {l : List (Int × Rat)} : D.lts n (l.map ent) = true := dlts_map fun _ _ => dlt_ent
theorem plDs_ints {n : Nat} {l : List Int} : plDs n (l.map .int) = true := plDs_map fun _ _ => plD_int
theorem plD_tupI {n : Nat} {l : List Int} : plD (n + 1) (tupI l) = true := by simp [tupI, plDs_ints]
theorem plDs_tupI {n : Nat} {l : List (List Int)} : plDs (n + 1) (l.map tupI) = true := plDs_map fun _ _ => plD_tupI
theorem tupI_inj {a b : List Int} : tupI a = tupI b ↔ a = b := by
  constructor
  · intro h
    simp only [tupI, D.tup.injEq] at h
    have := congrArg dInts h
    rw [dInts_map, dInts_map] at this
    exact Option.some.inj this
  · rintro rfl; rfl
/-! ### a dict of pairs -/
section
variable {β : Type}
theorem dPairs_map (v : β → D) : ∀ A : List (Int × β), dPairs (A.map fun p => .tup [.int p.1, v p.2]) = some (A.map fun p => (.inl p.1, v p.2))
  | [] => rfl
  | p :: r => by
    simp only [List.map_cons, dPairs, keyD, dPairs_map v r]
theorem mergeD_map (v : β → D) : ∀ (ps A : List (Int × β)), mergeD (ps.map fun p => (.inl p.1, v p.2)) (A.map fun p => .inl p.1) (A.map fun p => v p.2) = ((ps.foldl (fun A p => stA A p.1 p.2) A).map (fun p => .inl p.1), (ps.foldl (fun A p => stA A p.1 p.2) A).map fun p => v p.2)
  | [], A => rfl
  | p :: r, A => by
    simp only [List.map_cons, mergeD, List.foldl_cons]
    rw [putD_map (K := fun a : Int => (Sum.inl a : L2.Key)) (fun a b h => by cases h; rfl) v p.1 p.2 A]
    exact mergeD_map v r (stA A p.1 p.2)
def ofA (ps : List (Int × β)) : List (Int × β) := ps.foldl (fun A p => stA A p.1 p.2) []
theorem bDict_map {fin : List L2.Key → List D → Mem → Rs D} {m : Mem} (v : β → D) (ps : List (Int × β)) : bDict fin [.lst (ps.map fun p => .tup [.int p.1, v p.2])] m = fin ((ofA ps).map fun p => .inl p.1) ((ofA ps).map fun p => v p.2) m := by
  unfold bDict
  dsimp only [vwL]
  rw [dPairs_map]
  dsimp only
  have := mergeD_map v ps []
  simp only [List.map_nil] at this
  rw [this]
  rfl
theorem stA_new {α : Type} [DecidableEq α] {a : α} {b : β} : ∀ {A : List (α × β)}, a ∉ keysA A → stA A a b = A ++ [(a, b)]
  | [], _ => rfl
  | p :: r, h => by
    simp only [keysA, List.map_cons, List.mem_cons, not_or] at h
    simp only [stA]
    rw [if_neg (fun z => h.1 z.symm), stA_new (A := r) h.2]
    rfl
theorem foldA_nodup : ∀ (ps A : List (Int × β)), (keysA (A ++ ps)).Nodup → ps.foldl (fun A p => stA A p.1 p.2) A = A ++ ps
  | [], A, _ => by simp
  | p :: r, A, h => by
    have h0 : p.1 ∉ keysA A := by
      unfold keysA at h ⊢
      rw [List.map_append, List.map_cons, List.nodup_append] at h
      exact fun z => h.2.2 _ z _ (by simp) rfl
    rw [List.foldl_cons, stA_new h0, foldA_nodup r _ (by simpa using h)]
    simp
theorem ofA_nodup {ps : List (Int × β)} (h : (keysA ps).Nodup) : ofA ps = ps := by
  unfold ofA
  rw [foldA_nodup ps [] (by simpa using h)]
  rfl
end
theorem sumsA_nodup {es : List (Int × Rat)} (h : (keysA es).Nodup) : sumsA es = es := by
  have : ∀ (es A : List (Int × Rat)), (keysA (A ++ es)).Nodup → es.foldl addA A = A ++ es := by
    intro es
    induction es with
    | nil => intro A _; simp
    | cons e es ih =>
      intro A h
      have h0 : e.1 ∉ keysA A := by
        unfold keysA at h ⊢
        rw [List.map_append, List.map_cons, List.nodup_append] at h
        exact fun z => h.2.2 _ z _ (by simp) rfl
      have e0 : addA A e = A ++ [e] := by
        unfold addA
        rw [lkA_none.mpr h0, stA_new h0]
        simp [Rat.zero_add]
      rw [List.foldl_cons, e0, ih _ (by simpa using h)]
      simp
  exact (this es [] (by simpa using h)).trans (by simp)
theorem lkA_of_mem {β : Type} {A : List (Int × β)} (h : (keysA A).Nodup) : ∀ {p : Int × β}, p ∈ A → lkA A p.1 = some p.2 := by
  induction A with
  | nil => intro p hp; simp at hp
  | cons q r ih =>
    intro p hp
    simp only [keysA, List.map_cons, List.nodup_cons] at h
    rcases List.mem_cons.mp hp with e | e
    · subst e; simp [lkA]
    · have hne : q.1 ≠ p.1 := fun z => h.1 (z ▸ List.mem_map_of_mem e)
      simp only [lkA, if_neg hne]
      exact ih h.2 e
/-- different keys, no zeros: the normal form is the entries in another order -/
theorem nfA_perm {es : List (Int × Rat)} (h : (keysA es).Nodup) (h0 : ∀ e ∈ es, e.2 ≠ 0) : (nfA (sumsA es)).Perm es := by
  rw [sumsA_nodup h]
  unfold nfA
  refine ((sortI_perm (keysA es)).filterMap _).trans ?_
  have : (keysA es).filterMap (fun c => if (lkA es c).getD 0 = 0 then none else some (c, (lkA es c).getD 0)) = es := by
    unfold keysA
    rw [List.filterMap_map]
    have hc : ∀ e ∈ es, ((fun c => if (lkA es c).getD 0 = 0 then none else some (c, (lkA es c).getD 0)) ∘ fun x : Int × Rat => x.1) e = some e := fun e he => by
      have h1 := lkA_of_mem h he
      simp only [Function.comp, h1, Option.getD_some, if_neg (h0 e he)]
    have : ∀ l : List (Int × Rat), (∀ e ∈ l, e ∈ es) → l.filterMap ((fun c => if (lkA es c).getD 0 = 0 then none else some (c, (lkA es c).getD 0)) ∘ fun x : Int × Rat => x.1) = l := by
      intro l
      induction l with
      | nil => intro _; rfl
      | cons e l ih =>
        intro hl
        rw [List.filterMap_cons, hc e (hl e (by simp)), ih fun x hx => hl x (by simp [hx])]
    exact this es fun _ h => h
  rw [this]
/-! a dict of fractions -/
def mA (A : List (Int × Rat)) : MO := .dk ((keysA A).map .inl) (A.map fun p => fr p.2)
def mT (A : List (Int × Rat)) : MO := .dt ((keysA A).map fun c => [.inl c]) (A.map fun p => fr p.2)
theorem inl_inj : ∀ a b : Int, (Sum.inl a : L2.Key) = Sum.inl b → a = b := fun a b h => by cases h; rfl
theorem inl1_inj : ∀ a b : Int, [(Sum.inl a : L2.Key)] = [Sum.inl b] → a = b := fun a b h => by cases h; rfl
section
variable {κ β : Type} [DecidableEq κ]
theorem lookD_keys {K : Int → κ} (hK : ∀ a b, K a = K b → a = b) (v : β → D) (a : Int) (A : List (Int × β)) : lookD ((keysA A).map K) (A.map fun p => v p.2) (K a) = (lkA A a).map v := by
  unfold keysA
  rw [List.map_map]
  exact lookD_map hK v a A
theorem putD_keys {K : Int → κ} (hK : ∀ a b, K a = K b → a = b) (v : β → D) (a : Int) (b : β) (A : List (Int × β)) : putD ((keysA A).map K) (A.map fun p => v p.2) (K a) (v b) = ((keysA (stA A a b)).map K, (stA A a b).map fun p => v p.2) := by
  unfold keysA
  rw [List.map_map, List.map_map]
  exact putD_map hK v a b A
theorem nodup_keys {K : Int → κ} (hK : ∀ a b, K a = K b → a = b) {A : List (Int × β)} (h : (keysA A).Nodup) : ((keysA A).map K).Nodup :=
  List.Pairwise.map K (fun a b hab e => hab (hK _ _ e)) h
end
@[simp] theorem dlts_fr {n : Nat} {A : List (Int × Rat)} : D.lts n (A.map fun p => fr p.2) = true := dlts_map fun _ _ => dlt_fr
theorem keysA_len {α β : Type} {A : List (α × β)} : (keysA A).length = A.length := by simp [keysA]
end LN
/-! LNba: fractions over a common denominator, bounded. -/
namespace LN
open PySem L2 PySem.Spec PyProof.Rows

/-- q times L is a whole number, q is at most β -/
def Dn (L β : Nat) (q : Rat) : Prop := ∃ z : Int, q * ((L : Int) : Rat) = (z : Rat) ∧ z.natAbs ≤ β * L
theorem cast_ne {L : Nat} (h : 0 < L) : ((L : Int) : Rat) ≠ 0 := fun e => by
  have : ((L : Int) : Rat) = ((0 : Int) : Rat) := e
  have := Rat.intCast_inj.mp this
  omega
theorem Dn.eq {L β : Nat} {q : Rat} (h : Dn L β q) (h0 : 0 < L) : ∃ z : Int, q = Rat.divInt z L ∧ z.natAbs ≤ β * L := by
  obtain ⟨z, h1, h2⟩ := h
  refine ⟨z, ?_, h2⟩
  rw [Rat.divInt_eq_div, ← h1, Rat.mul_div_cancel (cast_ne h0)]
theorem Dn.sz {L β a b : Nat} {q : Rat} (h : Dn L β q) (h0 : 0 < L) (ha : L < 2 ^ a) (hb : β < 2 ^ b) : Sz (a + b) q := by
  obtain ⟨z, rfl, h2⟩ := h.eq h0
  have hd := divInt_le (p := z) (q := L) (by omega)
  have hz : z.natAbs < 2 ^ (a + b) := by
    refine Nat.lt_of_le_of_lt h2 ?_
    rw [Nat.add_comm a b]
    exact powb hb ha
  exact ⟨Nat.lt_of_le_of_lt hd.1 hz, Nat.lt_of_le_of_lt hd.2 (powmono (by simpa using ha) (by omega))⟩
theorem Dn.mono {L β γ : Nat} {q : Rat} (h : Dn L β q) (k : β ≤ γ) : Dn L γ q := by
  obtain ⟨z, h1, h2⟩ := h
  exact ⟨z, h1, Nat.le_trans h2 (Nat.mul_le_mul_right _ k)⟩
theorem Dn.add {L β γ : Nat} {p q : Rat} (h : Dn L β p) (k : Dn L γ q) : Dn L (β + γ) (p + q) := by
  obtain ⟨z, h1, h2⟩ := h
  obtain ⟨y, k1, k2⟩ := k
  refine ⟨z + y, ?_, ?_⟩
  · rw [Rat.add_mul, h1, k1, Rat.intCast_add]
  · rw [Nat.add_mul]
    have := Int.natAbs_add_le z y
    omega
theorem Dn.mul {L M β γ : Nat} {p q : Rat} (h : Dn L β p) (k : Dn M γ q) : Dn (L * M) (β * γ) (p * q) := by
  obtain ⟨z, h1, h2⟩ := h
  obtain ⟨y, k1, k2⟩ := k
  refine ⟨z * y, ?_, ?_⟩
  · have e : (((L * M : Nat) : Int) : Rat) = ((L : Int) : Rat) * ((M : Int) : Rat) := by rw [Int.natCast_mul, Rat.intCast_mul]
    rw [e, Rat.intCast_mul, ← h1, ← k1]
    grind
  · rw [Int.natAbs_mul]
    calc z.natAbs * y.natAbs ≤ (β * L) * (γ * M) := Nat.mul_le_mul h2 k2
      _ = β * γ * (L * M) := by simp only [Nat.mul_assoc, Nat.mul_left_comm]
theorem Dn.dvd {L M β : Nat} {q : Rat} (h : Dn L β q) (k : L ∣ M) : Dn M β q := by
  obtain ⟨z, h1, h2⟩ := h
  obtain ⟨c, rfl⟩ := k
  refine ⟨z * c, ?_, ?_⟩
  · have e : (((L * c : Nat) : Int) : Rat) = ((L : Int) : Rat) * ((c : Int) : Rat) := by rw [Int.natCast_mul, Rat.intCast_mul]
    rw [e, Rat.intCast_mul, ← h1]
    grind
  · rw [Int.natAbs_mul]
    simp only [Int.natAbs_natCast]
    calc z.natAbs * c ≤ (β * L) * c := Nat.mul_le_mul_right _ h2
      _ = β * (L * c) := Nat.mul_assoc _ _ _
theorem Dn.zero {L β : Nat} : Dn L β 0 := ⟨0, by simp, by simp⟩
theorem Dn.of (q : Rat) : Dn q.den q.num.natAbs q := by
  refine ⟨q.num, ?_, ?_⟩
  · have e : q = (q.num : Rat) / ((q.den : Int) : Rat) := by
      rw [← Rat.divInt_eq_div, Rat.num_divInt_den]
    have e2 : (q.num : Rat) / ((q.den : Int) : Rat) * ((q.den : Int) : Rat) = (q.num : Rat) := Rat.div_mul_cancel (cast_ne q.den_pos)
    rw [← e] at e2
    exact e2
  · calc q.num.natAbs = q.num.natAbs * 1 := (Nat.mul_one _).symm
      _ ≤ q.num.natAbs * q.den := Nat.mul_le_mul_left _ q.den_pos
end LN
/-! LNbb: more runs: range of two, truth of sequences, comparing dicts, sums over numbers. -/
namespace LN
open PySem L2 PySem.Spec PyProof.Rows

section
variable {f g : Ev} {ρ : Lc} {m : Mem} {d e : D} {xs : List D} {i j : Int} {a b : Nat}
def kR2 (d e : D) (m : Mem) : Rs Wk := match d, e with
  | .int a, .int b => if (-(2 ^ 62) ≤ a ∧ a < 2 ^ 62) ∧ (-(2 ^ 62) ≤ b ∧ b < 2 ^ 62) then .ok (.of ((List.range (b - a).toNat).map fun (i : Nat) => D.int (a + (i : Int)))) m else .stuck
  | _, _ => .stuck
def kR1 (g : Ev) (ρ : Lc) (d : D) (m1 : Mem) : Rs Wk := (g ρ m1).bind (kR2 d)
@[simp] theorem dRng2_run : dRng2 f g ρ m = (f ρ m).bind (kR1 g ρ) := by
  unfold dRng2
  congr 1
@[simp] theorem kR1_run : kR1 g ρ d m = (g ρ m).bind (kR2 d) := rfl
def rng2Ok (i j : Int) : Bool := decide ((-(2 ^ 62) ≤ i ∧ i < 2 ^ 62) ∧ (-(2 ^ 62) ≤ j ∧ j < 2 ^ 62))
theorem rng2Ok_of (h1 : -1000000000 ≤ i) (h2 : i ≤ 1000000000) (h3 : -1000000000 ≤ j) (h4 : j ≤ 1000000000) : rng2Ok i j = true := by
  unfold rng2Ok
  simp only [decide_eq_true_eq]
  omega
@[simp] theorem kR2_run : kR2 (.int i) (.int j) m = if rng2Ok i j = true then .ok (.of ((List.range (j - i).toNat).map fun (k : Nat) => D.int (i + (k : Int)))) m else .stuck := by
  show (if _ then _ else _) = _
  unfold rng2Ok
  simp only [decide_eq_true_eq]
@[simp] theorem kTru_tup : kTru (.tup xs) m = .ok (!xs.isEmpty) m := rfl
@[simp] theorem kTru_lst : kTru (.lst xs) m = .ok (!xs.isEmpty) m := rfl
end
/-! ### dicts by whole numbers are equal -/
theorem hits_all {A B : List (Int × Rat)} (h : ∀ p ∈ A, lkA B p.1 = some p.2) : hitsD (B.map fun p => (.inl p.1 : L2.Key)) (B.map fun p => fr p.2) (A.map fun p => .inl p.1) (A.map fun p => fr p.2) = some true := by
  induction A with
  | nil => rfl
  | cons p A ih =>
    have h1 := h p (by simp)
    have hl : lookD (B.map fun p => (Sum.inl p.1 : L2.Key)) (B.map fun p => fr p.2) (.inl p.1) = some (fr p.2) := by
      rw [lookD_map inl_inj fr p.1 B, h1]; rfl
    obtain ⟨e, he⟩ := plD_py (plD_fr (k := 60) (q := p.2))
    have hs := shaped_of he (by omega)
    have heq : PyData.eqv e e = true := by
      rw [plD_eqv (plD_fr (k := 60)) (plD_fr (k := 60)) he.py he.py]; simp
    simp only [List.map_cons, hitsD, hl, he.py, ih fun q hq => h q (by simp [hq])]
    simp [hs, heq]
theorem len_of_lk {A B : List (Int × Rat)} (hA : (keysA A).Nodup) (hB : (keysA B).Nodup) (h : ∀ c, lkA A c = lkA B c) : A.length = B.length := by
  have key : ∀ {A B : List (Int × Rat)}, (keysA A).Nodup → (∀ c, lkA A c = lkA B c) → A.length ≤ B.length := by
    intro A B hA h
    have hsub : keysA A ⊆ keysA B := fun c hc => by
      obtain ⟨v, hv⟩ := lkA_some hc
      rw [h c] at hv
      exact List.mem_map_of_mem (lkA_mem hv)
    have hl : (keysA A).length ≤ (keysA B).length := by
      have h2 : ∀ (l r : List Int), l.Nodup → l ⊆ r → l.length ≤ r.length := by
        intro l
        induction l with
        | nil => intro r _ _; simp
        | cons x l ih =>
          intro r hn hs
          have hx : x ∈ r := hs (by simp)
          have hn' := List.nodup_cons.mp hn
          have : l ⊆ r.erase x := fun y hy => by
            have hy2 : y ∈ r := hs (by simp [hy])
            have hne : y ≠ x := fun e => hn'.1 (e ▸ hy)
            exact (List.mem_erase_of_ne hne).mpr hy2
          have h3 := ih (r.erase x) hn'.2 this
          rw [List.length_erase_of_mem hx] at h3
          have : 0 < r.length := List.length_pos_of_mem hx
          rw [List.length_cons]
          omega
      exact h2 _ _ hA hsub
    rwa [keysA_len, keysA_len] at hl
  exact Nat.le_antisymm (key hA h) (key hB fun c => (h c).symm)
theorem gEqA_dk {neg : Bool} {m : Mem} {A B : List (Int × Rat)} (hA : (keysA A).Nodup) (hB : (keysA B).Nodup) (h : ∀ c, lkA A c = lkA B c) :
    gEqA neg (.dk (A.map fun p => .inl p.1) (A.map fun p => fr p.2)) (.dk (B.map fun p => .inl p.1) (B.map fun p => fr p.2)) m = .ok (.bl (!neg)) m := by
  have hh := hits_all (A := A) (B := B) fun p hp => by rw [← h]; exact lkA_of_mem hA hp
  have hl := len_of_lk hA hB h
  unfold gEqA
  simp only [vwKA, hh, List.length_map, hl]
  cases neg <;> simp
def nzO (o : Option Rat) : Option Rat := if o.getD 0 = 0 then none else some (o.getD 0)
theorem nzO_none : nzO none = none := by simp [nzO]
theorem nzO_some {q : Rat} : nzO (some q) = if q = 0 then none else some q := by simp [nzO]
theorem lk_filter {G : List (Int × Rat)} (h : (keysA G).Nodup) (c : Int) : lkA (G.filter fun e => e.2 ≠ 0) c = nzO (lkA G c) := by
  induction G with
  | nil => exact nzO_none.symm
  | cons p G ih =>
    have hn : p.1 ∉ keysA G ∧ (keysA G).Nodup := by simpa [keysA] using h
    have ih := ih hn.2
    by_cases h0 : p.2 = 0
    · rw [List.filter_cons_of_neg (by simp [h0]), ih]
      simp only [lkA]
      by_cases hc : p.1 = c
      · have : lkA G c = none := lkA_none.mpr (by rw [← hc]; exact hn.1)
        rw [if_pos hc, this, nzO_some, if_pos h0, nzO_none]
      · rw [if_neg hc]
    · rw [List.filter_cons_of_pos (by simp [h0])]
      simp only [lkA]
      by_cases hc : p.1 = c
      · rw [if_pos hc, if_pos hc, nzO_some, if_neg h0]
      · rw [if_neg hc, if_neg hc, ih]
theorem nfA_keys {A : List (Int × Rat)} (h : (keysA A).Nodup) : (keysA (nfA A)).Nodup := by
  have hs : (sortI (keysA A)).Nodup := (sortI_perm _).nodup_iff.mpr h
  unfold nfA
  generalize sortI (keysA A) = l at hs
  induction l with
  | nil => simp [keysA]
  | cons c l ih =>
    have hn := List.nodup_cons.mp hs
    rw [List.filterMap_cons]
    split
    · exact ih hn.2
    · rename_i e he
      split at he
      · cases he
      · cases he
        have ih := ih hn.2
        unfold keysA at ih ⊢
        rw [List.map_cons, List.nodup_cons]
        refine ⟨fun hc => ?_, ih⟩
        obtain ⟨p, hp, e⟩ := List.mem_map.mp hc
        obtain ⟨d, hd, e2⟩ := List.mem_filterMap.mp hp
        split at e2
        · cases e2
        · cases e2
          have e : d = c := e
          exact hn.1 (e ▸ hd)
theorem lk_nfA {A : List (Int × Rat)} (h : (keysA A).Nodup) (c : Int) : lkA (nfA A) c = nzO (lkA A c) := by
  have hk := nfA_keys h
  by_cases h0 : (lkA A c).getD 0 = 0
  · have e : nzO (lkA A c) = none := by unfold nzO; rw [if_pos h0]
    rw [e, lkA_none]
    intro hc
    obtain ⟨p, hp, e⟩ := List.mem_map.mp hc
    obtain ⟨d, hd, e2⟩ := List.mem_filterMap.mp hp
    split at e2
    · cases e2
    · rename_i h1
      cases e2
      dsimp only at e
      exact h1 (e ▸ h0)
  · have e : nzO (lkA A c) = some ((lkA A c).getD 0) := by unfold nzO; rw [if_neg h0]
    rw [e]
    have hc : c ∈ keysA A := by
      refine Classical.byContradiction fun hn => h0 ?_
      rw [lkA_none.mpr hn]; rfl
    have : (c, (lkA A c).getD 0) ∈ nfA A := List.mem_filterMap.mpr ⟨c, sortI_mem.mpr hc, by rw [if_neg h0]⟩
    exact lkA_of_mem hk this
theorem nzO_getD (o : Option Rat) : (nzO o).getD 0 = o.getD 0 := by
  unfold nzO
  by_cases h : o.getD 0 = 0
  · rw [if_pos h, h]; rfl
  · rw [if_neg h]; rfl
theorem nzO_eq {a b : Option Rat} (h : a.getD 0 = b.getD 0) : nzO a = nzO b := by unfold nzO; rw [h]
theorem totA_from (a : Int) : ∀ (es : List (Int × Rat)) (s : Rat), es.foldl (fun s e => if e.1 = a then s + e.2 else s) s = s + totA es a
  | [], s => by simp [totA, Rat.add_zero]
  | e :: es, s => by
    unfold totA
    rw [List.foldl_cons, List.foldl_cons, totA_from a es, totA_from a es]
    by_cases h : e.1 = a
    · rw [if_pos h, if_pos h, Rat.add_assoc, Rat.zero_add]
    · rw [if_neg h, if_neg h, Rat.zero_add]
theorem totA_nil (a : Int) : totA ([] : List (Int × Rat)) a = 0 := rfl
theorem totA_cons (e : Int × Rat) (es : List (Int × Rat)) (a : Int) : totA (e :: es) a = (if e.1 = a then e.2 else 0) + totA es a := by
  conv => lhs; unfold totA
  rw [List.foldl_cons, totA_from]
  by_cases h : e.1 = a
  · rw [if_pos h, if_pos h, Rat.zero_add]
  · rw [if_neg h, if_neg h]
theorem totA_app (xs ys : List (Int × Rat)) (a : Int) : totA (xs ++ ys) a = totA xs a + totA ys a := by
  induction xs with
  | nil => rw [List.nil_append, totA_nil, Rat.zero_add]
  | cons x xs ih => rw [List.cons_append, totA_cons, totA_cons, ih, Rat.add_assoc]
theorem totA_mul (h : Rat) (es : List (Int × Rat)) (a : Int) : totA (es.map fun e => (e.1, h * e.2)) a = h * totA es a := by
  induction es with
  | nil => simp [totA_nil, Rat.mul_zero]
  | cons e es ih =>
    rw [List.map_cons, totA_cons, totA_cons, ih, Rat.mul_add]
    by_cases hc : e.1 = a
    · rw [if_pos hc, if_pos hc]
    · rw [if_neg hc, if_neg hc, Rat.mul_zero]
/-- the sums of sums by keys are the sums -/
theorem totA_nf (es : List (Int × Rat)) (a : Int) : totA (nfA (sumsA es)) a = totA es a := by
  have h1 := sumsA_tot (nfA (sumsA es)) a
  rw [sumsA_nodup (nfA_keys (nodup_sumsA es)), lk_nfA (nodup_sumsA es), nzO_getD, sumsA_tot] at h1
  exact h1.symm
/-! a sum over the first numbers -/
def sumN (f : Nat → Rat) : Nat → Rat
  | 0 => 0
  | n + 1 => sumN f n + f n
theorem sumN_congr {f g : Nat → Rat} : ∀ {n : Nat}, (∀ i, i < n → f i = g i) → sumN f n = sumN g n
  | 0, _ => rfl
  | n + 1, h => by rw [sumN, sumN, sumN_congr fun i hi => h i (by omega), h n (by omega)]
theorem sumN_zero {f : Nat → Rat} : ∀ {n : Nat}, (∀ i, i < n → f i = 0) → sumN f n = 0
  | 0, _ => rfl
  | n + 1, h => by rw [sumN, sumN_zero fun i hi => h i (by omega), h n (by omega), Rat.add_zero]
theorem sumN_add1 {f : Nat → Rat} {k : Nat} {d : Rat} : ∀ {n : Nat}, k < n → sumN (fun i => if i = k then f i + d else f i) n = sumN f n + d
  | 0, h => by omega
  | n + 1, h => by
    rw [sumN, sumN]
    by_cases hk : k = n
    · subst hk
      rw [if_pos rfl, sumN_congr (g := f) fun i hi => by rw [if_neg (by omega)]]
      exact (Rat.add_assoc _ _ _).symm
    · rw [if_neg fun e => hk e.symm, sumN_add1 (n := n) (by omega)]
      rw [Rat.add_assoc, Rat.add_comm d, ← Rat.add_assoc]
/-! max, a repeated list, the place of an item -/
section
variable {fin : List D → Mem → Rs D} {m : Mem} {d : D} {xs : List D} {i j : Int}
theorem bMaxL_run {n : Int} {ns : List Int} (h : vwL m d = some ((n :: ns).map .int)) : bMaxL [d] m = .ok (.int (ns.foldl max n)) m := by
  unfold bMaxL
  dsimp only
  rw [h]
  dsimp only
  rw [dInts_map]
@[simp] theorem gMulA_int : gMulA fin (.int i) (.int j) m = if mulOk i j = true then .ok (.int (i * j)) m else .stuck := rfl
theorem gMulA_rep {k : Nat} (h : xs.length * k ≤ 16777216) (hk : k ≤ 16777216) : gMulA fin (.lst xs) (.int (k : Int)) m = fin (List.replicate k xs).flatten m := by
  unfold gMulA
  dsimp only
  rw [Int.toNat_natCast, if_pos ⟨⟨by omega, by omega⟩, h⟩]
open Classical in
theorem gIdx_run {y l : D} {k : Nat} (hv : vwL m l = some xs) (hl : rdD m l = .lst xs) (hp : plDs 59 xs = true) (hy : xs[k]? = some y) (hf : ∀ j, j < k → xs[j]? ≠ some y) : gIdx l [y] m = .ok (.int (k : Nat)) m := by
  have hyp : plD 59 y = true := plDs_iff.mp hp y (List.mem_of_getElem? hy)
  have hyp' : ∃ e, PyOk 59 y e := plD_py hyp
  obtain ⟨e, h1⟩ := hyp'
  have h'' : plD 60 (rdD m l) = true := by rw [hl]; simpa using hp
  obtain ⟨e', h1'⟩ := plD_py h''
  have hpy := h1'.py
  rw [hl] at hpy
  simp only [py] at hpy
  split at hpy
  case h_2 => cases hpy
  rename_i es hes
  cases hpy
  unfold gIdx
  dsimp only
  rw [hv, toPy_pl hyp, toPy_rd h'', h1.py, h1'.py]
  dsimp only
  rw [if_pos ⟨shaped_of h1' (by omega), shaped_of h1 (by omega)⟩]
  have key : ∀ (xs : List D) (es : List PyData), plDs 59 xs = true → pys xs = some es → xs.length = es.length ∧ ∀ (j : Nat) (z : PyData), es[j]? = some z → ∃ x, xs[j]? = some x ∧ PyData.eqv z e = decide (x = y) := by
    intro xs
    induction xs with
    | nil => intro es _ p; cases p; exact ⟨rfl, fun j z hz => by simp at hz⟩
    | cons x xs ih =>
      intro es h p
      simp only [plDs_cons, Bool.and_eq_true] at h
      simp only [pys] at p
      split at p
      case h_2 => cases p
      rename_i a as ha has
      cases p
      obtain ⟨i1, i2⟩ := ih as h.2 has
      refine ⟨by simp [i1], fun j z hz => ?_⟩
      cases j with
      | zero =>
        simp only [List.getElem?_cons_zero, Option.some.injEq] at hz
        subst hz
        exact ⟨x, rfl, plD_eqv h.1 hyp ha h1.py⟩
      | succ j =>
        obtain ⟨x', k1, k2⟩ := i2 j z (by simpa using hz)
        exact ⟨x', by simpa using k1, k2⟩
  obtain ⟨hle, hat⟩ := key xs es hp hes
  have hkl : k < es.length := by rw [← hle]; exact (List.getElem?_eq_some_iff.mp hy).1
  have hfi : es.findIdx? (fun z => PyData.eqv z e) = some k := by
    rw [List.findIdx?_eq_some_iff_getElem]
    refine ⟨hkl, ?_, fun j hj => ?_⟩
    · obtain ⟨x, k1, k2⟩ := hat k _ (List.getElem?_eq_getElem hkl)
      rw [hy] at k1; cases k1
      rw [k2]; simp
    · obtain ⟨x, k1, k2⟩ := hat j _ (List.getElem?_eq_getElem (by omega))
      have : x ≠ y := fun e => hf j hj (e ▸ k1)
      rw [k2]; simp [this]
  rw [hfi]
end
/-! enumerate of a list or a tuple -/
section
variable {f : Ev} {ρ : Lc} {m : Mem} {d : D} {xs : List D} {c1 : Mem → Prop} {k : Bool}
def gEnA : VW → Mem → Rs Wk
  | some (_, xs, ck), m => .ok ⟨enumD 0 xs, ck⟩ m
  | _, _ => .stuck
def kEnA (d : D) (m1 : Mem) : Rs Wk := gEnA (vwW m1 d) m1
@[simp] theorem dEnumA_run : dEnumA f ρ m = (f ρ m).bind kEnA := by
  unfold dEnumA
  congr 1
  funext d m1
  unfold kEnA gEnA
  cases vwW m1 d <;> rfl
@[simp] theorem kEnA_run : kEnA d m = gEnA (vwW m d) m := rfl
@[simp] theorem gEnA_run : gEnA (some (k, xs, c1)) m = .ok ⟨enumD 0 xs, c1⟩ m := rfl
theorem enum_range {f : Nat → D} : ∀ (n k : Nat), enumD k ((List.range n).map fun i => f (k + i)) = (List.range n).map fun i => .tup [.int ((k + i : Nat) : Int), f (k + i)]
  | 0, _ => rfl
  | n + 1, k => by
    rw [List.range_succ_eq_map, List.map_cons, List.map_cons, enumD, List.map_map, List.map_map]
    have ih := enum_range (f := f) n (k + 1)
    have e1 : (List.range n).map ((fun i => f (k + i)) ∘ Nat.succ) = (List.range n).map fun i => f (k + 1 + i) := List.map_congr_left fun i _ => by
      show f (k + (i + 1)) = _
      congr 1; omega
    have e2 : (List.range n).map ((fun i => D.tup [.int ((k + i : Nat) : Int), f (k + i)]) ∘ Nat.succ) = (List.range n).map fun i => .tup [.int ((k + 1 + i : Nat) : Int), f (k + 1 + i)] := List.map_congr_left fun i _ => by
      show D.tup [.int ((k + (i + 1) : Nat) : Int), f (k + (i + 1))] = _
      rw [show k + (i + 1) = k + 1 + i by omega]
    rw [e1, e2, ih]
    rfl
end
end LN
/-! LNhd: the end of a law: the module's facts by a hook of our own, the promise. -/
namespace LN
open PySem L2 PySem.Spec PyProof.Rows

/-! ### nothing is raised -/
theorem FnOk_nox {P : Program} {w : World} {K : PySem.W.Frag} {mg : Str → Option Value} {base : Heap} {k : Nat} {f : Addr} {fd : FuncData} {ps : List Str} {sp : Sp} (F : FnOk P w K mg base (L2.CX P w) k f fd ps sp) :
    FnOk P w K mg base CX0 k f fd ps (fun vs H Q _ => sp vs H Q fun _ _ _ => False) :=
  ⟨fun vs H Q E h => F.len vs H Q _ h, fun A outer s H args us vs Q E hr he hb hv hs => codeAny_mono (F.run A outer s H args us vs Q (fun _ _ _ => False) hr he hb hv hs) fun r s' h => by
    cases r with
    | ok fin => cases fin <;> exact h
    | error e => obtain ⟨a, B, H', cls, d, _, _, _, _, _, _, _, z⟩ := h; exact z⟩

/-! ### the hook, with a look of our own -/
def obsX (fa : List He.Fa) (fn : List He.DefD) (ex : PySem.W.Frag → Bool) (K : PySem.W.Frag) : He.AlD := ((He.obsD fa fn K).1 && ex K, (He.obsD fa fn K).2)
def SaysX (fa : List He.Fa) (fn : List He.DefD) (ex : PySem.W.Frag → Bool) (K : PySem.W.Frag) : Prop := obsX fa fn ex K = He.valD fn
def obsXG (n : Nat) (fa : List He.Fa) (fn : List He.DefD) (ex : PySem.W.Frag → Bool) (g : Addr → Option Obj) : He.AlD := obsX fa fn ex (He.frG g (He.asD g n))
def hookX (n : Nat) (fa : List He.Fa) (fn : List He.DefD) (ex : PySem.W.Frag → Bool) : PySem.W.Hook where
  α := He.AlD
  obs := fun s => obsXG n fa fn ex s.heap.get?
  val := fun _ => He.valD fn
  says := fun _ h => ∃ K : PySem.W.Frag, K.In h ∧ SaysX fa fn ex K
  of := fun _ _ e => ⟨_, He.frG_in, e⟩
  keeps := fun _ _ _ ⟨K, hK, c⟩ k => ⟨K, PySem.W.Frag.In.keeps hK k, c⟩
theorem obsXG_eq {n : Nat} {fa : List He.Fa} {fn : List He.DefD} {ex : PySem.W.Frag → Bool} {g : Addr → Option Obj} {s : Shared} (h : ∀ a, g a = s.heap.get? a) : obsXG n fa fn ex g = (hookX n fa fn ex).obs s := by
  have e : g = s.heap.get? := funext h
  rw [e] <;> rfl
theorem SaysX.d {fa : List He.Fa} {fn : List He.DefD} {ex : PySem.W.Frag → Bool} {K : PySem.W.Frag} (c : SaysX fa fn ex K) : He.SaysD fa fn K ∧ ex K = true := by
  have c' : obsX fa fn ex K = He.valD fn := c
  have h1 : ((He.obsD fa fn K).1 && ex K) = true := congrArg (fun z : He.AlD => z.1) c'
  have h2 : (obsX fa fn ex K).2 = (He.valD fn).2 := congrArg (fun z : He.AlD => z.2) c'
  obtain ⟨h3, h4⟩ := Bool.and_eq_true_iff.mp h1
  refine ⟨?_, h4⟩
  unfold He.SaysD
  have h5 : (He.obsD fa fn K).1 = (He.valD fn).1 := h3
  exact Prod.ext h5 h2
/-! ### what the module holds: numbers, texts, tuples of such -/
def litB (K : PySem.W.Frag) : Nat → D → Value → Bool
  | _, .non, .none => true
  | _, .bl b, .bool c => b == c
  | _, .int i, .int j _ => decide (i = j)
  | _, .str x, .str y _ => decide (x = y)
  | n + 1, .tup xs, .ref a => match K.lookup a with
    | some ⟨.type t, _, .seq its _, _⟩ => decide (t = "tuple") && (decide (its.size ≤ sizeLine) && (decide (xs.length = its.toList.length) && (xs.zip its.toList).all fun p => litB K n p.1 p.2))
    | _ => false
  | _, _, _ => false
/-- the model's side of a value -/
def vOf : Value → V
  | .none => .non
  | .bool b => .bl b
  | .int i _ => .int i
  | .str x _ => .str x
  | .ref a => .ref a
  | _ => .non
/-- the tuples that a constant is made of -/
def litT (K : PySem.W.Frag) : Nat → Value → List (List V)
  | n + 1, .ref a => match K.lookup a with
    | some ⟨_, _, .seq its _, _⟩ => its.toList.map vOf :: its.toList.flatMap (litT K n)
    | _ => []
  | _, _ => []
theorem litB_rel {K : PySem.W.Frag} {n : Nat} {d : D} {v : Value} (h : litB K n d v = true) : RelV (vOf v) v := by
  cases v with
  | none => rfl
  | bool b => rfl
  | int i t => exact ⟨t, rfl⟩
  | str x t => exact ⟨t, rfl⟩
  | ref a => rfl
  | _ => cases d <;> cases n <;> simp [litB] at h
theorem litB_atom {c : Ct} {n : Nat} {d : D} {v : Value} (h : litB c.K n d v = true) (ht : ∀ xs, d ≠ .tup xs) (W : Wd) : Rp c W d (vOf v) := by
  cases n <;> cases d <;> cases v <;> first
    | exact absurd rfl (ht _)
    | (simp [litB] at h; done)
    | (simp [litB] at h; simp [Rp, vOf, h]; done)
    | (simp [Rp, vOf]; done)
theorem litB_ok {c : Ct} : ∀ (n : Nat) {d : D} {v : Value}, litB c.K n d v = true → (∀ vs ∈ litT c.K n v, vs ∈ c.cs) → ∀ W, Rp c W d (vOf v) := by
  intro n
  induction n with
  | zero =>
    intro d v h _ W
    refine litB_atom h (fun xs e => ?_) W
    subst e
    cases v <;> simp [litB] at h
  | succ n ih =>
    intro d v h hc W
    by_cases hd : ∃ xs, d = .tup xs
    · obtain ⟨xs, rfl⟩ := hd
      cases v with
      | ref a =>
        unfold litB at h
        unfold litT at hc
        cases e : c.K.lookup a with
        | none => rw [e] at h; cases h
        | some o =>
          obtain ⟨oc, od, dt, osl⟩ := o
          rw [e] at h hc
          cases oc with
          | type t =>
            cases dt with
            | seq its k =>
              simp only [Bool.and_eq_true, decide_eq_true_eq, List.all_eq_true] at h
              obtain ⟨h1, h2, h3, h4⟩ := h
              simp only [List.mem_cons, List.mem_flatMap] at hc
              simp only [Rp, vOf]
              refine ⟨a, its.toList.map vOf, rfl, .inr ⟨hc _ (.inl rfl), _, its, k, e, by rw [h1], rfl, h2, ?_⟩, ?_⟩
              · have : ∀ (ys : List Value) (xs : List D), xs.length = ys.length → (∀ p ∈ xs.zip ys, litB c.K n p.1 p.2 = true) → Vals (ys.map vOf) ys := by
                  intro ys
                  induction ys with
                  | nil => intro xs _ _; exact .nil
                  | cons y ys ih =>
                    intro xs hl hp
                    cases xs with
                    | nil => cases hl
                    | cons x xs => exact .cons (litB_rel (hp (x, y) (by simp))) (ih xs (by simpa using hl) fun p hq => hp p (by simp [hq]))
                exact this _ _ h3 h4
              · refine Rps.of (by simp at h3; simp [h3]) fun i d v q1 q2 => ?_
                rw [List.getElem?_map] at q2
                cases e2 : its.toList[i]? with
                | none => rw [e2] at q2; cases q2
                | some y =>
                  rw [e2] at q2; cases q2
                  have hz : (d, y) ∈ xs.zip its.toList := by
                    refine List.mem_of_getElem? (i := i) ?_
                    rw [List.getElem?_zip_eq_some]
                    exact ⟨q1, e2⟩
                  exact ih (h4 (d, y) hz) (fun vs hv => hc vs (.inr ⟨y, List.mem_of_getElem? e2, hv⟩)) W
            | _ => cases h
          | _ => cases dt <;> cases h
      | _ => simp [litB] at h
    · exact litB_atom h (fun xs e => hd ⟨xs, e⟩) W
/-- a constant of the module -/
def conX (K : PySem.W.Frag) (x : Str) (n : Nat) (d : D) (cs : List (List V)) : Bool := match PySem.W.nsIn K mainGlobals x with
  | some (some v) => litB K n d v && (litT K n v).all fun vs => decide (vs ∈ cs)
  | _ => false
theorem conX_ok {c : Ct} {h : Heap} {mg : Str → Option Value} (X : c.K.In h) (G : h.Ns mainGlobals mg) {x : Str} {n : Nat} {d : D} (e : conX c.K x n d c.cs = true) : ∃ v, mg x = some v ∧ RelV (vOf v) v ∧ ∀ W, Rp c W d (vOf v) := by
  unfold conX at e
  cases q : PySem.W.nsIn c.K mainGlobals x with
  | none => rw [q] at e; cases e
  | some o =>
    rw [q] at e
    cases o with
    | none => cases e
    | some v =>
      simp only [Bool.and_eq_true, List.all_eq_true, decide_eq_true_eq] at e
      exact ⟨v, PySem.W.mg_of X G q, litB_rel e.1, litB_ok n e.1 e.2⟩
def bltX (K : PySem.W.Frag) (x : Str) (id : String) : Bool := He.eqO (PySem.W.nsIn K mainGlobals x) (some (some (.builtin id)))
theorem bltX_ok {K : PySem.W.Frag} {h : Heap} {mg : Str → Option Value} (X : K.In h) (G : h.Ns mainGlobals mg) {x : Str} {id : String} (e : bltX K x id = true) : mg x = some (.builtin id) := PySem.W.mg_of X G (He.eqO_ok e)
/-! ### the promise -/
theorem ok_start {c : Ct} {H : Hp} : Ok c ⟨H, fun _ => none, fun _ _ => none⟩ [] H := by
  constructor
  · exact fun a o h => h
  · intro a o h; cases h
  · intro a o h; cases h
  · intro f i o h; simp [Mem.get] at h
  · intro f i f' i' o o' a h; simp [Mem.get] at h
  · intro f i a h; cases h
  · intro f i o h; simp [Mem.get] at h
  · intro a o h; cases h
theorem law_promise {c : Ct} {fn : Fn} (h : ∀ xs : List Int, ∃ m : Mem, fn [.scr xs] [] = .ok (.bl true) m) (H : Hp) (a : Addr) (ns : List Int) (hS : SqL c.K H a (ns.map V.int)) :
    spD c fn [.ref a] H (fun v _ => v = .bl true) fun _ _ _ => False := by
  obtain ⟨m, e⟩ := h ns
  refine ⟨⟨H, fun _ => none, fun _ _ => none⟩, [.scr ns], [], ok_start, Rps.one ?_, ?_⟩
  · simp only [Rp]
    exact ⟨a, rfl, hS⟩
  · rw [e]
    intro W' H' v l o' r
    simpa [Rp] using r
end LN
/-! what the defs of the law compute (printed by gen.py) -/
namespace P_k18
open PySem L2 PySem.Spec PyProof.Rows LN
def ck (k : List L2.Key) : Bool := decide (k ≠ [.inl 0, .inl 1])
def c_ZERO : D := .tup [.int 0, .int 1]
def g_k0 {α : Type} : List α → List α → List α
  | [], [z0, z1, z2] => [z0, z1, z2]
  | _, _ => []
def g_k1 {α : Type} : List α → List α → List α
  | [], [z0, z1, z2] => [z0, z1, z2]
  | _, _ => []
def g_k2 {α : Type} : List α → List α → List α
  | [], [z0, z1] => [z0, z1]
  | _, _ => []
section
noncomputable def b_fraction : Bd :=
  (sSeq (sIf (dTst (dOp (gEqA false) (dV 1) (dK (.int 0))))
  sNever
  sNil)
  (sSeq (sAsg (dB bGcd (dCons (dV 0) (dCons (dV 1) dNil))) (gN 2))
  (sSeq (sIf (dTst (dOp (gCmp fun i j => decide (i < j)) (dV 1) (dK (.int 0))))
  (sAsg (dUn gNeg (dV 2)) (gN 2))
  sNil)
  (sRet (dTup (dCons (dOp gFdiv (dV 0) (dV 2)) (dCons (dOp gFdiv (dV 1) (dV 2)) dNil)))))))
noncomputable def f_fraction : Fn := fnD 2 3 b_fraction
noncomputable def b_plus : Bd :=
  (sRet (dCall f_fraction [] (dCons (dOp (gAdd finF) (dOp gMul (dOp (gIxT ck) (dV 0) (dK (.int 0))) (dOp (gIxT ck) (dV 1) (dK (.int 1)))) (dOp gMul (dOp (gIxT ck) (dV 1) (dK (.int 0))) (dOp (gIxT ck) (dV 0) (dK (.int 1))))) (dCons (dOp gMul (dOp (gIxT ck) (dV 0) (dK (.int 1))) (dOp (gIxT ck) (dV 1) (dK (.int 1)))) dNil))))
noncomputable def f_plus : Fn := fnD 2 2 b_plus
noncomputable def b_times : Bd :=
  (sRet (dCall f_fraction [] (dCons (dOp gMul (dOp (gIxT ck) (dV 0) (dK (.int 0))) (dOp (gIxT ck) (dV 1) (dK (.int 0)))) (dCons (dOp gMul (dOp (gIxT ck) (dV 0) (dK (.int 1))) (dOp (gIxT ck) (dV 1) (dK (.int 1)))) dNil))))
noncomputable def f_times : Fn := fnD 2 2 b_times
noncomputable def b_below : Bd :=
  (sRet (dOp (gCmp fun i j => decide (i < j)) (dOp gMul (dOp (gIxT ck) (dV 0) (dK (.int 0))) (dOp (gIxT ck) (dV 1) (dK (.int 1)))) (dOp gMul (dOp (gIxT ck) (dV 1) (dK (.int 0))) (dOp (gIxT ck) (dV 0) (dK (.int 1))))))
noncomputable def f_below : Fn := fnD 2 2 b_below
noncomputable def w_with_gifts_1 : Bd :=
  (sAsg (dCall f_plus [] (dCons (dOp (gIxT ck) (dV 2) (dV 3)) (dCons (dV 4) dNil))) (gSub' (dV 2) (dV 3) (gSetT ck)))
@[simp] theorem w_with_gifts_1_run (r : Lc) (m : Mem) : w_with_gifts_1 r m = (sAsg (dCall f_plus [] (dCons (dOp (gIxT ck) (dV 2) (dV 3)) (dCons (dV 4) dNil))) (gSub' (dV 2) (dV 3) (gSetT ck))) r m := rfl
noncomputable def b_with_gifts : Bd :=
  (sSeq (sIf (dTst (dOp (gEqA false) (dB bLenA (dCons (dV 1) dNil)) (dK (.int 0))))
  (sRet (dV 0))
  sNil)
  (sSeq (sAsg (dB (bLstA finM) (dCons (dV 0) dNil)) (gN 2))
  (sSeq (lockV 1 (sFor (dItemsW (dV 1)) (gT (gsCons (gN 3) (gsCons (gN 4) gsNil)))
  w_with_gifts_1))
  (sRet (dB bTup (dCons (dV 2) dNil))))))
noncomputable def f_with_gifts : Fn := fnD 2 5 b_with_gifts
noncomputable def b_add_gift : Bd :=
  (sAsg (dIf (dTst (dOp (gInT ck false) (dV 1) (dV 0))) (dCall f_plus [] (dCons (dOp (gIxT ck) (dV 0) (dV 1)) (dCons (dV 2) dNil))) (dV 2)) (gSub' (dV 0) (dV 1) (gSetT ck)))
noncomputable def f_add_gift : Fn := fnD 3 3 b_add_gift
noncomputable def w_weighted_sum_1 : Bd :=
  (sIf (dTst (dOp (gEqA true) (dOp (gIxT ck) (dOp (gIxT ck) (dV 0) (dV 4)) (dK (.int 0))) (dK (.int 0))))
  (sAsg (dCall f_plus [] (dCons (dV 3) (dCons (dCall f_times [] (dCons (dOp (gIxT ck) (dV 0) (dV 4)) (dCons (dV 5) dNil))) dNil))) (gN 3))
  sNil)
@[simp] theorem w_weighted_sum_1_run (r : Lc) (m : Mem) : w_weighted_sum_1 r m = (sIf (dTst (dOp (gEqA true) (dOp (gIxT ck) (dOp (gIxT ck) (dV 0) (dV 4)) (dK (.int 0))) (dK (.int 0)))) (sAsg (dCall f_plus [] (dCons (dV 3) (dCons (dCall f_times [] (dCons (dOp (gIxT ck) (dV 0) (dV 4)) (dCons (dV 5) dNil))) dNil))) (gN 3)) sNil) r m := rfl
noncomputable def b_weighted_sum : Bd :=
  (sSeq (sAsg (dV 2) (gN 3))
  (sSeq (sFor (dWalk (dV 1)) (gT (gsCons (gN 4) (gsCons (gN 5) gsNil)))
  w_weighted_sum_1)
  (sRet (dV 3))))
noncomputable def f_weighted_sum : Fn := fnD 3 6 b_weighted_sum
noncomputable def w_column_mean_1 : Bd :=
  (sIf (dTst (dOp (gEqA true) (dOp (gIxT ck) (dOp (gIxT ck) (dV 3) (dV 1)) (dK (.int 0))) (dK (.int 0))))
  (sAsg (dCall f_plus [] (dCons (dV 2) (dCons (dOp (gIxT ck) (dV 3) (dV 1)) dNil))) (gN 2))
  sNil)
@[simp] theorem w_column_mean_1_run (r : Lc) (m : Mem) : w_column_mean_1 r m = (sIf (dTst (dOp (gEqA true) (dOp (gIxT ck) (dOp (gIxT ck) (dV 3) (dV 1)) (dK (.int 0))) (dK (.int 0)))) (sAsg (dCall f_plus [] (dCons (dV 2) (dCons (dOp (gIxT ck) (dV 3) (dV 1)) dNil))) (gN 2)) sNil) r m := rfl
noncomputable def b_column_mean : Bd :=
  (sSeq (sAsg (dK c_ZERO) (gN 2))
  (sSeq (sFor (dWalk (dV 0)) (gN 3)
  w_column_mean_1)
  (sSeq (sIf (dTst (dOp (gEqA false) (dOp (gIxT ck) (dV 2) (dK (.int 0))) (dK (.int 0))))
  (sRet (dK c_ZERO))
  sNil)
  (sRet (dCall f_times [] (dCons (dV 2) (dCons (dCall f_fraction [] (dCons (dK (.int 1)) (dCons (dB bLenA (dCons (dV 0) dNil)) dNil))) dNil)))))))
noncomputable def f_column_mean : Fn := fnD 2 4 b_column_mean
noncomputable def w_scores_1 : Bd :=
  (sIf (dTst (dOp (gEqA true) (dOp (gIxT ck) (dOp (gIxT ck) (dV 3) (dV 5)) (dK (.int 0))) (dK (.int 0))))
  (sExpr (dM isL (gChg hApp) (dV 4) (dCons (dTup (dCons (dV 6) (dCons (dCall f_times [] (dCons (dOp (gIxT ck) (dV 3) (dV 5)) (dCons (dV 7) dNil))) dNil))) dNil)))
  sNil)
@[simp] theorem w_scores_1_run (r : Lc) (m : Mem) : w_scores_1 r m = (sIf (dTst (dOp (gEqA true) (dOp (gIxT ck) (dOp (gIxT ck) (dV 3) (dV 5)) (dK (.int 0))) (dK (.int 0)))) (sExpr (dM isL (gChg hApp) (dV 4) (dCons (dTup (dCons (dV 6) (dCons (dCall f_times [] (dCons (dOp (gIxT ck) (dV 3) (dV 5)) (dCons (dV 7) dNil))) dNil))) dNil))) sNil) r m := rfl
noncomputable def e_scores_2 : Ev :=
  (dCall f_weighted_sum [] (dCons (dV 8) (dCons (dV 4) (dCons (dK c_ZERO) dNil))))
@[simp] theorem e_scores_2_run (r : Lc) (m : Mem) : e_scores_2 r m = (dCall f_weighted_sum [] (dCons (dV 8) (dCons (dV 4) (dCons (dK c_ZERO) dNil)))) r m := rfl
noncomputable def b_scores : Bd :=
  (sSeq (sAsg (dOp (gIxT ck) (dV 0) (dV 2)) (gN 3))
  (sSeq (sAsg (dLstM dNil) (gN 4))
  (sSeq (sFor (dWalk (dOp (gIxT ck) (dV 1) (dK (.int 0)))) (gT (gsCons (gN 5) (gsCons (gN 6) (gsCons (gN 7) gsNil))))
  w_scores_1)
  (sRet (dLc finF (dWalk (dV 0)) [8] (gN 8) tAll e_scores_2)))))
noncomputable def f_scores : Fn := fnD 3 9 b_scores
noncomputable def w_looked_at_1 : Bd :=
  (sIf (dTru (dCall f_below [] (dCons (dV 4) (dCons (dV 5) dNil))))
  (sAsg (dV 5) (gN 4))
  sNil)
@[simp] theorem w_looked_at_1_run (r : Lc) (m : Mem) : w_looked_at_1 r m = (sIf (dTru (dCall f_below [] (dCons (dV 4) (dCons (dV 5) dNil)))) (sAsg (dV 5) (gN 4)) sNil) r m := rfl
noncomputable def t_looked_at_2 : EvG Bool :=
  (dTst (dOp (gEqA false) (dV 5) (dV 4)))
@[simp] theorem t_looked_at_2_run (r : Lc) (m : Mem) : t_looked_at_2 r m = (dTst (dOp (gEqA false) (dV 5) (dV 4))) r m := rfl
noncomputable def e_looked_at_2 : Ev :=
  (dV 6)
@[simp] theorem e_looked_at_2_run (r : Lc) (m : Mem) : e_looked_at_2 r m = (dV 6) r m := rfl
noncomputable def b_looked_at : Bd :=
  (sSeq (sAsg (dCall f_scores [] (dCons (dV 0) (dCons (dV 1) (dCons (dV 2) dNil)))) (gN 3))
  (sSeq (sAsg (dOp (gIxT ck) (dV 3) (dK (.int 0))) (gN 4))
  (sSeq (sFor (dWalk (dV 3)) (gN 5)
  w_looked_at_1)
  (sRet (dLc finM (dEnumA (dV 3)) [6, 5] (gT (gsCons (gN 6) (gsCons (gN 5) gsNil))) t_looked_at_2 e_looked_at_2)))))
noncomputable def f_looked_at : Fn := fnM 3 7 b_looked_at
noncomputable def e_heads_done_1 : Ev :=
  (dOp (gIxT ck) (dV 0) (dV 12))
@[simp] theorem e_heads_done_1_run (r : Lc) (m : Mem) : e_heads_done_1 r m = (dOp (gIxT ck) (dV 0) (dV 12)) r m := rfl
noncomputable def w_heads_done_2 : Bd :=
  (sSeq (sAsg (dCall f_column_mean [] (dCons (dV 7) (dCons (dV 9) dNil))) (gN 11))
  (sIf (dTst (dOp (gEqA true) (dOp (gIxT ck) (dV 11) (dK (.int 0))) (dK (.int 0))))
  (sExpr (dCall f_add_gift [] (dCons (dV 5) (dCons (dV 8) (dCons (dCall f_times [] (dCons (dV 10) (dCons (dV 11) dNil))) dNil)))))
  sNil))
@[simp] theorem w_heads_done_2_run (r : Lc) (m : Mem) : w_heads_done_2 r m = (sSeq (sAsg (dCall f_column_mean [] (dCons (dV 7) (dCons (dV 9) dNil))) (gN 11)) (sIf (dTst (dOp (gEqA true) (dOp (gIxT ck) (dV 11) (dK (.int 0))) (dK (.int 0)))) (sExpr (dCall f_add_gift [] (dCons (dV 5) (dCons (dV 8) (dCons (dCall f_times [] (dCons (dV 10) (dCons (dV 11) dNil))) dNil))))) sNil)) r m := rfl
noncomputable def w_heads_done_3 : Bd :=
  (sSeq (sAsg (dLc finF (dWalk (dCall f_looked_at [] (dCons (dV 0) (dCons (dV 6) (dCons (dV 3) dNil))))) [12] (gN 12) tAll e_heads_done_1) (gN 7))
  (sFor (dWalk (dOp (gIxT ck) (dV 6) (dK (.int 1)))) (gT (gsCons (gN 8) (gsCons (gN 9) (gsCons (gN 10) gsNil))))
  w_heads_done_2))
@[simp] theorem w_heads_done_3_run (r : Lc) (m : Mem) : w_heads_done_3 r m = (sSeq (sAsg (dLc finF (dWalk (dCall f_looked_at [] (dCons (dV 0) (dCons (dV 6) (dCons (dV 3) dNil))))) [12] (gN 12) tAll e_heads_done_1) (gN 7)) (sFor (dWalk (dOp (gIxT ck) (dV 6) (dK (.int 1)))) (gT (gsCons (gN 8) (gsCons (gN 9) (gsCons (gN 10) gsNil)))) w_heads_done_2)) r m := rfl
noncomputable def w_heads_done_4 : Bd :=
  (sSeq (sAsg dDict (gN 5))
  (sSeq (sFor (dWalk (dV 1)) (gN 6)
  w_heads_done_3)
  (sExpr (dM isL (gChg hApp) (dV 2) (dCons (dCall f_with_gifts [] (dCons (dV 4) (dCons (dV 5) dNil))) dNil)))))
@[simp] theorem w_heads_done_4_run (r : Lc) (m : Mem) : w_heads_done_4 r m = (sSeq (sAsg dDict (gN 5)) (sSeq (sFor (dWalk (dV 1)) (gN 6) w_heads_done_3) (sExpr (dM isL (gChg hApp) (dV 2) (dCons (dCall f_with_gifts [] (dCons (dV 4) (dCons (dV 5) dNil))) dNil))))) r m := rfl
noncomputable def b_heads_done : Bd :=
  (sSeq (sAsg (dLstM dNil) (gN 2))
  (sSeq (sFor (dEnumA (dV 0)) (gT (gsCons (gN 3) (gsCons (gN 4) gsNil)))
  w_heads_done_4)
  (sRet (dV 2))))
noncomputable def f_heads_done : Fn := fnM 2 13 b_heads_done
noncomputable def w_law_bag_1 : Bd :=
  (sAsg (dOp gMod (dB bInt (dCons (dOp gPow (dOp (gAdd finF) (dOp (gAdd finF) (dV 1) (dOp gMod (dB bInt (dCons (dV 2) dNil)) (dK (.int 2305843009213693921)))) (dK (.int 389))) (dK (.int 3))) dNil)) (dK (.int 2305843009213693951))) (gN 1))
@[simp] theorem w_law_bag_1_run (r : Lc) (m : Mem) : w_law_bag_1 r m = (sAsg (dOp gMod (dB bInt (dCons (dOp gPow (dOp (gAdd finF) (dOp (gAdd finF) (dV 1) (dOp gMod (dB bInt (dCons (dV 2) dNil)) (dK (.int 2305843009213693921)))) (dK (.int 389))) (dK (.int 3))) dNil)) (dK (.int 2305843009213693951))) (gN 1)) r m := rfl
noncomputable def b_law_bag : Bd :=
  (sSeq (sAsg (dK (.int 13968)) (gN 1))
  (sSeq (sFor (dWalk (dSl (gSl finF) (dV 0) dNo (dPart (dK (.int 63))))) (gN 2)
  w_law_bag_1)
  (sRet (dLstM (dCons (dB (bLstA finF) (dCons (dSl (gSl finF) (dV 0) dNo (dPart (dK (.int 63)))) dNil)) (dCons (dK (.int 0)) (dCons (dK (.int 0)) (dCons (dV 1) (dCons (dK (.int 0)) dNil)))))))))
noncomputable def f_law_bag : Fn := fnM 1 3 b_law_bag
noncomputable def b_law_draw : Bd :=
  (sSeq (sAsg (dOp (gAdd finF) (dOp (gIxT ck) (dV 0) (dK (.int 4))) (dK (.int 1))) (gSub' (dV 0) (dK (.int 4)) (gSetT ck)))
  (sSeq (sIf (dAnd (dTst (dOp (gEqA false) (dOp (gIxT ck) (dV 0) (dK (.int 2))) (dK (.int 0)))) (dTst (dOp (gCmp fun i j => decide (i < j)) (dOp (gIxT ck) (dV 0) (dK (.int 1))) (dB bLenA (dCons (dOp (gIxT ck) (dV 0) (dK (.int 0))) dNil)))))
  (sSeq (sAsg (dB bInt (dCons (dOp (gIxT ck) (dOp (gIxT ck) (dV 0) (dK (.int 0))) (dOp (gIxT ck) (dV 0) (dK (.int 1)))) dNil)) (gN 2))
  (sSeq (sAsg (dOp (gAdd finF) (dOp (gIxT ck) (dV 0) (dK (.int 1))) (dK (.int 1))) (gSub' (dV 0) (dK (.int 1)) (gSetT ck)))
  (sIf (dTst (dOp (gCmp fun i j => decide (i ≥ j)) (dV 2) (dOp gPow (dK (.int 10)) (dK (.int 18)))))
  (sAsg (dV 2) (gSub' (dV 0) (dK (.int 2)) (gSetT ck)))
  (sAsg (dOp gMod (dB bInt (dCons (dOp gPow (dOp (gAdd finF) (dOp (gAdd finF) (dOp (gIxT ck) (dV 0) (dK (.int 3))) (dOp gMul (dOp gMod (dB bInt (dCons (dV 2) dNil)) (dK (.int 2305843009213693921))) (dK (.int 11)))) (dK (.int 41))) (dK (.int 3))) dNil)) (dK (.int 2305843009213693951))) (gSub' (dV 0) (dK (.int 3)) (gSetT ck))))))
  sNil)
  (sSeq (sIf (dTst (dOp (gCmp fun i j => decide (i > j)) (dOp (gIxT ck) (dV 0) (dK (.int 2))) (dK (.int 0))))
  (sSeq (sAsg (dOp gMod (dB bInt (dCons (dOp (gIxT ck) (dV 0) (dK (.int 2))) dNil)) (dV 1)) (gN 3))
  (sSeq (sAsg (dOp gFdiv (dB bInt (dCons (dOp (gIxT ck) (dV 0) (dK (.int 2))) dNil)) (dV 1)) (gSub' (dV 0) (dK (.int 2)) (gSetT ck)))
  (sRet (dV 3))))
  sNil)
  (sSeq (sAsg (dOp gMod (dB bInt (dCons (dOp gPow (dOp (gAdd finF) (dOp (gAdd finF) (dOp (gIxT ck) (dV 0) (dK (.int 3))) (dOp gMul (dOp (gIxT ck) (dV 0) (dK (.int 4))) (dK (.int 1000003)))) (dK (.int 31))) (dK (.int 3))) dNil)) (dK (.int 2305843009213693951))) (gSub' (dV 0) (dK (.int 3)) (gSetT ck)))
  (sRet (dOp gMod (dB bInt (dCons (dOp gFdiv (dOp (gIxT ck) (dV 0) (dK (.int 3))) (dK (.int 1073741827))) dNil)) (dV 1)))))))
noncomputable def f_law_draw : Fn := fnD 2 4 b_law_draw
noncomputable def b_law_of : Bd :=
  (sRet (dOp (gIxT ck) (dV 1) (dCall f_law_draw [] (dCons (dV 0) (dCons (dB bLenA (dCons (dV 1) dNil)) dNil)))))
noncomputable def f_law_of : Fn := fnD 2 2 b_law_of
noncomputable def b_law_like (f_law_like : Fn) : Bd :=
  (sSeq (sIf (dTru (dB bIsi (dCons (dV 1) (dCons (dTup (dCons (dK (.ty "list")) (dCons (dK (.ty "tuple")) dNil))) dNil))))
  (sSeq (sIf (dOr (dTst (dOp (gEqA true) (dB bIsi (dCons (dV 0) (dCons (dK (.ty "list")) dNil))) (dB bIsi (dCons (dV 1) (dCons (dK (.ty "list")) dNil))))) (dTst (dOp (gEqA true) (dB bIsi (dCons (dV 0) (dCons (dK (.ty "tuple")) dNil))) (dB bIsi (dCons (dV 1) (dCons (dK (.ty "tuple")) dNil))))))
  (sRet (dK (.bl false)))
  sNil)
  (sRet (dAndV (dOp (gEqA false) (dB bLenA (dCons (dV 0) dNil)) (dB bLenA (dCons (dV 1) dNil))) (dB bAll (dCons (dLc finF (dZip2 (dV 0) (dV 1)) [2, 3] (gT (gsCons (gN 2) (gsCons (gN 3) gsNil))) tAll (dCall f_law_like [] (dCons (dV 2) (dCons (dV 3) dNil)))) dNil)))))
  sNil)
  (sSeq (sIf (dOr (dTst (dOp (gIsN false) (dV 1) (dK .non))) (dTst (dOp (gIsN false) (dV 0) (dK .non))))
  (sRet (dAndV (dOp (gIsN false) (dV 1) (dK .non)) (dOp (gIsN false) (dV 0) (dK .non))))
  sNil)
  (sSeq (sIf (dOr (dTru (dB bIsi (dCons (dV 0) (dCons (dTup (dCons (dK (.ty "list")) (dCons (dK (.ty "tuple")) (dCons (dK (.ty "dict")) dNil)))) dNil)))) (dTst (dOp (gEqA true) (dB bIsi (dCons (dV 0) (dCons (dK (.ty "bool")) dNil))) (dB bIsi (dCons (dV 1) (dCons (dK (.ty "bool")) dNil))))))
  (sRet (dK (.bl false)))
  sNil)
  (sSeq (sIf (dOr (dTst (dOp (gEqA true) (dB bIsi (dCons (dV 0) (dCons (dK (.ty "str")) dNil))) (dB bIsi (dCons (dV 1) (dCons (dK (.ty "str")) dNil))))) (dTst (dOp (gEqA true) (dB bIsi (dCons (dV 0) (dCons (dK (.ty "int")) dNil))) (dB bIsi (dCons (dV 1) (dCons (dK (.ty "int")) dNil))))))
  (sRet (dK (.bl false)))
  sNil)
  (sRet (dOp (gEqA false) (dV 0) (dV 1)))))))
noncomputable def r_law_like : Nat → Fn
  | 0 => fun _ _ => .stuck
  | n + 1 => fnD 2 4 (b_law_like (r_law_like n))
noncomputable abbrev f_law_like : Fn := r_law_like 8
noncomputable def u_law_gcd_1 : EvG Bool :=
  (dTst (dOp (gCmp fun i j => decide (i > j)) (dV 1) (dK (.int 0))))
@[simp] theorem u_law_gcd_1_run (r : Lc) (m : Mem) : u_law_gcd_1 r m = (dTst (dOp (gCmp fun i j => decide (i > j)) (dV 1) (dK (.int 0)))) r m := rfl
noncomputable def w_law_gcd_1 : Bd :=
  (sPar 0 1 (dCons (dV 1) (dCons (dOp gMod (dB bInt (dCons (dV 0) dNil)) (dV 1)) dNil)))
@[simp] theorem w_law_gcd_1_run (r : Lc) (m : Mem) : w_law_gcd_1 r m = (sPar 0 1 (dCons (dV 1) (dCons (dOp gMod (dB bInt (dCons (dV 0) dNil)) (dV 1)) dNil))) r m := rfl
noncomputable def b_law_gcd : Bd :=
  (sSeq (sPar 0 1 (dCons (dB bAbs (dCons (dV 0) dNil)) (dCons (dB bAbs (dCons (dV 1) dNil)) dNil)))
  (sSeq (sWhile u_law_gcd_1
  w_law_gcd_1)
  (sRet (dV 0))))
noncomputable def f_law_gcd : Fn := fnD 2 2 b_law_gcd
noncomputable def b_law_low : Bd :=
  (sSeq (sAsg (dCall f_law_gcd [] (dCons (dV 0) (dCons (dV 1) dNil))) (gN 2))
  (sSeq (sIf (dTst (dOp (gCmp fun i j => decide (i < j)) (dV 1) (dK (.int 0))))
  (sAsg (dUn gNeg (dV 2)) (gN 2))
  sNil)
  (sRet (dTup (dCons (dOp gFdiv (dV 0) (dV 2)) (dCons (dOp gFdiv (dV 1) (dV 2)) dNil))))))
noncomputable def f_law_low : Fn := fnD 2 3 b_law_low
noncomputable def b_law_great : Bd :=
  (sRet (dOp (gAdd finF) (dOp gMul (dCall f_law_draw [] (dCons (dV 0) (dCons (dOp gPow (dK (.int 10)) (dK (.int 9))) dNil))) (dOp gPow (dK (.int 10)) (dK (.int 9)))) (dCall f_law_draw [] (dCons (dV 0) (dCons (dOp gPow (dK (.int 10)) (dK (.int 9))) dNil)))))
noncomputable def f_law_great : Fn := fnD 1 1 b_law_great
noncomputable def q_law_factor_1 : Bd :=
  (sAsg (dCall f_law_draw [] (dCons (dV 0) (dCons (dK (.int 10)) dNil))) (gN 1))
@[simp] theorem q_law_factor_1_run (r : Lc) (m : Mem) : q_law_factor_1 r m = (sAsg (dCall f_law_draw [] (dCons (dV 0) (dCons (dK (.int 10)) dNil))) (gN 1)) r m := rfl
noncomputable def q_law_factor_2 : Bd :=
  (sIf (dTst (dOp (gCmp fun i j => decide (i < j)) (dV 1) (dK (.int 5))))
  (sRet (dTup (dCons (dOp gSub (dCall f_law_draw [] (dCons (dV 0) (dCons (dK (.int 7)) dNil))) (dK (.int 3))) (dCons (dK (.int 1)) dNil))))
  sNil)
@[simp] theorem q_law_factor_2_run (r : Lc) (m : Mem) : q_law_factor_2 r m = (sIf (dTst (dOp (gCmp fun i j => decide (i < j)) (dV 1) (dK (.int 5)))) (sRet (dTup (dCons (dOp gSub (dCall f_law_draw [] (dCons (dV 0) (dCons (dK (.int 7)) dNil))) (dK (.int 3))) (dCons (dK (.int 1)) dNil)))) sNil) r m := rfl
noncomputable def q_law_factor_3 : Bd :=
  (sIf (dTst (dOp (gCmp fun i j => decide (i < j)) (dV 1) (dK (.int 8))))
  (sRet (dCall f_law_low [] (dCons (dOp gSub (dCall f_law_draw [] (dCons (dV 0) (dCons (dK (.int 13)) dNil))) (dK (.int 6))) (dCons (dOp (gAdd finF) (dK (.int 1)) (dCall f_law_draw [] (dCons (dV 0) (dCons (dK (.int 6)) dNil)))) dNil))))
  sNil)
@[simp] theorem q_law_factor_3_run (r : Lc) (m : Mem) : q_law_factor_3 r m = (sIf (dTst (dOp (gCmp fun i j => decide (i < j)) (dV 1) (dK (.int 8)))) (sRet (dCall f_law_low [] (dCons (dOp gSub (dCall f_law_draw [] (dCons (dV 0) (dCons (dK (.int 13)) dNil))) (dK (.int 6))) (dCons (dOp (gAdd finF) (dK (.int 1)) (dCall f_law_draw [] (dCons (dV 0) (dCons (dK (.int 6)) dNil)))) dNil)))) sNil) r m := rfl
noncomputable def q_law_factor_4 : Bd :=
  (sIf (dTst (dOp (gEqA false) (dV 1) (dK (.int 8))))
  (sRet (dCall f_law_low [] (dCons (dOp gSub (dCall f_law_draw [] (dCons (dV 0) (dCons (dK (.int 4001)) dNil))) (dK (.int 2000))) (dCons (dOp (gAdd finF) (dK (.int 1)) (dCall f_law_draw [] (dCons (dV 0) (dCons (dK (.int 97)) dNil)))) dNil))))
  sNil)
@[simp] theorem q_law_factor_4_run (r : Lc) (m : Mem) : q_law_factor_4 r m = (sIf (dTst (dOp (gEqA false) (dV 1) (dK (.int 8)))) (sRet (dCall f_law_low [] (dCons (dOp gSub (dCall f_law_draw [] (dCons (dV 0) (dCons (dK (.int 4001)) dNil))) (dK (.int 2000))) (dCons (dOp (gAdd finF) (dK (.int 1)) (dCall f_law_draw [] (dCons (dV 0) (dCons (dK (.int 97)) dNil)))) dNil)))) sNil) r m := rfl
noncomputable def q_law_factor_5 : Bd :=
  (sAsg (dOp gSub (dK (.int 1)) (dOp gMul (dK (.int 2)) (dCall f_law_draw [] (dCons (dV 0) (dCons (dK (.int 2)) dNil))))) (gN 2))
@[simp] theorem q_law_factor_5_run (r : Lc) (m : Mem) : q_law_factor_5 r m = (sAsg (dOp gSub (dK (.int 1)) (dOp gMul (dK (.int 2)) (dCall f_law_draw [] (dCons (dV 0) (dCons (dK (.int 2)) dNil))))) (gN 2)) r m := rfl
noncomputable def q_law_factor_6 : Bd :=
  (sRet (dCall f_law_low [] (dCons (dOp gMul (dV 2) (dCall f_law_great [] (dCons (dV 0) dNil))) (dCons (dOp (gAdd finF) (dK (.int 1)) (dOp gFdiv (dCall f_law_great [] (dCons (dV 0) dNil)) (dOp (gAdd finF) (dK (.int 2)) (dOp gMul (dCall f_law_draw [] (dCons (dV 0) (dCons (dK (.int 2)) dNil))) (dOp gPow (dK (.int 10)) (dK (.int 9))))))) dNil))))
@[simp] theorem q_law_factor_6_run (r : Lc) (m : Mem) : q_law_factor_6 r m = (sRet (dCall f_law_low [] (dCons (dOp gMul (dV 2) (dCall f_law_great [] (dCons (dV 0) dNil))) (dCons (dOp (gAdd finF) (dK (.int 1)) (dOp gFdiv (dCall f_law_great [] (dCons (dV 0) dNil)) (dOp (gAdd finF) (dK (.int 2)) (dOp gMul (dCall f_law_draw [] (dCons (dV 0) (dCons (dK (.int 2)) dNil))) (dOp gPow (dK (.int 10)) (dK (.int 9))))))) dNil)))) r m := rfl
noncomputable def b_law_factor : Bd :=
  (sSeq q_law_factor_1
  (sSeq q_law_factor_2
  (sSeq q_law_factor_3
  (sSeq q_law_factor_4
  (sSeq q_law_factor_5
  q_law_factor_6)))))
noncomputable def f_law_factor : Fn := fnD 1 3 b_law_factor
noncomputable def b_law_number : Bd :=
  (sRet (dAndV (dB bIsi (dCons (dV 0) (dCons (dK (.ty "int")) dNil))) (dNotV (dB bIsi (dCons (dV 0) (dCons (dK (.ty "bool")) dNil))))))
noncomputable def f_law_number : Fn := fnD 1 1 b_law_number
noncomputable def b_law_is_fraction : Bd :=
  (sSeq (sIf (dOr (dNot (dTru (dB bIsi (dCons (dV 0) (dCons (dK (.ty "tuple")) dNil))))) (dTst (dOp (gEqA true) (dB bLenA (dCons (dV 0) dNil)) (dK (.int 2)))))
  (sRet (dK (.bl false)))
  sNil)
  (sSeq (sIf (dOr (dNot (dTru (dCall f_law_number [] (dCons (dOp (gIxT ck) (dV 0) (dK (.int 0))) dNil)))) (dNot (dTru (dCall f_law_number [] (dCons (dOp (gIxT ck) (dV 0) (dK (.int 1))) dNil)))))
  (sRet (dK (.bl false)))
  sNil)
  (sRet (dAndV (dOp (gCmp fun i j => decide (i ≥ j)) (dOp (gIxT ck) (dV 0) (dK (.int 1))) (dK (.int 1))) (dOp (gEqA false) (dCall f_law_gcd [] (dCons (dOp (gIxT ck) (dV 0) (dK (.int 0))) (dCons (dOp (gIxT ck) (dV 0) (dK (.int 1))) dNil))) (dK (.int 1)))))))
noncomputable def f_law_is_fraction : Fn := fnD 1 1 b_law_is_fraction
noncomputable def w_law_common_1 : Bd :=
  (sAsg (dOp gMul (dOp gFdiv (dV 1) (dCall f_law_gcd [] (dCons (dV 1) (dCons (dOp (gIxT ck) (dV 2) (dK (.int 1))) dNil)))) (dOp (gIxT ck) (dV 2) (dK (.int 1)))) (gN 1))
@[simp] theorem w_law_common_1_run (r : Lc) (m : Mem) : w_law_common_1 r m = (sAsg (dOp gMul (dOp gFdiv (dV 1) (dCall f_law_gcd [] (dCons (dV 1) (dCons (dOp (gIxT ck) (dV 2) (dK (.int 1))) dNil)))) (dOp (gIxT ck) (dV 2) (dK (.int 1)))) (gN 1)) r m := rfl
noncomputable def b_law_common : Bd :=
  (sSeq (sAsg (dK (.int 1)) (gN 1))
  (sSeq (sFor (dWalk (dV 0)) (gN 2)
  w_law_common_1)
  (sRet (dV 1))))
noncomputable def f_law_common : Fn := fnD 1 3 b_law_common
noncomputable def w_law_state_1 : Bd :=
  (sAsg (dCall f_law_common [] (dCons (dOp (gAdd finF) (dLst (dCons (dTup (dCons (dK (.int 1)) (dCons (dV 1) dNil))) dNil)) (dB (bLstA finF) (dCons (dV 2) dNil))) dNil)) (gN 1))
@[simp] theorem w_law_state_1_run (r : Lc) (m : Mem) : w_law_state_1 r m = (sAsg (dCall f_law_common [] (dCons (dOp (gAdd finF) (dLst (dCons (dTup (dCons (dK (.int 1)) (dCons (dV 1) dNil))) dNil)) (dB (bLstA finF) (dCons (dV 2) dNil))) dNil)) (gN 1)) r m := rfl
noncomputable def e_law_state_2 : Ev :=
  (dOp gMul (dOp (gIxT ck) (dV 3) (dK (.int 0))) (dOp gFdiv (dV 1) (dOp (gIxT ck) (dV 3) (dK (.int 1)))))
@[simp] theorem e_law_state_2_run (r : Lc) (m : Mem) : e_law_state_2 r m = (dOp gMul (dOp (gIxT ck) (dV 3) (dK (.int 0))) (dOp gFdiv (dV 1) (dOp (gIxT ck) (dV 3) (dK (.int 1))))) r m := rfl
noncomputable def e_law_state_3 : Ev :=
  (dLc finF (dWalk (dV 2)) [3] (gN 3) tAll e_law_state_2)
@[simp] theorem e_law_state_3_run (r : Lc) (m : Mem) : e_law_state_3 r m = (dLc finF (dWalk (dV 2)) [3] (gN 3) tAll e_law_state_2) r m := rfl
noncomputable def b_law_state : Bd :=
  (sSeq (sAsg (dK (.int 1)) (gN 1))
  (sSeq (sFor (dWalk (dV 0)) (gN 2)
  w_law_state_1)
  (sRet (dTup (dCons (dV 1) (dCons (dLc finF (dWalk (dV 0)) [2] (gN 2) tAll e_law_state_3) dNil))))))
noncomputable def f_law_state : Fn := fnD 1 4 b_law_state
noncomputable def e_law_scored_1 : Ev :=
  (dOp (gIxT ck) (dV 7) (dK (.int 2)))
@[simp] theorem e_law_scored_1_run (r : Lc) (m : Mem) : e_law_scored_1 r m = (dOp (gIxT ck) (dV 7) (dK (.int 2))) r m := rfl
noncomputable def e_law_scored_2 : Ev :=
  (dOp (gAdd finF) (dV 9) (dOp gMul (dV 8) (dOp (gIxT ck) (dV 10) (dOp (gIxT ck) (dV 7) (dK (.int 1))))))
@[simp] theorem e_law_scored_2_run (r : Lc) (m : Mem) : e_law_scored_2 r m = (dOp (gAdd finF) (dV 9) (dOp gMul (dV 8) (dOp (gIxT ck) (dV 10) (dOp (gIxT ck) (dV 7) (dK (.int 1)))))) r m := rfl
noncomputable def w_law_scored_3 : Bd :=
  (sSeq (sAsg (dOp gMul (dOp gMul (dOp (gIxT ck) (dOp (gIxT ck) (dV 4) (dV 2)) (dOp (gIxT ck) (dV 7) (dK (.int 0)))) (dOp (gIxT ck) (dOp (gIxT ck) (dV 7) (dK (.int 2))) (dK (.int 0)))) (dOp gFdiv (dV 5) (dOp (gIxT ck) (dOp (gIxT ck) (dV 7) (dK (.int 2))) (dK (.int 1))))) (gN 8))
  (sIf (dTst (dOp (gEqA true) (dV 8) (dK (.int 0))))
  (sAsg (dLc finF (dZip2 (dV 6) (dV 4)) [9, 10] (gT (gsCons (gN 9) (gsCons (gN 10) gsNil))) tAll e_law_scored_2) (gN 6))
  sNil))
@[simp] theorem w_law_scored_3_run (r : Lc) (m : Mem) : w_law_scored_3 r m = (sSeq (sAsg (dOp gMul (dOp gMul (dOp (gIxT ck) (dOp (gIxT ck) (dV 4) (dV 2)) (dOp (gIxT ck) (dV 7) (dK (.int 0)))) (dOp (gIxT ck) (dOp (gIxT ck) (dV 7) (dK (.int 2))) (dK (.int 0)))) (dOp gFdiv (dV 5) (dOp (gIxT ck) (dOp (gIxT ck) (dV 7) (dK (.int 2))) (dK (.int 1))))) (gN 8)) (sIf (dTst (dOp (gEqA true) (dV 8) (dK (.int 0)))) (sAsg (dLc finF (dZip2 (dV 6) (dV 4)) [9, 10] (gT (gsCons (gN 9) (gsCons (gN 10) gsNil))) tAll e_law_scored_2) (gN 6)) sNil)) r m := rfl
noncomputable def b_law_scored : Bd :=
  (sSeq (sAsg (dV 0) (gT (gsCons (gN 3) (gsCons (gN 4) gsNil))))
  (sSeq (sAsg (dCall f_law_common [] (dCons (dLc finF (dWalk (dOp (gIxT ck) (dV 1) (dK (.int 0)))) [7] (gN 7) tAll e_law_scored_1) dNil)) (gN 5))
  (sSeq (sAsg (dOp (gMulA finF) (dLst (dCons (dK (.int 0)) dNil)) (dB bLenA (dCons (dV 4) dNil))) (gN 6))
  (sSeq (sFor (dWalk (dOp (gIxT ck) (dV 1) (dK (.int 0)))) (gN 7)
  w_law_scored_3)
  (sRet (dTup (dCons (dV 6) (dCons (dOp gMul (dOp gMul (dV 5) (dV 3)) (dV 3)) dNil))))))))
noncomputable def f_law_scored : Fn := fnD 3 11 b_law_scored
noncomputable def t_law_seen_1 : EvG Bool :=
  (dTst (dOp (gEqA false) (dOp (gIxT ck) (dV 3) (dV 5)) (dV 4)))
@[simp] theorem t_law_seen_1_run (r : Lc) (m : Mem) : t_law_seen_1 r m = (dTst (dOp (gEqA false) (dOp (gIxT ck) (dV 3) (dV 5)) (dV 4))) r m := rfl
noncomputable def e_law_seen_1 : Ev :=
  (dV 5)
@[simp] theorem e_law_seen_1_run (r : Lc) (m : Mem) : e_law_seen_1 r m = (dV 5) r m := rfl
noncomputable def b_law_seen : Bd :=
  (sSeq (sAsg (dOp (gIxT ck) (dCall f_law_scored [] (dCons (dV 0) (dCons (dV 1) (dCons (dV 2) dNil)))) (dK (.int 0))) (gN 3))
  (sSeq (sAsg (dB bMaxL (dCons (dV 3) dNil)) (gN 4))
  (sRet (dLc finF (dRng1 (dB bLenA (dCons (dV 3) dNil))) [5] (gN 5) t_law_seen_1 e_law_seen_1))))
noncomputable def f_law_seen : Fn := fnD 3 6 b_law_seen
noncomputable def e_law_after_heads_1 : Ev :=
  (dOp (gIxT ck) (dV 9) (dK (.int 2)))
@[simp] theorem e_law_after_heads_1_run (r : Lc) (m : Mem) : e_law_after_heads_1 r m = (dOp (gIxT ck) (dV 9) (dK (.int 2))) r m := rfl
noncomputable def w_law_after_heads_2 : Bd :=
  (sAsg (dCall f_law_common [] (dCons (dLst (dCons (dTup (dCons (dK (.int 1)) (dCons (dV 4) dNil))) (dCons (dTup (dCons (dK (.int 1)) (dCons (dOp gMul (dK (.int 2520)) (dCall f_law_common [] (dCons (dLc finF (dWalk (dOp (gIxT ck) (dV 5) (dK (.int 1)))) [9] (gN 9) tAll e_law_after_heads_1) dNil))) dNil))) dNil))) dNil)) (gN 4))
@[simp] theorem w_law_after_heads_2_run (r : Lc) (m : Mem) : w_law_after_heads_2 r m = (sAsg (dCall f_law_common [] (dCons (dLst (dCons (dTup (dCons (dK (.int 1)) (dCons (dV 4) dNil))) (dCons (dTup (dCons (dK (.int 1)) (dCons (dOp gMul (dK (.int 2520)) (dCall f_law_common [] (dCons (dLc finF (dWalk (dOp (gIxT ck) (dV 5) (dK (.int 1)))) [9] (gN 9) tAll e_law_after_heads_1) dNil))) dNil))) dNil))) dNil)) (gN 4)) r m := rfl
noncomputable def e_law_after_heads_3 : Ev :=
  (dOp gMul (dV 9) (dV 4))
@[simp] theorem e_law_after_heads_3_run (r : Lc) (m : Mem) : e_law_after_heads_3 r m = (dOp gMul (dV 9) (dV 4)) r m := rfl
noncomputable def e_law_after_heads_4 : Ev :=
  (dLc finM (dWalk (dV 11)) [9] (gN 9) tAll e_law_after_heads_3)
@[simp] theorem e_law_after_heads_4_run (r : Lc) (m : Mem) : e_law_after_heads_4 r m = (dLc finM (dWalk (dV 11)) [9] (gN 9) tAll e_law_after_heads_3) r m := rfl
noncomputable def e_law_after_heads_5 : Ev :=
  (dOp (gIxT ck) (dOp (gIxT ck) (dV 3) (dV 12)) (dOp (gIxT ck) (dV 9) (dK (.int 1))))
@[simp] theorem e_law_after_heads_5_run (r : Lc) (m : Mem) : e_law_after_heads_5 r m = (dOp (gIxT ck) (dOp (gIxT ck) (dV 3) (dV 12)) (dOp (gIxT ck) (dV 9) (dK (.int 1)))) r m := rfl
noncomputable def w_law_after_heads_6 : Bd :=
  (sSeq (sAsg (dB bSum (dCons (dLc finF (dWalk (dV 8)) [12] (gN 12) tAll e_law_after_heads_5) dNil)) (gN 10))
  (sAugS (dOp (gIxT ck) (dV 6) (dV 7)) (dOp (gIxT ck) (dV 9) (dK (.int 0))) (dOp gMul (dOp gMul (dV 10) (dOp (gIxT ck) (dOp (gIxT ck) (dV 9) (dK (.int 2))) (dK (.int 0)))) (dOp gFdiv (dV 4) (dOp gMul (dOp (gIxT ck) (dOp (gIxT ck) (dV 9) (dK (.int 2))) (dK (.int 1))) (dB bLenA (dCons (dV 8) dNil))))) gAddI))
@[simp] theorem w_law_after_heads_6_run (r : Lc) (m : Mem) : w_law_after_heads_6 r m = (sSeq (sAsg (dB bSum (dCons (dLc finF (dWalk (dV 8)) [12] (gN 12) tAll e_law_after_heads_5) dNil)) (gN 10)) (sAugS (dOp (gIxT ck) (dV 6) (dV 7)) (dOp (gIxT ck) (dV 9) (dK (.int 0))) (dOp gMul (dOp gMul (dV 10) (dOp (gIxT ck) (dOp (gIxT ck) (dV 9) (dK (.int 2))) (dK (.int 0)))) (dOp gFdiv (dV 4) (dOp gMul (dOp (gIxT ck) (dOp (gIxT ck) (dV 9) (dK (.int 2))) (dK (.int 1))) (dB bLenA (dCons (dV 8) dNil))))) gAddI)) r m := rfl
noncomputable def w_law_after_heads_7 : Bd :=
  (sSeq (sAsg (dCall f_law_seen [] (dCons (dV 0) (dCons (dV 5) (dCons (dV 7) dNil)))) (gN 8))
  (sFor (dWalk (dOp (gIxT ck) (dV 5) (dK (.int 1)))) (gN 9)
  w_law_after_heads_6))
@[simp] theorem w_law_after_heads_7_run (r : Lc) (m : Mem) : w_law_after_heads_7 r m = (sSeq (sAsg (dCall f_law_seen [] (dCons (dV 0) (dCons (dV 5) (dCons (dV 7) dNil)))) (gN 8)) (sFor (dWalk (dOp (gIxT ck) (dV 5) (dK (.int 1)))) (gN 9) w_law_after_heads_6)) r m := rfl
noncomputable def w_law_after_heads_8 : Bd :=
  (sFor (dRng1 (dB bLenA (dCons (dV 3) dNil))) (gN 7)
  w_law_after_heads_7)
@[simp] theorem w_law_after_heads_8_run (r : Lc) (m : Mem) : w_law_after_heads_8 r m = (sFor (dRng1 (dB bLenA (dCons (dV 3) dNil))) (gN 7) w_law_after_heads_7) r m := rfl
noncomputable def q_law_after_heads_1 : Bd :=
  (sAsg (dV 0) (gT (gsCons (gN 2) (gsCons (gN 3) gsNil))))
@[simp] theorem q_law_after_heads_1_run (r : Lc) (m : Mem) : q_law_after_heads_1 r m = (sAsg (dV 0) (gT (gsCons (gN 2) (gsCons (gN 3) gsNil)))) r m := rfl
noncomputable def q_law_after_heads_2 : Bd :=
  (sAsg (dK (.int 1)) (gN 4))
@[simp] theorem q_law_after_heads_2_run (r : Lc) (m : Mem) : q_law_after_heads_2 r m = (sAsg (dK (.int 1)) (gN 4)) r m := rfl
noncomputable def q_law_after_heads_3 : Bd :=
  (sFor (dWalk (dV 1)) (gN 5)
  w_law_after_heads_2)
@[simp] theorem q_law_after_heads_3_run (r : Lc) (m : Mem) : q_law_after_heads_3 r m = (sFor (dWalk (dV 1)) (gN 5) w_law_after_heads_2) r m := rfl
noncomputable def q_law_after_heads_4 : Bd :=
  (sAsg (dLc finF (dWalk (dV 3)) [11] (gN 11) tAll e_law_after_heads_4) (gN 6))
@[simp] theorem q_law_after_heads_4_run (r : Lc) (m : Mem) : q_law_after_heads_4 r m = (sAsg (dLc finF (dWalk (dV 3)) [11] (gN 11) tAll e_law_after_heads_4) (gN 6)) r m := rfl
noncomputable def q_law_after_heads_5 : Bd :=
  (sFor (dWalk (dV 1)) (gN 5)
  w_law_after_heads_8)
@[simp] theorem q_law_after_heads_5_run (r : Lc) (m : Mem) : q_law_after_heads_5 r m = (sFor (dWalk (dV 1)) (gN 5) w_law_after_heads_8) r m := rfl
noncomputable def q_law_after_heads_6 : Bd :=
  (sRet (dTup (dCons (dOp gMul (dV 2) (dV 4)) (dCons (dV 6) dNil))))
@[simp] theorem q_law_after_heads_6_run (r : Lc) (m : Mem) : q_law_after_heads_6 r m = (sRet (dTup (dCons (dOp gMul (dV 2) (dV 4)) (dCons (dV 6) dNil)))) r m := rfl
noncomputable def b_law_after_heads : Bd :=
  (sSeq q_law_after_heads_1
  (sSeq q_law_after_heads_2
  (sSeq q_law_after_heads_3
  (sSeq q_law_after_heads_4
  (sSeq q_law_after_heads_5
  q_law_after_heads_6)))))
noncomputable def f_law_after_heads : Fn := fnD 2 13 b_law_after_heads
noncomputable def b_law_same : Bd :=
  (sRet (dAndV (dCall f_law_is_fraction [] (dCons (dV 0) dNil)) (dOp (gEqA false) (dOp gMul (dOp (gIxT ck) (dV 0) (dK (.int 0))) (dV 2)) (dOp gMul (dV 1) (dOp (gIxT ck) (dV 0) (dK (.int 1)))))))
noncomputable def f_law_same : Fn := fnD 3 3 b_law_same
noncomputable def e_law_row_same_1 : Ev :=
  (dCall f_law_same [] (dCons (dV 3) (dCons (dV 4) (dCons (dV 2) dNil))))
@[simp] theorem e_law_row_same_1_run (r : Lc) (m : Mem) : e_law_row_same_1 r m = (dCall f_law_same [] (dCons (dV 3) (dCons (dV 4) (dCons (dV 2) dNil)))) r m := rfl
noncomputable def b_law_row_same : Bd :=
  (sSeq (sIf (dOr (dNot (dTru (dB bIsi (dCons (dV 0) (dCons (dK (.ty "tuple")) dNil))))) (dTst (dOp (gEqA true) (dB bLenA (dCons (dV 0) dNil)) (dB bLenA (dCons (dV 1) dNil)))))
  (sRet (dK (.bl false)))
  sNil)
  (sRet (dB bAll (dCons (dLc finF (dZip2 (dV 0) (dV 1)) [3, 4] (gT (gsCons (gN 3) (gsCons (gN 4) gsNil))) tAll e_law_row_same_1) dNil))))
noncomputable def f_law_row_same : Fn := fnD 3 5 b_law_row_same
noncomputable def e_law_rows_same_1 : Ev :=
  (dCall f_law_row_same [] (dCons (dV 2) (dCons (dV 3) (dCons (dOp (gIxT ck) (dV 1) (dK (.int 0))) dNil))))
@[simp] theorem e_law_rows_same_1_run (r : Lc) (m : Mem) : e_law_rows_same_1 r m = (dCall f_law_row_same [] (dCons (dV 2) (dCons (dV 3) (dCons (dOp (gIxT ck) (dV 1) (dK (.int 0))) dNil)))) r m := rfl
noncomputable def b_law_rows_same : Bd :=
  (sSeq (sIf (dOr (dNot (dTru (dB bIsi (dCons (dV 0) (dCons (dK (.ty "list")) dNil))))) (dTst (dOp (gEqA true) (dB bLenA (dCons (dV 0) dNil)) (dB bLenA (dCons (dOp (gIxT ck) (dV 1) (dK (.int 1))) dNil)))))
  (sRet (dK (.bl false)))
  sNil)
  (sRet (dB bAll (dCons (dLc finF (dZip2 (dV 0) (dOp (gIxT ck) (dV 1) (dK (.int 1)))) [2, 3] (gT (gsCons (gN 2) (gsCons (gN 3) gsNil))) tAll e_law_rows_same_1) dNil))))
noncomputable def f_law_rows_same : Fn := fnD 2 4 b_law_rows_same
noncomputable def b_law_light : Bd :=
  (sSeq (sIf (dTst (dOp (gCmp fun i j => decide (i > j)) (dCall f_law_draw [] (dCons (dV 0) (dCons (dK (.int 3)) dNil))) (dK (.int 0))))
  (sRet (dTup (dCons (dOp gSub (dCall f_law_draw [] (dCons (dV 0) (dCons (dK (.int 5)) dNil))) (dK (.int 2))) (dCons (dK (.int 1)) dNil))))
  sNil)
  (sSeq (sIf (dTst (dOp (gEqA false) (dCall f_law_draw [] (dCons (dV 0) (dCons (dK (.int 9)) dNil))) (dK (.int 0))))
  (sRet (dCall f_law_low [] (dCons (dOp gSub (dCall f_law_draw [] (dCons (dV 0) (dCons (dK (.int 4001)) dNil))) (dK (.int 2000))) (dCons (dOp (gAdd finF) (dK (.int 1)) (dCall f_law_draw [] (dCons (dV 0) (dCons (dK (.int 97)) dNil)))) dNil))))
  sNil)
  (sRet (dCall f_law_low [] (dCons (dOp gSub (dCall f_law_draw [] (dCons (dV 0) (dCons (dK (.int 9)) dNil))) (dK (.int 4))) (dCons (dOp (gAdd finF) (dK (.int 1)) (dCall f_law_draw [] (dCons (dV 0) (dCons (dK (.int 4)) dNil)))) dNil))))))
noncomputable def f_law_light : Fn := fnD 1 1 b_law_light
noncomputable def e_law_lights_1 : Ev :=
  (dCall f_law_draw [] (dCons (dV 0) (dCons (dV 2) dNil)))
@[simp] theorem e_law_lights_1_run (r : Lc) (m : Mem) : e_law_lights_1 r m = (dCall f_law_draw [] (dCons (dV 0) (dCons (dV 2) dNil))) r m := rfl
noncomputable def w_law_lights_2 : Bd :=
  (sExpr (dM isL (gChg hApp) (dV 4) (dCons (dOp (gAdd finF) (dB bTup (dCons (dLc finF (dRng1 (dV 1)) [6] (gN 6) tAll e_law_lights_1) dNil)) (dTup (dCons (dCall f_law_light [] (dCons (dV 0) dNil)) dNil))) dNil)))
@[simp] theorem w_law_lights_2_run (r : Lc) (m : Mem) : w_law_lights_2 r m = (sExpr (dM isL (gChg hApp) (dV 4) (dCons (dOp (gAdd finF) (dB bTup (dCons (dLc finF (dRng1 (dV 1)) [6] (gN 6) tAll e_law_lights_1) dNil)) (dTup (dCons (dCall f_law_light [] (dCons (dV 0) dNil)) dNil))) dNil))) r m := rfl
noncomputable def b_law_lights : Bd :=
  (sSeq (sAsg (dLstM dNil) (gN 4))
  (sSeq (sFor (dRng1 (dCall f_law_draw [] (dCons (dV 0) (dCons (dOp (gAdd finF) (dV 3) (dK (.int 1))) dNil)))) (gN 5)
  w_law_lights_2)
  (sRet (dV 4))))
noncomputable def f_law_lights : Fn := fnD 4 7 b_law_lights
noncomputable def e_law_rows_1 : Ev :=
  (dCall f_law_light [] (dCons (dV 0) dNil))
@[simp] theorem e_law_rows_1_run (r : Lc) (m : Mem) : e_law_rows_1 r m = (dCall f_law_light [] (dCons (dV 0) dNil)) r m := rfl
noncomputable def w_law_rows_2 : Bd :=
  (sSeq (sAsg (dCall f_law_draw [] (dCons (dV 0) (dCons (dK (.int 4)) dNil))) (gN 5))
  (sSeq (sIf (dAnd (dTst (dOp (gCmp fun i j => decide (i > j)) (dV 5) (dK (.int 1)))) (dTst (dOp (gCmp fun i j => decide (i > j)) (dV 4) (dK (.int 0)))))
  (sSeq (sAsg (dB (bLstA finM) (dCons (dCall f_law_of [] (dCons (dV 0) (dCons (dV 3) dNil))) dNil)) (gN 6))
  (sIf (dTst (dOp (gEqA false) (dV 5) (dK (.int 3))))
  (sAsg (dCall f_law_light [] (dCons (dV 0) dNil)) (gSub' (dV 6) (dCall f_law_draw [] (dCons (dV 0) (dCons (dV 2) dNil))) (gSetT ck)))
  sNil))
  (sAsg (dLc finM (dRng1 (dV 2)) [7] (gN 7) tAll e_law_rows_1) (gN 6)))
  (sExpr (dM isL (gChg hApp) (dV 3) (dCons (dB bTup (dCons (dV 6) dNil)) dNil)))))
@[simp] theorem w_law_rows_2_run (r : Lc) (m : Mem) : w_law_rows_2 r m = (sSeq (sAsg (dCall f_law_draw [] (dCons (dV 0) (dCons (dK (.int 4)) dNil))) (gN 5)) (sSeq (sIf (dAnd (dTst (dOp (gCmp fun i j => decide (i > j)) (dV 5) (dK (.int 1)))) (dTst (dOp (gCmp fun i j => decide (i > j)) (dV 4) (dK (.int 0))))) (sSeq (sAsg (dB (bLstA finM) (dCons (dCall f_law_of [] (dCons (dV 0) (dCons (dV 3) dNil))) dNil)) (gN 6)) (sIf (dTst (dOp (gEqA false) (dV 5) (dK (.int 3)))) (sAsg (dCall f_law_light [] (dCons (dV 0) dNil)) (gSub' (dV 6) (dCall f_law_draw [] (dCons (dV 0) (dCons (dV 2) dNil))) (gSetT ck))) sNil)) (sAsg (dLc finM (dRng1 (dV 2)) [7] (gN 7) tAll e_law_rows_1) (gN 6))) (sExpr (dM isL (gChg hApp) (dV 3) (dCons (dB bTup (dCons (dV 6) dNil)) dNil))))) r m := rfl
noncomputable def b_law_rows : Bd :=
  (sSeq (sAsg (dLstM dNil) (gN 3))
  (sSeq (sFor (dRng1 (dV 1)) (gN 4)
  w_law_rows_2)
  (sRet (dV 3))))
noncomputable def f_law_rows : Fn := fnM 3 8 b_law_rows
noncomputable def b_law_head : Bd :=
  (sRet (dTup (dCons (dB bTup (dCons (dCall f_law_lights [] (dCons (dV 0) (dCons (dK (.int 2)) (dCons (dV 1) (dCons (dK (.int 5)) dNil))))) dNil)) (dCons (dB bTup (dCons (dCall f_law_lights [] (dCons (dV 0) (dCons (dK (.int 2)) (dCons (dV 1) (dCons (dK (.int 4)) dNil))))) dNil)) dNil))))
noncomputable def f_law_head : Fn := fnD 2 2 b_law_head
noncomputable def w_law_look_fits_1 : Bd :=
  (sIf (dTst (dOp (gEqA true) (dOp (gIxT ck) (dV 7) (dM isL gIdx (dV 1) (dCons (dOp (gIxT ck) (dV 1) (dV 8)) dNil))) (dOp (gIxT ck) (dV 7) (dV 8))))
  (sRet (dK (.bl false)))
  sNil)
@[simp] theorem w_law_look_fits_1_run (r : Lc) (m : Mem) : w_law_look_fits_1 r m = (sIf (dTst (dOp (gEqA true) (dOp (gIxT ck) (dV 7) (dM isL gIdx (dV 1) (dCons (dOp (gIxT ck) (dV 1) (dV 8)) dNil))) (dOp (gIxT ck) (dV 7) (dV 8)))) (sRet (dK (.bl false))) sNil) r m := rfl
noncomputable def t_law_look_fits_2 : EvG Bool :=
  (dTst (dOp (gEqA false) (dOp (gIxT ck) (dV 5) (dV 8)) (dV 10)))
@[simp] theorem t_law_look_fits_2_run (r : Lc) (m : Mem) : t_law_look_fits_2 r m = (dTst (dOp (gEqA false) (dOp (gIxT ck) (dV 5) (dV 8)) (dV 10))) r m := rfl
noncomputable def e_law_look_fits_2 : Ev :=
  (dV 8)
@[simp] theorem e_law_look_fits_2_run (r : Lc) (m : Mem) : e_law_look_fits_2 r m = (dV 8) r m := rfl
noncomputable def q_law_look_fits_1 : Bd :=
  (sAsg (dCall f_law_scored [] (dCons (dV 2) (dCons (dV 3) (dCons (dV 4) dNil)))) (gT (gsCons (gN 5) (gsCons (gN 6) gsNil))))
@[simp] theorem q_law_look_fits_1_run (r : Lc) (m : Mem) : q_law_look_fits_1 r m = (sAsg (dCall f_law_scored [] (dCons (dV 2) (dCons (dV 3) (dCons (dV 4) dNil)))) (gT (gsCons (gN 5) (gsCons (gN 6) gsNil)))) r m := rfl
noncomputable def q_law_look_fits_2 : Bd :=
  (sAsg (dIf (dTst (dOp (gEqA false) (dCall f_law_draw [] (dCons (dV 0) (dCons (dK (.int 9)) dNil))) (dK (.int 0)))) (dCallK0 f_scores g_k0 (dCons (dV 1) (dCons (dV 3) (dCons (dV 4) dNil)))) (dCall f_scores [] (dCons (dV 1) (dCons (dV 3) (dCons (dV 4) dNil))))) (gN 7))
@[simp] theorem q_law_look_fits_2_run (r : Lc) (m : Mem) : q_law_look_fits_2 r m = (sAsg (dIf (dTst (dOp (gEqA false) (dCall f_law_draw [] (dCons (dV 0) (dCons (dK (.int 9)) dNil))) (dK (.int 0)))) (dCallK0 f_scores g_k0 (dCons (dV 1) (dCons (dV 3) (dCons (dV 4) dNil)))) (dCall f_scores [] (dCons (dV 1) (dCons (dV 3) (dCons (dV 4) dNil))))) (gN 7)) r m := rfl
noncomputable def q_law_look_fits_3 : Bd :=
  (sIf (dOr (dNot (dTru (dB bIsi (dCons (dV 7) (dCons (dK (.ty "list")) dNil))))) (dNot (dTru (dCall f_law_row_same [] (dCons (dB bTup (dCons (dV 7) dNil)) (dCons (dV 5) (dCons (dV 6) dNil)))))))
  (sRet (dK (.bl false)))
  sNil)
@[simp] theorem q_law_look_fits_3_run (r : Lc) (m : Mem) : q_law_look_fits_3 r m = (sIf (dOr (dNot (dTru (dB bIsi (dCons (dV 7) (dCons (dK (.ty "list")) dNil))))) (dNot (dTru (dCall f_law_row_same [] (dCons (dB bTup (dCons (dV 7) dNil)) (dCons (dV 5) (dCons (dV 6) dNil))))))) (sRet (dK (.bl false))) sNil) r m := rfl
noncomputable def q_law_look_fits_4 : Bd :=
  (sFor (dRng1 (dB bLenA (dCons (dV 1) dNil))) (gN 8)
  w_law_look_fits_1)
@[simp] theorem q_law_look_fits_4_run (r : Lc) (m : Mem) : q_law_look_fits_4 r m = (sFor (dRng1 (dB bLenA (dCons (dV 1) dNil))) (gN 8) w_law_look_fits_1) r m := rfl
noncomputable def q_law_look_fits_5 : Bd :=
  (sAsg (dIf (dTst (dOp (gEqA false) (dCall f_law_draw [] (dCons (dV 0) (dCons (dK (.int 9)) dNil))) (dK (.int 0)))) (dCallK0 f_looked_at g_k1 (dCons (dV 1) (dCons (dV 3) (dCons (dV 4) dNil)))) (dCall f_looked_at [] (dCons (dV 1) (dCons (dV 3) (dCons (dV 4) dNil))))) (gN 9))
@[simp] theorem q_law_look_fits_5_run (r : Lc) (m : Mem) : q_law_look_fits_5 r m = (sAsg (dIf (dTst (dOp (gEqA false) (dCall f_law_draw [] (dCons (dV 0) (dCons (dK (.int 9)) dNil))) (dK (.int 0)))) (dCallK0 f_looked_at g_k1 (dCons (dV 1) (dCons (dV 3) (dCons (dV 4) dNil)))) (dCall f_looked_at [] (dCons (dV 1) (dCons (dV 3) (dCons (dV 4) dNil))))) (gN 9)) r m := rfl
noncomputable def q_law_look_fits_6 : Bd :=
  (sAsg (dB bMaxL (dCons (dV 5) dNil)) (gN 10))
@[simp] theorem q_law_look_fits_6_run (r : Lc) (m : Mem) : q_law_look_fits_6 r m = (sAsg (dB bMaxL (dCons (dV 5) dNil)) (gN 10)) r m := rfl
noncomputable def q_law_look_fits_7 : Bd :=
  (sIf (dNot (dTru (dCall f_law_like [] (dCons (dV 9) (dCons (dLc finF (dRng1 (dB bLenA (dCons (dV 5) dNil))) [8] (gN 8) t_law_look_fits_2 e_law_look_fits_2) dNil)))))
  (sRet (dK (.bl false)))
  sNil)
@[simp] theorem q_law_look_fits_7_run (r : Lc) (m : Mem) : q_law_look_fits_7 r m = (sIf (dNot (dTru (dCall f_law_like [] (dCons (dV 9) (dCons (dLc finF (dRng1 (dB bLenA (dCons (dV 5) dNil))) [8] (gN 8) t_law_look_fits_2 e_law_look_fits_2) dNil))))) (sRet (dK (.bl false))) sNil) r m := rfl
noncomputable def q_law_look_fits_8 : Bd :=
  (sExpr (dM isL (gChg hApp) (dV 9) (dCons (dV 4) dNil)))
@[simp] theorem q_law_look_fits_8_run (r : Lc) (m : Mem) : q_law_look_fits_8 r m = (sExpr (dM isL (gChg hApp) (dV 9) (dCons (dV 4) dNil))) r m := rfl
noncomputable def q_law_look_fits_9 : Bd :=
  (sRet (dCall f_law_like [] (dCons (dCall f_looked_at [] (dCons (dV 1) (dCons (dV 3) (dCons (dV 4) dNil)))) (dCons (dSl (gSl finF) (dV 9) dNo (dPart (dUn gNeg (dK (.int 1))))) dNil))))
@[simp] theorem q_law_look_fits_9_run (r : Lc) (m : Mem) : q_law_look_fits_9 r m = (sRet (dCall f_law_like [] (dCons (dCall f_looked_at [] (dCons (dV 1) (dCons (dV 3) (dCons (dV 4) dNil)))) (dCons (dSl (gSl finF) (dV 9) dNo (dPart (dUn gNeg (dK (.int 1))))) dNil)))) r m := rfl
noncomputable def b_law_look_fits : Bd :=
  (sSeq q_law_look_fits_1
  (sSeq q_law_look_fits_2
  (sSeq q_law_look_fits_3
  (sSeq q_law_look_fits_4
  (sSeq q_law_look_fits_5
  (sSeq q_law_look_fits_6
  (sSeq q_law_look_fits_7
  (sSeq q_law_look_fits_8
  q_law_look_fits_9))))))))
noncomputable def f_law_look_fits : Fn := fnD 5 11 b_law_look_fits
noncomputable def t_law_raised_1 : EvG Bool :=
  (dOr (dTst (dOp (gCmp fun i j => decide (i ≥ j)) (dB bAbs (dCons (dOp (gIxT ck) (dOp (gIxT ck) (dV 2) (dK (.int 2))) (dK (.int 0))) dNil)) (dOp gPow (dK (.int 10)) (dK (.int 17))))) (dTst (dOp (gCmp fun i j => decide (i ≥ j)) (dOp (gIxT ck) (dOp (gIxT ck) (dV 2) (dK (.int 2))) (dK (.int 1))) (dOp gPow (dK (.int 10)) (dK (.int 17))))))
@[simp] theorem t_law_raised_1_run (r : Lc) (m : Mem) : t_law_raised_1 r m = (dOr (dTst (dOp (gCmp fun i j => decide (i ≥ j)) (dB bAbs (dCons (dOp (gIxT ck) (dOp (gIxT ck) (dV 2) (dK (.int 2))) (dK (.int 0))) dNil)) (dOp gPow (dK (.int 10)) (dK (.int 17))))) (dTst (dOp (gCmp fun i j => decide (i ≥ j)) (dOp (gIxT ck) (dOp (gIxT ck) (dV 2) (dK (.int 2))) (dK (.int 1))) (dOp gPow (dK (.int 10)) (dK (.int 17)))))) r m := rfl
noncomputable def e_law_raised_1 : Ev :=
  (dV 2)
@[simp] theorem e_law_raised_1_run (r : Lc) (m : Mem) : e_law_raised_1 r m = (dV 2) r m := rfl
noncomputable def e_law_raised_2 : Ev :=
  (dOp (gAdd finF) (dSl (gSl finF) (dV 2) dNo (dPart (dK (.int 2)))) (dTup (dCons (dCall f_law_low [] (dCons (dOp gMul (dOp (gIxT ck) (dOp (gIxT ck) (dV 2) (dK (.int 2))) (dK (.int 0))) (dOp (gIxT ck) (dV 1) (dK (.int 0)))) (dCons (dOp gMul (dOp (gIxT ck) (dOp (gIxT ck) (dV 2) (dK (.int 2))) (dK (.int 1))) (dOp (gIxT ck) (dV 1) (dK (.int 1)))) dNil))) dNil)))
@[simp] theorem e_law_raised_2_run (r : Lc) (m : Mem) : e_law_raised_2 r m = (dOp (gAdd finF) (dSl (gSl finF) (dV 2) dNo (dPart (dK (.int 2)))) (dTup (dCons (dCall f_law_low [] (dCons (dOp gMul (dOp (gIxT ck) (dOp (gIxT ck) (dV 2) (dK (.int 2))) (dK (.int 0))) (dOp (gIxT ck) (dV 1) (dK (.int 0)))) (dCons (dOp gMul (dOp (gIxT ck) (dOp (gIxT ck) (dV 2) (dK (.int 2))) (dK (.int 1))) (dOp (gIxT ck) (dV 1) (dK (.int 1)))) dNil))) dNil))) r m := rfl
noncomputable def b_law_raised : Bd :=
  (sSeq (sIf (dTru (dLc finF (dWalk (dV 0)) [2] (gN 2) t_law_raised_1 e_law_raised_1))
  (sRet (dV 0))
  sNil)
  (sRet (dB bTup (dCons (dLc finF (dWalk (dV 0)) [2] (gN 2) tAll e_law_raised_2) dNil))))
noncomputable def f_law_raised : Fn := fnD 2 3 b_law_raised
noncomputable def e_law_1 : Ev :=
  (dCall f_law_head [] (dCons (dV 1) (dCons (dV 2) dNil)))
@[simp] theorem e_law_1_run (r : Lc) (m : Mem) : e_law_1 r m = (dCall f_law_head [] (dCons (dV 1) (dCons (dV 2) dNil))) r m := rfl
noncomputable def w_law_2 : Bd :=
  (sIf (dNot (dTru (dCall f_law_look_fits [] (dCons (dV 1) (dCons (dV 3) (dCons (dV 7) (dCons (dV 8) (dCons (dV 9) dNil))))))))
  (sRet (dK (.bl false)))
  sNil)
@[simp] theorem w_law_2_run (r : Lc) (m : Mem) : w_law_2 r m = (sIf (dNot (dTru (dCall f_law_look_fits [] (dCons (dV 1) (dCons (dV 3) (dCons (dV 7) (dCons (dV 8) (dCons (dV 9) dNil)))))))) (sRet (dK (.bl false))) sNil) r m := rfl
noncomputable def w_law_3 : Bd :=
  (sFor (dRng1 (dB bLenA (dCons (dV 3) dNil))) (gN 9)
  w_law_2)
@[simp] theorem w_law_3_run (r : Lc) (m : Mem) : w_law_3 r m = (sFor (dRng1 (dB bLenA (dCons (dV 3) dNil))) (gN 9) w_law_2) r m := rfl
noncomputable def w_law_4 : Bd :=
  (sSeq (sAsg (dCall f_law_draw [] (dCons (dV 1) (dCons (dOp (gAdd finF) (dB bLenA (dCons (dOp (gIxT ck) (dV 15) (dK (.int 1))) dNil)) (dK (.int 1))) dNil))) (gN 9))
  (sAsg (dOp (gAdd finF) (dV 14) (dLst (dCons (dTup (dCons (dOp (gIxT ck) (dV 15) (dK (.int 0))) (dCons (dSl (gSl finF) (dOp (gIxT ck) (dV 15) (dK (.int 1))) (dPart (dV 9)) dNo) dNil))) (dCons (dTup (dCons (dRev finF (dOp (gIxT ck) (dV 15) (dK (.int 0))) (dPart (dUn gNeg (dK (.int 1))))) (dCons (dSl (gSl finF) (dOp (gIxT ck) (dV 15) (dK (.int 1))) dNo (dPart (dV 9))) dNil))) dNil)))) (gN 14)))
@[simp] theorem w_law_4_run (r : Lc) (m : Mem) : w_law_4 r m = (sSeq (sAsg (dCall f_law_draw [] (dCons (dV 1) (dCons (dOp (gAdd finF) (dB bLenA (dCons (dOp (gIxT ck) (dV 15) (dK (.int 1))) dNil)) (dK (.int 1))) dNil))) (gN 9)) (sAsg (dOp (gAdd finF) (dV 14) (dLst (dCons (dTup (dCons (dOp (gIxT ck) (dV 15) (dK (.int 0))) (dCons (dSl (gSl finF) (dOp (gIxT ck) (dV 15) (dK (.int 1))) (dPart (dV 9)) dNo) dNil))) (dCons (dTup (dCons (dRev finF (dOp (gIxT ck) (dV 15) (dK (.int 0))) (dPart (dUn gNeg (dK (.int 1))))) (dCons (dSl (gSl finF) (dOp (gIxT ck) (dV 15) (dK (.int 1))) dNo (dPart (dV 9))) dNil))) dNil)))) (gN 14))) r m := rfl
noncomputable def e_law_5 : Ev :=
  (dOp (gAdd finF) (dSl (gSl finF) (dV 15) dNo (dPart (dK (.int 2)))) (dTup (dCons (dTup (dCons (dUn gNeg (dOp (gIxT ck) (dOp (gIxT ck) (dV 15) (dK (.int 2))) (dK (.int 0)))) (dCons (dOp (gIxT ck) (dOp (gIxT ck) (dV 15) (dK (.int 2))) (dK (.int 1))) dNil))) dNil)))
@[simp] theorem e_law_5_run (r : Lc) (m : Mem) : e_law_5 r m = (dOp (gAdd finF) (dSl (gSl finF) (dV 15) dNo (dPart (dK (.int 2)))) (dTup (dCons (dTup (dCons (dUn gNeg (dOp (gIxT ck) (dOp (gIxT ck) (dV 15) (dK (.int 2))) (dK (.int 0)))) (dCons (dOp (gIxT ck) (dOp (gIxT ck) (dV 15) (dK (.int 2))) (dK (.int 1))) dNil))) dNil))) r m := rfl
noncomputable def w_law_6 : Bd :=
  (sSeq (sAsg (dLc finF (dWalk (dOp (gIxT ck) (dV 8) (dK (.int 1)))) [15] (gN 15) tAll e_law_5) (gN 17))
  (sAsg (dOp (gAdd finF) (dV 14) (dLst (dCons (dTup (dCons (dCall f_law_raised [] (dCons (dOp (gIxT ck) (dV 8) (dK (.int 0))) (dCons (dV 16) dNil))) (dCons (dOp (gIxT ck) (dV 8) (dK (.int 1))) dNil))) (dCons (dTup (dCons (dOp (gIxT ck) (dV 8) (dK (.int 0))) (dCons (dB bTup (dCons (dV 17) dNil)) dNil))) dNil)))) (gN 14)))
@[simp] theorem w_law_6_run (r : Lc) (m : Mem) : w_law_6 r m = (sSeq (sAsg (dLc finF (dWalk (dOp (gIxT ck) (dV 8) (dK (.int 1)))) [15] (gN 15) tAll e_law_5) (gN 17)) (sAsg (dOp (gAdd finF) (dV 14) (dLst (dCons (dTup (dCons (dCall f_law_raised [] (dCons (dOp (gIxT ck) (dV 8) (dK (.int 0))) (dCons (dV 16) dNil))) (dCons (dOp (gIxT ck) (dV 8) (dK (.int 1))) dNil))) (dCons (dTup (dCons (dOp (gIxT ck) (dV 8) (dK (.int 0))) (dCons (dB bTup (dCons (dV 17) dNil)) dNil))) dNil)))) (gN 14))) r m := rfl
noncomputable def q_law_1 : Bd :=
  (sAsg (dCall f_law_bag [] (dCons (dV 0) dNil)) (gN 1))
@[simp] theorem q_law_1_run (r : Lc) (m : Mem) : q_law_1 r m = (sAsg (dCall f_law_bag [] (dCons (dV 0) dNil)) (gN 1)) r m := rfl
noncomputable def q_law_2 : Bd :=
  (sAsg (dOp (gAdd finF) (dK (.int 1)) (dCall f_law_draw [] (dCons (dV 1) (dCons (dK (.int 5)) dNil)))) (gN 2))
@[simp] theorem q_law_2_run (r : Lc) (m : Mem) : q_law_2 r m = (sAsg (dOp (gAdd finF) (dK (.int 1)) (dCall f_law_draw [] (dCons (dV 1) (dCons (dK (.int 5)) dNil)))) (gN 2)) r m := rfl
noncomputable def q_law_3 : Bd :=
  (sAsg (dCall f_law_rows [] (dCons (dV 1) (dCons (dOp (gAdd finF) (dOp (gAdd finF) (dK (.int 1)) (dCall f_law_draw [] (dCons (dV 1) (dCons (dK (.int 5)) dNil)))) (dCall f_law_of [] (dCons (dV 1) (dCons (dLst (dCons (dK (.int 0)) (dCons (dK (.int 0)) (dCons (dK (.int 0)) (dCons (dK (.int 0)) (dCons (dK (.int 0)) (dCons (dK (.int 0)) (dCons (dK (.int 2)) (dCons (dK (.int 4)) dNil))))))))) dNil)))) (dCons (dV 2) dNil)))) (gN 3))
@[simp] theorem q_law_3_run (r : Lc) (m : Mem) : q_law_3 r m = (sAsg (dCall f_law_rows [] (dCons (dV 1) (dCons (dOp (gAdd finF) (dOp (gAdd finF) (dK (.int 1)) (dCall f_law_draw [] (dCons (dV 1) (dCons (dK (.int 5)) dNil)))) (dCall f_law_of [] (dCons (dV 1) (dCons (dLst (dCons (dK (.int 0)) (dCons (dK (.int 0)) (dCons (dK (.int 0)) (dCons (dK (.int 0)) (dCons (dK (.int 0)) (dCons (dK (.int 0)) (dCons (dK (.int 2)) (dCons (dK (.int 4)) dNil))))))))) dNil)))) (dCons (dV 2) dNil)))) (gN 3)) r m := rfl
noncomputable def q_law_4 : Bd :=
  (sIf (dTst (dOp (gEqA false) (dCall f_law_draw [] (dCons (dV 1) (dCons (dK (.int 6)) dNil))) (dK (.int 0))))
  (sSeq (sPar 4 5 (dCons (dCall f_law_draw [] (dCons (dV 1) (dCons (dB bLenA (dCons (dV 3) dNil)) dNil))) (dCons (dCall f_law_draw [] (dCons (dV 1) (dCons (dV 2) dNil))) dNil)))
  (sAsg (dOp (gAdd finF) (dOp (gAdd finF) (dSl (gSl finF) (dOp (gIxT ck) (dV 3) (dV 4)) dNo (dPart (dV 5))) (dTup (dCons (dCall f_law_factor [] (dCons (dV 1) dNil)) dNil))) (dSl (gSl finF) (dOp (gIxT ck) (dV 3) (dV 4)) (dPart (dOp (gAdd finF) (dV 5) (dK (.int 1)))) dNo)) (gSub' (dV 3) (dV 4) (gSetT ck))))
  sNil)
@[simp] theorem q_law_4_run (r : Lc) (m : Mem) : q_law_4 r m = (sIf (dTst (dOp (gEqA false) (dCall f_law_draw [] (dCons (dV 1) (dCons (dK (.int 6)) dNil))) (dK (.int 0)))) (sSeq (sPar 4 5 (dCons (dCall f_law_draw [] (dCons (dV 1) (dCons (dB bLenA (dCons (dV 3) dNil)) dNil))) (dCons (dCall f_law_draw [] (dCons (dV 1) (dCons (dV 2) dNil))) dNil))) (sAsg (dOp (gAdd finF) (dOp (gAdd finF) (dSl (gSl finF) (dOp (gIxT ck) (dV 3) (dV 4)) dNo (dPart (dV 5))) (dTup (dCons (dCall f_law_factor [] (dCons (dV 1) dNil)) dNil))) (dSl (gSl finF) (dOp (gIxT ck) (dV 3) (dV 4)) (dPart (dOp (gAdd finF) (dV 5) (dK (.int 1)))) dNo)) (gSub' (dV 3) (dV 4) (gSetT ck)))) sNil) r m := rfl
noncomputable def q_law_5 : Bd :=
  (sAsg (dLc finM (dRng1 (dOp (gAdd finF) (dK (.int 1)) (dCall f_law_draw [] (dCons (dV 1) (dCons (dK (.int 2)) dNil))))) [4] (gN 4) tAll e_law_1) (gN 6))
@[simp] theorem q_law_5_run (r : Lc) (m : Mem) : q_law_5 r m = (sAsg (dLc finM (dRng1 (dOp (gAdd finF) (dK (.int 1)) (dCall f_law_draw [] (dCons (dV 1) (dCons (dK (.int 2)) dNil))))) [4] (gN 4) tAll e_law_1) (gN 6)) r m := rfl
noncomputable def q_law_6 : Bd :=
  (sIf (dTst (dOp (gEqA false) (dCall f_law_draw [] (dCons (dV 1) (dCons (dK (.int 3)) dNil))) (dK (.int 0))))
  (sExpr (dM isL (gChg hApp) (dV 6) (dCons (dTup (dCons (dOp (gIxT ck) (dOp (gIxT ck) (dV 6) (dK (.int 0))) (dK (.int 0))) (dCons (dOp (gIxT ck) (dCall f_law_head [] (dCons (dV 1) (dCons (dV 2) dNil))) (dK (.int 1))) dNil))) dNil)))
  sNil)
@[simp] theorem q_law_6_run (r : Lc) (m : Mem) : q_law_6 r m = (sIf (dTst (dOp (gEqA false) (dCall f_law_draw [] (dCons (dV 1) (dCons (dK (.int 3)) dNil))) (dK (.int 0)))) (sExpr (dM isL (gChg hApp) (dV 6) (dCons (dTup (dCons (dOp (gIxT ck) (dOp (gIxT ck) (dV 6) (dK (.int 0))) (dK (.int 0))) (dCons (dOp (gIxT ck) (dCall f_law_head [] (dCons (dV 1) (dCons (dV 2) dNil))) (dK (.int 1))) dNil))) dNil))) sNil) r m := rfl
noncomputable def q_law_7 : Bd :=
  (sAsg (dCall f_law_state [] (dCons (dV 3) dNil)) (gN 7))
@[simp] theorem q_law_7_run (r : Lc) (m : Mem) : q_law_7 r m = (sAsg (dCall f_law_state [] (dCons (dV 3) dNil)) (gN 7)) r m := rfl
noncomputable def q_law_8 : Bd :=
  (sFor (dWalk (dV 6)) (gN 8)
  w_law_3)
@[simp] theorem q_law_8_run (r : Lc) (m : Mem) : q_law_8 r m = (sFor (dWalk (dV 6)) (gN 8) w_law_3) r m := rfl
noncomputable def q_law_9 : Bd :=
  (sAsg (dCall f_law_after_heads [] (dCons (dV 7) (dCons (dV 6) dNil))) (gN 10))
@[simp] theorem q_law_9_run (r : Lc) (m : Mem) : q_law_9 r m = (sAsg (dCall f_law_after_heads [] (dCons (dV 7) (dCons (dV 6) dNil))) (gN 10)) r m := rfl
noncomputable def q_law_10 : Bd :=
  (sAsg (dB (bLstA finF) (dCons (dV 3) dNil)) (gN 11))
@[simp] theorem q_law_10_run (r : Lc) (m : Mem) : q_law_10 r m = (sAsg (dB (bLstA finF) (dCons (dV 3) dNil)) (gN 11)) r m := rfl
noncomputable def q_law_11 : Bd :=
  (sAsg (dCall f_heads_done [] (dCons (dV 11) (dCons (dV 6) dNil))) (gN 12))
@[simp] theorem q_law_11_run (r : Lc) (m : Mem) : q_law_11 r m = (sAsg (dCall f_heads_done [] (dCons (dV 11) (dCons (dV 6) dNil))) (gN 12)) r m := rfl
noncomputable def q_law_12 : Bd :=
  (sIf (dOr (dNot (dTru (dCall f_law_rows_same [] (dCons (dV 12) (dCons (dV 10) dNil))))) (dNot (dTru (dCall f_law_like [] (dCons (dV 11) (dCons (dV 3) dNil))))))
  (sRet (dK (.bl false)))
  sNil)
@[simp] theorem q_law_12_run (r : Lc) (m : Mem) : q_law_12 r m = (sIf (dOr (dNot (dTru (dCall f_law_rows_same [] (dCons (dV 12) (dCons (dV 10) dNil))))) (dNot (dTru (dCall f_law_like [] (dCons (dV 11) (dCons (dV 3) dNil)))))) (sRet (dK (.bl false))) sNil) r m := rfl
noncomputable def q_law_13 : Bd :=
  (sAsg (dB (bLstA finF) (dCons (dV 12) dNil)) (gN 13))
@[simp] theorem q_law_13_run (r : Lc) (m : Mem) : q_law_13 r m = (sAsg (dB (bLstA finF) (dCons (dV 12) dNil)) (gN 13)) r m := rfl
noncomputable def q_law_14 : Bd :=
  (sExpr (dM isL (gChg hClr) (dV 12) dNil))
@[simp] theorem q_law_14_run (r : Lc) (m : Mem) : q_law_14 r m = (sExpr (dM isL (gChg hClr) (dV 12) dNil)) r m := rfl
noncomputable def q_law_15 : Bd :=
  (sAsg (dLst dNil) (gN 14))
@[simp] theorem q_law_15_run (r : Lc) (m : Mem) : q_law_15 r m = (sAsg (dLst dNil) (gN 14)) r m := rfl
noncomputable def q_law_16 : Bd :=
  (sFor (dWalk (dRev finF (dV 6) (dPart (dUn gNeg (dK (.int 1)))))) (gN 15)
  w_law_4)
@[simp] theorem q_law_16_run (r : Lc) (m : Mem) : q_law_16 r m = (sFor (dWalk (dRev finF (dV 6) (dPart (dUn gNeg (dK (.int 1)))))) (gN 15) w_law_4) r m := rfl
noncomputable def q_law_17 : Bd :=
  (sAsg (dCall f_law_low [] (dCons (dOp (gAdd finF) (dK (.int 1)) (dCall f_law_draw [] (dCons (dV 1) (dCons (dK (.int 9)) dNil)))) (dCons (dOp (gAdd finF) (dK (.int 1)) (dCall f_law_draw [] (dCons (dV 1) (dCons (dK (.int 9)) dNil)))) dNil))) (gN 16))
@[simp] theorem q_law_17_run (r : Lc) (m : Mem) : q_law_17 r m = (sAsg (dCall f_law_low [] (dCons (dOp (gAdd finF) (dK (.int 1)) (dCall f_law_draw [] (dCons (dV 1) (dCons (dK (.int 9)) dNil)))) (dCons (dOp (gAdd finF) (dK (.int 1)) (dCall f_law_draw [] (dCons (dV 1) (dCons (dK (.int 9)) dNil)))) dNil))) (gN 16)) r m := rfl
noncomputable def q_law_18 : Bd :=
  (sFor (dWalk (dV 6)) (gN 8)
  w_law_6)
@[simp] theorem q_law_18_run (r : Lc) (m : Mem) : q_law_18 r m = (sFor (dWalk (dV 6)) (gN 8) w_law_6) r m := rfl
noncomputable def q_law_19 : Bd :=
  (sAsg (dIf (dTst (dOp (gEqA false) (dCall f_law_draw [] (dCons (dV 1) (dCons (dK (.int 3)) dNil))) (dK (.int 0)))) (dCallK0 f_heads_done g_k2 (dCons (dV 11) (dCons (dB bTup (dCons (dV 14) dNil)) dNil))) (dCall f_heads_done [] (dCons (dV 11) (dCons (dV 14) dNil)))) (gN 18))
@[simp] theorem q_law_19_run (r : Lc) (m : Mem) : q_law_19 r m = (sAsg (dIf (dTst (dOp (gEqA false) (dCall f_law_draw [] (dCons (dV 1) (dCons (dK (.int 3)) dNil))) (dK (.int 0)))) (dCallK0 f_heads_done g_k2 (dCons (dV 11) (dCons (dB bTup (dCons (dV 14) dNil)) dNil))) (dCall f_heads_done [] (dCons (dV 11) (dCons (dV 14) dNil)))) (gN 18)) r m := rfl
noncomputable def q_law_20 : Bd :=
  (sIf (dOr (dNot (dTru (dCall f_law_like [] (dCons (dV 18) (dCons (dV 13) dNil))))) (dNot (dTru (dCall f_law_like [] (dCons (dCall f_heads_done [] (dCons (dB bTup (dCons (dV 3) dNil)) (dCons (dV 6) dNil))) (dCons (dV 13) dNil))))))
  (sRet (dK (.bl false)))
  sNil)
@[simp] theorem q_law_20_run (r : Lc) (m : Mem) : q_law_20 r m = (sIf (dOr (dNot (dTru (dCall f_law_like [] (dCons (dV 18) (dCons (dV 13) dNil))))) (dNot (dTru (dCall f_law_like [] (dCons (dCall f_heads_done [] (dCons (dB bTup (dCons (dV 3) dNil)) (dCons (dV 6) dNil))) (dCons (dV 13) dNil)))))) (sRet (dK (.bl false))) sNil) r m := rfl
noncomputable def q_law_21 : Bd :=
  (sRet (dAndV (dCall f_law_rows_same [] (dCons (dCall f_heads_done [] (dCons (dV 3) (dCons (dLst dNil) dNil))) (dCons (dV 7) dNil))) (dCall f_law_like [] (dCons (dV 11) (dCons (dV 3) dNil)))))
@[simp] theorem q_law_21_run (r : Lc) (m : Mem) : q_law_21 r m = (sRet (dAndV (dCall f_law_rows_same [] (dCons (dCall f_heads_done [] (dCons (dV 3) (dCons (dLst dNil) dNil))) (dCons (dV 7) dNil))) (dCall f_law_like [] (dCons (dV 11) (dCons (dV 3) dNil))))) r m := rfl
noncomputable def b_law : Bd :=
  (sSeq q_law_1
  (sSeq q_law_2
  (sSeq q_law_3
  (sSeq q_law_4
  (sSeq q_law_5
  (sSeq q_law_6
  (sSeq q_law_7
  (sSeq q_law_8
  (sSeq q_law_9
  (sSeq q_law_10
  (sSeq q_law_11
  (sSeq q_law_12
  (sSeq q_law_13
  (sSeq q_law_14
  (sSeq q_law_15
  (sSeq q_law_16
  (sSeq q_law_17
  (sSeq q_law_18
  (sSeq q_law_19
  (sSeq q_law_20
  q_law_21))))))))))))))))))))
noncomputable def f_law : Fn := fnD 1 19 b_law
end
end P_k18
namespace P_k18
open PySem L2 PySem.Spec PyProof.Rows LN

theorem fraction_run {p q : Int} {m : Mem} (hq : q ≠ 0) (hb : q.natAbs < 2 ^ 9000) : f_fraction [.int p, .int q] m = .ok (fr (Rat.divInt p q)) m := by
  have hg : (Nat.gcd p.natAbs q.natAbs) ≠ 0 := fun h => by
    have := Nat.eq_zero_of_gcd_eq_zero_right h
    omega
  have hl : Nat.gcd p.natAbs q.natAbs < 2 ^ 9000 := Nat.lt_of_le_of_lt (Nat.le_of_dvd (by omega) (Nat.gcd_dvd_right _ _)) hb
  rw [fr_divInt hq]
  unfold f_fraction b_fraction
  rw [fnD2]
  by_cases h : q < 0
  · have d1 : divOk (-((Nat.gcd p.natAbs q.natAbs : Nat) : Int)) = true := divOk_of (by omega) (by simpa using hl) (Nat.le_refl _)
    simp [hq, h, d1, Int.sign_eq_neg_one_of_neg h]
  · have d1 : divOk ((Nat.gcd p.natAbs q.natAbs : Nat) : Int) = true := divOk_of (by omega) (by simpa using hl) (Nat.le_refl _)
    simp [hq, h, d1, Int.sign_eq_one_of_pos (show 0 < q by omega)]
theorem plus_run {a b : Rat} {m : Mem} {n k : Nat} (ha : Sz n a) (hb : Sz k b) (hs : n + k ≤ 8000) : f_plus [fr a, fr b] m = .ok (fr (a + b)) m := by
  have m1 : mulOk a.num b.den = true := mulOk_of ha.1 (by simpa using hb.2) (by omega)
  have m2 : mulOk b.num a.den = true := mulOk_of hb.1 (by simpa using ha.2) (by omega)
  have m3 : mulOk a.den b.den = true := mulOk_of (by simpa using ha.2) (by simpa using hb.2) (by omega)
  have hd : ((a.den : Int) * b.den) ≠ 0 := by
    have := a.den_nz; have := b.den_nz
    exact Int.mul_ne_zero (by omega) (by omega)
  have hz : ((a.den : Int) * b.den).natAbs < 2 ^ 9000 := powmono (powb_int (by simpa using ha.2) (by simpa using hb.2)) (by omega)
  have fr' := fraction_run (p := a.num * b.den + b.num * a.den) (m := m ++ [[]]) hd hz
  rw [add_parts]
  unfold f_plus b_plus
  rw [fnD2]
  simp [fr, m1, m2, m3] at fr' ⊢
  simp [fr']
theorem times_run {a b : Rat} {m : Mem} {n k : Nat} (ha : Sz n a) (hb : Sz k b) (hs : n + k ≤ 8000) : f_times [fr a, fr b] m = .ok (fr (a * b)) m := by
  have m1 : mulOk a.num b.num = true := mulOk_of ha.1 hb.1 (by omega)
  have m3 : mulOk a.den b.den = true := mulOk_of (by simpa using ha.2) (by simpa using hb.2) (by omega)
  have hd : ((a.den : Int) * b.den) ≠ 0 := by
    have := a.den_nz; have := b.den_nz
    exact Int.mul_ne_zero (by omega) (by omega)
  have hz : ((a.den : Int) * b.den).natAbs < 2 ^ 9000 := powmono (powb_int (by simpa using ha.2) (by simpa using hb.2)) (by omega)
  have fr' := fraction_run (p := a.num * b.num) (m := m ++ [[]]) hd hz
  rw [mul_parts]
  unfold f_times b_times
  rw [fnD2]
  simp [fr, m1, m3] at fr' ⊢
  simp [fr']
theorem gcd_run {a b : Int} {m : Mem} : f_law_gcd [.int a, .int b] m = .ok (.int (Nat.gcd a.natAbs b.natAbs : Nat)) m := by
  have wh : ∀ (n : Nat) (a b : Int), 0 ≤ a → 0 ≤ b → b < n → ∃ z, whileD u_law_gcd_1 w_law_gcd_1 n [some (.int a), some (.int b)] (m ++ [[]]) = .ok (.nx [some (.int (euc n a b)), some z]) (m ++ [[]]) := by
    intro n
    induction n with
    | zero => intro a b _ _ _; omega
    | succ n ih =>
      intro a b h1 h2 h3
      by_cases hb : b = 0
      · exact ⟨.int b, by subst hb; simp [whileD, euc]⟩
      · have hp : 0 < b := by omega
        obtain ⟨z, hz⟩ := ih b (a.fmod b) h2 (Int.fmod_nonneg_of_pos a hp) (by have := Int.fmod_lt_of_pos a hp; omega)
        exact ⟨z, by simp [whileD, euc, hb, hp, hz]⟩
  obtain ⟨z, hz⟩ := wh (b.natAbs + 1) a.natAbs b.natAbs (by omega) (by omega) (by omega)
  have hw := sWhile_of (t := u_law_gcd_1) (b := w_law_gcd_1) (b.natAbs + 1) (by rw [hz]; exact fun h => by cases h)
  rw [hz, euc_gcd _ _ _ (by omega) (by omega) (by omega)] at hw
  simp at hw
  unfold f_law_gcd b_law_gcd
  rw [fnD2]
  simp [hw]
theorem low_run {p q : Int} {m : Mem} (hq : q ≠ 0) (hb : q.natAbs < 2 ^ 9000) : f_law_low [.int p, .int q] m = .ok (fr (Rat.divInt p q)) m := by
  have hg : (Nat.gcd p.natAbs q.natAbs) ≠ 0 := fun h => by
    have := Nat.eq_zero_of_gcd_eq_zero_right h
    omega
  have hl : Nat.gcd p.natAbs q.natAbs < 2 ^ 9000 := Nat.lt_of_le_of_lt (Nat.le_of_dvd (by omega) (Nat.gcd_dvd_right _ _)) hb
  rw [fr_divInt hq]
  unfold f_law_low b_law_low
  rw [fnD2]
  by_cases h : q < 0
  · have d1 : divOk (-((Nat.gcd p.natAbs q.natAbs : Nat) : Int)) = true := divOk_of (by omega) (by simpa using hl) (Nat.le_refl _)
    simp [hq, h, d1, gcd_run, Int.sign_eq_neg_one_of_neg h]
  · have d1 : divOk ((Nat.gcd p.natAbs q.natAbs : Nat) : Int) = true := divOk_of (by omega) (by simpa using hl) (Nat.le_refl _)
    simp [hq, h, d1, gcd_run, Int.sign_eq_one_of_pos (show 0 < q by omega)]
end P_k18
namespace P_k18
open PySem L2 PySem.Spec PyProof.Rows LN

def bagM (ns : List Int) (i g x c : Int) : MO := .lst [.lst (ns.map .int), .int i, .int g, .int x, .int c]
def BagOk (B : Nat) (o : MO) : Prop := ∃ ns i g x c, o = bagM ns i g x c ∧ 0 ≤ i ∧ 0 ≤ g ∧ 0 ≤ x ∧ x < 2305843009213693951 ∧ 0 ≤ c ∧ c + B ≤ 2 ^ 100
theorem BagOk.mono {a b : Nat} {o : MO} (h : BagOk a o) (k : b ≤ a) : BagOk b o := by
  obtain ⟨ns, i, g, x, c, e, h1, h2, h3, h4, h5, h6⟩ := h
  exact ⟨ns, i, g, x, c, e, h1, h2, h3, h4, h5, by omega⟩
theorem fmod_rng {a n : Int} (h : 0 < n) : 0 ≤ a.fmod n ∧ a.fmod n < n := ⟨Int.fmod_nonneg_of_pos a h, Int.fmod_lt_of_pos a h⟩
theorem pow_ok3 {y : Int} (h : y.natAbs < 2 ^ 200) : powOk y 3 = true := by
  unfold powOk
  have := log2_le_of_lt (x := y.natAbs) (n := 200) h
  simp only [decide_eq_true_eq]
  have e : (3 : Int).toNat = 3 := rfl
  rw [e]
  omega
theorem draw_run {B : Nat} {o : MO} {n : Int} (h : BagOk (B + 1) o) (hn : 0 < n) (hn2 : n < 1000000000000) :
    ∃ k o', (∀ os rest, f_law_draw [.loc 0 0, .int n] ((o :: os) :: rest) = .ok (.int k) ((o' :: os) :: rest)) ∧ BagOk B o' ∧ 0 ≤ k ∧ k < n := by
  obtain ⟨ns, i, g, x, c, rfl, h1, h2, h3, h4, h5, h6⟩ := h
  have n0 : n ≠ 0 := by omega
  have dn : divOk n = true := divOk_of n0 (n := 200) (by omega) (by omega)
  have mc : mulOk (c + 1) 1000003 = true := mulOk_of (a := 200) (b := 30) (by omega) (by decide) (by omega)
  have dd : divOk 1073741827 = true := by decide
  have pt : powOk 10 18 = true := by decide
  have c8 : c + 1 + B ≤ 2 ^ 100 := by omega
  by_cases hg : g = 0
  · subst hg
    by_cases hi : i < (ns.length : Int)
    · obtain ⟨z, hz⟩ : ∃ z, ns[i.toNat]? = some z := ⟨_, List.getElem?_eq_getElem (by omega)⟩
      have ha : atI (ns.map D.int) i = some (.int z) := by
        have : i = (i.toNat : Int) := by omega
        rw [this, atI_natE, List.getElem?_map, hz]; rfl
      by_cases hb : 1000000000000000000 ≤ z
      · have zp : 0 < z := by omega
        have r := fmod_rng (a := z) hn
        refine ⟨z.fmod n, bagM ns (i + 1) (z.fdiv n) x (c + 1), fun os rest => ?_, ⟨_, _, _, _, _, rfl, by omega, Int.fdiv_nonneg (by omega) (by omega), h3, h4, by omega, c8⟩, r.1, r.2⟩
        unfold f_law_draw b_law_draw bagM
        rw [fnD2]
        simp -implicitDefEqProofs [hi, ha, pt, hb, zp, n0, dn]
      · have rz := fmod_rng (a := z) (n := 2305843009213693921) (by omega)
        have m11 : mulOk (z.fmod 2305843009213693921) 11 = true := mulOk_of (a := 70) (b := 10) (by omega) (by decide) (by omega)
        have p1 : powOk (x + z.fmod 2305843009213693921 * 11 + 41) 3 = true := pow_ok3 (by omega)
        generalize hy : ((x + z.fmod 2305843009213693921 * 11 + 41) ^ 3).fmod 2305843009213693951 = y
        have ry := fmod_rng (a := (x + z.fmod 2305843009213693921 * 11 + 41) ^ 3) (n := 2305843009213693951) (by omega)
        rw [hy] at ry
        have p2 : powOk (y + (c + 1) * 1000003 + 31) 3 = true := pow_ok3 (by omega)
        generalize hw : ((y + (c + 1) * 1000003 + 31) ^ 3).fmod 2305843009213693951 = w
        have rw' := fmod_rng (a := (y + (c + 1) * 1000003 + 31) ^ 3) (n := 2305843009213693951) (by omega)
        rw [hw] at rw'
        have r := fmod_rng (a := w.fdiv 1073741827) hn
        refine ⟨(w.fdiv 1073741827).fmod n, bagM ns (i + 1) 0 w (c + 1), fun os rest => ?_, ⟨_, _, _, _, _, rfl, by omega, by omega, rw'.1, rw'.2, by omega, c8⟩, r.1, r.2⟩
        unfold f_law_draw b_law_draw bagM
        rw [fnD2]
        simp -implicitDefEqProofs [hi, ha, pt, hb, n0, dn, dd, m11, p1, p2, mc, hy, hw]
    · have p2 : powOk (x + (c + 1) * 1000003 + 31) 3 = true := pow_ok3 (by omega)
      generalize hw : ((x + (c + 1) * 1000003 + 31) ^ 3).fmod 2305843009213693951 = w
      have rw' := fmod_rng (a := (x + (c + 1) * 1000003 + 31) ^ 3) (n := 2305843009213693951) (by omega)
      rw [hw] at rw'
      have r := fmod_rng (a := w.fdiv 1073741827) hn
      refine ⟨(w.fdiv 1073741827).fmod n, bagM ns i 0 w (c + 1), fun os rest => ?_, ⟨_, _, _, _, _, rfl, h1, by omega, rw'.1, rw'.2, by omega, c8⟩, r.1, r.2⟩
      unfold f_law_draw b_law_draw bagM
      rw [fnD2]
      simp -implicitDefEqProofs [hi, n0, dn, dd, mc, p2, hw]
  · have gp : 0 < g := by omega
    have r := fmod_rng (a := g) hn
    refine ⟨g.fmod n, bagM ns i (g.fdiv n) x (c + 1), fun os rest => ?_, ⟨_, _, _, _, _, rfl, h1, Int.fdiv_nonneg (by omega) (by omega), h3, h4, by omega, c8⟩, r.1, r.2⟩
    unfold f_law_draw b_law_draw bagM
    rw [fnD2]
    simp -implicitDefEqProofs [hg, gp, n0, dn]
theorem bag_run (xs : List Int) : ∃ o : MO, f_law_bag [.scr xs] [[]] = .ok (.loc 0 0) [[o]] ∧ BagOk (2 ^ 99) o := by
  have hcut : cutL xs none (some 63) = xs.take 63 := cutL_to (k := 63)
  have hl : (xs.take 63).length ≤ 63 := by simp; omega
  generalize xs.take 63 = ns at hcut hl
  obtain ⟨ρ', m', e1, rs, y, z, h1, rfl, rfl, h2, h3⟩ := forD_ind (ck := fun _ => True) (g := gN 2) (b := w_law_bag_1)
    (fun ds ρ m => ∃ (rs : List Int) (y : Int) (z : Option D), ds = rs.map .int ∧ ρ = [some (.scr xs), some (.int y), z] ∧ m = [[], []] ∧ 0 ≤ y ∧ y < 2305843009213693951)
    (ns.map .int) [some (.scr xs), some (.int 13968), none] [[], []] ⟨ns, 13968, none, rfl, rfl, rfl, by omega, by omega⟩ (fun _ _ _ _ => trivial) (by
      rintro d ds ρ m ⟨rs, y, z, h1, rfl, rfl, h2, h3⟩
      cases rs with
      | nil => cases h1
      | cons c rs =>
        cases h1
        have rz := fmod_rng (a := c) (n := 2305843009213693921) (by omega)
        have p1 : powOk (y + c.fmod 2305843009213693921 + 389) 3 = true := pow_ok3 (by omega)
        have r := fmod_rng (a := (y + c.fmod 2305843009213693921 + 389) ^ 3) (n := 2305843009213693951) (by omega)
        refine ⟨_, _, [some (.scr xs), some (.int (((y + c.fmod 2305843009213693921 + 389) ^ 3).fmod 2305843009213693951)), some (.int c)], [[], []], rfl, .inl ?_, rs, _, _, rfl, rfl, rfl, r.1, r.2⟩
        simp -implicitDefEqProofs [p1])
  cases rs with
  | cons => cases h1
  | nil =>
    refine ⟨bagM ns 0 0 y 0, ?_, ns, 0, 0, y, 0, rfl, by omega, by omega, h2, h3, by omega, by decide⟩
    have g1 : ns.length ≤ 16777216 := by omega
    unfold f_law_bag b_law_bag
    rw [fnM1]
    simp -implicitDefEqProofs [hcut, g1, e1]
    rw [lvM_loc]
    simp -implicitDefEqProofs [bagM]
/-- one of a list that is not changed -/
theorem of_run {B : Nat} {o : MO} {xs : List D} (h : BagOk (B + 1) o) (hx : xs ≠ []) (hl : xs.length ≤ 1000) (hp : ∀ x ∈ xs, ∀ n, D.lt n x = true) :
    ∃ x o', x ∈ xs ∧ (∀ os rest, f_law_of [.loc 0 0, .lst xs] ((o :: os) :: rest) = .ok x ((o' :: os) :: rest)) ∧ BagOk B o' := by
  have h0 : 0 < xs.length := List.length_pos_iff.mpr hx
  obtain ⟨k, o', d1, d2, d3, d4⟩ := draw_run (B := B) (n := xs.length) h (by omega) (by omega)
  obtain ⟨j, rfl⟩ : ∃ j : Nat, k = (j : Int) := ⟨k.toNat, by omega⟩
  have hj : j < xs.length := by omega
  have hat : atI xs (j : Int) = some xs[j] := by rw [atI_natE, List.getElem?_eq_getElem hj]
  refine ⟨xs[j], o', List.getElem_mem hj, fun os rest => ?_, d2⟩
  have hlt := fun n => hp xs[j] (List.getElem_mem hj) n
  unfold f_law_of b_law_of
  rw [fnD2]
  simp -implicitDefEqProofs [d1, hat, hlt]
end P_k18
namespace P_k18
open PySem L2 PySem.Spec PyProof.Rows LN

theorem like_run : ∀ (n : Nat) (d : D) (m : Mem), lkD n d = true → r_law_like (n + 1) [d, d] m = .ok (.bl true) m := by
  have seq : ∀ (n : Nat), (∀ (d : D) (m : Mem), lkD n d = true → r_law_like (n + 1) [d, d] m = .ok (.bl true) m) → ∀ (xs : List D) (ρ : Lc) (m : Mem), lkDs n xs = true → ρ.length = 4 →
      lcD (fun _ => True ∧ True) (gT (gsCons (gN 2) (gsCons (gN 3) gsNil))) tAll (dCall (r_law_like (n + 1)) [] (dCons (dV 2) (dCons (dV 3) dNil))) ((xs.zip xs).map fun p => .tup [p.1, p.2]) ρ m = .ok ((xs.zip xs).map fun _ => D.bl true) m := by
    intro n ih xs ρ m h hl
    obtain ⟨a, b, c, d, rfl⟩ : ∃ a b c d, ρ = [a, b, c, d] := by
      match ρ, hl with
      | [a, b, c, d], _ => exact ⟨a, b, c, d, rfl⟩
    refine lcD_map _ _ _ ⟨trivial, trivial⟩ fun p hp => ?_
    have hz : p.1 ∈ xs ∧ p.1 = p.2 := by
      have := List.of_mem_zip hp
      obtain ⟨i, hi⟩ := List.mem_iff_getElem?.mp hp
      rw [List.getElem?_zip_eq_some] at hi
      refine ⟨this.1, ?_⟩
      have := hi.1.symm.trans hi.2
      exact Option.some.inj this
    have := ih p.1 m (lkDs_iff.mp h p.1 hz.1)
    refine ⟨[a, b, some p.1, some p.2], by simp, by simp, ?_⟩
    rw [← hz.2]
    simp [this]
  intro n
  induction n with
  | zero =>
    intro d m h
    cases d with
    | non => rw [r_law_like, fnD2]; simp [b_law_like]
    | int i => rw [r_law_like, fnD2]; simp [b_law_like]
    | bl b => rw [r_law_like, fnD2]; simp [b_law_like]
    | str x =>
      have hx : plD 60 (.str x) = true := by simpa [lkD] using h
      rw [r_law_like, fnD2]; simp [b_law_like, gEqA_pl hx hx]
    | _ => simp [lkD] at h
  | succ n ih =>
    intro d m h
    cases d with
    | non => rw [r_law_like, fnD2]; simp [b_law_like]
    | int i => rw [r_law_like, fnD2]; simp [b_law_like]
    | bl b => rw [r_law_like, fnD2]; simp [b_law_like]
    | str x =>
      have hx : plD 60 (.str x) = true := by simpa [lkD] using h
      rw [r_law_like, fnD2]; simp [b_law_like, gEqA_pl hx hx]
    | tup xs =>
      simp only [lkD, Bool.and_eq_true, decide_eq_true_eq] at h
      have s := seq n ih xs [some (.tup xs), some (.tup xs), none, none] (m ++ [[]]) h.2 rfl
      have hb := bAll_map (l := xs.zip xs) (h := fun _ => true) (m := m ++ [[]])
      have hl : (xs.zip xs).length = xs.length := by simp
      rw [r_law_like, fnD2]
      simp at s hb
      simp [b_law_like, s, hb, h.1]
    | lst xs =>
      simp only [lkD, Bool.and_eq_true, decide_eq_true_eq] at h
      have s := seq n ih xs [some (.lst xs), some (.lst xs), none, none] (m ++ [[]]) h.2 rfl
      have hb := bAll_map (l := xs.zip xs) (h := fun _ => true) (m := m ++ [[]])
      have hl : (xs.zip xs).length = xs.length := by simp
      rw [r_law_like, fnD2]
      simp at s hb
      simp [b_law_like, s, hb, h.1]
    | _ => simp [lkD] at h
end P_k18
namespace P_k18
open PySem L2 PySem.Spec PyProof.Rows LN

def rowD (r : List Rat) : D := .tup (r.map fr)
@[simp] theorem dlts_frs {n : Nat} {r : List Rat} : D.lts n (r.map fr) = true := dlts_map fun _ _ => dlt_fr
@[simp] theorem dlt_row {n : Nat} {r : List Rat} : D.lt n (rowD r) = true := by simp [rowD]
def rAt (r : List Rat) (c : Int) : Rat := (r[c.toNat]?).getD 0
def appG (G : List (Int × Rat)) (r : List Rat) : List Rat := G.foldl (fun r e => r.set e.1.toNat (rAt r e.1 + e.2)) r
theorem num_pos {q : Rat} : 0 < q.num ↔ 0 < q := by
  have := Rat.num_nonneg (q := q)
  have h2 := Rat.num_eq_zero (q := q)
  constructor
  · intro h
    have h3 := this.mp (by omega)
    rcases Rat.le_iff_lt_or_eq.mp h3 with h4 | h4
    · exact h4
    · subst h4; simp at h
  · intro h
    have h3 := this.mpr (Rat.le_of_lt h)
    have h4 : q.num ≠ 0 := fun z => by rw [h2.mp z] at h; exact absurd h Rat.lt_irrefl
    omega
/-- a column in a row -/
def InR (n : Nat) (c : Int) : Prop := 0 ≤ c ∧ c < n
theorem rAt_at {r : List Rat} {c : Int} (h : InR r.length c) : atI (r.map fr) c = some (fr (rAt r c)) := by
  have e : c = (c.toNat : Int) := by have := h.1; omega
  have hl : c.toNat < r.length := by have := h.1; have := h.2; omega
  unfold rAt
  conv => lhs; rw [e]
  rw [atI_natE, List.getElem?_map, List.getElem?_eq_getElem hl]
  rfl
theorem rAt_mem {r : List Rat} {c : Int} (h : InR r.length c) : rAt r c ∈ r := by
  have hl : c.toNat < r.length := by have := h.1; have := h.2; omega
  unfold rAt
  rw [List.getElem?_eq_getElem hl]
  exact List.getElem_mem hl
/-- how much room there is -/
structure Rm (K M A B : Nat) : Prop where
  k0 : 0 < K
  ka : K < 2 ^ A
  mb : M < 2 ^ B
  ab : A + B ≤ 3900
theorem Rm.sz {K M A B : Nat} (R : Rm K M A B) {q : Rat} (h : Dn K M q) : Sz (A + B) q := h.sz R.k0 R.ka R.mb
theorem weighted_sum_run {L U β τ K M A B : Nat} {r : List Rat} {ts : List (Int × Rat)} {st : Rat} {m : Mem} {Td : D} {ck0 : Mem → Prop} (hT : ∀ fr, kWalk Td (m ++ [fr]) = .ok ⟨ts.map ent, ck0⟩ (m ++ [fr]) ∧ ck0 (m ++ [fr])) (R : Rm K M A B) (hr : ∀ q ∈ r, Dn L β q) (ht : ∀ e ∈ ts, Dn U τ e.2 ∧ InR r.length e.1) (hs : Dn U τ st) (hK : L * U ∣ K) (hM : τ + ts.length * (β * τ) ≤ M) (hβ : β ≤ M) (hτ : τ ≤ M) (hbt : β * τ ≤ M) :
    f_weighted_sum [rowD r, Td, fr st] m = .ok (fr (ts.foldl (fun s e => s + rAt r e.1 * e.2) st)) m ∧ Dn (L * U) (τ + ts.length * (β * τ)) (ts.foldl (fun s e => s + rAt r e.1 * e.2) st) := by
  have hLU : ∀ {b : Nat} {q : Rat}, Dn L b q → Dn K b q := fun h => h.dvd (Nat.dvd_trans (Nat.dvd_mul_right _ _) hK)
  have hUU : ∀ {b : Nat} {q : Rat}, Dn U b q → Dn K b q := fun h => h.dvd (Nat.dvd_trans (Nat.dvd_mul_left _ _) hK)
  obtain ⟨z, e1, k, j1, j2, j3⟩ := forD_pure (ck := ck0) (g := gT (gsCons (gN 4) (gsCons (gN 5) gsNil))) (b := w_weighted_sum_1)
    (fun (s : Rat) (z : Option D × Option D) => [some (rowD r), some Td, some (fr st), some (fr s), z.1, z.2]) (fun _ => m ++ [[]]) ent (fun s e => s + rAt r e.1 * e.2)
    (fun es s => ∃ k, k + es.length = ts.length ∧ Dn (L * U) (τ + k * (β * τ)) s ∧ ∀ e ∈ es, Dn U τ e.2 ∧ InR r.length e.1) ts st (none, none)
    ⟨0, by simp, by simpa using hs.dvd (Nat.dvd_mul_left U L), ht⟩ (fun _ _ _ => (hT _).2) (by
      rintro ⟨c, f⟩ es s ⟨z1, z2⟩ ⟨k, j1, j2, j3⟩
      rw [List.length_cons] at j1
      obtain ⟨hf, hc⟩ := j3 (c, f) (by simp)
      have hq := hr _ (rAt_mem hc)
      have hm := hq.mul hf
      have hsum := j2.add hm
      have hat := rAt_at hc
      have hk : k ≤ ts.length := by omega
      have hb2 : τ + k * (β * τ) ≤ M := Nat.le_trans (Nat.add_le_add_left (Nat.mul_le_mul_right _ hk) _) hM
      refine ⟨⟨k + 1, by omega, by rw [Nat.add_mul, Nat.one_mul, ← Nat.add_assoc]; exact hsum, fun e he => j3 e (by simp [he])⟩, (some (.int c), some (fr f)), ?_⟩
      by_cases h0 : rAt r c = 0
      · rw [h0] at hat
        have e0 : s + rAt r c * f = s := by rw [h0]; simp [Rat.add_zero]
        have hz : fr (0 : Rat) = .tup [.int 0, .int 1] := rfl
        rw [e0]
        simp -implicitDefEqProofs [rowD, ent, hat]
        simp -implicitDefEqProofs [hz]
      · have hn : (rAt r c).num ≠ 0 := fun z => h0 (Rat.num_eq_zero.mp z)
        have hab := R.ab
        have t1 := fun m' => times_run (m := m') (R.sz (hLU (hq.mono hβ))) (R.sz (hUU (hf.mono hτ))) (by omega)
        have t2 := fun m' => plus_run (m := m') (R.sz ((j2.mono hb2).dvd hK)) (R.sz ((hm.mono hbt).dvd hK)) (by omega)
        have hfr : ∀ q : Rat, fr q = .tup [.int q.num, .int q.den] := fun _ => rfl
        have ht1 : kIx (atI [D.int (rAt r c).num, D.int ((rAt r c).den : Int)] 0) (m ++ [[]]) = .ok (.int (rAt r c).num) (m ++ [[]]) := by simp
        generalize rAt r c = q at *
        simp -implicitDefEqProofs [rowD, ent, hat, t1, t2]
        simp -implicitDefEqProofs [hfr q, hn]
        simp -implicitDefEqProofs [hat, t1, t2])
  simp only [List.length_nil, Nat.add_zero] at j1
  subst j1
  refine ⟨?_, j2⟩
  unfold f_weighted_sum b_weighted_sum
  rw [fnD3]
  have hT1 := fun fr => (hT fr).1
  simp -implicitDefEqProofs [hT1, e1]

def dkM (G : List (Int × Rat)) : MO := .dk (G.map fun p => .inl p.1) (G.map fun p => fr p.2)
theorem lkG (G : List (Int × Rat)) (c : Int) : lookD (G.map fun p => (Sum.inl p.1 : L2.Key)) (G.map fun p => fr p.2) (.inl c) = (lkA G c).map fr := lookD_map inl_inj fr c G
theorem add_gift_run {K M A B j : Nat} {G : List (Int × Rat)} {c : Int} {q : Rat} {m : Mem} {f0 : List MO} (R : Rm K M A B) (hj : f0[j]? = some (dkM G)) (hn : (keysA G).Nodup) (hl : G.length ≤ 1000) (hG : ∀ p ∈ G, Dn K M p.2) (hq : Dn K M q) :
    f_add_gift [.loc m.length j, .int c, fr q] (m ++ [f0]) = .ok .non (m ++ [f0.set j (dkM (addA G (c, q)))]) := by
  have hlk := lkG G c
  have hnd := nodup_K inl_inj hn
  have hgl : G.length < 16777216 := by omega
  have hab := R.ab
  cases hv : lkA G c with
  | none =>
    have hp := putD_map inl_inj fr c q G
    rw [hv] at hlk
    have hz : (0 : Rat) + q = q := Rat.zero_add q
    unfold f_add_gift b_add_gift
    rw [fnD3]
    simp -implicitDefEqProofs [hj, dkM, hlk, hnd, hgl, hp, addA, hv, hz]
  | some v =>
    have hp := putD_map inl_inj fr c (v + q) G
    rw [hv] at hlk
    have t1 := fun m' => plus_run (m := m') (R.sz (hG _ (lkA_mem hv))) (R.sz hq) (by omega)
    unfold f_add_gift b_add_gift
    rw [fnD3]
    simp -implicitDefEqProofs [hj, dkM, hlk, hnd, hgl, hp, addA, hv, t1]
/-- what the gifts are while they grow -/
structure GOk (K P N n : Nat) (G : List (Int × Rat)) (left : Nat) : Prop where
  nd : (keysA G).Nodup
  len : ∃ c, c + left ≤ N ∧ G.length ≤ c ∧ ∀ p ∈ G, Dn K (c * P) p.2 ∧ InR n p.1
theorem GOk.add {K P N n left : Nat} {G : List (Int × Rat)} {c : Int} {q : Rat} (h : GOk K P N n G (left + 1)) (hq : Dn K P q) (hc : InR n c) : GOk K P N n (addA G (c, q)) left := by
  obtain ⟨k, h1, h2, h3⟩ := h.len
  refine ⟨nodup_addA h.nd, k + 1, by omega, ?_, fun p hp => ?_⟩
  · have : (addA G (c, q)).length ≤ G.length + 1 := len_stA
    omega
  · rw [Nat.add_mul, Nat.one_mul]
    rcases mem_stA hp with e | e
    · subst e
      refine ⟨?_, hc⟩
      refine Dn.add ?_ hq
      cases e2 : lkA G c with
      | none => exact Dn.zero
      | some v => exact (h3 _ (lkA_mem e2)).1
    · exact ⟨(h3 p e).1.mono (by omega), (h3 p e).2⟩
theorem GOk.mono {K P N n a b : Nat} {G : List (Int × Rat)} (h : GOk K P N n G a) (k : b ≤ a) : GOk K P N n G b := by
  obtain ⟨c, h1, h2, h3⟩ := h.len
  exact ⟨h.nd, c, by omega, h2, h3⟩
theorem rAt_set {r : List Rat} {c d : Int} {v : Rat} (hc : InR r.length c) (hd : InR r.length d) : rAt (r.set c.toNat v) d = if c = d then v else rAt r d := by
  have h1 : c.toNat < r.length := by have := hc.1; have := hc.2; omega
  unfold rAt
  rw [List.getElem?_set]
  by_cases h : c = d
  · subst h
    rw [if_pos rfl, if_pos rfl, if_pos h1]; rfl
  · have h2 : ¬ c.toNat = d.toNat := by have := hc.1; have := hd.1; omega
    rw [if_neg h2, if_neg h]
theorem ixN_in {n : Nat} {c : Int} (h : InR n c) : ixN n c = some c.toNat := by
  have e : c = (c.toNat : Int) := by have := h.1; omega
  have hl : c.toNat < n := by have := h.1; have := h.2; omega
  conv => lhs; rw [e]
  exact ixN_nat hl
theorem items_G (G : List (Int × Rat)) : ((G.map fun p => (Sum.inl p.1 : L2.Key)).zip (G.map fun p => fr p.2)).map (fun kx => D.tup [dKey kx.1, kx.2]) = G.map ent := by
  rw [List.zip_map', List.map_map]; rfl
theorem with_gifts_run {β K M A B N P L j : Nat} {r : List Rat} {G : List (Int × Rat)} {m : Mem} {f0 : List MO} (R : Rm K M A B) (hj : f0[j]? = some (dkM G)) (hr : ∀ q ∈ r, Dn L β q) (hLK : L ∣ K) (hG : GOk K P N r.length G 0) (hM : β + N * P ≤ M) (hrl : r.length ≤ 1000) :
    f_with_gifts [rowD r, .loc m.length j] (m ++ [f0]) = .ok (rowD (appG G r)) (m ++ [f0]) ∧ (appG G r).length = r.length ∧ ∀ q ∈ appG G r, Dn K (β + N * P) q := by
  obtain ⟨k, k1, k2, k3⟩ := hG.len
  have hkP : k * P ≤ N * P := Nat.mul_le_mul_right _ (by omega)
  have hrK : ∀ q ∈ r, Dn K β q := fun q hq => (hr q hq).dvd hLK
  have hjl : j < f0.length := (List.getElem?_eq_some_iff.mp hj).1
  have hself : f0.set j (dkM G) = f0 := by
    obtain ⟨h1, h2⟩ := List.getElem?_eq_some_iff.mp hj
    rw [← h2, List.set_getElem_self]
  have hab := R.ab
  obtain ⟨z, e1, j1, j2, j3, j4⟩ := forD_pure (ck := ckF m.length j (G.map fun p => .inl p.1) (G.map fun p => fr p.2)) (g := gT (gsCons (gN 3) (gsCons (gN 4) gsNil))) (b := w_with_gifts_1)
    (fun (_ : List Rat) (z : Option D × Option D) => [some (rowD r), some (.loc m.length j), some (.loc (m.length + 1) 0), z.1, z.2]) (fun s => m ++ [f0.set j (.fk (G.map fun p => .inl p.1) (G.map fun p => fr p.2)), [.lst (s.map fr)]]) ent (fun s e => s.set e.1.toNat (rAt s e.1 + e.2))
    (fun es s => s.length = r.length ∧ (keysA es).Nodup ∧ (∀ q ∈ s, Dn K (β + N * P) q) ∧ ∀ e ∈ es, rAt s e.1 = rAt r e.1 ∧ Dn K (N * P) e.2 ∧ InR r.length e.1) G r (none, none)
    ⟨rfl, hG.nd, fun q hq => (hrK q hq).mono (by omega), fun e he => ⟨rfl, (k3 e he).1.mono hkP, (k3 e he).2⟩⟩ (fun _ _ _ => by simp [ckF, hjl]) (by
      rintro ⟨c, g⟩ es s ⟨z1, z2⟩ ⟨i1, i2, i3, i4⟩
      simp only [keysA, List.map_cons, List.nodup_cons] at i2
      obtain ⟨a1, a2, a3⟩ := i4 (c, g) (by simp)
      have a3' : InR s.length c := by rw [i1]; exact a3
      have hv : Dn K (β + N * P) (rAt s c + g) := by
        have : rAt s c = rAt r c := a1
        rw [this]
        exact (hrK _ (rAt_mem a3)).add a2
      have hat := rAt_at a3'
      have hix := ixN_in a3'
      have t1 := fun m' => plus_run (m := m') (R.sz ((i3 _ (rAt_mem a3')).mono hM)) (R.sz (a2.mono (by omega))) (by omega)
      refine ⟨⟨by simpa using i1, i2.2, fun q hq => ?_, fun e he => ?_⟩, (some (.int c), some (fr g)), ?_⟩
      · rcases List.mem_or_eq_of_mem_set hq with h | h
        · exact i3 q h
        · rw [h]; exact hv
      · obtain ⟨b1, b2, b3⟩ := i4 e (by simp [he])
        refine ⟨?_, b2, b3⟩
        rw [rAt_set a3' (by rw [i1]; exact b3), if_neg, b1]
        intro h
        have h : c = e.1 := h
        exact i2.1 (h ▸ List.mem_map_of_mem he)
      · dsimp only at *
        generalize rAt s c + g = v at *
        simp -implicitDefEqProofs [ent, hat, t1, hix])
  have happ : G.foldl (fun s e => s.set e.1.toNat (rAt s e.1 + e.2)) r = appG G r := rfl
  rw [happ] at e1 j1 j3
  refine ⟨?_, j1, j3⟩
  by_cases h0 : G.length = 0
  · have : G = [] := List.eq_nil_of_length_eq_zero h0
    subst this
    unfold f_with_gifts b_with_gifts
    rw [fnD2]
    simp -implicitDefEqProofs [hj, dkM, appG]
  · have g1 : r.length ≤ 16777216 := by omega
    have lk := lockV_run2 (i := 1) (f := m.length) (n := j) (b := sFor (dItemsW (dV 1)) (gT (gsCons (gN 3) (gsCons (gN 4) gsNil))) w_with_gifts_1) (ρ := [some (rowD r), some (.loc m.length j), some (.loc (m.length + 1) 0), none, none]) (m := m ++ [f0, [.lst (r.map fr)]])
      (ks := G.map fun p => .inl p.1) (xs := G.map fun p => fr p.2) (m2 := m ++ [f0.set j (.fk (G.map fun p => .inl p.1) (G.map fun p => fr p.2)), [.lst ((appG G r).map fr)]]) (a := Fl.nx [some (rowD r), some (.loc m.length j), some (.loc (m.length + 1) 0), z.1, z.2]) rfl (by simp [hj, dkM]) (by
        simp -implicitDefEqProofs [hjl, items_G, e1]) (by simp [hjl])
    have hself' : f0.set j (.dk (G.map fun p => .inl p.1) (G.map fun p => fr p.2)) = f0 := hself
    have hlr : (appG G r).length ≤ 16777216 := by omega
    have h0' : ¬ G = [] := fun e => h0 (by rw [e]; rfl)
    unfold f_with_gifts b_with_gifts
    rw [fnD2]
    generalize appG G r = r' at *
    simp -implicitDefEqProofs [hj, dkM, h0', rowD, g1]
    simp -implicitDefEqProofs [rowD, hself'] at lk
    simp -implicitDefEqProofs [lk]
theorem appG_len : ∀ (G : List (Int × Rat)) (r : List Rat), (appG G r).length = r.length
  | [], r => rfl
  | e :: G, r => by
    show (appG G (r.set e.1.toNat (rAt r e.1 + e.2))).length = _
    rw [appG_len G]; simp
theorem appG_at : ∀ (G : List (Int × Rat)) (r : List Rat) (c : Int), (keysA G).Nodup → (∀ e ∈ G, InR r.length e.1) → InR r.length c → rAt (appG G r) c = rAt r c + (lkA G c).getD 0
  | [], r, c, _, _, _ => by simp [appG, lkA, Rat.add_zero]
  | e :: G, r, c, hn, hi, hc => by
    simp only [keysA, List.map_cons, List.nodup_cons] at hn
    have he := hi e (by simp)
    show rAt (appG G (r.set e.1.toNat (rAt r e.1 + e.2))) c = _
    rw [appG_at G _ c hn.2 (fun x hx => by rw [List.length_set]; exact hi x (by simp [hx])) (by rw [List.length_set]; exact hc), rAt_set he hc]
    simp only [lkA]
    by_cases h : e.1 = c
    · rw [if_pos h, if_pos h]
      have : lkA G c = none := lkA_none.mpr (by rw [← h]; exact hn.1)
      rw [this, h]
      simp [Rat.add_zero]
    · rw [if_neg h, if_neg h]
theorem row_ext {a b : List Rat} (hl : a.length = b.length) (h : ∀ c, InR a.length c → rAt a c = rAt b c) : a = b := by
  apply List.ext_getElem?
  intro i
  by_cases hi : i < a.length
  · have := h (i : Int) ⟨by omega, by omega⟩
    unfold rAt at this
    simp only [Int.toNat_natCast] at this
    rw [List.getElem?_eq_getElem hi, List.getElem?_eq_getElem (by omega)] at this ⊢
    simpa using this
  · rw [List.getElem?_eq_none (by omega), List.getElem?_eq_none (by omega)]
theorem gok_nil {K P N n left : Nat} (h : left ≤ N) : GOk K P N n [] left := ⟨by simp [keysA], 0, by omega, by simp, fun p hp => by simp at hp⟩
end P_k18
namespace P_k18
open PySem L2 PySem.Spec PyProof.Rows LN

/-! ### common denominators -/
def prtD (p : Int × Nat) : D := .tup [.int p.1, .int (p.2 : Int)]
theorem fr_prt (q : Rat) : fr q = prtD (q.num, q.den) := rfl
@[simp] theorem dlt_prt {n : Nat} {p : Int × Nat} : D.lt n (prtD p) = true := by simp [prtD]
def cmnN (ds : List Nat) : Nat := ds.foldl Nat.lcm 1
theorem cmn_from : ∀ (ds : List Nat) (s K : Nat), s ∣ K → (∀ d ∈ ds, d ∣ K) → ds.foldl Nat.lcm s ∣ K ∧ s ∣ ds.foldl Nat.lcm s ∧ ∀ d ∈ ds, d ∣ ds.foldl Nat.lcm s
  | [], s, K, h, _ => ⟨h, Nat.dvd_refl _, by simp⟩
  | d :: ds, s, K, h, hd => by
    have ih := cmn_from ds (Nat.lcm s d) K (Nat.lcm_dvd h (hd d (by simp))) fun x hx => hd x (by simp [hx])
    rw [List.foldl_cons]
    refine ⟨ih.1, Nat.dvd_trans (Nat.dvd_lcm_left s d) ih.2.1, fun x hx => ?_⟩
    rcases List.mem_cons.mp hx with e | e
    · subst e; exact Nat.dvd_trans (Nat.dvd_lcm_right s x) ih.2.1
    · exact ih.2.2 x e
theorem cmn_dvd {ds : List Nat} {K : Nat} (h : ∀ d ∈ ds, d ∣ K) : cmnN ds ∣ K := (cmn_from ds 1 K (Nat.one_dvd _) h).1
theorem dvd_cmn {ds : List Nat} {d : Nat} (h : d ∈ ds) : d ∣ cmnN ds := by
  have hK : ∀ d ∈ ds, d ∣ ds.foldr (· * ·) 1 := by
    clear h
    induction ds with
    | nil => simp
    | cons x xs ih =>
      intro d hd
      rcases List.mem_cons.mp hd with e | e
      · subst e; exact Nat.dvd_mul_right _ _
      · exact Nat.dvd_trans (ih d e) (Nat.dvd_mul_left _ _)
  exact (cmn_from ds 1 _ (Nat.one_dvd _) hK).2.2 d h
theorem cmn_pos {ds : List Nat} (h : ∀ d ∈ ds, 0 < d) : 0 < cmnN ds := by
  have : ∀ (ds : List Nat) (s : Nat), 0 < s → (∀ d ∈ ds, 0 < d) → 0 < ds.foldl Nat.lcm s := by
    intro ds
    induction ds with
    | nil => intro s h _; exact h
    | cons d ds ih => intro s hs hd; exact ih _ (Nat.lcm_pos hs (hd d (by simp))) fun x hx => hd x (by simp [hx])
  exact this ds 1 (by omega) h
theorem lcm_step {s d : Nat} (hs : 0 < s) : ((s : Int).fdiv ((Nat.gcd s d : Nat) : Int)) * (d : Int) = ((Nat.lcm s d : Nat) : Int) := by
  have hg : 0 < Nat.gcd s d := Nat.gcd_pos_of_pos_left _ hs
  rw [Int.fdiv_eq_ediv_of_nonneg _ (by omega), ← Int.natCast_ediv, ← Int.natCast_mul]
  congr 1
  unfold Nat.lcm
  rw [Nat.div_mul_right_comm (Nat.gcd_dvd_left s d)]
theorem common_run {K A : Nat} {ps : List (Int × Nat)} {d : D} {m : Mem} (hw : ∀ m', kWalk d m' = .ok (.of (ps.map prtD)) m') (hK : ∀ p ∈ ps, 0 < p.2 ∧ p.2 ∣ K) (hK0 : 0 < K) (hA : K < 2 ^ A) (hA2 : A ≤ 8000) :
    f_law_common [d] m = .ok (.int (cmnN (ps.map (·.2)) : Nat)) m := by
  have hle : ∀ x, x ∣ K → (x : Int).natAbs < 2 ^ A := fun x hx => by
    have := Nat.le_of_dvd hK0 hx
    simp only [Int.natAbs_natCast]
    omega
  obtain ⟨z, e1, j1, j2, j3⟩ := forD_pure (ck := fun _ => True) (g := gN 2) (b := w_law_common_1)
    (fun (s : Nat) (z : Option D) => [some d, some (.int (s : Int)), z]) (fun _ => m ++ [[]]) prtD (fun s p => Nat.lcm s p.2)
    (fun ps s => 0 < s ∧ s ∣ K ∧ ∀ p ∈ ps, 0 < p.2 ∧ p.2 ∣ K) ps 1 none ⟨by omega, Nat.one_dvd _, hK⟩ (fun _ _ _ => trivial) (by
      rintro ⟨x, p⟩ ps s z ⟨j1, j2, j3⟩
      obtain ⟨h1, h2⟩ := j3 (x, p) (by simp)
      have h1 : 0 < p := h1
      have h2 : p ∣ K := h2
      have hg : 0 < Nat.gcd s p := Nat.gcd_pos_of_pos_left _ j1
      have dk : divOk ((Nat.gcd s p : Nat) : Int) = true := divOk_of (by omega) (hle _ (Nat.dvd_trans (Nat.gcd_dvd_left _ _) j2)) (by omega)
      have hq : ((s : Int).fdiv ((Nat.gcd s p : Nat) : Int)) = ((s / Nat.gcd s p : Nat) : Int) := by
        rw [Int.fdiv_eq_ediv_of_nonneg _ (by omega), Int.natCast_ediv]
      have mk : mulOk ((s : Int).fdiv ((Nat.gcd s p : Nat) : Int)) (p : Int) = true := by
        rw [hq]
        exact mulOk_of (hle _ (Nat.dvd_trans (Nat.div_dvd_of_dvd (Nat.gcd_dvd_left _ _)) j2)) (hle _ h2) (by omega)
      have ls := lcm_step (d := p) j1
      refine ⟨⟨Nat.lcm_pos j1 h1, Nat.lcm_dvd j2 h2, fun q hq => j3 q (by simp [hq])⟩, some (prtD (x, p)), ?_⟩
      simp -implicitDefEqProofs [prtD, gcd_run, dk, mk, ls])
  have hf : ps.foldl (fun s p => Nat.lcm s p.2) 1 = cmnN (ps.map (·.2)) := by
    unfold cmnN
    rw [List.foldl_map]
  rw [hf] at e1
  unfold f_law_common b_law_common
  rw [fnD1]
  have h1 : ((1 : Nat) : Int) = 1 := rfl
  rw [h1] at e1
  simp -implicitDefEqProofs [hw, e1]

/-! ### the law's rows: whole numbers over one denominator -/
def zD (L : Nat) (q : Rat) : Int := q.num * ((L / q.den : Nat) : Int)
theorem zD_cast {L : Nat} {q : Rat} (h : q.den ∣ L) : ((zD L q : Int) : Rat) = q * ((L : Int) : Rat) := by
  obtain ⟨c, rfl⟩ := h
  unfold zD
  rw [Nat.mul_div_cancel_left _ q.den_pos, Rat.intCast_mul, Int.natCast_mul, Rat.intCast_mul]
  obtain ⟨z, h1, _⟩ := Dn.of q
  have e : q = (q.num : Rat) / ((q.den : Int) : Rat) := by
    rw [← Rat.divInt_eq_div, Rat.num_divInt_den]
  have e2 : q * ((q.den : Int) : Rat) = (q.num : Rat) := by
    have e2 : (q.num : Rat) / ((q.den : Int) : Rat) * ((q.den : Int) : Rat) = (q.num : Rat) := Rat.div_mul_cancel (cast_ne q.den_pos)
    rw [← e] at e2
    exact e2
  rw [← Rat.mul_assoc, e2]
def zRow (L : Nat) (r : List Rat) : List Int := r.map (zD L)
def stD (L : Nat) (Z : List (List Int)) : D := .tup [.int (L : Int), .lst (Z.map fun z => .lst (z.map .int))]
def lowN (rows : List (List Rat)) : Nat := rows.foldl (fun s r => cmnN (s :: r.map (·.den))) 1
theorem low_from : ∀ (rows : List (List Rat)) (s K : Nat), 0 < s → s ∣ K → (∀ r ∈ rows, ∀ q ∈ r, q.den ∣ K) →
    0 < rows.foldl (fun s r => cmnN (s :: r.map (·.den))) s ∧ rows.foldl (fun s r => cmnN (s :: r.map (·.den))) s ∣ K ∧ s ∣ rows.foldl (fun s r => cmnN (s :: r.map (·.den))) s ∧ ∀ r ∈ rows, ∀ q ∈ r, q.den ∣ rows.foldl (fun s r => cmnN (s :: r.map (·.den))) s
  | [], s, K, h0, h, _ => ⟨h0, h, Nat.dvd_refl _, by simp⟩
  | r :: rows, s, K, h0, h, hd => by
    have hk : ∀ d ∈ s :: r.map (·.den), d ∣ K := fun d hd' => by
      rcases List.mem_cons.mp hd' with e | e
      · subst e; exact h
      · obtain ⟨q, hq, rfl⟩ := List.mem_map.mp e
        exact hd r (by simp) q hq
    have hp : 0 < cmnN (s :: r.map (·.den)) := cmn_pos fun d hd' => by
      rcases List.mem_cons.mp hd' with e | e
      · subst e; exact h0
      · obtain ⟨q, hq, rfl⟩ := List.mem_map.mp e
        exact q.den_pos
    have ih := low_from rows (cmnN (s :: r.map (·.den))) K hp (cmn_dvd hk) fun x hx => hd x (by simp [hx])
    rw [List.foldl_cons]
    refine ⟨ih.1, ih.2.1, Nat.dvd_trans (dvd_cmn (by simp)) ih.2.2.1, fun x hx q hq => ?_⟩
    rcases List.mem_cons.mp hx with e | e
    · subst e
      exact Nat.dvd_trans (dvd_cmn (List.mem_cons_of_mem _ (List.mem_map_of_mem hq))) ih.2.2.1
    · exact ih.2.2.2 x e q hq
theorem rows_prt (r : List Rat) : r.map fr = (r.map fun q => (q.num, q.den)).map prtD := by rw [List.map_map]; rfl
theorem state_run {K A n : Nat} {rows : List (List Rat)} {Rd : D} {m : Mem} {ck : Mem → Prop} (hw : kWalk Rd (m ++ [[]]) = .ok ⟨rows.map rowD, ck⟩ (m ++ [[]])) (hck : ck (m ++ [[]])) (hK : ∀ r ∈ rows, r.length ≤ 100 ∧ ∀ q ∈ r, q.den ∣ K ∧ q.num.natAbs < 2 ^ A) (hK0 : 0 < K) (hA : K < 2 ^ A) (hA2 : A ≤ 8000) (hl : rows.length ≤ 1000) :
    f_law_state [Rd] m = .ok (stD (lowN rows) (rows.map (zRow (lowN rows)))) m := by
  have lf := low_from rows 1 K (by omega) (Nat.one_dvd _) fun r hr q hq => ((hK r hr).2 q hq).1
  have hL : rows.foldl (fun s r => cmnN (s :: r.map (·.den))) 1 = lowN rows := rfl
  rw [hL] at lf
  have hle : ∀ x, x ∣ K → (x : Int).natAbs < 2 ^ A := fun x hx => by
    have := Nat.le_of_dvd hK0 hx
    simp only [Int.natAbs_natCast]
    omega
  obtain ⟨z, e1, -⟩ := forD_pure (ck := ck) (g := gN 2) (b := w_law_state_1)
    (fun (s : Nat) (z : Option D) => [some Rd, some (.int (s : Int)), z, none]) (fun _ => m ++ [[]]) rowD (fun s r => cmnN (s :: r.map (·.den)))
    (fun rs s => 0 < s ∧ s ∣ K ∧ ∀ r ∈ rs, r.length ≤ 100 ∧ ∀ q ∈ r, q.den ∣ K) rows 1 none ⟨by omega, Nat.one_dvd _, fun r hr => ⟨(hK r hr).1, fun q hq => ((hK r hr).2 q hq).1⟩⟩ (fun _ _ _ => hck) (by
      rintro r rs s z ⟨j1, j2, j3⟩
      obtain ⟨hrl, hr⟩ := j3 r (by simp)
      have cr := fun m' => common_run (m := m') (ps := (1, s) :: r.map fun q => (q.num, q.den)) (d := .lst (prtD (1, s) :: r.map fr)) (fun _ => by rw [List.map_cons, ← rows_prt]; rfl) (fun p hp => by
        rcases List.mem_cons.mp hp with e | e
        · subst e; exact ⟨j1, j2⟩
        · obtain ⟨q, hq, rfl⟩ := List.mem_map.mp e
          exact ⟨q.den_pos, hr q hq⟩) hK0 hA hA2
      have hs : ((1, s) :: r.map fun q : Rat => (q.num, q.den)).map (·.2) = s :: r.map (·.den) := by simp
      rw [hs] at cr
      have hp : 0 < cmnN (s :: r.map (·.den)) := cmn_pos fun d hd' => by
        rcases List.mem_cons.mp hd' with e | e
        · subst e; exact j1
        · obtain ⟨q, hq, rfl⟩ := List.mem_map.mp e
          exact q.den_pos
      have hk : cmnN (s :: r.map (·.den)) ∣ K := cmn_dvd fun d hd' => by
        rcases List.mem_cons.mp hd' with e | e
        · subst e; exact j2
        · obtain ⟨q, hq, rfl⟩ := List.mem_map.mp e
          exact hr q hq
      refine ⟨⟨hp, hk, fun x hx => j3 x (by simp [hx])⟩, some (rowD r), ?_⟩
      have g1 : r.length ≤ 16777216 := by omega
      have g2 : r.length ≤ 16777215 := by omega
      have g3 : r.length < 16777216 := by omega
      simp only [prtD] at cr
      simp -implicitDefEqProofs [rowD, g1, g2, g3, cr])
  rw [hL] at e1
  generalize lowN rows = L at *
  have lc := lcD_map (ck := ck) (g := gN 2) (t := tAll) (f := e_law_state_3) rowD (fun r => D.lst ((zRow L r).map .int)) (ρ := [some Rd, some (.int (L : Int)), none, none]) (m := m ++ [[]]) rows hck (fun r hr => ⟨_, rfl, rfl, by
    obtain ⟨hrl, hq⟩ := hK r hr
    have l2 := lcD_map (ck := fun _ => True) (g := gN 3) (t := tAll) (f := e_law_state_2) fr (fun q => D.int (zD L q)) (ρ := [some Rd, some (.int (L : Int)), some (rowD r), none]) (m := m ++ [[]]) r trivial (fun q hqr => ⟨_, rfl, rfl, by
      obtain ⟨h1, h2⟩ := hq q hqr
      have dk : divOk (q.den : Int) = true := divOk_of (by have := q.den_pos; omega) (hle _ h1) (by omega)
      have hdv : (L : Int).fdiv (q.den : Int) = ((L / q.den : Nat) : Int) := by
        rw [Int.fdiv_eq_ediv_of_nonneg _ (by omega), Int.natCast_ediv]
      have mk : mulOk q.num ((L / q.den : Nat) : Int) = true := mulOk_of (a := A) (b := A) h2 (by
        have := Nat.div_le_self L q.den
        have := Nat.le_of_dvd hK0 lf.2.1
        simp only [Int.natAbs_natCast]
        omega) (by omega)
      rw [Int.natCast_ediv] at mk
      simp -implicitDefEqProofs [fr, dk, hdv, mk, zD]⟩)
    have g1 : r.length ≤ 16777216 := by omega
    have hz : (zRow L r).map D.int = r.map fun q => .int (zD L q) := by unfold zRow; rw [List.map_map]; rfl
    rw [hz]
    have hrd : rowD r = .tup (r.map fr) := rfl
    rw [hrd] at l2 ⊢
    simp -implicitDefEqProofs [l2, g1]⟩)
  have g2 : rows.length ≤ 16777216 := by omega
  have hlt : ∀ k, D.lts k (rows.map fun r => D.lst ((zRow L r).map .int)) = true := fun k => dlts_map fun _ _ => by simp
  have hs : stD L (rows.map (zRow L)) = .tup [.int (L : Int), .lst (rows.map fun r => D.lst ((zRow L r).map .int))] := by
    unfold stD; rw [List.map_map]; rfl
  rw [hs]
  unfold f_law_state b_law_state
  rw [fnD1]
  have h1 : ((1 : Nat) : Int) = 1 := rfl
  rw [h1] at e1
  have hxl : (rows.map fun r => D.lst ((zRow L r).map .int)).length ≤ 16777216 := by rw [List.length_map]; omega
  generalize (rows.map fun r => D.lst ((zRow L r).map .int)) = xs at *
  simp -implicitDefEqProofs [hw, e1, lc, hxl, hlt]
end P_k18
namespace P_k18
open PySem L2 PySem.Spec PyProof.Rows LN

/-! ### heads -/
def tri (t : Int × Int × Rat) : D := .tup [.int t.1, .int t.2.1, fr t.2.2]
@[simp] theorem dlt_tri {n : Nat} {t : Int × Int × Rat} : D.lt n (tri t) = true := by simp [tri]
@[simp] theorem dlts_tri {n : Nat} {l : List (Int × Int × Rat)} : D.lts n (l.map tri) = true := dlts_map fun _ _ => dlt_tri
structure Hd where
  S : List (Int × Int × Rat)
  G : List (Int × Int × Rat)
def hdD (h : Hd) : D := .tup [.tup (h.S.map tri), .tup (h.G.map tri)]
@[simp] theorem dlt_hd {n : Nat} {h : Hd} : D.lt n (hdD h) = true := by simp [hdD]
/-- the room: L the rows' denominator, F the factors' -/
structure Rq (L F : Nat) : Prop where
  l0 : 0 < L
  f0 : 0 < F
  ll : L < 2 ^ 201
  ff : F < 2 ^ 160
abbrev KK (L F : Nat) : Nat := L * L * F * 2520
theorem Rq.rm {L F : Nat} (R : Rq L F) : Rm (KK L F) (2 ^ 160) 600 161 := ⟨Nat.mul_pos (Nat.mul_pos (Nat.mul_pos R.l0 R.l0) R.f0) (by decide), powmono (powb (powb (powb R.ll R.ll) R.ff) (show 2520 < 2 ^ 12 by decide)) (by decide), by decide +kernel, by omega⟩
/-- rows as they are handed to a def -/
structure Rw (Rd : D) (rows : List (List Rat)) (m : Mem) : Prop where
  w : ∃ ck0 : Mem → Prop, ∀ tl, kWalk Rd (m ++ tl) = .ok ⟨rows.map rowD, ck0⟩ (m ++ tl) ∧ ck0 (m ++ tl)
  x : ∀ tl (i : Nat) r, rows[i]? = some r → gIxT ck Rd (.int (i : Int)) (m ++ tl) = .ok (rowD r) (m ++ tl)
  v : ∃ (k : Bool) (ck0 : Mem → Prop), ∀ tl, vwW (m ++ tl) Rd = some (k, rows.map rowD, ck0) ∧ ck0 (m ++ tl)
theorem Rw.lst {rows : List (List Rat)} {m : Mem} : Rw (.lst (rows.map rowD)) rows m := ⟨⟨fun _ => True, fun _ => ⟨rfl, trivial⟩⟩, fun tl i r h => by
  rw [gIxT_lst, atI_natE, List.getElem?_map, h]; rfl, ⟨true, fun _ => True, fun _ => ⟨rfl, trivial⟩⟩⟩
theorem Rw.tup {rows : List (List Rat)} {m : Mem} : Rw (.tup (rows.map rowD)) rows m := ⟨⟨fun _ => True, fun _ => ⟨rfl, trivial⟩⟩, fun tl i r h => by
  rw [gIxT_tup, atI_natE, List.getElem?_map, h]; rfl, ⟨false, fun _ => True, fun _ => ⟨rfl, trivial⟩⟩⟩
theorem Rw.loc {rows : List (List Rat)} {j : Nat} {fr0 : List MO} {r : Mem} (hj : fr0[j]? = some (.lst (rows.map rowD))) : Rw (.loc 0 j) rows (fr0 :: r) := by
  refine ⟨⟨ckL 0 j (rows.map rowD), fun tl => ⟨?_, ?_⟩⟩, fun tl i r h => ?_, ⟨true, ckL 0 j (rows.map rowD), fun tl => ⟨?_, ?_⟩⟩⟩
  · rw [kWalk_loc', List.cons_append, Mem.get_z, hj]; rfl
  · rw [ckL, List.cons_append, Mem.get_z, hj]
  · rw [gIxT_loc, List.cons_append, Mem.get_z, hj, gIxO_lst, atI_natE, List.getElem?_map, h]; rfl
  · rw [vwW_loc, List.cons_append, Mem.get_z, hj]; rfl
  · rw [ckL, List.cons_append, Mem.get_z, hj]
theorem Rw.app {Rd : D} {rows : List (List Rat)} {m : Mem} (h : Rw Rd rows m) (tl : Mem) : Rw Rd rows (m ++ tl) := by
  obtain ⟨c0, h1⟩ := h.w
  obtain ⟨k, c1, h2⟩ := h.v
  exact ⟨⟨c0, fun t => by rw [List.append_assoc]; exact h1 _⟩, fun t i r hr => by rw [List.append_assoc]; exact h.x _ i r hr, ⟨k, c1, fun t => by rw [List.append_assoc]; exact h2 _⟩⟩
/-- what a row is -/
def RwOk (L n : Nat) (r : List Rat) : Prop := r.length = n ∧ ∀ q ∈ r, Dn L (2 ^ 61) q
structure TOk (n F : Nat) (t : Int × Int × Rat) : Prop where
  a : InR n t.1
  b : InR n t.2.1
  f : Dn F 18000 t.2.2
structure HOk (n F : Nat) (h : Hd) : Prop where
  sl : h.S.length ≤ 5
  gl : h.G.length ≤ 4
  s : ∀ t ∈ h.S, TOk n F t
  g : ∀ t ∈ h.G, TOk n F t
def tmS (a : List Rat) (S : List (Int × Int × Rat)) : List (Int × Rat) := S.filterMap fun t => if rAt a t.1 = 0 then none else some (t.2.1, rAt a t.1 * t.2.2)
def sc (a : List Rat) (S : List (Int × Int × Rat)) (r : List Rat) : Rat := (tmS a S).foldl (fun s e => s + rAt r e.1 * e.2) 0
def TB : Nat := 2 ^ 61 * 18000
def SB : Nat := TB + 5 * (2 ^ 61 * TB)
theorem tm_ok {L F n : Nat} {a : List Rat} {S : List (Int × Int × Rat)} (ha : RwOk L n a) (hS : ∀ t ∈ S, TOk n F t) : ∀ e ∈ tmS a S, Dn (L * F) TB e.2 ∧ InR n e.1 := fun e he => by
  obtain ⟨t, ht, h⟩ := List.mem_filterMap.mp he
  split at h
  · cases h
  · cases h
    have to := hS t ht
    exact ⟨(ha.2 _ (rAt_mem (by rw [ha.1]; exact to.a))).mul to.f, to.b⟩
theorem tm_len {a : List Rat} {S : List (Int × Int × Rat)} : (tmS a S).length ≤ S.length := List.length_filterMap_le _ _
theorem sc_run {L F n : Nat} {a r : List Rat} {S : List (Int × Int × Rat)} {m : Mem} {Td : D} {ck0 : Mem → Prop} (R : Rq L F) (hl : S.length ≤ 5) (ha : RwOk L n a) (hr : RwOk L n r) (hS : ∀ t ∈ S, TOk n F t) (hT : ∀ fr, kWalk Td (m ++ [fr]) = .ok ⟨(tmS a S).map ent, ck0⟩ (m ++ [fr]) ∧ ck0 (m ++ [fr])) :
    f_weighted_sum [rowD r, Td, fr 0] m = .ok (fr (sc a S r)) m ∧ Dn (L * (L * F)) SB (sc a S r) := by
  have tl := tm_len (a := a) (S := S)
  have ws := weighted_sum_run (m := m) (r := r) (ts := tmS a S) (st := 0) (L := L) (U := L * F) (β := 2 ^ 61) (τ := TB) hT R.rm hr.2 (fun e he => ⟨(tm_ok ha hS e he).1, by rw [hr.1]; exact (tm_ok ha hS e he).2⟩) Dn.zero ⟨2520, by show L * L * F * 2520 = _; rw [Nat.mul_assoc L L F]⟩ (by
    have : (tmS a S).length * (2 ^ 61 * TB) ≤ 5 * (2 ^ 61 * TB) := Nat.mul_le_mul_right _ (by omega)
    refine Nat.le_trans (Nat.add_le_add_left this _) ?_
    decide +kernel) (by decide +kernel) (by decide +kernel) (by decide +kernel)
  refine ⟨ws.1, ws.2.mono ?_⟩
  unfold SB
  exact Nat.add_le_add_left (Nat.mul_le_mul_right _ (by omega)) _
theorem scores_run {L F n at' : Nat} {rows : List (List Rat)} {a : List Rat} {h : Hd} {Rd : D} {m : Mem} (R : Rq L F) (W : Rw Rd rows m) (hrl : rows.length ≤ 1000) (hr : ∀ r ∈ rows, RwOk L n r) (hh : HOk n F h) (hat : rows[at']? = some a) :
    f_scores [Rd, hdD h, .int (at' : Int)] m = .ok (.lst (rows.map fun r => fr (sc a h.S r))) m := by
  have ha := hr a (List.mem_of_getElem? hat)
  have hx := W.x [[]] at' a hat
  obtain ⟨ck0, hw⟩ := W.w
  have hd : hdD h = .tup [.tup (h.S.map tri), .tup (h.G.map tri)] := rfl
  obtain ⟨ρ', m', e1, rest, done, z5, z6, z7, h1, rfl, rfl, h2⟩ := forD_ind (ck := fun _ => True) (g := gT (gsCons (gN 5) (gsCons (gN 6) (gsCons (gN 7) gsNil)))) (b := w_scores_1)
    (fun ds ρ m' => ∃ (rest done : List (Int × Int × Rat)) (z5 z6 z7 : Option D), ds = rest.map tri ∧ ρ = [some Rd, some (hdD h), some (.int (at' : Int)), some (rowD a), some (.loc m.length 0), z5, z6, z7, none] ∧ m' = m ++ [[.lst ((tmS a done).map ent)]] ∧ done ++ rest = h.S)
    (h.S.map tri) [some Rd, some (hdD h), some (.int (at' : Int)), some (rowD a), some (.loc m.length 0), none, none, none, none] (m ++ [[.lst []]]) ⟨h.S, [], none, none, none, rfl, rfl, rfl, rfl⟩ (fun _ _ _ _ => trivial) (by
      rintro d ds ρ m' ⟨rest, done, z5, z6, z7, h1, rfl, rfl, h2⟩
      cases rest with
      | nil => cases h1
      | cons t rest =>
        cases h1
        have to := hh.s t (by rw [← h2]; simp)
        have hq := rAt_at (r := a) (c := t.1) (by rw [ha.1]; exact to.a)
        have dq := ha.2 _ (rAt_mem (r := a) (c := t.1) (by rw [ha.1]; exact to.a))
        have hdl : done.length ≤ 5 := by
          have := congrArg List.length h2
          simp at this
          have := hh.sl
          omega
        have hg1 : (tmS a done).length ≤ 16777215 := by have := tm_len (a := a) (S := done); omega
        have hap : tmS a (done ++ [t]) = tmS a done ++ (if rAt a t.1 = 0 then [] else [(t.2.1, rAt a t.1 * t.2.2)]) := by
          unfold tmS
          rw [List.filterMap_append]
          congr 1
          rw [List.filterMap_cons]
          split <;> simp_all
        refine ⟨_, _, [some Rd, some (hdD h), some (.int (at' : Int)), some (rowD a), some (.loc m.length 0), some (.int t.1), some (.int t.2.1), some (fr t.2.2), none], m ++ [[.lst ((tmS a (done ++ [t])).map ent)]], rfl, .inl ?_, rest, done ++ [t], _, _, _, rfl, rfl, rfl, by rw [← h2]; simp⟩
        rw [hap]
        have hrd : rowD a = .tup (a.map fr) := rfl
        have hf : ∀ q : Rat, fr q = .tup [.int q.num, .int (q.den : Int)] := fun _ => rfl
        have hll : ∀ k, D.lts k ((tmS a done).map ent) = true := fun k => dlts_ent
        have hml : ((tmS a done).map ent).length = (tmS a done).length := by simp
        by_cases h0 : rAt a t.1 = 0
        · rw [if_pos h0, List.append_nil]
          rw [h0] at hq
          have z : fr 0 = .tup [.int 0, .int 1] := rfl
          rw [z] at hq
          generalize hdD h = HD at *
          generalize (tmS a done).map ent = TM at *
          rw [hrd]
          simp -implicitDefEqProofs [hq]
        · rw [if_neg h0]
          have hn : (rAt a t.1).num ≠ 0 := fun z => h0 (Rat.num_eq_zero.mp z)
          have t1 := fun m' => times_run (m := m') (R.rm.sz ((dq.dvd (show L ∣ KK L F from ⟨L * F * 2520, by show L * L * F * 2520 = _; simp only [Nat.mul_assoc]⟩)).mono (by decide +kernel))) (R.rm.sz ((to.f.dvd (show F ∣ KK L F from ⟨L * L * 2520, by show L * L * F * 2520 = _; simp only [Nat.mul_assoc, Nat.mul_left_comm, Nat.mul_comm]⟩)).mono (by decide +kernel))) (by omega)
          have hma : (tmS a done ++ [(t.2.1, rAt a t.1 * t.2.2)]).map ent = (tmS a done).map ent ++ [.tup [.int t.2.1, fr (rAt a t.1 * t.2.2)]] := by rw [List.map_append]; rfl
          rw [hma]
          generalize hdD h = HD at *
          generalize (tmS a done).map ent = TM at *
          generalize rAt a t.1 * t.2.2 = w at *
          rw [hrd]
          generalize rAt a t.1 = q at *
          have g1 : TM.length ≤ 16777215 := by omega
          simp -implicitDefEqProofs [hq]
          simp -implicitDefEqProofs [hf q, hn]
          simp -implicitDefEqProofs [← hf q, hq, t1, hll, g1])
  cases rest with
  | cons => cases h1
  | nil =>
    rw [List.append_nil] at h2
    subst h2
    have lc := lcD_map (ck := ck0) (g := gN 8) (t := tAll) (f := e_scores_2) rowD (fun r => fr (sc a h.S r)) (ρ := [some Rd, some (hdD h), some (.int (at' : Int)), some (rowD a), some (.loc m.length 0), z5, z6, z7, none]) (m := m ++ [[.lst ((tmS a h.S).map ent)]]) rows (hw _).2 (fun r hrr => ⟨_, rfl, rfl, by
      have sr := sc_run (m := m ++ [[.lst ((tmS a h.S).map ent)]]) (r := r) (Td := .loc m.length 0) (ck0 := ckL m.length 0 ((tmS a h.S).map ent)) R hh.sl ha (hr r hrr) hh.s (fun fr => ⟨by simp, by simp [ckL]⟩)
      have sr1 := sr.1
      have z : c_ZERO = fr 0 := rfl
      rw [← z] at sr1
      generalize (tmS a h.S).map ent = TM at *
      generalize hdD h = HD at *
      simp -implicitDefEqProofs [sr1]⟩)
    have hw1 := fun tl => (hw tl).1
    have hsl : (rows.map fun r => fr (sc a h.S r)).length = rows.length := by simp
    have g1 : rows.length ≤ 16777216 := by omega
    have hlt : ∀ k, D.lts k (rows.map fun r => fr (sc a h.S r)) = true := fun k => dlts_map fun _ _ => dlt_fr
    have hw2 := hw1 [[.lst ((tmS a h.S).map ent)]]
    unfold f_scores b_scores
    rw [fnD3]
    rw [hd] at e1 lc ⊢
    generalize (rows.map fun r => fr (sc a h.S r)) = SS at *
    generalize rows.map rowD = RR at *
    generalize rowD a = RA at *
    generalize (tmS a h.S).map ent = TM at *
    simp -implicitDefEqProofs [hx, e1, hw2, lc, hsl, g1, hlt]
end P_k18
namespace P_k18
open PySem L2 PySem.Spec PyProof.Rows LN

def IsTop (t : Rat) (xs : List Rat) : Prop := t ∈ xs ∧ ∀ s ∈ xs, s ≤ t
theorem IsTop.uniq {t u : Rat} {xs : List Rat} (h : IsTop t xs) (k : IsTop u xs) : t = u := Rat.le_antisymm (k.2 t h.1) (h.2 u k.1)
def gmx (x : Rat) (xs : List Rat) : Rat := xs.foldl (fun g s => if g < s then s else g) x
theorem gmx_ok : ∀ (xs : List Rat) (x : Rat), (gmx x xs = x ∨ gmx x xs ∈ xs) ∧ x ≤ gmx x xs ∧ ∀ s ∈ xs, s ≤ gmx x xs
  | [], x => ⟨.inl rfl, Rat.le_refl, by simp⟩
  | s :: xs, x => by
    obtain ⟨h1, h2, h3⟩ := gmx_ok xs (if x < s then s else x)
    show (gmx (if x < s then s else x) xs = x ∨ _) ∧ x ≤ gmx (if x < s then s else x) xs ∧ ∀ y ∈ s :: xs, y ≤ gmx (if x < s then s else x) xs
    by_cases hx : x < s
    · rw [if_pos hx] at h1 h2 h3 ⊢
      refine ⟨.inr ?_, Rat.le_trans (Rat.le_of_lt hx) h2, fun y hy => ?_⟩
      · show gmx (if x < s then s else x) xs ∈ s :: xs
        rw [if_pos hx]
        rcases h1 with h1 | h1
        · rw [h1]; simp
        · simp [h1]
      · rcases List.mem_cons.mp hy with e | e
        · rw [e]; exact h2
        · exact h3 y e
    · rw [if_neg hx] at h1 h2 h3 ⊢
      refine ⟨?_, h2, fun y hy => ?_⟩
      · rcases h1 with h1 | h1
        · exact .inl h1
        · right
          show gmx (if x < s then s else x) xs ∈ s :: xs
          rw [if_neg hx]; simp [h1]
      · rcases List.mem_cons.mp hy with e | e
        · rw [e]; exact Rat.le_trans (Rat.not_lt.mp hx) h2
        · exact h3 y e
def topR (xs : List Rat) : Rat := gmx ((xs[0]?).getD 0) xs
theorem top_ok {xs : List Rat} (h : xs ≠ []) : IsTop (topR xs) xs := by
  obtain ⟨h1, h2, h3⟩ := gmx_ok xs ((xs[0]?).getD 0)
  have h0 : (xs[0]?).getD 0 ∈ xs := by
    cases xs with
    | nil => exact absurd rfl h
    | cons x xs => simp
  refine ⟨?_, h3⟩
  rcases h1 with h1 | h1
  · unfold topR; rw [h1]; exact h0
  · exact h1
open Classical in
def seen (xs : List Rat) : List Nat := (List.range xs.length).filter fun i => decide (xs[i]? = some (topR xs))
theorem seen_of {xs : List Rat} {t : Rat} (h : IsTop t xs) : seen xs = (List.range xs.length).filter fun i => decide (xs[i]? = some t) := by
  have hne : xs ≠ [] := fun e => by have := h.1; rw [e] at this; simp at this
  unfold seen
  rw [(top_ok hne).uniq h]
theorem seen_lt {xs : List Rat} {i : Nat} (h : i ∈ seen xs) : i < xs.length := List.mem_range.mp (List.mem_filter.mp h).1
theorem seen_ne {xs : List Rat} (h : xs ≠ []) : seen xs ≠ [] := by
  obtain ⟨h1, _⟩ := top_ok h
  obtain ⟨i, hi⟩ := List.mem_iff_getElem?.mp h1
  have : i ∈ seen xs := List.mem_filter.mpr ⟨List.mem_range.mpr (List.getElem?_eq_some_iff.mp hi).1, by simpa using hi⟩
  intro e
  rw [e] at this
  simp at this
theorem seen_len {xs : List Rat} : (seen xs).length ≤ xs.length := by
  have := List.length_filter_le (fun i => decide (xs[i]? = some (topR xs))) (List.range xs.length)
  rw [List.length_range] at this
  exact this
/-- scores that are all lifted -/
theorem seen_mul {xs : List Rat} {c : Rat} (hc : 0 < c) (h : xs ≠ []) : seen (xs.map (· * c)) = seen xs := by
  have ht := top_ok h
  have hm : IsTop (topR xs * c) (xs.map (· * c)) := ⟨List.mem_map_of_mem ht.1, fun s hs => by
    obtain ⟨y, hy, rfl⟩ := List.mem_map.mp hs
    exact Rat.mul_le_mul_of_nonneg_right (ht.2 y hy) (Rat.le_of_lt hc)⟩
  rw [seen_of hm]
  unfold seen
  rw [List.length_map]
  refine List.filter_congr fun i _ => ?_
  rw [List.getElem?_map]
  have hc0 : c ≠ 0 := fun e => by rw [e] at hc; exact absurd hc Rat.lt_irrefl
  cases hx : xs[i]? with
  | none => simp
  | some y =>
    simp only [Option.map_some, Option.some.injEq]
    have : y * c = topR xs * c ↔ y = topR xs := ⟨fun e => by
      have h1 := congrArg (· * c⁻¹) e
      simp only [Rat.mul_assoc, Rat.mul_inv_cancel c hc0, Rat.mul_one] at h1
      exact h1, fun e => by rw [e]⟩
    simp only [this]
theorem below_run {a b : Rat} {m : Mem} {n k : Nat} (ha : Sz n a) (hb : Sz k b) (hs : n + k ≤ 8000) : f_below [fr a, fr b] m = .ok (.bl (decide (a < b))) m := by
  have m1 : mulOk a.num b.den = true := mulOk_of ha.1 (by simpa using hb.2) (by omega)
  have m2 : mulOk b.num a.den = true := mulOk_of hb.1 (by simpa using ha.2) (by omega)
  have h := Rat.lt_iff a b
  unfold f_below b_below
  rw [fnD2]
  simp [fr, m1, m2, h]
theorem rng_fr (xs : List Rat) : xs.map fr = (List.range xs.length).map fun i => fr ((xs[i]?).getD 0) := by
  apply List.ext_getElem?
  intro i
  rw [List.getElem?_map, List.getElem?_map]
  by_cases hi : i < xs.length
  · rw [List.getElem?_range hi]
    show Option.map fr xs[i]? = some (fr ((xs[i]?).getD 0))
    rw [List.getElem?_eq_getElem hi]
    rfl
  · rw [List.getElem?_eq_none (by omega), List.getElem?_eq_none (by simp; omega)]; rfl
theorem eq_fr {a b : Rat} {m : Mem} : gEqA false (fr a) (fr b) m = .ok (.bl (decide (a = b))) m := by
  rw [gEqA_pl (by simp [fr]) (by simp [fr])]
  by_cases h : a = b
  · subst h; simp
  · simp [h, fr_inj]
theorem ne_fr {a b : Rat} {m : Mem} : gEqA true (fr a) (fr b) m = .ok (.bl (!decide (a = b))) m := by
  rw [gEqA_pl (by simp [fr]) (by simp [fr])]
  by_cases h : a = b
  · subst h; simp
  · simp [h, fr_inj]
theorem looked_run {L F n at' : Nat} {rows : List (List Rat)} {a : List Rat} {h : Hd} {Rd : D} {m : Mem} (R : Rq L F) (W : Rw Rd rows m) (hrl : rows.length ≤ 1000) (hr : ∀ r ∈ rows, RwOk L n r) (hh : HOk n F h) (hat : rows[at']? = some a) (hm : m ≠ []) :
    f_looked_at [Rd, hdD h, .int (at' : Int)] m = .ok (Mem.nx m) (Mem.new m (.lst ((seen (rows.map fun r => sc a h.S r)).map fun (i : Nat) => D.int (i : Int)))) := by
  have sr := scores_run (m := m ++ [[]]) R (W.app [[]]) hrl hr hh hat
  have hmm : (rows.map fun r => fr (sc a h.S r)) = (rows.map fun r => sc a h.S r).map fr := by rw [List.map_map]; rfl
  rw [hmm] at sr
  have ha := hr a (List.mem_of_getElem? hat)
  have hS : ∀ x ∈ rows.map (fun r => sc a h.S r), Sz 761 x := fun x hx => by
    obtain ⟨r, hrr, rfl⟩ := List.mem_map.mp hx
    have tl := tm_len (a := a) (S := h.S)
    have := (sc_run (m := []) (r := r) (Td := .tup ((tmS a h.S).map ent)) (ck0 := fun _ => True) R hh.sl ha (hr r hrr) hh.s (fun _ => ⟨rfl, trivial⟩)).2
    exact R.rm.sz ((this.dvd ⟨2520, by show L * L * F * 2520 = _; rw [Nat.mul_assoc L L F]⟩).mono (by decide +kernel))
  have hxl : (rows.map fun r => sc a h.S r).length ≤ 1000 := by simpa using hrl
  have hx0 : (rows.map fun r => sc a h.S r) ≠ [] := fun e => by
    have := congrArg List.length e
    simp at this
    rw [this] at hat
    simp at hat
  generalize (rows.map fun r => sc a h.S r) = xs at *
  obtain ⟨x0, xr, rfl⟩ := List.exists_cons_of_ne_nil hx0
  obtain ⟨z5, e1, -⟩ := forD_pure (ck := fun _ => True) (g := gN 5) (b := w_looked_at_1)
    (fun (g : Rat) (z : Option D) => [some Rd, some (hdD h), some (.int (at' : Int)), some (.lst ((x0 :: xr).map fr)), some (fr g), z, none]) (fun _ => m ++ [[]]) fr (fun g s => if g < s then s else g)
    (fun xs g => Sz 761 g ∧ ∀ s ∈ xs, Sz 761 s) (x0 :: xr) x0 none ⟨hS x0 (by simp), hS⟩ (fun _ _ _ => trivial) (by
      rintro s xs g z ⟨j1, j2⟩
      have hs := j2 s (by simp)
      have br := fun m' => below_run (m := m') j1 hs (by omega)
      refine ⟨⟨by split; exact hs; exact j1, fun y hy => j2 y (by simp [hy])⟩, some (fr s), ?_⟩
      generalize (x0 :: xr).map fr = XS at *
      generalize hdD h = HD at *
      by_cases hb : g < s
      · rw [if_pos hb]
        rw [decide_eq_true hb] at br
        simp -implicitDefEqProofs [br]
      · rw [if_neg hb]
        rw [decide_eq_false hb] at br
        simp -implicitDefEqProofs [br])
  have hg : (x0 :: xr).foldl (fun g s => if g < s then s else g) x0 = topR (x0 :: xr) := rfl
  rw [hg] at e1
  have he : enumD 0 ((x0 :: xr).map fr) = (List.range (x0 :: xr).length).map fun (i : Nat) => D.tup [.int (i : Int), fr (((x0 :: xr)[i]?).getD 0)] := by
    have := enum_range (f := fun i => fr (((x0 :: xr)[i]?).getD 0)) (x0 :: xr).length 0
    simp only [Nat.zero_add] at this
    rw [rng_fr]
    exact this
  have hat0 : atI ((x0 :: xr).map fr) 0 = some (fr x0) := by rw [List.map_cons]; exact atI_0
  generalize hX : x0 :: xr = X at *
  have lc := lcD_fm (ck := fun _ => True) (g := gT (gsCons (gN 6) (gsCons (gN 5) gsNil))) (t := t_looked_at_2) (f := e_looked_at_2) (fun (i : Nat) => D.tup [.int (i : Int), fr ((X[i]?).getD 0)])
    (fun i => if X[i]? = some (topR X) then some (D.int (i : Nat)) else none) (ρ := [some Rd, some (hdD h), some (.int (at' : Int)), some (.lst (X.map fr)), some (fr (topR X)), none, none]) (m := m ++ [[]]) (List.range X.length) trivial (by
      intro i hi
      have hi := List.mem_range.mp hi
      have hq : X[i]? = some X[i] := List.getElem?_eq_getElem hi
      refine ⟨_, rfl, ?_⟩
      have ef := fun m' => eq_fr (a := (X[i]?).getD 0) (b := topR X) (m := m')
      by_cases hb : X[i]? = some (topR X)
      · right
        rw [hb] at ef ⊢
        refine ⟨_, if_pos rfl, ?_, ?_⟩
        · simp -implicitDefEqProofs at ef
          simp -implicitDefEqProofs [ef]
        · simp -implicitDefEqProofs
      · left
        refine ⟨if_neg hb, ?_⟩
        have hb2 : ¬ (X[i]?).getD 0 = topR X := fun e => hb (by rw [hq] at e ⊢; exact congrArg some e)
        rw [decide_eq_false hb2] at ef
        generalize (X[i]?).getD 0 = q at *
        simp -implicitDefEqProofs [ef])
  have hfl : (List.range X.length).filterMap (fun i => if X[i]? = some (topR X) then some (D.int (i : Nat)) else none) = (seen X).map fun (i : Nat) => D.int (i : Int) := by
    unfold seen
    generalize List.range X.length = l
    induction l with
    | nil => rfl
    | cons i l ih =>
      rw [List.filterMap_cons]
      by_cases hb : X[i]? = some (topR X)
      · rw [if_pos hb, List.filter_cons_of_pos (by simpa using hb), List.map_cons, ← ih]
      · rw [if_neg hb, List.filter_cons_of_neg (by simpa using hb), ← ih]
  rw [hfl] at lc
  have hml : m.length ≠ 0 := fun e => hm (List.eq_nil_of_length_eq_zero e)
  have g1 : ((seen X).map fun (i : Nat) => D.int (i : Int)).length ≤ 16777216 := by
    have := seen_len (xs := X)
    rw [List.length_map]; omega
  have hlt : ∀ k, D.lts k ((seen X).map fun (i : Nat) => D.int (i : Int)) = true := fun k => dlts_map fun _ _ => rfl
  unfold f_looked_at b_looked_at
  rw [fnM3]
  generalize ((seen X).map fun (i : Nat) => D.int (i : Int)) = SN at *
  generalize (List.range X.length).map (fun (i : Nat) => D.tup [.int (i : Int), fr ((X[i]?).getD 0)]) = EN at *
  generalize X.map fr = XF at *
  generalize hdD h = HD at *
  simp -implicitDefEqProofs [sr, hat0, e1, he, lc, g1, hlt]
  rw [lvM_loc]
  simp -implicitDefEqProofs [-List.map_map, map_fzl, hlt, hml]
end P_k18
namespace P_k18
open PySem L2 PySem.Spec PyProof.Rows LN

def cmT (sr : List (List Rat)) (c : Int) : Rat := sr.foldl (fun s r => s + rAt r c) 0
def cm (sr : List (List Rat)) (c : Int) : Rat := cmT sr c * Rat.divInt 1 (sr.length : Nat)
theorem div_len {k : Nat} (h0 : 0 < k) (h : k ≤ 9) : k ∣ 2520 := by
  have : k = 1 ∨ k = 2 ∨ k = 3 ∨ k = 4 ∨ k = 5 ∨ k = 6 ∨ k = 7 ∨ k = 8 ∨ k = 9 := by omega
  rcases this with e | e | e | e | e | e | e | e | e <;> subst e <;> decide
theorem cm_run {L F n : Nat} {sr : List (List Rat)} {c : Int} {m : Mem} (R : Rq L F) (h : ∀ r ∈ sr, RwOk L n r) (h0 : sr ≠ []) (hl : sr.length ≤ 9) (hc : InR n c) :
    f_column_mean [.lst (sr.map rowD), .int c] m = .ok (fr (cm sr c)) m ∧ Dn (L * 2520) (9 * 2 ^ 61) (cm sr c) := by
  have lK : L ∣ KK L F := ⟨L * F * 2520, by show L * L * F * 2520 = _; simp only [Nat.mul_assoc]⟩
  have hz : fr (0 : Rat) = .tup [.int 0, .int 1] := rfl
  obtain ⟨z, e1, k, j1, j2, -⟩ := forD_pure (ck := fun _ => True) (g := gN 3) (b := w_column_mean_1)
    (fun (s : Rat) (z : Option D) => [some (.lst (sr.map rowD)), some (.int c), some (fr s), z]) (fun _ => m ++ [[]]) rowD (fun s r => s + rAt r c)
    (fun rs s => ∃ k, k + rs.length = sr.length ∧ Dn L (k * 2 ^ 61) s ∧ ∀ r ∈ rs, RwOk L n r) sr 0 none ⟨0, by simp, Dn.zero, h⟩ (fun _ _ _ => trivial) (by
      rintro r rs s z ⟨k, j1, j2, j3⟩
      rw [List.length_cons] at j1
      have hr := j3 r (by simp)
      have hin : InR r.length c := by rw [hr.1]; exact hc
      have hq := hr.2 _ (rAt_mem hin)
      have hat := rAt_at hin
      refine ⟨⟨k + 1, by omega, by rw [Nat.add_mul, Nat.one_mul]; exact j2.add hq, fun x hx => j3 x (by simp [hx])⟩, some (rowD r), ?_⟩
      generalize sr.map rowD = SR at *
      by_cases q0 : rAt r c = 0
      · rw [q0] at hat
        rw [q0, Rat.add_zero]
        rw [hz] at hat
        have hrd : rowD r = .tup (r.map fr) := rfl
        rw [hrd]
        simp -implicitDefEqProofs [hat]
      · have hn : (rAt r c).num ≠ 0 := fun z => q0 (Rat.num_eq_zero.mp z)
        have hk : k ≤ 9 := by omega
        have t2 := fun m' => plus_run (m := m') (R.rm.sz ((j2.dvd lK).mono (Nat.le_trans (Nat.mul_le_mul_right _ hk) (by decide +kernel)))) (R.rm.sz ((hq.dvd lK).mono (by decide +kernel))) (by omega)
        have hfr : ∀ q : Rat, fr q = .tup [.int q.num, .int q.den] := fun _ => rfl
        have hrd : rowD r = .tup (r.map fr) := rfl
        generalize rAt r c = q at *
        rw [hrd]
        simp -implicitDefEqProofs [hat]
        simp -implicitDefEqProofs [hfr q, hn]
        simp -implicitDefEqProofs [← hfr q, hat, t2])
  simp only [List.length_nil, Nat.add_zero] at j1
  subst j1
  have ht : sr.foldl (fun s r => s + rAt r c) 0 = cmT sr c := rfl
  rw [ht] at e1 j2
  have hp : 0 < sr.length := List.length_pos_iff.mpr h0
  have d1 : Dn 2520 1 (Rat.divInt 1 (sr.length : Nat)) := by
    have dl := div_len hp hl
    obtain ⟨w, hw⟩ := dl
    refine Dn.dvd (L := sr.length) ⟨1, ?_, by omega⟩ ⟨w, hw⟩
    rw [Rat.divInt_eq_div]
    exact Rat.div_mul_cancel (cast_ne hp)
  have jj := j2.mono (Nat.mul_le_mul_right (2 ^ 61) hl)
  have dd := jj.mul d1
  rw [Nat.mul_one] at dd
  refine ⟨?_, dd⟩
  have k1 : L * 2520 ∣ KK L F := ⟨L * F, by show L * L * F * 2520 = _; simp only [Nat.mul_assoc, Nat.mul_left_comm, Nat.mul_comm]⟩
  have k2 : 2520 ∣ KK L F := Nat.dvd_mul_left _ _
  have t1 := fun m' => times_run (m := m') (R.rm.sz ((jj.dvd lK).mono (by decide +kernel))) (R.rm.sz ((d1.dvd k2).mono (by decide +kernel))) (by omega)
  have hlen : (sr.length : Int) ≠ 0 := by omega
  have fl := fun m' => fraction_run (p := 1) (q := (sr.length : Int)) (m := m') hlen (by
    have : (sr.length : Int).natAbs ≤ 9 := by omega
    exact Nat.lt_of_le_of_lt this (by decide +kernel))
  have hfr : ∀ q : Rat, fr q = .tup [.int q.num, .int q.den] := fun _ => rfl
  have hcz : c_ZERO = fr 0 := rfl
  unfold cm
  unfold f_column_mean b_column_mean
  rw [fnD2]
  generalize cmT sr c = T at *
  generalize Rat.divInt 1 (sr.length : Int) = V at *
  have hsl : (sr.map rowD).length = sr.length := by simp
  generalize sr.map rowD = SR at *
  rw [hcz]
  by_cases h00 : T = 0
  · subst h00
    rw [Rat.zero_mul]
    simp -implicitDefEqProofs [e1]
    simp -implicitDefEqProofs [hz]
  · have hn : T.num ≠ 0 := fun z => h00 (Rat.num_eq_zero.mp z)
    simp -implicitDefEqProofs [e1]
    simp -implicitDefEqProofs [hfr T, hn]
    simp -implicitDefEqProofs [← hfr T, hsl, fl, t1]
end P_k18
namespace P_k18
open PySem L2 PySem.Spec PyProof.Rows LN

def lks (rows : List (List Rat)) (S : List (Int × Int × Rat)) (a : List Rat) : List (List Rat) := (seen (rows.map fun r => sc a S r)).map fun i => (rows[i]?).getD []
def stpH (sr : List (List Rat)) (G : List (Int × Rat)) (t : Int × Int × Rat) : List (Int × Rat) := if cm sr t.2.1 = 0 then G else addA G (t.1, t.2.2 * cm sr t.2.1)
def stpU (rows : List (List Rat)) (a : List Rat) (G : List (Int × Rat)) (h : Hd) : List (Int × Rat) := h.G.foldl (stpH (lks rows h.S a)) G
def gvR (rows : List (List Rat)) (hs : List Hd) (a : List Rat) : List (Int × Rat) := hs.foldl (stpU rows a) []
def aft (rows : List (List Rat)) (hs : List Hd) (a : List Rat) : List Rat := appG (gvR rows hs a) a
theorem lks_mem {rows : List (List Rat)} {S : List (Int × Int × Rat)} {a r : List Rat} (h : r ∈ lks rows S a) : r ∈ rows := by
  obtain ⟨i, hi, rfl⟩ := List.mem_map.mp h
  have hl := seen_lt hi
  rw [List.length_map] at hl
  rw [List.getElem?_eq_getElem hl]
  exact List.getElem_mem hl
theorem lks_ne {rows : List (List Rat)} {S : List (Int × Int × Rat)} {a : List Rat} (h : rows ≠ []) : lks rows S a ≠ [] := fun e => by
  have := List.map_eq_nil_iff.mp e
  exact seen_ne (fun e2 => h (List.map_eq_nil_iff.mp e2)) this
theorem lks_len {rows : List (List Rat)} {S : List (Int × Int × Rat)} {a : List Rat} : (lks rows S a).length ≤ rows.length := by
  unfold lks
  rw [List.length_map]
  have := seen_len (xs := rows.map fun r => sc a S r)
  rwa [List.length_map] at this
abbrev PB : Nat := 18000 * (9 * 2 ^ 61)
/-- the frame of the loop -/
def fr0 (X : List D) (ds : List MO) (G : List (Int × Rat)) (ls : List MO) : List MO := .lst X :: (ds ++ dkM G :: ls)
theorem fr0_at {X : List D} {ds ls : List MO} {G : List (Int × Rat)} : (fr0 X ds G ls)[ds.length + 1]? = some (dkM G) := by
  unfold fr0; rw [List.getElem?_cons_succ, List.getElem?_append_right (Nat.le_refl _)]; simp
theorem fr0_set {X : List D} {ds ls : List MO} {G G' : List (Int × Rat)} : (fr0 X ds G ls).set (ds.length + 1) (dkM G') = fr0 X ds G' ls := by
  unfold fr0; simp
theorem fr0_app {X : List D} {ds ls : List MO} {G : List (Int × Rat)} {o : MO} : fr0 X ds G ls ++ [o] = fr0 X ds G (ls ++ [o]) := by
  unfold fr0; simp
theorem giv_run {L F n N left : Nat} {sr : List (List Rat)} {X : List D} {ds ls : List MO} {m : Mem} {d0 d1 d2 d3 d4 d6 : Option D} {z8 z9 z10 z11 d12 : Option D} (R : Rq L F) (hN : N ≤ 100) (h : ∀ r ∈ sr, RwOk L n r) (h0 : sr ≠ []) (hl : sr.length ≤ 9) (ts : List (Int × Int × Rat)) (G : List (Int × Rat)) (ht : ∀ t ∈ ts, TOk n F t) (hG : GOk (KK L F) PB N n G (ts.length + left)) :
    ∃ y8 y9 y10 y11, forD (fun _ => True) (gT (gsCons (gN 8) (gsCons (gN 9) (gsCons (gN 10) gsNil)))) w_heads_done_2 (ts.map tri) [d0, d1, d2, d3, d4, some (.loc m.length (ds.length + 1)), d6, some (.lst (sr.map rowD)), z8, z9, z10, z11, d12] (m ++ [fr0 X ds G ls])
      = .ok (.nx [d0, d1, d2, d3, d4, some (.loc m.length (ds.length + 1)), d6, some (.lst (sr.map rowD)), y8, y9, y10, y11, d12]) (m ++ [fr0 X ds (ts.foldl (stpH sr) G) ls]) ∧ GOk (KK L F) PB N n (ts.foldl (stpH sr) G) left := by
  obtain ⟨z, e1, j1, -⟩ := forD_pure (ck := fun _ => True) (g := gT (gsCons (gN 8) (gsCons (gN 9) (gsCons (gN 10) gsNil)))) (b := w_heads_done_2)
    (fun (_ : List (Int × Rat)) (z : Option D × Option D × Option D × Option D) => [d0, d1, d2, d3, d4, some (.loc m.length (ds.length + 1)), d6, some (.lst (sr.map rowD)), z.1, z.2.1, z.2.2.1, z.2.2.2, d12]) (fun G => m ++ [fr0 X ds G ls]) tri (stpH sr)
    (fun ts G => GOk (KK L F) PB N n G (ts.length + left) ∧ ∀ t ∈ ts, TOk n F t) ts G (z8, z9, z10, z11) ⟨hG, ht⟩ (fun _ _ _ => trivial) (by
      rintro t ts G z ⟨j1, j2⟩
      rw [List.length_cons, Nat.add_right_comm] at j1
      have to := j2 t (by simp)
      obtain ⟨c1, c2⟩ := cm_run (m := m ++ [fr0 X ds G ls]) R h h0 hl to.b
      have hfr : ∀ q : Rat, fr q = .tup [.int q.num, .int q.den] := fun _ => rfl
      generalize hv : cm sr t.2.1 = v at *
      have kFv : F * (L * 2520) ∣ KK L F := ⟨L, by show L * L * F * 2520 = _; simp only [Nat.mul_assoc, Nat.mul_left_comm, Nat.mul_comm]⟩
      have kv : L * 2520 ∣ KK L F := Nat.dvd_trans (Nat.dvd_mul_left _ _) kFv
      have kF : F ∣ KK L F := Nat.dvd_trans (Nat.dvd_mul_right _ _) kFv
      have dq : Dn (KK L F) PB (t.2.2 * v) := (to.f.mul c2).dvd kFv
      have hstp : stpH sr G t = if v = 0 then G else addA G (t.1, t.2.2 * v) := by unfold stpH; rw [hv]
      by_cases hv0 : v = 0
      · rw [if_pos hv0] at hstp
        rw [hstp]
        refine ⟨⟨j1.mono (by omega), fun x hx => j2 x (by simp [hx])⟩, (some (.int t.1), some (.int t.2.1), some (fr t.2.2), some (fr v)), ?_⟩
        subst hv0
        generalize sr.map rowD = SR at *
        have hz : fr (0 : Rat) = .tup [.int 0, .int 1] := rfl
        simp -implicitDefEqProofs [tri, c1]
        simp -implicitDefEqProofs [hz]
      · rw [if_neg hv0] at hstp
        rw [hstp]
        have hn : v.num ≠ 0 := fun z => hv0 (Rat.num_eq_zero.mp z)
        have t1 := fun m' => times_run (m := m') (R.rm.sz ((to.f.dvd kF).mono (by decide +kernel))) (R.rm.sz ((c2.dvd kv).mono (by decide +kernel))) (by omega)
        obtain ⟨k, g1, g2, g3⟩ := j1.len
        have ag := add_gift_run (m := m) (f0 := fr0 X ds G ls) (j := ds.length + 1) (c := t.1) (q := t.2.2 * v) R.rm fr0_at j1.nd (by omega) (fun p hp => (g3 p hp).1.mono (Nat.le_trans (Nat.mul_le_mul_right _ (show k ≤ 100 by omega)) (by decide +kernel))) (dq.mono (by decide +kernel))
        rw [fr0_set] at ag
        refine ⟨⟨j1.add dq to.a, fun x hx => j2 x (by simp [hx])⟩, (some (.int t.1), some (.int t.2.1), some (fr t.2.2), some (fr v)), ?_⟩
        generalize sr.map rowD = SR at *
        generalize t.2.2 * v = w at *
        simp -implicitDefEqProofs [tri, c1]
        simp -implicitDefEqProofs [hfr v, hn]
        simp -implicitDefEqProofs [← hfr v, t1, ag])
  simp only [List.length_nil, Nat.zero_add] at j1
  exact ⟨_, _, _, _, e1, j1⟩
end P_k18
namespace P_k18
open PySem L2 PySem.Spec PyProof.Rows LN

theorem one_head {L F n N left at' : Nat} {rows : List (List Rat)} {a : List Rat} {h : Hd} {X : List D} {ds ls : List MO} {m : Mem} {Rd d1 d2 : D} {z6 z7 z8 z9 z10 z11 : Option D} {G : List (Int × Rat)} (R : Rq L F) (hN : N ≤ 100) (W : Rw Rd rows m) (hrl : rows.length ≤ 9) (hr : ∀ r ∈ rows, RwOk L n r) (hh : HOk n F h) (hat : rows[at']? = some a) (hG : GOk (KK L F) PB N n G (4 + left)) :
    ∃ y8 y9 y10 y11 o, (gN 6 (hdD h) [some Rd, some d1, some d2, some (.int (at' : Int)), some (rowD a), some (.loc m.length (ds.length + 1)), z6, z7, z8, z9, z10, z11, none] (m ++ [fr0 X ds G ls])).bind w_heads_done_3
      = .ok (.nx [some Rd, some d1, some d2, some (.int (at' : Int)), some (rowD a), some (.loc m.length (ds.length + 1)), some (hdD h), some (.lst ((lks rows h.S a).map rowD)), y8, y9, y10, y11, none]) (m ++ [fr0 X ds (stpU rows a G h) (ls ++ [o])]) ∧ GOk (KK L F) PB N n (stpU rows a G h) left := by
  have hne : rows ≠ [] := fun e => by rw [e] at hat; simp at hat
  have lr := looked_run (m := m ++ [fr0 X ds G ls]) R (W.app _) (by omega) hr hh hat (by simp)
  have hsl : ((seen (rows.map fun r => sc a h.S r)).map fun (i : Nat) => D.int (i : Int)).length ≤ 9 := by
    have := seen_len (xs := rows.map fun r => sc a h.S r)
    rw [List.length_map] at this ⊢
    omega
  obtain ⟨y8, y9, y10, y11, e1, g1⟩ := giv_run (m := m) (X := X) (ds := ds) (ls := ls ++ [.lst ((seen (rows.map fun r => sc a h.S r)).map fun (i : Nat) => D.int (i : Int))]) (d0 := some Rd) (d1 := some d1) (d2 := some d2) (d3 := some (.int (at' : Int))) (d4 := some (rowD a)) (d6 := some (hdD h)) (z8 := z8) (z9 := z9) (z10 := z10) (z11 := z11) (d12 := none) (left := left) R hN (fun r hrr => hr r (lks_mem hrr)) (lks_ne hne) (Nat.le_trans lks_len hrl) h.G G hh.g (hG.mono (by have := hh.gl; omega))
  refine ⟨y8, y9, y10, y11, .lst ((seen (rows.map fun r => sc a h.S r)).map fun (i : Nat) => D.int (i : Int)), ?_, g1⟩
  have hst : h.G.foldl (stpH (lks rows h.S a)) G = stpU rows a G h := rfl
  rw [hst] at e1
  have lc := lcD_map (ck := ckL m.length (fr0 X ds G ls).length ((seen (rows.map fun r => sc a h.S r)).map fun (i : Nat) => D.int (i : Int))) (g := gN 12) (t := tAll) (f := e_heads_done_1) (fun (i : Nat) => D.int (i : Int)) (fun i => rowD ((rows[i]?).getD [])) (ρ := [some Rd, some d1, some d2, some (.int (at' : Int)), some (rowD a), some (.loc m.length (ds.length + 1)), some (hdD h), z7, z8, z9, z10, z11, none])
    (m := m ++ [fr0 X ds G ls ++ [.lst ((seen (rows.map fun r => sc a h.S r)).map fun (i : Nat) => D.int (i : Int))]]) (seen (rows.map fun r => sc a h.S r)) (by simp [ckL]) (fun i hi => ⟨_, rfl, rfl, by
      have hl := seen_lt hi
      rw [List.length_map] at hl
      have hx := W.x [fr0 X ds G ls ++ [.lst ((seen (rows.map fun r => sc a h.S r)).map fun (i : Nat) => D.int (i : Int))]] i rows[i] (List.getElem?_eq_getElem hl)
      rw [List.getElem?_eq_getElem hl]
      simp -implicitDefEqProofs [hx]⟩)
  have hmm : (seen (rows.map fun r => sc a h.S r)).map (fun i => rowD ((rows[i]?).getD [])) = (lks rows h.S a).map rowD := by unfold lks; rw [List.map_map]; rfl
  rw [hmm] at lc
  have hlk : ((lks rows h.S a).map rowD).length ≤ 16777216 := by
    have := lks_len (rows := rows) (S := h.S) (a := a)
    rw [List.length_map]; omega
  have hlt : ∀ k, D.lts k ((lks rows h.S a).map rowD) = true := fun k => dlts_map fun _ _ => dlt_row
  have hd : hdD h = .tup [.tup (h.S.map tri), .tup (h.G.map tri)] := rfl
  generalize (seen (rows.map fun r => sc a h.S r)).map (fun (i : Nat) => D.int (i : Int)) = SN at *
  generalize (lks rows h.S a).map rowD = LK at *
  generalize stpU rows a G h = G2 at *
  generalize rowD a = RA at *
  rw [← fr0_app (G := G)] at e1
  generalize hf1 : fr0 X ds G ls = f1 at *
  simp -implicitDefEqProofs [lr, lc, hlk, hlt]
  rw [hd] at e1 ⊢
  simp -implicitDefEqProofs [e1]
/-- how a list of heads is handed -/
def Hw (Ud : D) (hs : List Hd) (m : Mem) : Prop := ∃ ck0 : Mem → Prop, ∀ tl, kWalk Ud (m ++ tl) = .ok ⟨hs.map hdD, ck0⟩ (m ++ tl) ∧ ck0 (m ++ tl)
theorem heads_loop {L F n N at' : Nat} {rows : List (List Rat)} {a : List Rat} {X : List D} {ds : List MO} {m : Mem} {Rd d1 d2 : D} {ck0 : Mem → Prop} (hck : ∀ tl, ck0 (m ++ tl)) (R : Rq L F) (hN : N ≤ 100) (W : Rw Rd rows m) (hrl : rows.length ≤ 9) (hr : ∀ r ∈ rows, RwOk L n r) (hat : rows[at']? = some a) : ∀ (hs : List Hd) (z6 z7 z8 z9 z10 z11 : Option D) (G : List (Int × Rat)) (ls : List MO), (∀ h ∈ hs, HOk n F h) → GOk (KK L F) PB N n G (4 * hs.length) →
    ∃ y6 y7 y8 y9 y10 y11 ls', forD ck0 (gN 6) w_heads_done_3 (hs.map hdD) [some Rd, some d1, some d2, some (.int (at' : Int)), some (rowD a), some (.loc m.length (ds.length + 1)), z6, z7, z8, z9, z10, z11, none] (m ++ [fr0 X ds G ls])
      = .ok (.nx [some Rd, some d1, some d2, some (.int (at' : Int)), some (rowD a), some (.loc m.length (ds.length + 1)), y6, y7, y8, y9, y10, y11, none]) (m ++ [fr0 X ds (hs.foldl (stpU rows a) G) ls']) ∧ GOk (KK L F) PB N n (hs.foldl (stpU rows a) G) 0
  | [], z6, z7, z8, z9, z10, z11, G, ls, _, hG => ⟨_, _, _, _, _, _, ls, forD_nil (hck _), hG⟩
  | h :: hs, z6, z7, z8, z9, z10, z11, G, ls, hh, hG => by
    obtain ⟨y8, y9, y10, y11, o, e1, g1⟩ := one_head (m := m) (X := X) (ds := ds) (ls := ls) (d1 := d1) (d2 := d2) (z6 := z6) (z7 := z7) (z8 := z8) (z9 := z9) (z10 := z10) (z11 := z11) (left := 4 * hs.length) R hN W hrl hr (hh h (by simp)) hat (hG.mono (by rw [List.length_cons]; omega))
    obtain ⟨q6, q7, q8, q9, q10, q11, ls', e2, g2⟩ := heads_loop hck R hN W hrl hr hat hs _ _ y8 y9 y10 y11 _ (ls ++ [o]) (fun x hx => hh x (by simp [hx])) g1
    refine ⟨q6, q7, q8, q9, q10, q11, ls', ?_, g2⟩
    rw [List.map_cons, forD_cons (hck _), e1]
    exact e2
theorem enumD_map {rows : List (List Rat)} : enumD 0 (rows.map rowD) = (List.range rows.length).map fun (i : Nat) => D.tup [.int (i : Int), rowD ((rows[i]?).getD [])] := by
  have := enum_range (f := fun i => rowD ((rows[i]?).getD [])) rows.length 0
  simp only [Nat.zero_add] at this
  rw [← this]
  congr 1
  apply List.ext_getElem?
  intro i
  rw [List.getElem?_map, List.getElem?_map]
  by_cases hi : i < rows.length
  · rw [List.getElem?_range hi, List.getElem?_eq_getElem hi]
    show _ = some (rowD ((rows[i]?).getD []))
    rw [List.getElem?_eq_getElem hi]
    rfl
  · rw [List.getElem?_eq_none (by omega), List.getElem?_eq_none (by simp; omega)]; rfl
end P_k18
namespace P_k18
open PySem L2 PySem.Spec PyProof.Rows LN

theorem aft_len {rows : List (List Rat)} {hs : List Hd} {a : List Rat} : (aft rows hs a).length = a.length := appG_len _ _
theorem heads_done_run {L F n : Nat} {rows : List (List Rat)} {hs : List Hd} {Rd Ud : D} {m : Mem} (R : Rq L F) (W : Rw Rd rows m) (U : Hw Ud hs m) (hrl : rows.length ≤ 9) (hhl : hs.length ≤ 25) (hr : ∀ r ∈ rows, RwOk L n r) (hn : n ≤ 1000) (hh : ∀ h ∈ hs, HOk n F h) (hm : m ≠ []) :
    f_heads_done [Rd, Ud] m = .ok (Mem.nx m) (Mem.new m (.lst (rows.map fun r => rowD (aft rows hs r)))) := by
  obtain ⟨ck0, hu⟩ := U
  obtain ⟨kv, ckv, hv⟩ := W.v
  have lK : L ∣ KK L F := ⟨L * F * 2520, by show L * L * F * 2520 = _; simp only [Nat.mul_assoc]⟩
  have one : ∀ (i : Nat) (a : List Rat), rows[i]? = some a → ∀ (X : List D) (ds : List MO) (z3 z4 z5 z6 z7 z8 z9 z10 z11 : Option D), (∀ k, D.lts k X = true) → X.length ≤ 9 → ∃ (y5 y6 y7 y8 y9 y10 y11 : Option D) (ds' : List MO),
      (gT (gsCons (gN 3) (gsCons (gN 4) gsNil)) (.tup [.int (i : Int), rowD a]) [some Rd, some Ud, some (.loc m.length 0), z3, z4, z5, z6, z7, z8, z9, z10, z11, none] (m ++ [.lst X :: ds])).bind w_heads_done_4 = .ok (.nx [some Rd, some Ud, some (.loc m.length 0), some (.int (i : Int)), some (rowD a), y5, y6, y7, y8, y9, y10, y11, none])
        (m ++ [.lst (X ++ [rowD (aft rows hs a)]) :: ds']) := by
    intro i a hat X ds z3 z4 z5 z6 z7 z8 z9 z10 z11 hX hXl
    obtain ⟨y6, y7, y8, y9, y10, y11, ls, e1, g1⟩ := heads_loop (m := m) (X := X) (ds := ds) (d1 := Ud) (d2 := .loc m.length 0) (N := 100) (fun tl => (hu tl).2) R (by omega) W hrl hr hat hs z6 z7 z8 z9 z10 z11 [] [] hh (gok_nil (by omega))
    have hG : hs.foldl (stpU rows a) [] = gvR rows hs a := rfl
    rw [hG] at e1 g1
    obtain ⟨ha1, ha2⟩ := hr a (List.mem_of_getElem? hat)
    have wg := with_gifts_run (m := m) (f0 := fr0 X ds (gvR rows hs a) ls) (j := ds.length + 1) R.rm fr0_at ha2 lK (by rw [ha1]; exact g1) (by decide +kernel) (by omega)
    have hb : appG (gvR rows hs a) a = aft rows hs a := rfl
    rw [hb] at wg
    have wg1 := wg.1
    have f1 : fr0 X ds [] [] = .lst X :: (ds ++ [.dk [] []]) := rfl
    have f2 : ∃ ds', fr0 X ds (gvR rows hs a) ls = .lst X :: ds' := ⟨_, rfl⟩
    obtain ⟨ds', f2⟩ := f2
    rw [f1, f2] at e1
    rw [f2] at wg1
    refine ⟨some (.loc m.length (ds.length + 1)), y6, y7, y8, y9, y10, y11, ds', ?_⟩
    have hu1 := fun tl => (hu tl).1
    have hXl2 : X.length ≤ 16777215 := by omega
    generalize aft rows hs a = br at *
    simp -implicitDefEqProofs [hu1, e1, wg1, hX, hXl2]
  obtain ⟨ρ', m', e1, k, ds, z3, z4, z5, z6, z7, z8, z9, z10, z11, h1, rfl, rfl, h2⟩ := forD_ind (ck := ckv) (g := gT (gsCons (gN 3) (gsCons (gN 4) gsNil))) (b := w_heads_done_4)
    (fun dl ρ m' => ∃ (k : Nat) (ds : List MO) (z3 z4 z5 z6 z7 z8 z9 z10 z11 : Option D), dl = ((List.range rows.length).map fun (i : Nat) => D.tup [.int (i : Int), rowD ((rows[i]?).getD [])]).drop k ∧ ρ = [some Rd, some Ud, some (.loc m.length 0), z3, z4, z5, z6, z7, z8, z9, z10, z11, none] ∧ m' = m ++ [.lst ((rows.take k).map fun r => rowD (aft rows hs r)) :: ds] ∧ k ≤ rows.length)
    ((List.range rows.length).map fun (i : Nat) => D.tup [.int (i : Int), rowD ((rows[i]?).getD [])]) [some Rd, some Ud, some (.loc m.length 0), none, none, none, none, none, none, none, none, none, none] (m ++ [[.lst []]]) ⟨0, [], none, none, none, none, none, none, none, none, none, rfl, rfl, by simp, by omega⟩
    (by rintro dl ρ m' ⟨k, ds, z3, z4, z5, z6, z7, z8, z9, z10, z11, -, -, rfl, -⟩; exact (hv _).2) (by
      rintro d dl ρ m' ⟨k, ds, z3, z4, z5, z6, z7, z8, z9, z10, z11, h1, rfl, rfl, h2⟩
      have hk : k < rows.length := by
        by_cases hk : k < rows.length
        · exact hk
        · rw [List.drop_eq_nil_of_le (by simp; omega)] at h1
          cases h1
      rw [List.drop_eq_getElem_cons (by simpa using hk)] at h1
      injection h1 with h1a h1b
      have hq : rows[k]? = some rows[k] := List.getElem?_eq_getElem hk
      have hdd : d = .tup [.int (k : Int), rowD rows[k]] := by
        rw [h1a, List.getElem_map, List.getElem_range, hq]
        rfl
      obtain ⟨y5, y6, y7, y8, y9, y10, y11, ds', e1⟩ := one k rows[k] hq ((rows.take k).map fun r => rowD (aft rows hs r)) ds z3 z4 z5 z6 z7 z8 z9 z10 z11 (fun k => dlts_map fun _ _ => dlt_row) (by simp; omega)
      have htk : rows.take (k + 1) = rows.take k ++ [rows[k]] := by rw [List.take_add_one, hq]; rfl
      refine ⟨_, _, _, m ++ [.lst ((rows.take (k + 1)).map fun r => rowD (aft rows hs r)) :: ds'], (show _ = Rs.ok [some Rd, some Ud, some (.loc m.length 0), some (.int (k : Int)), some (rowD rows[k]), z5, z6, z7, z8, z9, z10, z11, none] _ by rw [hdd]; rfl), .inl ?_, k + 1, ds', some (.int (k : Int)), some (rowD rows[k]), y5, y6, y7, y8, y9, y10, y11, h1b, rfl, rfl, by omega⟩
      rw [htk, List.map_append]
      rw [show gT (gsCons (gN 3) (gsCons (gN 4) gsNil)) (.tup [.int (k : Int), rowD rows[k]]) [some Rd, some Ud, some (.loc m.length 0), z3, z4, z5, z6, z7, z8, z9, z10, z11, none] (m ++ [.lst ((rows.take k).map fun r => rowD (aft rows hs r)) :: ds]) = Rs.ok [some Rd, some Ud, some (.loc m.length 0), some (.int (k : Int)), some (rowD rows[k]), z5, z6, z7, z8, z9, z10, z11, none] (m ++ [.lst ((rows.take k).map fun r => rowD (aft rows hs r)) :: ds]) from rfl, Rs.bind_ok] at e1
      exact e1)
  have hk : k = rows.length := by
    by_cases hk : k < rows.length
    · have := congrArg List.length h1
      simp at this
      omega
    · omega
  subst hk
  rw [List.take_length] at e1
  have hml : m.length ≠ 0 := fun e => hm (List.eq_nil_of_length_eq_zero e)
  have hlt : ∀ k, D.lts k (rows.map fun r => rowD (aft rows hs r)) = true := fun k => dlts_map fun _ _ => dlt_row
  have hv1 := fun tl => (hv tl).1
  have he := enumD_map (rows := rows)
  unfold f_heads_done b_heads_done
  rw [fnM2]
  generalize (rows.map fun r => rowD (aft rows hs r)) = xs at *
  simp -implicitDefEqProofs [hv1, he, e1]
  rw [lvM_loc]
  simp -implicitDefEqProofs [-List.map_map, map_fzl, hlt, hml]
end P_k18
namespace P_k18
open PySem L2 PySem.Spec PyProof.Rows LN

def yAt (y : List Int) (c : Int) : Int := (y[c.toNat]?).getD 0
theorem yAt_at {y : List Int} {c : Int} (h : InR y.length c) : atI (y.map D.int) c = some (.int (yAt y c)) := by
  have e : c = (c.toNat : Int) := by have := h.1; omega
  have hl : c.toNat < y.length := by have := h.1; have := h.2; omega
  unfold yAt
  conv => lhs; rw [e]
  rw [atI_natE, List.getElem?_map, List.getElem?_eq_getElem hl]
  rfl
theorem yAt_mem {y : List Int} {c : Int} (h : InR y.length c) : yAt y c ∈ y := by
  have hl : c.toNat < y.length := by have := h.1; have := h.2; omega
  unfold yAt
  rw [List.getElem?_eq_getElem hl]
  exact List.getElem_mem hl
def mS (S : List (Int × Int × Rat)) : Nat := cmnN (S.map (·.2.2.den))
theorem mS_pos (S : List (Int × Int × Rat)) : 0 < mS S := cmn_pos fun d hd => by
  obtain ⟨q, _, rfl⟩ := List.mem_map.mp hd; exact q.2.2.den_pos
theorem mS_dvd {S : List (Int × Int × Rat)} {t : Int × Int × Rat} (h : t ∈ S) : t.2.2.den ∣ mS S := dvd_cmn (List.mem_map_of_mem (f := fun x : Int × Int × Rat => x.2.2.den) h)
structure HDn (W A n : Nat) (h : Hd) : Prop where
  w1 : mS h.S ∣ W
  w2 : 2520 * mS h.G ∣ W
  s : ∀ t ∈ h.S, InR n t.1 ∧ InR n t.2.1 ∧ t.2.2.num.natAbs < 2 ^ A
  g : ∀ t ∈ h.G, InR n t.1 ∧ InR n t.2.1 ∧ t.2.2.num.natAbs < 2 ^ A
  sl : h.S.length ≤ 5
  gl : h.G.length ≤ 4
theorem mS_run {W A : Nat} {S : List (Int × Int × Rat)} {m : Mem} (hW : 0 < W) (hA : W < 2 ^ A) (hA2 : A ≤ 8000) (hS : mS S ∣ W) : f_law_common [.lst (S.map fun t => fr t.2.2)] m = .ok (.int (mS S : Nat)) m := by
  have cr := common_run (m := m) (K := W) (A := A) (ps := S.map fun t => (t.2.2.num, t.2.2.den)) (d := .lst (S.map fun t => fr t.2.2)) (fun _ => by rw [List.map_map]; rfl) (fun p hp => by
    obtain ⟨q, hq, rfl⟩ := List.mem_map.mp hp
    exact ⟨q.2.2.den_pos, Nat.dvd_trans (mS_dvd hq) hS⟩) hW hA hA2
  rw [cr]
  simp [mS]
  rfl
def hereZ (mo : Nat) (za : List Int) (t : Int × Int × Rat) : Int := yAt za t.1 * t.2.2.num * ((mo / t.2.2.den : Nat) : Int)
def scZ (mo : Nat) (za : List Int) (S : List (Int × Int × Rat)) (z : List Int) : Int := S.foldl (fun s t => s + hereZ mo za t * yAt z t.2.1) 0
theorem sc0 {mo : Nat} {za : List Int} : ∀ Z : List (List Int), (Z.map fun z => D.int (scZ mo za [] z)) = (List.replicate Z.length [D.int 0]).flatten
  | [] => rfl
  | z :: Z => by rw [List.map_cons, sc0 Z, List.length_cons, List.replicate_succ, List.flatten_cons]; rfl
theorem scored_run {W A n l at' : Nat} {Z : List (List Int)} {za : List Int} {h : Hd} {m : Mem} (hW : 0 < W) (hA : W < 2 ^ A) (hA2 : A ≤ 3000) (hh : HDn W A n h) (hl : l < 2 ^ A) (hat : Z[at']? = some za)
    (hZ : ∀ z ∈ Z, z.length = n ∧ ∀ x ∈ z, x.natAbs < 2 ^ A) (hZl : Z.length ≤ 9) :
    f_law_scored [stD l Z, hdD h, .int (at' : Int)] m = .ok (.tup [.lst ((Z.map (scZ (mS h.S) za h.S)).map .int), .int ((mS h.S * l * l : Nat) : Int)]) m := by
  have hle : ∀ x, x ∣ W → (x : Int).natAbs < 2 ^ A := fun x hx => by
    have := Nat.le_of_dvd hW hx
    simp only [Int.natAbs_natCast]
    omega
  obtain ⟨za1, za2⟩ := hZ za (List.mem_of_getElem? hat)
  have mr := fun m' => mS_run (m := m') hW hA (by omega) hh.w1
  have hza : atI (Z.map fun z => D.lst (z.map .int)) (at' : Int) = some (.lst (za.map .int)) := by rw [atI_natE, List.getElem?_map, hat]; rfl
  obtain ⟨ρ', m', e1, rest, done, z7, z8, h1, rfl, rfl, h2⟩ := forD_ind (ck := fun _ => True) (g := gN 7) (b := w_law_scored_3)
    (fun ds ρ m' => ∃ (rest done : List (Int × Int × Rat)) (z7 z8 : Option D), ds = rest.map tri ∧ ρ = [some (stD l Z), some (hdD h), some (.int (at' : Int)), some (.int (l : Int)), some (.lst (Z.map fun z => .lst (z.map .int))), some (.int (mS h.S : Int)), some (.lst (Z.map fun z => .int (scZ (mS h.S) za done z))), z7, z8, none, none] ∧ m' = m ++ [[]] ∧ done ++ rest = h.S)
    (h.S.map tri) [some (stD l Z), some (hdD h), some (.int (at' : Int)), some (.int (l : Int)), some (.lst (Z.map fun z => .lst (z.map .int))), some (.int (mS h.S : Int)), some (.lst (Z.map fun z => .int (scZ (mS h.S) za [] z))), none, none, none, none] (m ++ [[]]) ⟨h.S, [], none, none, rfl, rfl, rfl, rfl⟩ (fun _ _ _ _ => trivial) (by
      rintro d ds ρ m' ⟨rest, done, z7, z8, h1, rfl, rfl, h2⟩
      cases rest with
      | nil => cases h1
      | cons t rest =>
        cases h1
        have htS : t ∈ h.S := by rw [← h2]; simp
        obtain ⟨s1, s2, s3⟩ := hh.s t htS
        have hya := yAt_at (y := za) (c := t.1) (by rw [za1]; exact s1)
        have hym := za2 _ (yAt_mem (y := za) (c := t.1) (by rw [za1]; exact s1))
        have hdW : t.2.2.den ∣ W := Nat.dvd_trans (mS_dvd htS) hh.w1
        have d1 : divOk (t.2.2.den : Int) = true := divOk_of (by have := t.2.2.den_pos; omega) (hle _ hdW) (by omega)
        have hq : (mS h.S : Int).fdiv (t.2.2.den : Int) = ((mS h.S / t.2.2.den : Nat) : Int) := by rw [Int.fdiv_eq_ediv_of_nonneg _ (by omega), Int.natCast_ediv]
        have hqs : ((mS h.S / t.2.2.den : Nat) : Int).natAbs < 2 ^ A := by
          have := Nat.div_le_self (mS h.S) t.2.2.den
          have := hle _ hh.w1
          simp only [Int.natAbs_natCast] at *
          omega
        have m1 : mulOk (yAt za t.1) t.2.2.num = true := mulOk_of hym s3 (by omega)
        have m2 : mulOk (yAt za t.1 * t.2.2.num) ((mS h.S / t.2.2.den : Nat) : Int) = true := mulOk_of (powb_int hym s3) hqs (by omega)
        have hhs : (hereZ (mS h.S) za t).natAbs < 2 ^ (A + A + A) := powb_int (powb_int hym s3) hqs
        have hhd : hereZ (mS h.S) za t = yAt za t.1 * t.2.2.num * ((mS h.S / t.2.2.den : Nat) : Int) := rfl
        have hap : ∀ z, scZ (mS h.S) za (done ++ [t]) z = scZ (mS h.S) za done z + hereZ (mS h.S) za t * yAt z t.2.1 := fun z => by
          unfold scZ; rw [List.foldl_append]; rfl
        refine ⟨_, _, [some (stD l Z), some (hdD h), some (.int (at' : Int)), some (.int (l : Int)), some (.lst (Z.map fun z => .lst (z.map .int))), some (.int (mS h.S : Int)), some (.lst (Z.map fun z => .int (scZ (mS h.S) za (done ++ [t]) z))), some (tri t), some (.int (hereZ (mS h.S) za t)), none, none], m ++ [[]], rfl, .inl ?_, rest, done ++ [t], _, _, rfl, rfl, rfl, by rw [← h2]; simp⟩
        have lc := lcD_map (ck := fun _ => True ∧ True) (g := gT (gsCons (gN 9) (gsCons (gN 10) gsNil))) (t := tAll) (f := e_law_scored_2) (fun z : List Int => D.tup [.int (scZ (mS h.S) za done z), .lst (z.map .int)]) (fun z => D.int (scZ (mS h.S) za (done ++ [t]) z)) (ρ := [some (stD l Z), some (hdD h), some (.int (at' : Int)), some (.int (l : Int)), some (.lst (Z.map fun z => .lst (z.map .int))), some (.int (mS h.S : Int)), some (.lst (Z.map fun z => .int (scZ (mS h.S) za done z))), some (tri t), some (.int (hereZ (mS h.S) za t)), none, none]) (m := m ++ [[]]) Z ⟨trivial, trivial⟩ (fun z hz => ⟨_, rfl, rfl, by
          obtain ⟨w1, w2⟩ := hZ z hz
          have hyz := yAt_at (y := z) (c := t.2.1) (by rw [w1]; exact s2)
          have hyb := w2 _ (yAt_mem (y := z) (c := t.2.1) (by rw [w1]; exact s2))
          have m3 : mulOk (hereZ (mS h.S) za t) (yAt z t.2.1) = true := mulOk_of hhs hyb (by omega)
          rw [hap]
          generalize hereZ (mS h.S) za t = H at *
          generalize yAt z t.2.1 = Y at *
          simp -implicitDefEqProofs [tri, hyz, m3]⟩)
        have hzip : ((Z.map fun z => D.int (scZ (mS h.S) za done z)).zip (Z.map fun z => D.lst (z.map .int))).map (fun p => D.tup [p.1, p.2]) = Z.map fun z => D.tup [.int (scZ (mS h.S) za done z), .lst (z.map .int)] := by
          rw [List.zip_map', List.map_map]; rfl
        have hf : fr t.2.2 = .tup [.int t.2.2.num, .int (t.2.2.den : Int)] := rfl
        have htr : tri t = .tup [.int t.1, .int t.2.1, .tup [.int t.2.2.num, .int (t.2.2.den : Int)]] := rfl
        have hzl2 : ∀ f : List Int → D, (Z.map f).length ≤ 16777216 := fun f => by rw [List.length_map]; omega
        by_cases h0 : hereZ (mS h.S) za t = 0
        · have hsame : (Z.map fun z => D.int (scZ (mS h.S) za (done ++ [t]) z)) = Z.map fun z => D.int (scZ (mS h.S) za done z) := List.map_congr_left fun z _ => by rw [hap, h0, Int.zero_mul, Int.add_zero]
          rw [hsame]
          clear lc hzip hsame hap
          rw [hhd] at h0 ⊢
          generalize (Z.map fun z => D.int (scZ (mS h.S) za done z)) = FD at *
          generalize (Z.map fun z => D.lst (z.map .int)) = ZZ at *
          generalize stD l Z = ST at *
          generalize hdD h = HD at *
          rw [htr]
          generalize hqq : ((mS h.S / t.2.2.den : Nat) : Int) = q at *
          simp -implicitDefEqProofs [hza, hya, m1, m2, d1, hq, h0]
        · have hfd := hzl2 fun z => D.int (scZ (mS h.S) za (done ++ [t]) z)
          clear hap hhs
          rw [hhd] at h0 lc ⊢
          generalize (Z.map fun z => D.int (scZ (mS h.S) za (done ++ [t]) z)) = FE at *
          generalize (Z.map fun z => D.tup [.int (scZ (mS h.S) za done z), .lst (z.map .int)]) = FZ at *
          generalize (Z.map fun z => D.int (scZ (mS h.S) za done z)) = FD at *
          generalize (Z.map fun z => D.lst (z.map .int)) = ZZ at *
          generalize stD l Z = ST at *
          generalize hdD h = HD at *
          rw [htr] at lc ⊢
          generalize hqq : ((mS h.S / t.2.2.den : Nat) : Int) = q at *
          simp -implicitDefEqProofs only [and_self] at lc
          simp -implicitDefEqProofs [hza, hya, m1, m2, d1, hq, h0, hzip, lc, hfd])
  cases rest with
  | cons => cases h1
  | nil =>
    rw [List.append_nil] at h2
    subst h2
    have hst : stD l Z = .tup [.int (l : Int), .lst (Z.map fun z => .lst (z.map .int))] := rfl
    have hd : hdD h = .tup [.tup (h.S.map tri), .tup (h.G.map tri)] := rfl
    have lc := lcD_map (ck := fun _ => True) (g := gN 7) (t := tAll) (f := e_law_scored_1) tri (fun t => fr t.2.2) (ρ := [some (stD l Z), some (hdD h), some (.int (at' : Int)), some (.int (l : Int)), some (.lst (Z.map fun z => .lst (z.map .int))), none, none, none, none, none, none]) (m := m ++ [[]]) h.S trivial (fun t _ => ⟨_, rfl, rfl, by simp [tri]⟩)
    have m1 : mulOk (mS h.S : Int) (l : Int) = true := mulOk_of (hle _ hh.w1) (b := A) (by simpa using hl) (by omega)
    have m2 : mulOk ((mS h.S : Int) * (l : Int)) (l : Int) = true := mulOk_of (powb_int (hle _ hh.w1) (b := A) (by simpa using hl)) (b := A) (by simpa using hl) (by omega)
    have hsl := hh.sl
    have g1 : h.S.length ≤ 16777216 := by omega
    have hmm : (Z.map (scZ (mS h.S) za h.S)).map D.int = Z.map fun z => D.int (scZ (mS h.S) za h.S z) := by rw [List.map_map]; rfl
    have h0 : (Z.map fun z => D.int (scZ (mS h.S) za [] z)) = (List.replicate Z.length [D.int 0]).flatten := sc0 Z
    have hr := gMulA_rep (fin := finF) (xs := [D.int 0]) (k := Z.length) (m := m ++ [[]]) (by simp; omega) (by omega)
    have hZZl : (Z.map fun z => D.lst (z.map .int)).length = Z.length := by simp
    have hfl : (List.replicate Z.length [D.int 0]).flatten.length ≤ 16777216 := by simp; omega
    have hcast : ((mS h.S * l * l : Nat) : Int) = (mS h.S : Int) * (l : Int) * (l : Int) := by simp
    have hlt : ∀ k, D.lts k (Z.map fun z => D.int (scZ (mS h.S) za h.S z)) = true := fun k => dlts_map fun _ _ => rfl
    rw [h0] at e1
    rw [hmm, hcast]
    unfold f_law_scored b_law_scored
    rw [fnD3]
    rw [hd] at e1 lc ⊢
    rw [hst] at e1 lc ⊢
    generalize (Z.map fun z => D.int (scZ (mS h.S) za h.S z)) = FE at *
    generalize (List.replicate Z.length [D.int 0]).flatten = F0 at *
    generalize (Z.map fun z => D.lst (z.map .int)) = ZZ at *
    simp -implicitDefEqProofs [lc, g1, mr, hZZl, hr, hfl, e1, m1, m2, hlt]
/-- the rows that are seen, in whole numbers -/
def bestZ (xs : List Int) : Int := xs.foldl max ((xs[0]?).getD 0)
def seenZ (xs : List Int) : List Nat := (List.range xs.length).filter fun i => decide (xs[i]? = some (bestZ xs))
theorem best_cons {x : Int} {xs : List Int} : bestZ (x :: xs) = xs.foldl max x := by
  unfold bestZ
  simp
theorem seenZ_lt {xs : List Int} {i : Nat} (h : i ∈ seenZ xs) : i < xs.length := List.mem_range.mp (List.mem_filter.mp h).1
theorem seenZ_len {xs : List Int} : (seenZ xs).length ≤ xs.length := by
  have := List.length_filter_le (fun i => decide (xs[i]? = some (bestZ xs))) (List.range xs.length)
  rw [List.length_range] at this
  exact this
/-- a comprehension over the indexes of a list of whole numbers -/
theorem seen_fm {xs : List Int} : (List.range xs.length).filterMap (fun i => if xs[i]? = some (bestZ xs) then some (D.int (i : Nat)) else none) = (seenZ xs).map fun (i : Nat) => D.int (i : Int) := by
  unfold seenZ
  generalize List.range xs.length = l
  generalize bestZ xs = b
  induction l with
  | nil => rfl
  | cons i l ih =>
    rw [List.filterMap_cons]
    by_cases hb : xs[i]? = some b
    · rw [if_pos hb, List.filter_cons_of_pos (by simpa using hb), List.map_cons, ← ih]
    · rw [if_neg hb, List.filter_cons_of_neg (by simpa using hb), ← ih]
theorem seen_run {W A n l at' : Nat} {Z : List (List Int)} {za : List Int} {h : Hd} {m : Mem} (hW : 0 < W) (hA : W < 2 ^ A) (hA2 : A ≤ 3000) (hh : HDn W A n h) (hl : l < 2 ^ A) (hat : Z[at']? = some za)
    (hZ : ∀ z ∈ Z, z.length = n ∧ ∀ x ∈ z, x.natAbs < 2 ^ A) (hZl : Z.length ≤ 9) :
    f_law_seen [stD l Z, hdD h, .int (at' : Int)] m = .ok (.lst ((seenZ (Z.map (scZ (mS h.S) za h.S))).map fun (i : Nat) => D.int (i : Int))) m := by
  have sr := fun m' => scored_run (m := m') hW hA hA2 hh hl hat hZ hZl
  have hxl : (Z.map (scZ (mS h.S) za h.S)).length ≤ 9 := by simpa using hZl
  have hx0 : Z.map (scZ (mS h.S) za h.S) ≠ [] := fun e => by
    rw [List.map_eq_nil_iff.mp e] at hat
    simp at hat
  generalize (mS h.S * l * l : Nat) = L2 at *
  generalize Z.map (scZ (mS h.S) za h.S) = xs at *
  have bm := fun m' => bMaxL_run (m := m') (d := .lst (xs.map .int)) (n := (xs[0]?).getD 0) (ns := xs.tail) (by
    obtain ⟨x, ys, rfl⟩ := List.exists_cons_of_ne_nil hx0
    rfl)
  have hb : xs.tail.foldl max ((xs[0]?).getD 0) = bestZ xs := by
    obtain ⟨x, ys, rfl⟩ := List.exists_cons_of_ne_nil hx0
    rw [best_cons]; rfl
  rw [hb] at bm
  have lc := lcD_fm (ck := fun _ => True) (g := gN 5) (t := t_law_seen_1) (f := e_law_seen_1) (fun (i : Nat) => D.int (i : Int))
    (fun i => if xs[i]? = some (bestZ xs) then some (D.int (i : Nat)) else none) (ρ := [some (stD l Z), some (hdD h), some (.int (at' : Int)), some (.lst (xs.map .int)), some (.int (bestZ xs)), none]) (m := m ++ [[]]) (List.range xs.length) trivial (by
      intro i hi
      have hi := List.mem_range.mp hi
      have hq : xs[i]? = some xs[i] := List.getElem?_eq_getElem hi
      have ha : atI (xs.map D.int) (i : Int) = some (.int xs[i]) := by rw [atI_natE, List.getElem?_map, hq]; rfl
      refine ⟨_, rfl, ?_⟩
      rw [hq]
      generalize xs[i] = x at *
      generalize bestZ xs = b at *
      by_cases hbb : x = b
      · right
        subst hbb
        refine ⟨_, if_pos rfl, ?_, ?_⟩
        · simp -implicitDefEqProofs [ha]
        · simp -implicitDefEqProofs
      · left
        refine ⟨if_neg (fun e => hbb (Option.some.inj e)), ?_⟩
        simp -implicitDefEqProofs [ha, hbb])
  rw [seen_fm] at lc
  have gr : rngOk (xs.length : Int) = true := rngOk_of (by omega) (by omega)
  have g1 : ((seenZ xs).map fun (i : Nat) => D.int (i : Int)).length ≤ 16777216 := by
    have := seenZ_len (xs := xs)
    rw [List.length_map]; omega
  have hlt : ∀ k, D.lts k ((seenZ xs).map fun (i : Nat) => D.int (i : Int)) = true := fun k => dlts_map fun _ _ => rfl
  have hli : (xs.map D.int).length = xs.length := by simp
  unfold f_law_seen b_law_seen
  rw [fnD3]
  generalize ((seenZ xs).map fun (i : Nat) => D.int (i : Int)) = SN at *
  generalize stD l Z = ST at *
  generalize hdD h = HD at *
  generalize xs.map D.int = XI at *
  simp -implicitDefEqProofs [sr, bm, hli, gr, lc, g1, hlt]
end P_k18
namespace P_k18
open PySem L2 PySem.Spec PyProof.Rows LN

def moreN (hs : List Hd) : Nat := hs.foldl (fun s h => cmnN [s, 2520 * mS h.G]) 1
theorem more_from : ∀ (hs : List Hd) (s W : Nat), 0 < s → s ∣ W → (∀ h ∈ hs, 2520 * mS h.G ∣ W) →
    0 < hs.foldl (fun s h => cmnN [s, 2520 * mS h.G]) s ∧ hs.foldl (fun s h => cmnN [s, 2520 * mS h.G]) s ∣ W ∧ s ∣ hs.foldl (fun s h => cmnN [s, 2520 * mS h.G]) s ∧ ∀ h ∈ hs, 2520 * mS h.G ∣ hs.foldl (fun s h => cmnN [s, 2520 * mS h.G]) s
  | [], s, W, h0, h, _ => ⟨h0, h, Nat.dvd_refl _, by simp⟩
  | u :: us, s, W, h0, h, hd => by
    have hp : 0 < cmnN [s, 2520 * mS u.G] := cmn_pos fun d hd' => by
      simp at hd'
      rcases hd' with e | e
      · subst e; exact h0
      · subst e; exact Nat.mul_pos (by omega) (mS_pos _)
    have hk : cmnN [s, 2520 * mS u.G] ∣ W := cmn_dvd fun d hd' => by
      simp at hd'
      rcases hd' with e | e
      · subst e; exact h
      · subst e; exact hd u (by simp)
    have ih := more_from us (cmnN [s, 2520 * mS u.G]) W hp hk fun x hx => hd x (by simp [hx])
    rw [List.foldl_cons]
    refine ⟨ih.1, ih.2.1, Nat.dvd_trans (dvd_cmn (by simp)) ih.2.2.1, fun x hx => ?_⟩
    rcases List.mem_cons.mp hx with e | e
    · subst e; exact Nat.dvd_trans (dvd_cmn (by simp)) ih.2.2.1
    · exact ih.2.2.2 x e
theorem ah_q3 {W A n l : Nat} {Z : List (List Int)} {hs : List Hd} {Ud : D} {m : Mem} (hW : 0 < W) (hA : W < 2 ^ A) (hA2 : A ≤ 3000) (hhs : ∀ h ∈ hs, HDn W A n h) (hU : Hw Ud hs m) :
    ∃ y5 : Option D, q_law_after_heads_3 [some (stD l Z), some Ud, some (.int (l : Int)), some (.lst (Z.map fun z => .lst (z.map .int))), some (.int 1), none, none, none, none, none, none, none, none] (m ++ [[]]) = .ok (.nx [some (stD l Z), some Ud, some (.int (l : Int)), some (.lst (Z.map fun z => .lst (z.map .int))), some (.int (moreN hs : Nat)), y5, none, none, none, none, none, none, none]) (m ++ [[]]) := by
  obtain ⟨ck0, hu⟩ := hU
  obtain ⟨z, e1, -⟩ := forD_pure (ck := ck0) (g := gN 5) (b := w_law_after_heads_2)
    (fun (s : Nat) (z : Option D) => [some (stD l Z), some (Ud), some (.int (l : Int)), some (.lst (Z.map fun z => .lst (z.map .int))), some (.int (s : Int)), z, none, none, none, none, none, none, none]) (fun _ => m ++ [[]]) hdD (fun s h => cmnN [s, 2520 * mS h.G])
    (fun hs s => 0 < s ∧ s ∣ W ∧ ∀ h ∈ hs, HDn W A n h) hs 1 none ⟨by omega, Nat.one_dvd _, hhs⟩ (fun _ _ _ => (hu _).2) (by
      rintro h hs s z ⟨j1, j2, j3⟩
      have hh := j3 h (by simp)
      have mf := more_from [h] s W j1 j2 (by simpa using hh.w2)
      simp only [List.foldl_cons, List.foldl_nil] at mf
      have c1 := fun m' => mS_run (m := m') hW hA (by omega) (Nat.dvd_trans (Nat.dvd_mul_left (mS h.G) 2520) hh.w2)
      have hle : ∀ x, x ∣ W → (x : Int).natAbs < 2 ^ A := fun x hx => by
        have := Nat.le_of_dvd hW hx
        simp only [Int.natAbs_natCast]
        omega
      have mk : mulOk 2520 (mS h.G : Int) = true := mulOk_of (a := 12) (by decide) (hle _ (Nat.dvd_trans (Nat.dvd_mul_left _ _) hh.w2)) (by omega)
      have cr := fun m' => common_run (m := m') (K := W) (A := A) (ps := [(1, s), (1, 2520 * mS h.G)]) (d := .lst [prtD (1, s), prtD (1, 2520 * mS h.G)]) (fun _ => rfl) (fun p hp => by
        simp at hp
        rcases hp with e | e
        · subst e; exact ⟨j1, j2⟩
        · subst e; exact ⟨Nat.mul_pos (by omega) (mS_pos _), hh.w2⟩) hW hA (by omega)
      refine ⟨⟨mf.1, mf.2.1, fun x hx => j3 x (by simp [hx])⟩, some (hdD h), ?_⟩
      have hd : hdD h = .tup [.tup (h.S.map tri), .tup (h.G.map tri)] := rfl
      rw [hd]
      have l2 := lcD_map (ck := fun _ => True) (g := gN 9) (t := tAll) (f := e_law_after_heads_1) tri (fun t => fr t.2.2) (ρ := [some (stD l Z), some (Ud), some (.int (l : Int)), some (.lst (Z.map fun z => .lst (z.map .int))), some (.int (s : Int)), some (.tup [.tup (h.S.map tri), .tup (h.G.map tri)]), none, none, none, none, none, none, none]) (m := m ++ [[]]) h.G trivial (fun t _ => ⟨_, rfl, rfl, by simp [tri]⟩)
      have t2 := hh.gl
      have g3 : h.G.length ≤ 16777216 := by omega
      simp only [prtD] at cr
      simp [-List.map_map] at cr
      simp -implicitDefEqProofs [l2, g3, c1, mk, cr])
  refine ⟨z, ?_⟩
  have h1 : ((1 : Nat) : Int) = 1 := rfl
  rw [h1] at e1
  have hm : hs.foldl (fun s h => cmnN [s, 2520 * mS h.G]) 1 = moreN hs := rfl
  rw [hm] at e1
  have hu1 := (hu [[]]).1
  simp -implicitDefEqProofs [hu1, e1]
def locs (k n : Nat) : List D := (List.range n).map fun i => .loc k i
def mkL (y : List Int) : MO := .lst (y.map .int)
theorem locs_at {k n i : Nat} (h : i < n) : atI (locs k n) (i : Int) = some (.loc k i) := by
  rw [atI_natE]
  unfold locs
  rw [List.getElem?_map, List.getElem?_range h]
  rfl
theorem ah_q4 {A l mo : Nat} {Z : List (List Int)} {Ud : D} {m : Mem} {y5 : Option D} (hZ : ∀ z ∈ Z, z.length ≤ 100 ∧ ∀ x ∈ z, x.natAbs < 2 ^ A) (hmo : mo < 2 ^ A) (hA2 : A ≤ 8000) (hl : Z.length ≤ 1000) :
    q_law_after_heads_4 [some (stD l Z), some (Ud), some (.int (l : Int)), some (.lst (Z.map fun z => .lst (z.map .int))), some (.int (mo : Int)), y5, none, none, none, none, none, none, none] (m ++ [[]]) = .ok (.nx [some (stD l Z), some (Ud), some (.int (l : Int)), some (.lst (Z.map fun z => .lst (z.map .int))), some (.int (mo : Int)), y5, some (.lst (locs m.length Z.length)), none, none, none, none, none, none]) (m ++ [Z.map fun z => mkL (z.map fun x => x * (mo : Int))]) := by
  obtain ⟨zs, m', e1, done, h1, rfl, e2⟩ := lcD_ind (ck := fun _ => True) (g := gN 11) (t := tAll) (f := e_law_after_heads_4) (fun z : List Int => D.lst (z.map .int)) (ρ := [some (stD l Z), some (Ud), some (.int (l : Int)), some (.lst (Z.map fun z => .lst (z.map .int))), some (.int (mo : Int)), y5, none, none, none, none, none, none, none])
    (fun xs zs m' => ∃ done, done ++ xs = Z ∧ m' = m ++ [done.map fun z => mkL (z.map fun x => x * (mo : Int))] ∧ zs = locs m.length done.length) Z [] (m ++ [[]]) ⟨[], rfl, rfl, rfl⟩ (fun _ _ _ _ => trivial) (by
      rintro z xs zs m' ⟨done, h1, rfl, rfl⟩
      obtain ⟨z1, z2⟩ := hZ z (by rw [← h1]; simp)
      have lc := lcD_map (ck := fun _ => True) (g := gN 9) (t := tAll) (f := e_law_after_heads_3) D.int (fun x => D.int (x * (mo : Int))) (ρ := [some (stD l Z), some (Ud), some (.int (l : Int)), some (.lst (Z.map fun z => .lst (z.map .int))), some (.int (mo : Int)), y5, none, none, none, none, none, some (.lst (z.map .int)), none]) (m := m ++ [done.map fun z => mkL (z.map fun x => x * (mo : Int))]) z trivial (fun x hx => ⟨_, rfl, rfl, by
        have mk : mulOk x (mo : Int) = true := mulOk_of (a := A) (b := A) (z2 x hx) (by simpa using hmo) (by omega)
        simp -implicitDefEqProofs [mk]⟩)
      have g1 : z.length ≤ 16777216 := by omega
      have hmz : z.map (fun x => D.int (x * (mo : Int))) = (z.map fun x => x * (mo : Int)).map .int := by rw [List.map_map]; rfl
      rw [hmz] at lc
      refine ⟨_, _, .loc m.length done.length, m ++ [(done ++ [z]).map fun z => mkL (z.map fun x => x * (mo : Int))], rfl, rfl, ?_, done ++ [z], by rw [← h1]; simp, rfl, ?_⟩
      · have hlt : ∀ k, D.lts k ((z.map fun x => x * (mo : Int)).map D.int) = true := fun k => dlts_ints
        have hmm : (done ++ [z]).map (fun z => mkL (z.map fun x => x * (mo : Int))) = (done.map fun z => mkL (z.map fun x => x * (mo : Int))) ++ [mkL (z.map fun x => x * (mo : Int))] := by simp
        rw [hmm]
        have hlen : (z.map fun x => x * (mo : Int)).length = z.length := by simp
        have hFl : (done.map fun z => mkL (z.map fun x => x * (mo : Int))).length = done.length := by simp
        have hy : mkL (z.map fun x => x * (mo : Int)) = .lst ((z.map fun x => x * (mo : Int)).map .int) := rfl
        rw [hy]
        clear hmm hy
        generalize (done.map fun z => mkL (z.map fun x => x * (mo : Int))) = F at *
        generalize (z.map fun x => x * (mo : Int)) = y at *
        simp -implicitDefEqProofs [lc, hlen, g1, hFl]
      · unfold locs
        rw [List.length_append, List.length_cons, List.length_nil, List.range_succ, List.map_append]
        rfl)
  rw [List.append_nil] at h1
  rw [List.nil_append] at e2
  subst h1
  subst e2
  have g1 : (locs m.length done.length).length ≤ 16777216 := by simp [locs]; omega
  simp -implicitDefEqProofs [e1, g1]
/-- one giving, in whole numbers -/
def totZ (Z : List (List Int)) (sp : List Nat) (c : Int) : Int := (sp.map fun k => yAt ((Z[k]?).getD []) c).sum
def stepY (mo : Nat) (Z : List (List Int)) (sp : List Nat) (y : List Int) (t : Int × Int × Rat) : List Int := y.set t.1.toNat (yAt y t.1 + totZ Z sp t.2.1 * t.2.2.num * ((mo / (t.2.2.den * sp.length) : Nat) : Int))
theorem stepY_len {mo : Nat} {Z : List (List Int)} {sp : List Nat} {y : List Int} {t : Int × Int × Rat} : (stepY mo Z sp y t).length = y.length := by simp [stepY]
theorem sum_small {B : Nat} : ∀ (xs : List Int), (∀ x ∈ xs, x.natAbs ≤ B) → xs.sum.natAbs ≤ xs.length * B
  | [], _ => by simp
  | x :: xs, h => by
    have ih := sum_small xs fun y hy => h y (by simp [hy])
    have := h x (by simp)
    rw [List.sum_cons, List.length_cons, Nat.add_mul, Nat.one_mul]
    have := Int.natAbs_add_le x xs.sum
    omega
theorem w6_run {A l mo n i : Nat} {Z : List (List Int)} {Ud : D} {m : Mem} {y5 z9 z10 : Option D} {Y : List (List Int)} {sp : List Nat} (hA2 : A ≤ 3000) (hmo : mo < 2 ^ A) (hmo0 : 0 < mo) (hi : i < Y.length) (hYZ : Y.length = Z.length) (hsp : ∀ k ∈ sp, k < Z.length) (hsl : sp.length ≤ 9) (hZ : ∀ z ∈ Z, z.length = n ∧ ∀ x ∈ z, x.natAbs < 2 ^ A) :
    ∀ (gv : List (Int × Int × Rat)) (y : List Int), y.length = n → (∀ t ∈ gv, InR n t.1 ∧ InR n t.2.1 ∧ t.2.2.num.natAbs < 2 ^ A ∧ t.2.2.den * sp.length ∣ mo) →
    ∃ y9 y10 : Option D, forD (fun _ => True) (gN 9) w_law_after_heads_6 (gv.map tri) [some (stD l Z), some (Ud), some (.int (l : Int)), some (.lst (Z.map fun z => .lst (z.map .int))), some (.int (mo : Int)), y5, some (.lst (locs m.length Z.length)), some (.int (i : Int)), some (.lst (sp.map fun (k : Nat) => D.int (k : Int))), z9, z10, none, none] (m ++ [(Y.set i y).map mkL]) = .ok (.nx [some (stD l Z), some (Ud), some (.int (l : Int)), some (.lst (Z.map fun z => .lst (z.map .int))), some (.int (mo : Int)), y5, some (.lst (locs m.length Z.length)), some (.int (i : Int)), some (.lst (sp.map fun (k : Nat) => D.int (k : Int))), y9, y10, none, none]) (m ++ [(Y.set i (gv.foldl (stepY mo Z sp) y)).map mkL]) := by
  intro gv y hy hgv
  obtain ⟨z, e1, -⟩ := forD_pure (ck := fun _ => True) (g := gN 9) (b := w_law_after_heads_6)
    (fun (_ : List Int) (z : Option D × Option D) => [some (stD l Z), some (Ud), some (.int (l : Int)), some (.lst (Z.map fun z => .lst (z.map .int))), some (.int (mo : Int)), y5, some (.lst (locs m.length Z.length)), some (.int (i : Int)), some (.lst (sp.map fun (k : Nat) => D.int (k : Int))), z.1, z.2, none, none]) (fun y => m ++ [(Y.set i y).map mkL]) tri (stepY mo Z sp)
    (fun gv y => y.length = n ∧ ∀ t ∈ gv, InR n t.1 ∧ InR n t.2.1 ∧ t.2.2.num.natAbs < 2 ^ A ∧ t.2.2.den * sp.length ∣ mo) gv y (z9, z10) ⟨hy, hgv⟩ (fun _ _ _ => trivial) (by
      rintro ⟨c, s, f⟩ gv y z ⟨j1, j2⟩
      obtain ⟨h1, h1b, h2, h3⟩ := j2 (c, s, f) (by simp)
      have h1 : InR n c := h1
      have h1b : InR n s := h1b
      have h2 : f.num.natAbs < 2 ^ A := h2
      have h3 : f.den * sp.length ∣ mo := h3
      have hle : ∀ x, x ∣ mo → (x : Int).natAbs < 2 ^ A := fun x hx => by
        have := Nat.le_of_dvd hmo0 hx
        simp only [Int.natAbs_natCast]
        omega
      have hnf : 0 < f.den * sp.length := Nat.pos_of_dvd_of_pos h3 hmo0
      have m1 : mulOk (f.den : Int) (sp.length : Int) = true := mulOk_of (hle _ (Nat.dvd_trans (Nat.dvd_mul_right _ _) h3)) (hle _ (Nat.dvd_trans (Nat.dvd_mul_left _ _) h3)) (by omega)
      have d1 : divOk ((f.den : Int) * (sp.length : Int)) = true := by
        have := divOk_of (j := ((f.den * sp.length : Nat) : Int)) (n := A) (by omega) (hle _ h3) (by omega)
        rwa [Int.natCast_mul] at this
      have hq : (mo : Int).fdiv ((f.den : Int) * (sp.length : Int)) = ((mo / (f.den * sp.length) : Nat) : Int) := by
        rw [← Int.natCast_mul, Int.fdiv_eq_ediv_of_nonneg _ (by omega), Int.natCast_ediv]
      have hts : (totZ Z sp s).natAbs < 2 ^ (A + 4) := by
        unfold totZ
        have := sum_small (B := 2 ^ A) (sp.map fun k => yAt ((Z[k]?).getD []) s) (fun x hx => by
          obtain ⟨k, hk, rfl⟩ := List.mem_map.mp hx
          have hkl := hsp k hk
          rw [List.getElem?_eq_getElem hkl]
          obtain ⟨w1, w2⟩ := hZ Z[k] (List.getElem_mem hkl)
          exact Nat.le_of_lt (w2 _ (yAt_mem (by rw [w1]; exact h1b))))
        rw [List.length_map] at this
        have k2 : sp.length * 2 ^ A ≤ 9 * 2 ^ A := Nat.mul_le_mul_right _ hsl
        have k3 : 2 ^ (A + 4) = 2 ^ A * 16 := Nat.pow_add 2 A 4
        have k4 : 0 < 2 ^ A := Nat.two_pow_pos A
        omega
      have m2 : mulOk (totZ Z sp s) f.num = true := mulOk_of hts h2 (by omega)
      have hzf : (totZ Z sp s * f.num).natAbs < 2 ^ (A + 4 + A) := powb_int hts h2
      have m3 : mulOk (totZ Z sp s * f.num) ((mo / (f.den * sp.length) : Nat) : Int) = true := mulOk_of hzf (b := A) (by
        have := Nat.div_le_self mo (f.den * sp.length)
        simp only [Int.natAbs_natCast]
        omega) (by omega)
      have hla := locs_at (k := m.length) (n := Z.length) (i := i) (by omega)
      have hc : InR y.length c := by rw [j1]; exact h1
      have hya := yAt_at hc
      have hix := ixN_in hc
      have hget : ((Y.set i y).map mkL)[i]? = some (.lst (y.map .int)) := by
        rw [List.getElem?_map, List.getElem?_set, if_pos rfl, if_pos hi]; rfl
      have lc := lcD_map (ck := fun _ => True) (g := gN 12) (t := tAll) (f := e_law_after_heads_5) (fun (k : Nat) => D.int (k : Int)) (fun k => D.int (yAt ((Z[k]?).getD []) s)) (ρ := [some (stD l Z), some (Ud), some (.int (l : Int)), some (.lst (Z.map fun z => .lst (z.map .int))), some (.int (mo : Int)), y5, some (.lst (locs m.length Z.length)), some (.int (i : Int)), some (.lst (sp.map fun (k : Nat) => D.int (k : Int))), some (tri (c, s, f)), z.2, none, none]) (m := m ++ [(Y.set i y).map mkL]) sp trivial (fun k hk => ⟨_, rfl, rfl, by
        have hkl := hsp k hk
        have hza : atI (Z.map fun z => D.lst (z.map .int)) (k : Int) = some (.lst (Z[k].map .int)) := by rw [atI_natE, List.getElem?_map, List.getElem?_eq_getElem hkl]; rfl
        obtain ⟨w1, w2⟩ := hZ Z[k] (List.getElem_mem hkl)
        have hys := yAt_at (y := Z[k]) (c := s) (by rw [w1]; exact h1b)
        rw [List.getElem?_eq_getElem hkl, Option.getD_some]
        generalize Z[k] = zk at *
        simp -implicitDefEqProofs [tri, hza, hys]⟩)
      have hmm : (sp.map fun k => D.int (yAt ((Z[k]?).getD []) s)) = (sp.map fun k => yAt ((Z[k]?).getD []) s).map .int := by rw [List.map_map]; rfl
      rw [hmm] at lc
      have bs := fun m' => bSum_ints (m := m') (d := .lst ((sp.map fun k => yAt ((Z[k]?).getD []) s).map .int)) (ns := sp.map fun k => yAt ((Z[k]?).getD []) s) rfl (dInts_map _)
      have htot : (sp.map fun k => yAt ((Z[k]?).getD []) s).sum = totZ Z sp s := rfl
      rw [htot] at bs
      have hl1 : ((sp.map fun k => yAt ((Z[k]?).getD []) s).map D.int).length ≤ 16777216 := by simp; omega
      have hl2 : (sp.map fun (k : Nat) => D.int (k : Int)).length = sp.length := by simp
      refine ⟨⟨by rw [stepY_len]; exact j1, fun e he => j2 e (by simp [he])⟩, (some (tri (c, s, f)), some (.int (totZ Z sp s))), ?_⟩
      have hset : ((Y.set i y).map mkL).set i (.lst ((stepY mo Z sp y (c, s, f)).map .int)) = (Y.set i (stepY mo Z sp y (c, s, f))).map mkL := by
        show ((Y.set i y).map mkL).set i (mkL (stepY mo Z sp y (c, s, f))) = _
        rw [List.map_set, List.map_set, List.set_set]
      have hstep : (stepY mo Z sp y (c, s, f)).map D.int = (y.map D.int).set c.toNat (.int (yAt y c + totZ Z sp s * f.num * ((mo / (f.den * sp.length) : Nat) : Int))) := by
        unfold stepY
        rw [List.map_set]
      rw [← hset, hstep]
      generalize hq2 : ((mo / (f.den * sp.length) : Nat) : Int) = q at *
      generalize (Y.set i y).map mkL = F at *
      have hf : tri (c, s, f) = .tup [.int c, .int s, .tup [.int f.num, .int (f.den : Int)]] := rfl
      rw [hf] at lc ⊢
      generalize totZ Z sp s = tz at *
      generalize ((sp.map fun k => yAt ((Z[k]?).getD []) s).map D.int) = SI at *
      generalize (sp.map fun (k : Nat) => D.int (k : Int)) = SPD at *
      simp -implicitDefEqProofs [lc, bs, hl1, hl2, sAugS_run, hla, m1, d1, hq, m2, m3, hget, hya, hix])
  exact ⟨z.1, z.2, e1⟩
end P_k18
namespace P_k18
open PySem L2 PySem.Spec PyProof.Rows LN

theorem maxf : ∀ (xs : List Int) (b : Int), (xs.foldl max b = b ∨ xs.foldl max b ∈ xs) ∧ b ≤ xs.foldl max b ∧ ∀ x ∈ xs, x ≤ xs.foldl max b
  | [], b => ⟨.inl rfl, Int.le_refl _, by simp⟩
  | y :: xs, b => by
    obtain ⟨h1, h2, h3⟩ := maxf xs (max b y)
    rw [List.foldl_cons]
    refine ⟨?_, by omega, fun x hx => ?_⟩
    · rcases h1 with h1 | h1
      · rw [h1]
        by_cases h : b ≤ y
        · right; rw [Int.max_eq_right h]; simp
        · left; exact Int.max_eq_left (by omega)
      · right; simp [h1]
    · rcases List.mem_cons.mp hx with e | e
      · subst e; omega
      · exact h3 x e
theorem best_ok {xs : List Int} (h : xs ≠ []) : bestZ xs ∈ xs ∧ ∀ x ∈ xs, x ≤ bestZ xs := by
  obtain ⟨y, ys, rfl⟩ := List.exists_cons_of_ne_nil h
  rw [best_cons]
  obtain ⟨h1, h2, h3⟩ := maxf ys y
  refine ⟨?_, fun x hx => ?_⟩
  · rcases h1 with h1 | h1
    · rw [h1]; simp
    · simp [h1]
  · rcases List.mem_cons.mp hx with e | e
    · subst e; exact h2
    · exact h3 x e
theorem seenZ_ne {xs : List Int} (h : xs ≠ []) : 0 < (seenZ xs).length := by
  obtain ⟨i, hi⟩ := List.mem_iff_getElem?.mp (best_ok h).1
  have : i ∈ seenZ xs := List.mem_filter.mpr ⟨List.mem_range.mpr (List.getElem?_eq_some_iff.mp hi).1, by simpa using hi⟩
  exact List.length_pos_iff.mpr fun e => by rw [e] at this; simp at this
def spZ (Z : List (List Int)) (h : Hd) (za : List Int) : List Nat := seenZ (Z.map (scZ (mS h.S) za h.S))
def abH (mo : Nat) (Z : List (List Int)) (h : Hd) (za y : List Int) : List Int := h.G.foldl (stepY mo Z (spZ Z h za)) y
theorem foldY_len {mo : Nat} {Z : List (List Int)} {sp : List Nat} : ∀ (gv : List (Int × Int × Rat)) (y : List Int), (gv.foldl (stepY mo Z sp) y).length = y.length
  | [], y => rfl
  | t :: gv, y => by rw [List.foldl_cons, foldY_len gv, stepY_len]
theorem abH_len {mo : Nat} {Z : List (List Int)} {h : Hd} {za y : List Int} : (abH mo Z h za y).length = y.length := foldY_len _ _
theorem spZ_lt {Z : List (List Int)} {h : Hd} {za : List Int} : ∀ k ∈ spZ Z h za, k < Z.length := fun k hk => by
  have := seenZ_lt hk
  rwa [List.length_map] at this
theorem spZ_len {Z : List (List Int)} {h : Hd} {za : List Int} : (spZ Z h za).length ≤ Z.length := by
  have := seenZ_len (xs := Z.map (scZ (mS h.S) za h.S))
  rwa [List.length_map] at this
theorem w7_run {W A l mo n i : Nat} {Z : List (List Int)} {h : Hd} {za : List Int} {Ud : D} {m : Mem} {z7 z8 z9 z10 : Option D} {Y : List (List Int)} {y : List Int} (hW : 0 < W) (hA : W < 2 ^ A) (hA2 : A ≤ 3000) (hh : HDn W A n h) (hl : l < 2 ^ A) (hmo : mo < 2 ^ A) (hmo0 : 0 < mo) (hum : 2520 * mS h.G ∣ mo)
    (hZ : ∀ z ∈ Z, z.length = n ∧ ∀ x ∈ z, x.natAbs < 2 ^ A) (hZl : Z.length ≤ 9) (hat : Z[i]? = some za) (hYi : Y[i]? = some y) (hy : y.length = n) (hYZ : Y.length = Z.length) :
    ∃ y8 y9 y10 : Option D, (gN 7 (.int (i : Int)) [some (stD l Z), some (Ud), some (.int (l : Int)), some (.lst (Z.map fun z => .lst (z.map .int))), some (.int (mo : Int)), some (hdD h), some (.lst (locs m.length Z.length)), z7, z8, z9, z10, none, none] (m ++ [Y.map mkL])).bind w_law_after_heads_7 = .ok (.nx [some (stD l Z), some (Ud), some (.int (l : Int)), some (.lst (Z.map fun z => .lst (z.map .int))), some (.int (mo : Int)), some (hdD h), some (.lst (locs m.length Z.length)), some (.int (i : Int)), y8, y9, y10, none, none]) (m ++ [(Y.set i (abH mo Z h za y)).map mkL]) := by
  have hi : i < Y.length := (List.getElem?_eq_some_iff.mp hYi).1
  have hself : Y.set i y = Y := by
    obtain ⟨h1, h2⟩ := List.getElem?_eq_some_iff.mp hYi
    rw [← h2, List.set_getElem_self]
  have sr := fun m' => seen_run (m := m') hW hA hA2 hh hl hat hZ hZl
  have hZ0 : Z.map (scZ (mS h.S) za h.S) ≠ [] := fun e => by
    rw [List.map_eq_nil_iff.mp e] at hat
    simp at hat
  have hsp : seenZ (Z.map (scZ (mS h.S) za h.S)) = spZ Z h za := rfl
  have hs0 := seenZ_ne hZ0
  rw [hsp] at sr hs0
  have hsl := spZ_len (Z := Z) (h := h) (za := za)
  have hdl := div_len hs0 (by omega)
  obtain ⟨y9, y10, e6⟩ := w6_run (m := m) (l := l) (i := i) (Ud := Ud) (y5 := some (hdD h)) (z9 := z9) (z10 := z10) (Y := Y) hA2 hmo hmo0 hi hYZ (spZ_lt (h := h) (za := za)) (by omega) hZ h.G y hy (fun t ht => by
    obtain ⟨h1, h2, h3⟩ := hh.g t ht
    refine ⟨h1, h2, h3, Nat.dvd_trans ?_ hum⟩
    rw [Nat.mul_comm]
    exact Nat.mul_dvd_mul hdl (mS_dvd ht))
  rw [hself] at e6
  have hab : h.G.foldl (stepY mo Z (spZ Z h za)) y = abH mo Z h za y := rfl
  rw [hab] at e6
  refine ⟨some (.lst ((spZ Z h za).map fun (k : Nat) => D.int (k : Int))), y9, y10, ?_⟩
  have hd : hdD h = .tup [.tup (h.S.map tri), .tup (h.G.map tri)] := rfl
  generalize abH mo Z h za y = yy at *
  generalize (spZ Z h za).map (fun (k : Nat) => D.int (k : Int)) = SPD at *
  generalize (Y.set i yy).map mkL = F1 at *
  generalize Y.map mkL = F0 at *
  generalize stD l Z = ST at *
  simp -implicitDefEqProofs [sr]
  rw [hd] at e6 ⊢
  simp -implicitDefEqProofs [e6]
/-- all rows, one head -/
def abR (mo : Nat) (h : Hd) (Z Y : List (List Int)) : List (List Int) := List.zipWith (fun za y => abH mo Z h za y) Z Y
theorem w8_run {W A l mo n : Nat} {Z : List (List Int)} {h : Hd} {Y : List (List Int)} {Ud : D} {m : Mem} {z5 z7 z8 z9 z10 : Option D} (hW : 0 < W) (hA : W < 2 ^ A) (hA2 : A ≤ 3000) (hh : HDn W A n h) (hl : l < 2 ^ A) (hmo : mo < 2 ^ A) (hmo0 : 0 < mo) (hum : 2520 * mS h.G ∣ mo)
    (hZ : ∀ z ∈ Z, z.length = n ∧ ∀ x ∈ z, x.natAbs < 2 ^ A) (hY : ∀ y ∈ Y, y.length = n) (hYZ : Y.length = Z.length) (hZl : Z.length ≤ 9) :
    ∃ y7 y8 y9 y10 : Option D, (gN 5 (hdD h) [some (stD l Z), some (Ud), some (.int (l : Int)), some (.lst (Z.map fun z => .lst (z.map .int))), some (.int (mo : Int)), z5, some (.lst (locs m.length Z.length)), z7, z8, z9, z10, none, none] (m ++ [Y.map mkL])).bind w_law_after_heads_8 = .ok (.nx [some (stD l Z), some (Ud), some (.int (l : Int)), some (.lst (Z.map fun z => .lst (z.map .int))), some (.int (mo : Int)), some (hdD h), some (.lst (locs m.length Z.length)), y7, y8, y9, y10, none, none]) (m ++ [(abR mo h Z Y).map mkL]) := by
  obtain ⟨ρ', m', e1, k, y7, y8, y9, y10, h1, h2, rfl, Yk, rfl, h3, h4⟩ := forD_ind (ck := fun _ => True) (g := gN 7) (b := w_law_after_heads_7)
    (fun ds ρ m' => ∃ (k : Nat) (z7 z8 z9 z10 : Option D), k ≤ Z.length ∧ ds = ((List.range Z.length).drop k).map (fun (i : Nat) => D.int (i : Int)) ∧ ρ = [some (stD l Z), some (Ud), some (.int (l : Int)), some (.lst (Z.map fun z => .lst (z.map .int))), some (.int (mo : Int)), some (hdD h), some (.lst (locs m.length Z.length)), z7, z8, z9, z10, none, none] ∧ ∃ Yk : List (List Int), m' = m ++ [Yk.map mkL] ∧ Yk.length = Z.length ∧ ∀ j, Yk[j]? = if j < k then (abR mo h Z Y)[j]? else Y[j]?)
    ((List.range Z.length).map fun (i : Nat) => D.int (i : Int)) [some (stD l Z), some (Ud), some (.int (l : Int)), some (.lst (Z.map fun z => .lst (z.map .int))), some (.int (mo : Int)), some (hdD h), some (.lst (locs m.length Z.length)), z7, z8, z9, z10, none, none] (m ++ [Y.map mkL]) ⟨0, z7, z8, z9, z10, by omega, by simp, rfl, Y, rfl, hYZ, by simp⟩ (fun _ _ _ _ => trivial) (by
      rintro d ds ρ m' ⟨k, z7, z8, z9, z10, h0, h1, rfl, Yk, rfl, h3, h4⟩
      have hk : k < Z.length := by
        by_cases hk : k < Z.length
        · exact hk
        · rw [List.drop_eq_nil_of_le (by simp; omega)] at h1; cases h1
      rw [List.drop_eq_getElem_cons (by simpa using hk), List.map_cons] at h1
      injection h1 with ha hb
      simp only [List.getElem_range] at ha
      subst ha
      have hZk : Z[k]? = some Z[k] := List.getElem?_eq_getElem hk
      have hYk : Yk[k]? = some Y[k] := by rw [h4, if_neg (by omega), List.getElem?_eq_getElem (by omega)]
      obtain ⟨y8, y9, y10, e9⟩ := w7_run (m := m) (Ud := Ud) (z7 := z7) (z8 := z8) (z9 := z9) (z10 := z10) hW hA hA2 hh hl hmo hmo0 hum hZ hZl hZk hYk (hY _ (List.getElem_mem (by omega))) h3
      refine ⟨_, _, _, _, rfl, .inl e9, k + 1, _, y8, y9, y10, by omega, hb, rfl, _, rfl, by simpa using h3, fun j => ?_⟩
      rw [List.getElem?_set]
      by_cases hj : k = j
      · subst hj
        rw [if_pos rfl, if_pos (by omega), if_pos (by omega)]
        unfold abR
        rw [List.getElem?_zipWith, hZk, List.getElem?_eq_getElem (by omega)]
      · rw [if_neg hj, h4]
        by_cases hj2 : j < k
        · rw [if_pos hj2, if_pos (by omega)]
        · rw [if_neg hj2, if_neg (by omega)])
  have hkk : Z.length ≤ k := by
    have := congrArg List.length h2
    simp at this
    omega
  have hYe : Yk = abR mo h Z Y := by
    apply List.ext_getElem?
    intro j
    rw [h4]
    by_cases hj : j < k
    · rw [if_pos hj]
    · rw [if_neg hj, List.getElem?_eq_none (by omega), List.getElem?_eq_none (by simp [abR]; omega)]
  subst hYe
  refine ⟨y7, y8, y9, y10, ?_⟩
  have gr : rngOk (Z.length : Int) = true := rngOk_of (by omega) (by omega)
  have hZZl : (Z.map fun z => D.lst (z.map .int)).length = Z.length := by simp
  generalize (abR mo h Z Y).map mkL = YY at *
  generalize Y.map mkL = Y0 at *
  generalize stD l Z = ST at *
  generalize hdD h = HD at *
  generalize (Z.map fun z => D.lst (z.map .int)) = ZZ at *
  simp -implicitDefEqProofs [hZZl, gr, e1]
def abA (mo : Nat) (hs : List Hd) (Z : List (List Int)) : List (List Int) := hs.foldl (fun Y h => abR mo h Z Y) (Z.map fun z => z.map fun x => x * (mo : Int))
theorem ah_q5 {W A l mo n : Nat} {Z : List (List Int)} {hs : List Hd} {Ud : D} {m : Mem} {y5 : Option D} (hW : 0 < W) (hA : W < 2 ^ A) (hA2 : A ≤ 3000) (hhs : ∀ h ∈ hs, HDn W A n h ∧ 2520 * mS h.G ∣ mo) (hl : l < 2 ^ A) (hmo : mo < 2 ^ A) (hmo0 : 0 < mo)
    (hZ : ∀ z ∈ Z, z.length = n ∧ ∀ x ∈ z, x.natAbs < 2 ^ A) (hZl : Z.length ≤ 9) (hU : Hw Ud hs m) :
    ∃ z5 z7 z8 z9 z10 : Option D, q_law_after_heads_5 [some (stD l Z), some (Ud), some (.int (l : Int)), some (.lst (Z.map fun z => .lst (z.map .int))), some (.int (mo : Int)), y5, some (.lst (locs m.length Z.length)), none, none, none, none, none, none] (m ++ [Z.map fun z => mkL (z.map fun x => x * (mo : Int))]) = .ok (.nx [some (stD l Z), some (Ud), some (.int (l : Int)), some (.lst (Z.map fun z => .lst (z.map .int))), some (.int (mo : Int)), z5, some (.lst (locs m.length Z.length)), z7, z8, z9, z10, none, none]) (m ++ [(abA mo hs Z).map mkL]) := by
  obtain ⟨ck0, hu⟩ := hU
  obtain ⟨z, e1, -⟩ := forD_pure (ck := ck0) (g := gN 5) (b := w_law_after_heads_8)
    (fun (Y : List (List Int)) (z : Option D × Option D × Option D × Option D × Option D) => [some (stD l Z), some (Ud), some (.int (l : Int)), some (.lst (Z.map fun z => .lst (z.map .int))), some (.int (mo : Int)), z.1, some (.lst (locs m.length Z.length)), z.2.1, z.2.2.1, z.2.2.2.1, z.2.2.2.2, none, none]) (fun Y => m ++ [Y.map mkL]) hdD (fun Y h => abR mo h Z Y)
    (fun hs Y => (∀ h ∈ hs, HDn W A n h ∧ 2520 * mS h.G ∣ mo) ∧ (∀ y ∈ Y, y.length = n) ∧ Y.length = Z.length) hs (Z.map fun z => z.map fun x => x * (mo : Int)) (y5, none, none, none, none)
    ⟨hhs, fun y hy => by
      obtain ⟨z, hz, rfl⟩ := List.mem_map.mp hy
      rw [List.length_map]; exact (hZ z hz).1, by simp⟩ (fun _ _ _ => (hu _).2) (by
      rintro h hs Y ⟨z5, z7, z8, z9, z10⟩ ⟨j1, j2, j3⟩
      obtain ⟨u1, u2⟩ := j1 h (by simp)
      obtain ⟨y7, y8, y9, y10, e10⟩ := w8_run (m := m) (Ud := Ud) (z5 := z5) (z7 := z7) (z8 := z8) (z9 := z9) (z10 := z10) hW hA hA2 u1 hl hmo hmo0 u2 hZ j2 j3 hZl
      refine ⟨⟨fun x hx => j1 x (by simp [hx]), fun y hy => ?_, by simp [abR, j3]⟩, (some (hdD h), y7, y8, y9, y10), e10⟩
      unfold abR at hy
      obtain ⟨i, hi⟩ := List.mem_iff_getElem?.mp hy
      rw [List.getElem?_zipWith] at hi
      split at hi
      · rename_i a b h1 h2
        cases hi
        rw [abH_len]
        exact j2 _ (List.mem_of_getElem? h2)
      · cases hi)
  have hA0 : hs.foldl (fun Y h => abR mo h Z Y) (Z.map fun z => z.map fun x => x * (mo : Int)) = abA mo hs Z := rfl
  rw [hA0, List.map_map] at e1
  have hmm : (mkL ∘ fun z : List Int => z.map fun x => x * (mo : Int)) = fun z => mkL (z.map fun x => x * (mo : Int)) := rfl
  rw [hmm] at e1
  refine ⟨z.1, z.2.1, z.2.2.1, z.2.2.2.1, z.2.2.2.2, ?_⟩
  have hu1 := fun tl => (hu tl).1
  generalize (abA mo hs Z).map mkL = F1 at *
  generalize (Z.map fun z => mkL (z.map fun x => x * (mo : Int))) = F0 at *
  simp -implicitDefEqProofs [hu1, e1]
theorem abR_len {mo : Nat} {h : Hd} {Z Y : List (List Int)} (k : Y.length = Z.length) : (abR mo h Z Y).length = Z.length := by simp [abR, k]
theorem abA_len {mo : Nat} {hs : List Hd} {Z : List (List Int)} : (abA mo hs Z).length = Z.length := by
  have : ∀ (hs : List Hd) (Y : List (List Int)), Y.length = Z.length → (hs.foldl (fun Y h => abR mo h Z Y) Y).length = Z.length := by
    intro hs
    induction hs with
    | nil => intro Y h; exact h
    | cons u us ih => intro Y h; exact ih _ (abR_len h)
  exact this hs _ (by simp)
theorem fz_loc {k n i : Nat} {m : Mem} {y : List Int} (h : m.get n i = some (mkL y)) : fz (k + 2) n m (.loc n i) = .lst (y.map .int) := by
  rw [fz, if_pos rfl, h]
  unfold mkL
  dsimp only
  rw [List.map_map]
  rfl
theorem lv_made {m : Mem} {Y : List (List Int)} {x : Int} (h : 0 < Y.length) : lv m.length (.ok (.rt (.tup [.int x, .lst (locs m.length Y.length)])) (m ++ [Y.map mkL])) = .ok (.tup [.int x, .lst (Y.map fun y => .lst (y.map .int))]) m := by
  have h1 : D.lts m.length (locs m.length Y.length) = false := by
    unfold locs
    obtain ⟨k, hk⟩ : ∃ k, Y.length = k + 1 := ⟨Y.length - 1, by omega⟩
    rw [hk, List.range_succ_eq_map, List.map_cons]
    simp
  have h2 : D.lt m.length (.tup [.int x, .lst (locs m.length Y.length)]) = false := by simp [h1]
  have h3 : fz 8 m.length (m ++ [Y.map mkL]) (.tup [.int x, .lst (locs m.length Y.length)]) = .tup [.int x, .lst (Y.map fun y => .lst (y.map .int))] := by
    have h4 : (locs m.length Y.length).map (fz 6 m.length (m ++ [Y.map mkL])) = Y.map fun y => .lst (y.map .int) := by
      unfold locs
      apply List.ext_getElem?
      intro i
      rw [List.getElem?_map, List.getElem?_map, List.getElem?_map]
      by_cases hi : i < Y.length
      · rw [List.getElem?_range hi, List.getElem?_eq_getElem hi]
        simp only [Option.map_some]
        congr 1
        exact fz_loc (by rw [Mem.get_app, List.getElem?_map, List.getElem?_eq_getElem hi]; rfl)
      · rw [List.getElem?_eq_none (by simp; omega), List.getElem?_eq_none (by omega)]
        rfl
    rw [fz]
    simp only [List.map_cons, List.map_nil]
    have hint : fz 7 m.length (m ++ [Y.map mkL]) (.int x) = .int x := by
      rw [fz] <;> intros <;> simp_all
    rw [hint, fz, h4]
  have h5 : D.lt m.length (.tup [.int x, .lst (Y.map fun y => .lst (y.map .int))]) = true := by
    have : D.lts m.length (Y.map fun y => D.lst (y.map .int)) = true := dlts_map fun _ _ => by simp
    simp [this]
  rw [lv_rtk, h2]
  unfold kLv fzl
  rw [h2]
  simp only [Bool.false_eq_true, if_false]
  rw [h3, if_pos h5]
  simp
theorem after_heads_run {W A l n : Nat} {Z : List (List Int)} {hs : List Hd} {Ud : D} {m : Mem} (hW : 0 < W) (hA : W < 2 ^ A) (hA2 : A ≤ 3000) (hhs : ∀ h ∈ hs, HDn W A n h) (hl : l < 2 ^ A)
    (hZ : ∀ z ∈ Z, z.length = n ∧ ∀ x ∈ z, x.natAbs < 2 ^ A) (hn : n ≤ 100) (hZl : Z.length ≤ 9) (hZ0 : 0 < Z.length) (hU : Hw Ud hs m) :
    f_law_after_heads [stD l Z, Ud] m = .ok (stD (l * moreN hs) (abA (moreN hs) hs Z)) m := by
  have mf := more_from hs 1 W (by omega) (Nat.one_dvd _) fun u hu => (hhs u hu).w2
  have hmN : hs.foldl (fun s h => cmnN [s, 2520 * mS h.G]) 1 = moreN hs := rfl
  rw [hmN] at mf
  obtain ⟨y5, e3⟩ := ah_q3 (m := m) (l := l) (Z := Z) hW hA hA2 hhs hU
  generalize moreN hs = mo at *
  have hmo : mo < 2 ^ A := Nat.lt_of_le_of_lt (Nat.le_of_dvd hW mf.2.1) hA
  have e4 := ah_q4 (m := m) (l := l) (Ud := Ud) (y5 := y5) (fun z hz => ⟨by rw [(hZ z hz).1]; exact hn, (hZ z hz).2⟩) hmo (by omega) (by omega)
  obtain ⟨z5, z7, z8, z9, z10, e5⟩ := ah_q5 (m := m) (y5 := y5) hW hA hA2 (fun u hu => ⟨hhs u hu, mf.2.2.2 u hu⟩) hl hmo mf.1 hZ hZl hU
  have mk : mulOk (l : Int) (mo : Int) = true := mulOk_of (a := A) (b := A) (by simpa using hl) (by simpa using hmo) (by omega)
  have hst : stD l Z = .tup [.int (l : Int), .lst (Z.map fun z => .lst (z.map .int))] := rfl
  have e1 : q_law_after_heads_1 [some (stD l Z), some (Ud), none, none, none, none, none, none, none, none, none, none, none] (m ++ [[]]) = .ok (.nx [some (stD l Z), some (Ud), some (.int (l : Int)), some (.lst (Z.map fun z => .lst (z.map .int))), none, none, none, none, none, none, none, none, none]) (m ++ [[]]) := by
    rw [hst]
    simp -implicitDefEqProofs
  have e2 : q_law_after_heads_2 [some (stD l Z), some (Ud), some (.int (l : Int)), some (.lst (Z.map fun z => .lst (z.map .int))), none, none, none, none, none, none, none, none, none] (m ++ [[]]) = .ok (.nx [some (stD l Z), some (Ud), some (.int (l : Int)), some (.lst (Z.map fun z => .lst (z.map .int))), some (.int 1), none, none, none, none, none, none, none, none]) (m ++ [[]]) := by simp -implicitDefEqProofs
  have e6 : q_law_after_heads_6 [some (stD l Z), some (Ud), some (.int (l : Int)), some (.lst (Z.map fun z => .lst (z.map .int))), some (.int (mo : Int)), z5, some (.lst (locs m.length Z.length)), z7, z8, z9, z10, none, none] (m ++ [(abA mo hs Z).map mkL]) = .ok (.rt (.tup [.int ((l : Int) * (mo : Int)), .lst (locs m.length Z.length)])) (m ++ [(abA mo hs Z).map mkL]) := by
    generalize (abA mo hs Z).map mkL = F
    simp -implicitDefEqProofs [mk]
  unfold f_law_after_heads
  rw [fnD2]
  have e0 : b_law_after_heads [some (stD l Z), some (Ud), none, none, none, none, none, none, none, none, none, none, none] (m ++ [[]]) = .ok (.rt (.tup [.int ((l : Int) * (mo : Int)), .lst (locs m.length Z.length)])) (m ++ [(abA mo hs Z).map mkL]) := by
    unfold b_law_after_heads
    rw [sSeq_run, e1, kS_nx, sSeq_run, e2, kS_nx, sSeq_run, e3, kS_nx, sSeq_run, e4, kS_nx, sSeq_run, e5, kS_nx, e6]
  show lv m.length (b_law_after_heads [some (stD l Z), some (Ud), none, none, none, none, none, none, none, none, none, none, none] (m ++ [[]])) = _
  rw [e0]
  have hAl : (abA mo hs Z).length = Z.length := abA_len
  rw [← hAl, lv_made (by omega)]
  unfold stD
  rw [Int.natCast_mul]
end P_k18
namespace P_k18
open PySem L2 PySem.Spec PyProof.Rows LN

theorem den_mul (q : Rat) : q * ((q.den : Int) : Rat) = (q.num : Rat) := by
  have e : q = (q.num : Rat) / ((q.den : Int) : Rat) := by
    rw [← Rat.divInt_eq_div, Rat.num_divInt_den]
  have e2 : (q.num : Rat) / ((q.den : Int) : Rat) * ((q.den : Int) : Rat) = (q.num : Rat) := Rat.div_mul_cancel (cast_ne q.den_pos)
  rw [← e] at e2
  exact e2
theorem natc (a b : Nat) : (((a * b : Nat) : Int) : Rat) = ((a : Int) : Rat) * ((b : Int) : Rat) := by rw [Int.natCast_mul, Rat.intCast_mul]
theorem yAt_z {l : Nat} {r : List Rat} {c : Int} (h : InR r.length c) : yAt (zRow l r) c = zD l (rAt r c) := by
  have hl : c.toNat < r.length := by have := h.1; have := h.2; omega
  unfold yAt rAt zRow
  rw [List.getElem?_map, List.getElem?_eq_getElem hl]
  rfl
theorem yAt_set {y : List Int} {c d : Int} {v : Int} (hc : InR y.length c) (hd : InR y.length d) : yAt (y.set c.toNat v) d = if c = d then v else yAt y d := by
  have h1 : c.toNat < y.length := by have := hc.1; have := hc.2; omega
  unfold yAt
  rw [List.getElem?_set]
  by_cases h : c = d
  · subst h
    rw [if_pos rfl, if_pos rfl, if_pos h1]; rfl
  · have h2 : ¬ c.toNat = d.toNat := by have := hc.1; have := hd.1; omega
    rw [if_neg h2, if_neg h]
theorem Dn.den {L β : Nat} {q : Rat} (h : Dn L β q) (h0 : 0 < L) : q.den ∣ L := by
  obtain ⟨z, rfl, _⟩ := h.eq h0
  rw [Rat.den_divInt, if_neg (by omega)]
  simp only [Int.natAbs_natCast]
  refine Nat.div_dvd_of_dvd ?_
  have h1 : Int.gcd (L : Int) z ∣ (L : Int).natAbs := Nat.gcd_dvd_left _ _
  exact h1
theorem int_den {q : Rat} {M : Nat} {z : Int} (h : (z : Rat) = q * ((M : Int) : Rat)) (h0 : 0 < M) : q.den ∣ M ∧ zD M q = z := by
  have hd : Dn M z.natAbs q := ⟨z, h.symm, by
    calc z.natAbs = z.natAbs * 1 := (Nat.mul_one _).symm
      _ ≤ z.natAbs * M := Nat.mul_le_mul_left _ h0⟩
  have h1 := Dn.den hd h0
  refine ⟨h1, ?_⟩
  have h2 := zD_cast h1
  rw [← h] at h2
  exact Rat.intCast_inj.mp h2

theorem abA_at {mo : Nat} {hs : List Hd} {Z : List (List Int)} (i : Nat) : (abA mo hs Z)[i]? = Z[i]?.map fun z => hs.foldl (fun y h => abH mo Z h z y) (z.map fun x => x * (mo : Int)) := by
  have : ∀ (hs : List Hd) (Y : List (List Int)), Y.length = Z.length → (hs.foldl (fun Y h => abR mo h Z Y) Y)[i]? = (Z[i]?.bind fun z => Y[i]?.map fun y => hs.foldl (fun y h => abH mo Z h z y) y) := by
    intro hs
    induction hs with
    | nil =>
      intro Y h
      rw [List.foldl_nil]
      by_cases hi : i < Z.length
      · rw [List.getElem?_eq_getElem hi, List.getElem?_eq_getElem (by omega)]; rfl
      · rw [List.getElem?_eq_none (by omega), List.getElem?_eq_none (by omega)]; rfl
    | cons u us ih =>
      intro Y h
      rw [List.foldl_cons, ih _ (abR_len h)]
      unfold abR
      rw [List.getElem?_zipWith]
      by_cases hi : i < Z.length
      · rw [List.getElem?_eq_getElem hi, List.getElem?_eq_getElem (by omega)]; rfl
      · rw [List.getElem?_eq_none (by omega)]; rfl
  unfold abA
  rw [this hs _ (by simp), List.getElem?_map]
  cases Z[i]? <;> rfl
/-! the scores as a sum -/
def scR (a r : List Rat) : List (Int × Int × Rat) → Rat
  | [] => 0
  | t :: S => rAt r t.2.1 * (rAt a t.1 * t.2.2) + scR a r S
theorem sc_from {a r : List Rat} : ∀ (S : List (Int × Int × Rat)) (s : Rat), (tmS a S).foldl (fun s e => s + rAt r e.1 * e.2) s = s + scR a r S
  | [], s => by simp [tmS, scR, Rat.add_zero]
  | t :: S, s => by
    unfold tmS
    rw [List.filterMap_cons, scR]
    by_cases h : rAt a t.1 = 0
    · rw [if_pos h]
      show (tmS a S).foldl _ s = _
      rw [sc_from S s, h]
      grind
    · rw [if_neg h]
      show (tmS a S).foldl _ (s + rAt r t.2.1 * (rAt a t.1 * t.2.2)) = _
      rw [sc_from S _]
      grind
theorem sc_eq {a r : List Rat} {S : List (Int × Int × Rat)} : sc a S r = scR a r S := by
  unfold sc
  rw [sc_from, Rat.zero_add]
theorem scR_app {a r : List Rat} : ∀ (S T : List (Int × Int × Rat)), scR a r (S ++ T) = scR a r S + scR a r T
  | [], T => by rw [List.nil_append, scR, Rat.zero_add]
  | t :: S, T => by rw [List.cons_append, scR, scR, scR_app S T, Rat.add_assoc]
theorem scR_rev {a r : List Rat} : ∀ (S : List (Int × Int × Rat)), scR a r S.reverse = scR a r S
  | [] => rfl
  | t :: S => by
    rw [List.reverse_cons, scR_app, scR_rev S, scR, scR, scR]
    grind
theorem scR_mul {a r : List Rat} {c : Rat} : ∀ (S : List (Int × Int × Rat)), scR a r (S.map fun t => (t.1, t.2.1, t.2.2 * c)) = scR a r S * c
  | [] => by simp [scR, Rat.zero_mul]
  | t :: S => by
    rw [List.map_cons, scR, scR, scR_mul S]
    grind
theorem scZ_cast {l mo : Nat} {a r : List Rat} {S : List (Int × Int × Rat)} (ha : ∀ q ∈ a, q.den ∣ l) (hr : ∀ q ∈ r, q.den ∣ l) (hS : ∀ t ∈ S, InR a.length t.1 ∧ InR r.length t.2.1 ∧ t.2.2.den ∣ mo) : ((scZ mo (zRow l a) S (zRow l r) : Int) : Rat) = scR a r S * (((mo * l * l : Nat) : Int) : Rat) := by
  have st : ∀ (S : List (Int × Int × Rat)) (z : Int) (s : Rat), (∀ t ∈ S, InR a.length t.1 ∧ InR r.length t.2.1 ∧ t.2.2.den ∣ mo) → (z : Rat) = s * (((mo * l * l : Nat) : Int) : Rat) → ((S.foldl (fun s t => s + hereZ mo (zRow l a) t * yAt (zRow l r) t.2.1) z : Int) : Rat) = (s + scR a r S) * (((mo * l * l : Nat) : Int) : Rat) := by
    intro S
    induction S with
    | nil => intro z s _ h; rw [List.foldl_nil, scR, Rat.add_zero]; exact h
    | cons t S ih =>
      intro z s hS h
      obtain ⟨s1, s2, s3⟩ := hS t (by simp)
      have h1 := zD_cast (ha _ (rAt_mem s1))
      have h2 := zD_cast (hr _ (rAt_mem s2))
      have h3 := zD_cast s3
      rw [List.foldl_cons, ih _ (s + rAt r t.2.1 * (rAt a t.1 * t.2.2)) (fun x hx => hS x (by simp [hx])) ?_, scR, Rat.add_assoc]
      unfold hereZ
      rw [yAt_z s1, yAt_z s2, Int.mul_assoc (zD l (rAt a t.1))]
      have h4 : t.2.2.num * ((mo / t.2.2.den : Nat) : Int) = zD mo t.2.2 := rfl
      rw [h4, Rat.intCast_add, Rat.intCast_mul, Rat.intCast_mul, h, h1, h2, h3, natc, natc]
      grind
  have := st S 0 0 hS (by simp [Rat.zero_mul])
  rw [Rat.zero_add] at this
  exact this
theorem cast_inj {a b : Int} : (a : Rat) = (b : Rat) ↔ a = b := Rat.intCast_inj
theorem seen_cast {xs : List Rat} {zs : List Int} {C : Rat} (hC : 0 < C) (h : zs.map (fun (z : Int) => (z : Rat)) = xs.map (· * C)) (h0 : zs ≠ []) : seenZ zs = seen xs := by
  have hx0 : xs ≠ [] := fun e => by
    rw [e] at h
    exact h0 (List.map_eq_nil_iff.mp h)
  rw [← seen_mul hC hx0, ← h]
  obtain ⟨b1, b2⟩ := best_ok h0
  have ht : IsTop ((bestZ zs : Int) : Rat) (zs.map fun (z : Int) => (z : Rat)) := ⟨List.mem_map_of_mem b1, fun s hs => by
    obtain ⟨z, hz, rfl⟩ := List.mem_map.mp hs
    exact Rat.intCast_le_intCast.mpr (b2 z hz)⟩
  rw [seen_of ht, List.length_map]
  unfold seenZ
  refine List.filter_congr fun i _ => ?_
  rw [List.getElem?_map]
  cases zs[i]? with
  | none => simp
  | some z =>
    simp only [Option.map_some, Option.some.injEq, cast_inj]
theorem sp_cast {l n : Nat} {rows : List (List Rat)} {h : Hd} {a : List Rat} (hl : 0 < l) (hr : ∀ r ∈ rows, r.length = n ∧ ∀ q ∈ r, q.den ∣ l) (ha : a ∈ rows) (hS : ∀ t ∈ h.S, InR n t.1 ∧ InR n t.2.1) : spZ (rows.map (zRow l)) h (zRow l a) = seen (rows.map fun r => sc a h.S r) := by
  unfold spZ
  have hC : (0 : Rat) < (((mS h.S * l * l : Nat) : Int) : Rat) := by
    have : 0 < mS h.S * l * l := Nat.mul_pos (Nat.mul_pos (mS_pos _) hl) hl
    have : ((0 : Int) : Rat) < (((mS h.S * l * l : Nat) : Int) : Rat) := Rat.intCast_lt_intCast.mpr (by omega)
    exact this
  refine seen_cast hC ?_ fun e => ?_
  · rw [List.map_map, List.map_map, List.map_map]
    refine List.map_congr_left fun r hrr => ?_
    obtain ⟨a1, a2⟩ := hr a ha
    obtain ⟨r1, r2⟩ := hr r hrr
    show ((scZ (mS h.S) (zRow l a) h.S (zRow l r) : Int) : Rat) = sc a h.S r * _
    rw [scZ_cast a2 r2 (fun t ht => ⟨by rw [a1]; exact (hS t ht).1, by rw [r1]; exact (hS t ht).2, mS_dvd ht⟩), sc_eq]
  · rw [List.map_map] at e
    rw [List.map_eq_nil_iff.mp e] at ha
    simp at ha
theorem cmT_from {c : Int} : ∀ (sr : List (List Rat)) (s : Rat), sr.foldl (fun s r => s + rAt r c) s = s + cmT sr c
  | [], s => by simp [cmT, Rat.add_zero]
  | r :: sr, s => by
    unfold cmT
    rw [List.foldl_cons, List.foldl_cons, cmT_from sr, cmT_from sr]
    grind
theorem cmT_cons {r : List Rat} {sr : List (List Rat)} {c : Int} : cmT (r :: sr) c = rAt r c + cmT sr c := by
  conv => lhs; unfold cmT
  rw [List.foldl_cons, cmT_from, Rat.zero_add]
theorem tot_cast {l n : Nat} {rows : List (List Rat)} {c : Int} (hr : ∀ r ∈ rows, r.length = n ∧ ∀ q ∈ r, q.den ∣ l) (hc : InR n c) : ∀ (sp : List Nat), (∀ k ∈ sp, k < rows.length) → ((totZ (rows.map (zRow l)) sp c : Int) : Rat) = cmT (sp.map fun i => (rows[i]?).getD []) c * ((l : Int) : Rat)
  | [], _ => by simp [totZ, cmT, Rat.zero_mul]
  | k :: sp, h => by
    have hk := h k (by simp)
    obtain ⟨r1, r2⟩ := hr rows[k] (List.getElem_mem hk)
    have ih := tot_cast hr hc sp fun x hx => h x (by simp [hx])
    have hin : InR rows[k].length c := by rw [r1]; exact hc
    have hz := zD_cast (r2 _ (rAt_mem hin))
    have e : totZ (rows.map (zRow l)) (k :: sp) c = zD l (rAt rows[k] c) + totZ (rows.map (zRow l)) sp c := by
      unfold totZ
      rw [List.map_cons, List.sum_cons, List.getElem?_map, List.getElem?_eq_getElem hk]
      show yAt (zRow l rows[k]) c + _ = _
      rw [yAt_z hin]
    rw [e, List.map_cons, cmT_cons, List.getElem?_eq_getElem hk, Rat.intCast_add, ih, hz]
    show _ = (rAt rows[k] c + _) * _
    grind
theorem foldY_cast {l mo n : Nat} {rows : List (List Rat)} {sp : List Nat} {c : Int} (hr : ∀ r ∈ rows, r.length = n ∧ ∀ q ∈ r, q.den ∣ l) (hsp : ∀ k ∈ sp, k < rows.length) (hs0 : 0 < sp.length) : ∀ (gv : List (Int × Int × Rat)) (y : List Int), y.length = n → InR n c → (∀ t ∈ gv, InR n t.1 ∧ InR n t.2.1 ∧ t.2.2.den * sp.length ∣ mo) →
    ((yAt (gv.foldl (stepY mo (rows.map (zRow l)) sp) y) c : Int) : Rat) = ((yAt y c : Int) : Rat) + totA (gv.map fun t => (t.1, t.2.2 * cm (sp.map fun i => (rows[i]?).getD []) t.2.1)) c * (((l * mo : Nat) : Int) : Rat)
  | [], y, _, _, _ => by rw [List.foldl_nil, List.map_nil, totA_nil, Rat.zero_mul, Rat.add_zero]
  | t :: gv, y, hy, hc, hg => by
    obtain ⟨g1, g2, g3⟩ := hg t (by simp)
    rw [List.foldl_cons, foldY_cast hr hsp hs0 gv _ (by rw [stepY_len]; exact hy) hc (fun x hx => hg x (by simp [hx])), List.map_cons, totA_cons]
    have hs : ((yAt (stepY mo (rows.map (zRow l)) sp y t) c : Int) : Rat) = ((yAt y c : Int) : Rat) + (if t.1 = c then t.2.2 * cm (sp.map fun i => (rows[i]?).getD []) t.2.1 else 0) * (((l * mo : Nat) : Int) : Rat) := by
      unfold stepY
      rw [yAt_set (by rw [hy]; exact g1) (by rw [hy]; exact hc)]
      by_cases he : t.1 = c
      · rw [if_pos he, if_pos he]
        have hpos : 0 < t.2.2.den * sp.length := Nat.mul_pos t.2.2.den_pos hs0
        obtain ⟨k, rfl⟩ := g3
        rw [Nat.mul_div_cancel_left _ hpos, he]
        have hd := den_mul t.2.2
        have tc := tot_cast hr g2 sp hsp
        have hdv : Rat.divInt 1 (sp.length : Nat) * ((sp.length : Int) : Rat) = 1 := by
          rw [Rat.divInt_eq_div]
          exact Rat.div_mul_cancel (cast_ne hs0)
        unfold cm
        rw [List.length_map, Rat.intCast_add, Rat.intCast_mul, Rat.intCast_mul, tc, natc, natc, natc, ← hd]
        generalize Rat.divInt 1 (sp.length : Nat) = V at *
        grind
      · rw [if_neg he, if_neg he, Rat.zero_mul, Rat.add_zero]
    rw [hs]
    show _ = _ + ((if t.1 = c then t.2.2 * cm (sp.map fun i => (rows[i]?).getD []) t.2.1 else 0) + _) * _
    grind
/-! what a row is given -/
def gvs (rows : List (List Rat)) (h : Hd) (a : List Rat) : List (Int × Rat) := h.G.map fun t => (t.1, t.2.2 * cm (lks rows h.S a) t.2.1)
def gfts (rows : List (List Rat)) (a : List Rat) (c : Int) : List Hd → Rat
  | [] => 0
  | h :: hs => totA (gvs rows h a) c + gfts rows a c hs
theorem gfts_app {rows : List (List Rat)} {a : List Rat} {c : Int} : ∀ (us vs : List Hd), gfts rows a c (us ++ vs) = gfts rows a c us + gfts rows a c vs
  | [], vs => by rw [List.nil_append, gfts, Rat.zero_add]
  | u :: us, vs => by rw [List.cons_append, gfts, gfts, gfts_app us vs, Rat.add_assoc]
theorem stpU_lk {rows : List (List Rat)} {a : List Rat} {h : Hd} {c : Int} : ∀ {G : List (Int × Rat)}, (lkA (stpU rows a G h) c).getD 0 = (lkA G c).getD 0 + totA (gvs rows h a) c := by
  intro G
  unfold stpU gvs
  generalize lks rows h.S a = sr
  generalize h.G = T
  induction T generalizing G with
  | nil => rw [List.foldl_nil, List.map_nil, totA_nil, Rat.add_zero]
  | cons t T ih =>
    rw [List.foldl_cons, List.map_cons, totA_cons, ih]
    show _ = _ + ((if t.1 = c then t.2.2 * cm sr t.2.1 else 0) + _)
    unfold stpH
    by_cases h0 : cm sr t.2.1 = 0
    · rw [if_pos h0, h0, Rat.mul_zero]
      have : (if t.1 = c then (0 : Rat) else 0) = 0 := by split <;> rfl
      rw [this, Rat.zero_add]
    · rw [if_neg h0, lk_addA]
      show (if t.1 = c then _ else _) + _ = _
      by_cases hc : t.1 = c
      · rw [if_pos hc, if_pos hc]
        grind
      · rw [if_neg hc, if_neg hc, Rat.zero_add]
theorem gvR_lk {rows : List (List Rat)} {a : List Rat} {c : Int} {hs : List Hd} : (lkA (gvR rows hs a) c).getD 0 = gfts rows a c hs := by
  have : ∀ (hs : List Hd) (G : List (Int × Rat)), (lkA (hs.foldl (stpU rows a) G) c).getD 0 = (lkA G c).getD 0 + gfts rows a c hs := by
    intro hs
    induction hs with
    | nil => intro G; rw [List.foldl_nil, gfts, Rat.add_zero]
    | cons h hs ih =>
      intro G
      rw [List.foldl_cons, ih, stpU_lk, gfts, Rat.add_assoc]
  unfold gvR
  rw [this]
  simp [lkA, Rat.zero_add]
theorem gvR_ok {L F n : Nat} {rows : List (List Rat)} {hs : List Hd} {a : List Rat} (R : Rq L F) (hrl : rows.length ≤ 9) (hhl : hs.length ≤ 25) (hr : ∀ r ∈ rows, RwOk L n r) (hh : ∀ h ∈ hs, HOk n F h) (ha : a ∈ rows) : GOk (KK L F) PB 100 n (gvR rows hs a) 0 := by
  obtain ⟨i, hi⟩ := List.mem_iff_getElem?.mp ha
  obtain ⟨_, _, _, _, _, _, _, _, g1⟩ := heads_loop (m := []) (X := []) (ds := []) (d1 := .non) (d2 := .non) (N := 100) (ck0 := fun _ => True) (fun _ => trivial) R (by omega) (Rw.lst (rows := rows)) hrl hr hi hs none none none none none none [] [] hh (gok_nil (by omega))
  exact g1
theorem aft_at {L F n : Nat} {rows : List (List Rat)} {hs : List Hd} {a : List Rat} {c : Int} (R : Rq L F) (hrl : rows.length ≤ 9) (hhl : hs.length ≤ 25) (hr : ∀ r ∈ rows, RwOk L n r) (hh : ∀ h ∈ hs, HOk n F h) (ha : a ∈ rows) (hc : InR n c) : rAt (aft rows hs a) c = rAt a c + gfts rows a c hs := by
  have g := gvR_ok R hrl hhl hr hh ha
  have hal := (hr a ha).1
  obtain ⟨k, k1, k2, k3⟩ := g.len
  unfold aft
  rw [appG_at _ _ _ g.nd (fun e he => by rw [hal]; exact (k3 e he).2) (by rw [hal]; exact hc), gvR_lk]
theorem aft_dn {L F n : Nat} {rows : List (List Rat)} {hs : List Hd} {a : List Rat} (R : Rq L F) (hrl : rows.length ≤ 9) (hhl : hs.length ≤ 25) (hr : ∀ r ∈ rows, RwOk L n r) (hh : ∀ h ∈ hs, HOk n F h) (ha : a ∈ rows) (hn : n ≤ 1000) : ∀ q ∈ aft rows hs a, Dn (KK L F) (2 ^ 61 + 100 * PB) q := by
  have g := gvR_ok R hrl hhl hr hh ha
  obtain ⟨ha1, ha2⟩ := hr a ha
  have lK : L ∣ KK L F := ⟨L * F * 2520, by show L * L * F * 2520 = _; simp only [Nat.mul_assoc]⟩
  exact (with_gifts_run (m := []) (f0 := [dkM (gvR rows hs a)]) (j := 0) R.rm rfl ha2 lK (by rw [ha1]; exact g) (by decide +kernel) (by omega)).2.2
/-- heads that give the same do the same -/
theorem aft_same {L F n : Nat} {rows : List (List Rat)} {hs hs2 : List Hd} {a : List Rat} (R : Rq L F) (hrl : rows.length ≤ 9) (hhl : hs.length ≤ 25) (hhl2 : hs2.length ≤ 25) (hr : ∀ r ∈ rows, RwOk L n r) (hh : ∀ h ∈ hs, HOk n F h) (hh2 : ∀ h ∈ hs2, HOk n F h) (ha : a ∈ rows) (he : ∀ c, gfts rows a c hs = gfts rows a c hs2) : aft rows hs a = aft rows hs2 a := by
  refine row_ext (by rw [aft_len, aft_len]) fun c hc => ?_
  rw [aft_len, (hr a ha).1] at hc
  rw [aft_at R hrl hhl hr hh ha hc, aft_at R hrl hhl2 hr hh2 ha hc, he]
end P_k18
namespace P_k18
open PySem L2 PySem.Spec PyProof.Rows LN

theorem abH_cast {l mo n : Nat} {rows : List (List Rat)} {h : Hd} {a : List Rat} {c : Int} {y : List Int} (hl : 0 < l) (hr : ∀ r ∈ rows, r.length = n ∧ ∀ q ∈ r, q.den ∣ l) (ha : a ∈ rows) (hrl : rows.length ≤ 9) (hS : ∀ t ∈ h.S, InR n t.1 ∧ InR n t.2.1) (hG : ∀ t ∈ h.G, InR n t.1 ∧ InR n t.2.1) (hmo : 2520 * mS h.G ∣ mo) (hy : y.length = n) (hc : InR n c) :
    ((yAt (abH mo (rows.map (zRow l)) h (zRow l a) y) c : Int) : Rat) = ((yAt y c : Int) : Rat) + totA (gvs rows h a) c * (((l * mo : Nat) : Int) : Rat) := by
  have sp := sp_cast hl hr ha hS
  have hne : rows ≠ [] := fun e => by rw [e] at ha; simp at ha
  have h0 : 0 < (seen (rows.map fun r => sc a h.S r)).length := List.length_pos_iff.mpr (seen_ne fun e => hne (List.map_eq_nil_iff.mp e))
  have hsl : (seen (rows.map fun r => sc a h.S r)).length ≤ 9 := by
    have := seen_len (xs := rows.map fun r => sc a h.S r)
    rw [List.length_map] at this
    omega
  have dl := div_len h0 hsl
  unfold abH
  rw [sp]
  exact foldY_cast hr (fun k hk => by have := seen_lt hk; rwa [List.length_map] at this) h0 h.G y hy hc fun t ht => ⟨(hG t ht).1, (hG t ht).2, by
    refine Nat.dvd_trans ?_ hmo
    rw [Nat.mul_comm]
    exact Nat.mul_dvd_mul dl (mS_dvd ht)⟩
theorem row_cast {L F l mo n : Nat} {rows : List (List Rat)} {hs : List Hd} {a : List Rat} (R : Rq L F) (hrl : rows.length ≤ 9) (hhl : hs.length ≤ 25) (hrw : ∀ r ∈ rows, RwOk L n r) (hh : ∀ h ∈ hs, HOk n F h) (ha : a ∈ rows) (hl : 0 < l) (hmo : 0 < mo) (hr : ∀ r ∈ rows, ∀ q ∈ r, q.den ∣ l) (hm : ∀ h ∈ hs, 2520 * mS h.G ∣ mo) :
    hs.foldl (fun y h => abH mo (rows.map (zRow l)) h (zRow l a) y) ((zRow l a).map fun x => x * (mo : Int)) = zRow (l * mo) (aft rows hs a) ∧ ∀ q ∈ aft rows hs a, q.den ∣ l * mo := by
  have hr2 : ∀ r ∈ rows, r.length = n ∧ ∀ q ∈ r, q.den ∣ l := fun r h => ⟨(hrw r h).1, hr r h⟩
  have hal := (hrw a ha).1
  have st : ∀ (vs ws : List Hd) (y : List Int), ws ++ vs = hs → y.length = n → (∀ c, InR n c → ((yAt y c : Int) : Rat) = (rAt a c + gfts rows a c ws) * (((l * mo : Nat) : Int) : Rat)) →
      (vs.foldl (fun y h => abH mo (rows.map (zRow l)) h (zRow l a) y) y).length = n ∧ ∀ c, InR n c → ((yAt (vs.foldl (fun y h => abH mo (rows.map (zRow l)) h (zRow l a) y) y) c : Int) : Rat) = (rAt a c + gfts rows a c hs) * (((l * mo : Nat) : Int) : Rat) := by
    intro vs
    induction vs with
    | nil => intro ws y h1 h2 h3; rw [List.append_nil] at h1; subst h1; exact ⟨h2, h3⟩
    | cons h vs ih =>
      intro ws y h1 h2 h3
      rw [List.foldl_cons]
      have hu : h ∈ hs := by rw [← h1]; simp
      have ho := hh h hu
      refine ih (ws ++ [h]) _ (by rw [← h1]; simp) (by rw [abH_len]; exact h2) fun c hc => ?_
      rw [gfts_app, gfts, gfts, Rat.add_zero, abH_cast hl hr2 ha hrl (fun t ht => ⟨(ho.s t ht).a, (ho.s t ht).b⟩) (fun t ht => ⟨(ho.g t ht).a, (ho.g t ht).b⟩) (hm h hu) h2 hc, h3 c hc]
      grind
  obtain ⟨k1, k2⟩ := st hs [] ((zRow l a).map fun x => x * (mo : Int)) rfl (by simp [zRow, hal]) (fun c hc => by
    have hc' : InR a.length c := by rw [hal]; exact hc
    have h1 := yAt_z (l := l) hc'
    have h2 := zD_cast (hr a ha _ (rAt_mem hc'))
    have e : yAt ((zRow l a).map fun x => x * (mo : Int)) c = yAt (zRow l a) c * (mo : Int) := by
      have hl : c.toNat < (zRow l a).length := by have := hc'.1; have := hc'.2; simp [zRow]; omega
      unfold yAt
      rw [List.getElem?_map, List.getElem?_eq_getElem hl]
      rfl
    rw [e, h1, gfts, Rat.add_zero, Rat.intCast_mul, h2, natc]
    grind)
  have hlm : 0 < l * mo := Nat.mul_pos hl hmo
  have key : ∀ c, InR n c → (rAt (aft rows hs a) c).den ∣ l * mo ∧ zD (l * mo) (rAt (aft rows hs a) c) = yAt (hs.foldl (fun y h => abH mo (rows.map (zRow l)) h (zRow l a) y) ((zRow l a).map fun x => x * (mo : Int))) c := fun c hc => by
    refine int_den ?_ hlm
    rw [k2 c hc, aft_at R hrl hhl hrw hh ha hc]
  constructor
  · apply List.ext_getElem?
    intro i
    by_cases hi : i < n
    · have hc : InR n (i : Int) := ⟨by omega, by omega⟩
      have := (key i hc).2
      unfold rAt yAt at this
      simp only [Int.toNat_natCast] at this
      have hb : i < (aft rows hs a).length := by rw [aft_len, hal]; exact hi
      rw [List.getElem?_eq_getElem hb, List.getElem?_eq_getElem (by rw [k1]; exact hi)] at this
      unfold zRow
      rw [List.getElem?_map, List.getElem?_eq_getElem hb, List.getElem?_eq_getElem (by show i < (hs.foldl (fun y h => abH mo (rows.map (zRow l)) h (zRow l a) y) ((zRow l a).map fun x => x * (mo : Int))).length; rw [k1]; exact hi)]
      simp only [Option.getD_some] at this
      rw [Option.map_some, this]
      rfl
    · rw [List.getElem?_eq_none (by rw [k1]; omega), List.getElem?_eq_none (by simp [zRow, aft_len, hal]; omega)]
  · intro q hq
    obtain ⟨i, hi⟩ := List.mem_iff_getElem?.mp hq
    have hb := (List.getElem?_eq_some_iff.mp hi).1
    have hc : InR n (i : Int) := ⟨by omega, by rw [aft_len, hal] at hb; omega⟩
    have := (key i hc).1
    unfold rAt at this
    simp only [Int.toNat_natCast] at this
    rw [hi] at this
    exact this
end P_k18
namespace P_k18
open PySem L2 PySem.Spec PyProof.Rows LN

theorem number_run {i : Int} {m : Mem} : f_law_number [.int i] m = .ok (.bl true) m := by
  unfold f_law_number b_law_number
  rw [fnD1]
  simp -implicitDefEqProofs
theorem is_fraction_run {q : Rat} {m : Mem} : f_law_is_fraction [fr q] m = .ok (.bl true) m := by
  have hc : Nat.gcd q.num.natAbs ((q.den : Int)).natAbs = 1 := by simpa using q.reduced
  have hd : (1 : Int) ≤ (q.den : Int) := by have := q.den_pos; omega
  have g1 := fun m' => gcd_run (a := q.num) (b := (q.den : Int)) (m := m')
  rw [hc] at g1
  unfold f_law_is_fraction b_law_is_fraction
  rw [fnD1]
  simp -implicitDefEqProofs [fr, number_run, hd, g1]
theorem same_run {q : Rat} {M A : Nat} {m : Mem} (hq : q.num.natAbs < 2 ^ A) (hM : M < 2 ^ A) (hA : A ≤ 10000) (hd : q.den ∣ M) (h0 : 0 < M) : f_law_same [fr q, .int (zD M q), .int (M : Int)] m = .ok (.bl true) m := by
  have hdA : (q.den : Int).natAbs < 2 ^ A := by
    have := Nat.le_of_dvd h0 hd
    simp only [Int.natAbs_natCast]; omega
  have m1 : mulOk q.num (M : Int) = true := mulOk_of hq (by simpa using hM) (by omega)
  have hz : (zD M q).natAbs < 2 ^ (A + A) := by
    unfold zD
    refine powb_int hq ?_
    have := Nat.div_le_self M q.den
    simp only [Int.natAbs_natCast]; omega
  have m2 : mulOk (zD M q) (q.den : Int) = true := mulOk_of hz hdA (by omega)
  have he : q.num * (M : Int) = zD M q * (q.den : Int) := by
    unfold zD
    rw [Int.mul_assoc, ← Int.natCast_mul, Nat.div_mul_cancel hd]
  have isf := fun m' => is_fraction_run (q := q) (m := m')
  have hf : fr q = .tup [.int q.num, .int (q.den : Int)] := rfl
  unfold f_law_same b_law_same
  rw [fnD3]
  rw [hf] at isf ⊢
  simp -implicitDefEqProofs [isf, m1, m2, he]
theorem row_same_run {r : List Rat} {M A : Nat} {m : Mem} (hr : ∀ q ∈ r, q.num.natAbs < 2 ^ A ∧ q.den ∣ M) (hM : M < 2 ^ A) (hA : A ≤ 10000) (h0 : 0 < M) (hl : r.length ≤ 1000) : f_law_row_same [rowD r, .lst ((zRow M r).map .int), .int (M : Int)] m = .ok (.bl true) m := by
  have hz : (r.map fr).zip ((zRow M r).map D.int) = r.map fun q => (fr q, D.int (zD M q)) := by
    unfold zRow
    rw [List.map_map, List.zip_map']
    rfl
  have hz2 : ((r.map fr).zip ((zRow M r).map D.int)).map (fun p => D.tup [p.1, p.2]) = r.map fun q => .tup [fr q, .int (zD M q)] := by
    rw [hz, List.map_map]; rfl
  have lc := lcD_map (ck := fun _ => True ∧ True) (g := gT (gsCons (gN 3) (gsCons (gN 4) gsNil))) (t := tAll) (f := e_law_row_same_1) (fun q => D.tup [fr q, .int (zD M q)]) (fun _ => D.bl true) (ρ := [some (rowD r), some (.lst ((zRow M r).map .int)), some (.int (M : Int)), none, none]) (m := m ++ [[]]) r ⟨trivial, trivial⟩ (fun q hq => ⟨_, rfl, rfl, by
    have sr := fun m' => same_run (m := m') (hr q hq).1 hM hA (hr q hq).2 h0
    simp -implicitDefEqProofs [sr]⟩)
  have ba := bAll_map (l := r) (h := fun _ => true) (m := m ++ [[]])
  have hzl : (zRow M r).length = r.length := by simp [zRow]
  have g1 : r.length ≤ 16777216 := by omega
  have hrd : rowD r = .tup (r.map fr) := rfl
  unfold f_law_row_same b_law_row_same
  rw [fnD3]
  rw [hrd] at lc ⊢
  generalize zRow M r = zz at *
  simp only [and_self] at lc
  have hat : r.all (fun _ => true) = true := by simp
  rw [hat] at ba
  simp -implicitDefEqProofs [-List.map_const, -List.map_const', hz2, lc, ba, hzl, g1]
theorem rows_same_run {rows : List (List Rat)} {M A j : Nat} {fr0 : List MO} (hj : fr0[j]? = some (.lst (rows.map rowD))) (hr : ∀ r ∈ rows, r.length ≤ 1000 ∧ ∀ q ∈ r, q.num.natAbs < 2 ^ A ∧ q.den ∣ M) (hM : M < 2 ^ A) (hA : A ≤ 10000) (h0 : 0 < M) (hl : rows.length ≤ 1000) :
    f_law_rows_same [.loc 0 j, stD M (rows.map (zRow M))] [fr0] = .ok (.bl true) [fr0] := by
  have hs : stD M (rows.map (zRow M)) = .tup [.int (M : Int), .lst (rows.map fun r => .lst ((zRow M r).map .int))] := by
    unfold stD; rw [List.map_map]; rfl
  have hz2 : ((rows.map rowD).zip (rows.map fun r => D.lst ((zRow M r).map .int))).map (fun p => D.tup [p.1, p.2]) = rows.map fun r => .tup [rowD r, .lst ((zRow M r).map .int)] := by
    rw [List.zip_map', List.map_map]; rfl
  have lc := lcD_map (ck := fun m' => ckL 0 j (rows.map rowD) m' ∧ True) (g := gT (gsCons (gN 2) (gsCons (gN 3) gsNil))) (t := tAll) (f := e_law_rows_same_1) (fun r => D.tup [rowD r, .lst ((zRow M r).map .int)]) (fun _ => D.bl true) (ρ := [some (.loc 0 j), some (stD M (rows.map (zRow M))), none, none]) (m := [fr0, []]) rows ⟨by simp [ckL, hj], trivial⟩ (fun r hrr => ⟨_, rfl, rfl, by
    have sr := fun m' => row_same_run (m := m') (hr r hrr).2 hM hA h0 (hr r hrr).1
    rw [hs]
    simp -implicitDefEqProofs [sr]⟩)
  have ba := bAll_map (l := rows) (h := fun _ => true) (m := [fr0, []])
  have hat : rows.all (fun _ => true) = true := by simp
  rw [hat] at ba
  have g1 : rows.length ≤ 16777216 := by omega
  simp only [and_true] at lc
  rw [hs] at lc ⊢
  unfold f_law_rows_same b_law_rows_same
  rw [fnD2]
  have hl1 : (rows.map fun r => D.lst ((zRow M r).map .int)).length = rows.length := by simp
  generalize (rows.map fun r => D.lst ((zRow M r).map .int)) = ZZ at *
  simp -implicitDefEqProofs [-List.map_const, -List.map_const', hj, hz2, lc, ba, hl1, g1]
end P_k18
namespace P_k18
open PySem L2 PySem.Spec PyProof.Rows LN

/-! ### what is drawn -/
def Lt (q : Rat) : Prop := q.num.natAbs ≤ 2000 ∧ q.den ≤ 97
theorem Lt.of {p q : Int} (hq : 0 < q) (h1 : p.natAbs ≤ 2000) (h2 : q ≤ 97) : Lt (Rat.divInt p q) := by
  have := divInt_le (p := p) (q := q) (by omega)
  exact ⟨by omega, by omega⟩
theorem fr_whole (i : Int) : fr (Rat.divInt i 1) = .tup [.int i, .int 1] := by
  rw [fr_divInt (by omega)]
  simp
theorem light_run {B : Nat} {o : MO} (h : BagOk (B + 4) o) : ∃ (q : Rat) (o' : MO), (∀ os rest, f_law_light [.loc 0 0] ((o :: os) :: rest) = .ok (fr q) ((o' :: os) :: rest)) ∧ BagOk B o' ∧ Lt q := by
  obtain ⟨k1, o1, e1, h1, a1, b1⟩ := draw_run (B := B + 3) h (n := 3) (by omega) (by omega)
  by_cases c1 : 0 < k1
  · obtain ⟨k2, o2, e2, h2, a2, b2⟩ := draw_run (B := B + 2) h1 (n := 5) (by omega) (by omega)
    refine ⟨Rat.divInt (k2 - 2) 1, o2, fun os rest => ?_, h2.mono (by omega), Lt.of (by omega) (by omega) (by omega)⟩
    rw [fr_whole]
    unfold f_law_light b_law_light
    rw [fnD1]
    simp -implicitDefEqProofs [e1, e2, c1]
  · obtain ⟨k2, o2, e2, h2, a2, b2⟩ := draw_run (B := B + 2) h1 (n := 9) (by omega) (by omega)
    by_cases c2 : k2 = 0
    · obtain ⟨k3, o3, e3, h3, a3, b3⟩ := draw_run (B := B + 1) h2 (n := 4001) (by omega) (by omega)
      obtain ⟨k4, o4, e4, h4, a4, b4⟩ := draw_run (B := B) h3 (n := 97) (by omega) (by omega)
      have lo := fun m => low_run (p := k3 - 2000) (q := 1 + k4) (m := m) (by omega) (powmono (a := 10) (by omega) (by omega))
      refine ⟨Rat.divInt (k3 - 2000) (1 + k4), o4, fun os rest => ?_, h4, Lt.of (by omega) (by omega) (by omega)⟩
      generalize Rat.divInt (k3 - 2000) (1 + k4) = q at *
      unfold f_law_light b_law_light
      rw [fnD1]
      simp -implicitDefEqProofs [e1, e2, c1, c2, e3, e4, lo]
    · obtain ⟨k3, o3, e3, h3, a3, b3⟩ := draw_run (B := B + 1) h2 (n := 9) (by omega) (by omega)
      obtain ⟨k4, o4, e4, h4, a4, b4⟩ := draw_run (B := B) h3 (n := 4) (by omega) (by omega)
      have lo := fun m => low_run (p := k3 - 4) (q := 1 + k4) (m := m) (by omega) (powmono (a := 10) (by omega) (by omega))
      refine ⟨Rat.divInt (k3 - 4) (1 + k4), o4, fun os rest => ?_, h4, Lt.of (by omega) (by omega) (by omega)⟩
      generalize Rat.divInt (k3 - 4) (1 + k4) = q at *
      unfold f_law_light b_law_light
      rw [fnD1]
      simp -implicitDefEqProofs [e1, e2, c1, c2, e3, e4, lo]
theorem great_run {B : Nat} {o : MO} (h : BagOk (B + 2) o) : ∃ (k : Int) (o' : MO), (∀ os rest, f_law_great [.loc 0 0] ((o :: os) :: rest) = .ok (.int k) ((o' :: os) :: rest)) ∧ BagOk B o' ∧ 0 ≤ k ∧ k < 1000000000000000000 := by
  obtain ⟨k1, o1, e1, h1, a1, b1⟩ := draw_run (B := B + 1) h (n := 1000000000) (by omega) (by omega)
  obtain ⟨k2, o2, e2, h2, a2, b2⟩ := draw_run (B := B) h1 (n := 1000000000) (by omega) (by omega)
  have pt : powOk 10 9 = true := by decide
  have mk : mulOk k1 1000000000 = true := mulOk_of (a := 40) (b := 40) (by omega) (by decide) (by omega)
  refine ⟨k1 * 1000000000 + k2, o2, fun os rest => ?_, h2, by omega, by omega⟩
  unfold f_law_great b_law_great
  rw [fnD1]
  simp -implicitDefEqProofs [pt, mk, e1, e2]
/-- a factor of any size -/
def Gt (q : Rat) : Prop := q.num.natAbs < 2 ^ 61 ∧ q.den < 2 ^ 61
theorem Lt.gt {q : Rat} (h : Lt q) : Gt q := ⟨by have := h.1; omega, by have := h.2; omega⟩
theorem Gt.of {p q : Int} (hq : 0 < q) (h1 : p.natAbs < 2 ^ 61) (h2 : q.natAbs < 2 ^ 61) : Gt (Rat.divInt p q) := by
  have := divInt_le (p := p) (q := q) (by omega)
  exact ⟨by omega, by omega⟩
theorem factor_run {B : Nat} {o : MO} (h : BagOk (B + 10) o) : ∃ (q : Rat) (o' : MO), (∀ os rest, f_law_factor [.loc 0 0] ((o :: os) :: rest) = .ok (fr q) ((o' :: os) :: rest)) ∧ BagOk B o' ∧ Gt q := by
  obtain ⟨k1, o1, e1, h1, a1, b1⟩ := draw_run (B := B + 9) h (n := 10) (by omega) (by omega)
  by_cases c1 : k1 < 5
  · obtain ⟨k2, o2, e2, h2, a2, b2⟩ := draw_run (B := B + 8) h1 (n := 7) (by omega) (by omega)
    refine ⟨Rat.divInt (k2 - 3) 1, o2, fun os rest => ?_, h2.mono (by omega), Gt.of (by omega) (by omega) (by omega)⟩
    rw [fr_whole]
    unfold f_law_factor b_law_factor
    rw [fnD1]
    simp -implicitDefEqProofs [e1, e2, c1]
  · by_cases c2 : k1 < 8
    · obtain ⟨k3, o3, e3, h3, a3, b3⟩ := draw_run (B := B + 8) h1 (n := 13) (by omega) (by omega)
      obtain ⟨k4, o4, e4, h4, a4, b4⟩ := draw_run (B := B + 7) h3 (n := 6) (by omega) (by omega)
      have lo := fun m => low_run (p := k3 - 6) (q := 1 + k4) (m := m) (by omega) (powmono (a := 10) (by omega) (by omega))
      refine ⟨Rat.divInt (k3 - 6) (1 + k4), o4, fun os rest => ?_, h4.mono (by omega), Gt.of (by omega) (by omega) (by omega)⟩
      generalize Rat.divInt (k3 - 6) (1 + k4) = q at *
      unfold f_law_factor b_law_factor
      rw [fnD1]
      simp -implicitDefEqProofs [e1, c1, c2, e3, e4, lo]
    · by_cases c3 : k1 = 8
      · obtain ⟨k3, o3, e3, h3, a3, b3⟩ := draw_run (B := B + 8) h1 (n := 4001) (by omega) (by omega)
        obtain ⟨k4, o4, e4, h4, a4, b4⟩ := draw_run (B := B + 7) h3 (n := 97) (by omega) (by omega)
        have lo := fun m => low_run (p := k3 - 2000) (q := 1 + k4) (m := m) (by omega) (powmono (a := 10) (by omega) (by omega))
        refine ⟨Rat.divInt (k3 - 2000) (1 + k4), o4, fun os rest => ?_, h4.mono (by omega), Gt.of (by omega) (by omega) (by omega)⟩
        generalize Rat.divInt (k3 - 2000) (1 + k4) = q at *
        unfold f_law_factor b_law_factor
        rw [fnD1]
        simp -implicitDefEqProofs [e1, c1, c2, c3, e3, e4, lo]
      · obtain ⟨k2, o2, e2, h2, a2, b2⟩ := draw_run (B := B + 8) h1 (n := 2) (by omega) (by omega)
        obtain ⟨p1, o3, e3, h3, a3, b3⟩ := great_run (B := B + 6) h2
        obtain ⟨p2, o4, e4, h4, a4, b4⟩ := great_run (B := B + 4) h3
        obtain ⟨k5, o5, e5, h5, a5, b5⟩ := draw_run (B := B + 3) h4 (n := 2) (by omega) (by omega)
        have pt : powOk 10 9 = true := by decide
        have mk1 : mulOk 2 k2 = true := mulOk_of (a := 10) (b := 10) (by decide) (by omega) (by omega)
        have mk2 : mulOk (1 - 2 * k2) p1 = true := mulOk_of (a := 10) (b := 70) (by omega) (by omega) (by omega)
        have mk3 : mulOk k5 1000000000 = true := mulOk_of (a := 10) (b := 40) (by omega) (by decide) (by omega)
        have dd : divOk (2 + k5 * 1000000000) = true := divOk_of (n := 70) (by omega) (by omega) (by omega)
        have hdp : 0 ≤ p2.fdiv (2 + k5 * 1000000000) ∧ p2.fdiv (2 + k5 * 1000000000) ≤ p2 := by
          rw [Int.fdiv_eq_ediv_of_nonneg _ (by omega)]
          exact ⟨Int.ediv_nonneg (by omega) (by omega), Int.ediv_le_self _ (by omega)⟩
        have hsg : ((1 - 2 * k2) * p1).natAbs < 2 ^ 61 := by
          have : k2 = 0 ∨ k2 = 1 := by omega
          rcases this with rfl | rfl <;> simp <;> omega
        have lo := fun m => low_run (p := (1 - 2 * k2) * p1) (q := 1 + p2.fdiv (2 + k5 * 1000000000)) (m := m) (by omega) (powmono (a := 61) (by omega) (by omega))
        refine ⟨Rat.divInt ((1 - 2 * k2) * p1) (1 + p2.fdiv (2 + k5 * 1000000000)), o5, fun os rest => ?_, h5.mono (by omega), Gt.of (by omega) hsg (by omega)⟩
        generalize Rat.divInt ((1 - 2 * k2) * p1) (1 + p2.fdiv (2 + k5 * 1000000000)) = q at *
        unfold f_law_factor b_law_factor
        rw [fnD1]
        simp -implicitDefEqProofs [e1, c1, c2, c3, e2, e3, e4, e5, pt, mk1, mk2, mk3, dd, lo]
end P_k18
namespace P_k18
open PySem L2 PySem.Spec PyProof.Rows LN

theorem fz_free {n : Nat} {m : Mem} : ∀ (k : Nat) (d : D), D.lt 0 d = true → fz k n m d = d
  | 0, d, _ => by rw [fz]
  | k + 1, d, h => by
    have mp : ∀ xs : List D, D.lts 0 xs = true → xs.map (fz k n m) = xs := fun xs hx => by
      have h1 := D.lts_iff.mp hx
      conv => rhs; rw [← List.map_id xs]
      exact List.map_congr_left fun d hd => fz_free k d (h1 d hd)
    cases d with
    | tup xs => rw [fz, mp xs (by simpa using h)]
    | lst xs => rw [fz, mp xs (by simpa using h)]
    | dk ks xs => rw [fz, mp xs (by simpa using h)]
    | dt ks xs => rw [fz, mp xs (by simpa using h)]
    | loc f i => simp at h
    | _ => rw [fz] <;> intros <;> simp_all
theorem kLv_lst {n i : Nat} {M : Mem} {xs : List D} (hg : M.get n i = some (.lst xs)) (hx : D.lts 0 xs = true) : kLv n (.loc n i) M false = .ok (.lst xs) (M.take n) := by
  have h1 := D.lts_iff.mp hx
  have mp : xs.map (fz 7 n M) = xs := by
    conv => rhs; rw [← List.map_id xs]
    exact List.map_congr_left fun d hd => fz_free 7 d (h1 d hd)
  have hf : fz 8 n M (.loc n i) = .lst xs := by
    rw [fz, if_pos rfl, hg]
    dsimp only
    rw [mp]
  have hl : D.lt n (.loc n i) = false := by simp
  unfold kLv fzl
  rw [hl]
  simp only [Bool.false_eq_true, if_false]
  rw [hf, if_pos]
  simp only [dlt_lst]
  exact D.lts_mono hx (Nat.zero_le _)
theorem lights_run {B w k : Nat} {o : MO} {os : List MO} {rest : Mem} (h : BagOk (B + 6 * k + 1) o) (hw : 0 < w) (hw2 : w ≤ 1000) (hk : k ≤ 100) :
    ∃ (es : List (Int × Int × Rat)) (o' : MO), f_law_lights [.loc 0 0, .int 2, .int (w : Int), .int (k : Int)] ((o :: os) :: rest) = .ok (.lst (es.map tri)) ((o' :: os) :: rest) ∧ BagOk B o' ∧ es.length ≤ k ∧ ∀ e ∈ es, InR w e.1 ∧ InR w e.2.1 ∧ Lt e.2.2 := by
  obtain ⟨n, o1, e1, h1, a1, b1⟩ := draw_run (B := B + 6 * k) h (n := (k : Int) + 1) (by omega) (by omega)
  obtain ⟨N, rfl⟩ : ∃ N : Nat, n = (N : Int) := ⟨n.toNat, by omega⟩
  obtain ⟨ρ', m', e2, rs, es, o2, z5, h2, rfl, rfl, h3, h4, h5⟩ := forD_ind (ck := fun _ => True) (g := gN 5) (b := w_law_lights_2)
    (fun ds ρ m => ∃ (rs : List Nat) (es : List (Int × Int × Rat)) (o : MO) (z5 : Option D), ds = rs.map (fun (i : Nat) => D.int (i : Int)) ∧ ρ = [some (.loc 0 0), some (.int 2), some (.int (w : Int)), some (.int (k : Int)), some (.loc (rest.length + 1) 0), z5, none] ∧ m = (o :: os) :: (rest ++ [[.lst (es.map tri)]]) ∧ BagOk (B + 6 * rs.length) o ∧ es.length + rs.length = N ∧ ∀ e ∈ es, InR w e.1 ∧ InR w e.2.1 ∧ Lt e.2.2)
    ((List.range N).map fun (i : Nat) => D.int (i : Int)) [some (.loc 0 0), some (.int 2), some (.int (w : Int)), some (.int (k : Int)), some (.loc (rest.length + 1) 0), none, none] ((o1 :: os) :: (rest ++ [[.lst []]]))
    ⟨List.range N, [], o1, none, rfl, rfl, rfl, h1.mono (by simp; omega), by simp, by simp⟩ (fun _ _ _ _ => trivial) (by
      rintro d ds ρ m ⟨rs, es, o, z5, h2, rfl, rfl, h3, h4, h5⟩
      cases rs with
      | nil => cases h2
      | cons r rs =>
        cases h2
        rw [List.length_cons] at h3 h4
        obtain ⟨c, oa, ea, ha, c1, c2⟩ := draw_run (B := B + 6 * rs.length + 5) (h3.mono (by omega)) (n := (w : Int)) (by omega) (by omega)
        obtain ⟨c', oc, ec, hc, c3, c4⟩ := draw_run (B := B + 6 * rs.length + 4) ha (n := (w : Int)) (by omega) (by omega)
        obtain ⟨q, ob, eb, hb, hq⟩ := light_run (B := B + 6 * rs.length) hc
        have lc := lcD_put (ck := fun _ => True) (g := gN 6) (t := tAll) (f := e_law_lights_1) (ρ := [some (.loc 0 0), some (.int 2), some (.int (w : Int)), some (.int (k : Int)), some (.loc (rest.length + 1) 0), some (.int (r : Int)), none]) (m := (o :: os) :: (rest ++ [[.lst (es.map tri)]])) (d := .int 0) (ds := [.int 1]) (y := .int c) (m3 := (oa :: os) :: (rest ++ [[.lst (es.map tri)]])) trivial rfl rfl (by simp -implicitDefEqProofs [ea])
        have lc2 := lcD_put (ck := fun _ => True) (g := gN 6) (t := tAll) (f := e_law_lights_1) (ρ := [some (.loc 0 0), some (.int 2), some (.int (w : Int)), some (.int (k : Int)), some (.loc (rest.length + 1) 0), some (.int (r : Int)), none]) (m := (oa :: os) :: (rest ++ [[.lst (es.map tri)]])) (d := .int 1) (ds := []) (y := .int c') (m3 := (oc :: os) :: (rest ++ [[.lst (es.map tri)]])) trivial rfl rfl (by simp -implicitDefEqProofs [ec])
        rw [lcD_nil trivial, Rs.bind_ok] at lc2
        rw [lc2, Rs.bind_ok] at lc
        refine ⟨_, _, [some (.loc 0 0), some (.int 2), some (.int (w : Int)), some (.int (k : Int)), some (.loc (rest.length + 1) 0), some (.int (r : Int)), none], (ob :: os) :: (rest ++ [[.lst ((es ++ [(c, c', q)]).map tri)]]), rfl, .inl ?_, rs, es ++ [(c, c', q)], ob, _, rfl, rfl, rfl, hb, by simp; omega, fun e he => ?_⟩
        · have g1 : es.length ≤ 16777215 := by omega
          have gr : rngOk 2 = true := by decide
          have hr1 : (2 : Int).toNat = 2 := rfl
          have hr2 : List.range 2 = [0, 1] := rfl
          have hen : tri (c, c', q) = .tup [.int c, .int c', fr q] := rfl
          have hma : (es ++ [(c, c', q)]).map tri = es.map tri ++ [.tup [.int c, .int c', fr q]] := by rw [List.map_append]; rfl
          have hll : ∀ k, D.lts k (es.map tri) = true := fun k => dlts_tri
          have hel : (es.map tri).length = es.length := by simp
          rw [hma]
          generalize es.map tri = E at *
          simp -implicitDefEqProofs [gr, hr1, hr2, lc, eb, hll, hel, g1]
        · rcases List.mem_append.mp he with he | he
          · exact h5 e he
          · simp at he; subst he; exact ⟨⟨c1, c2⟩, ⟨c3, c4⟩, hq⟩)
  cases rs with
  | cons => cases h2
  | nil =>
    simp at h4
    refine ⟨es, o2, ?_, h3.mono (by omega), by omega, h5⟩
    have gr : rngOk (N : Int) = true := rngOk_of (by omega) (by omega)
    unfold f_law_lights b_law_lights
    rw [fnD4]
    have hll : ∀ k, D.lts k (es.map tri) = true := fun k => dlts_tri
    generalize es.map tri = E at *
    simp -implicitDefEqProofs [e1, gr, e2]
    have kl := kLv_lst (n := rest.length + 1) (i := 0) (M := (o2 :: os) :: (rest ++ [[.lst E]])) (by simp) (hll 0)
    simp -implicitDefEqProofs at kl
    exact kl
/-- a drawn head -/
structure Du (w : Nat) (h : Hd) : Prop where
  s : ∀ t ∈ h.S, InR w t.1 ∧ InR w t.2.1 ∧ Lt t.2.2
  g : ∀ t ∈ h.G, InR w t.1 ∧ InR w t.2.1 ∧ Lt t.2.2
  sl : h.S.length ≤ 5
  gl : h.G.length ≤ 4
theorem head_run {B w : Nat} {o : MO} {os : List MO} (h : BagOk (B + 60) o) (hw : 0 < w) (hw2 : w ≤ 1000) :
    ∃ (u : Hd) (o' : MO), f_law_head [.loc 0 0, .int (w : Int)] [o :: os] = .ok (hdD u) [o' :: os] ∧ BagOk B o' ∧ Du w u := by
  obtain ⟨ts, o1, e1, h1, t1, t2⟩ := lights_run (B := B + 25) (w := w) (k := 5) (os := os) (rest := [[]]) (h.mono (by omega)) hw hw2 (by omega)
  obtain ⟨gv, o2, e2, h2, g1, g2⟩ := lights_run (B := B) (w := w) (k := 4) (os := os) (rest := [[]]) (h1.mono (by omega)) hw hw2 (by omega)
  have gl1 : ∀ k, D.lts k (ts.map tri) = true := fun k => dlts_tri
  have gl2 : ∀ k, D.lts k (gv.map tri) = true := fun k => dlts_tri
  have c5 : (((5 : Nat) : Int)) = 5 := rfl
  have c4 : (((4 : Nat) : Int)) = 4 := rfl
  rw [c5] at e1
  rw [c4] at e2
  have hsl : (ts.map tri).length ≤ 16777216 := by simp; omega
  have hgl : (gv.map tri).length ≤ 16777216 := by simp; omega
  refine ⟨⟨ts, gv⟩, o2, ?_, h2, ⟨t2, g2, t1, g1⟩⟩
  have hd : hdD ⟨ts, gv⟩ = .tup [.tup (ts.map tri), .tup (gv.map tri)] := rfl
  rw [hd]
  unfold f_law_head b_law_head
  rw [fnD2]
  generalize ts.map tri = TS at *
  generalize gv.map tri = GV at *
  simp -implicitDefEqProofs [e1, e2, gl1, gl2, hsl, hgl]
end P_k18
namespace P_k18
open PySem L2 PySem.Spec PyProof.Rows LN

theorem of2_run {B : Nat} {o : MO} {os : List MO} {ds : List MO} {xs : List D} (h : BagOk (B + 1) o) (hx : xs ≠ []) (hl : xs.length ≤ 1000) (hp : ∀ x ∈ xs, ∀ n, D.lt n x = true) :
    ∃ x o', x ∈ xs ∧ f_law_of [.loc 0 0, .loc 1 0] [o :: os, .lst xs :: ds] = .ok x [o' :: os, .lst xs :: ds] ∧ BagOk B o' := by
  have h0 : 0 < xs.length := List.length_pos_iff.mpr hx
  obtain ⟨k, o', d1, d2, d3, d4⟩ := draw_run (B := B) (n := xs.length) h (by omega) (by omega)
  obtain ⟨j, rfl⟩ : ∃ j : Nat, k = (j : Int) := ⟨k.toNat, by omega⟩
  have hj : j < xs.length := by omega
  have hat : atI xs (j : Int) = some xs[j] := by rw [atI_natE, List.getElem?_eq_getElem hj]
  refine ⟨xs[j], o', List.getElem_mem hj, ?_, d2⟩
  have hlt := fun n => hp xs[j] (List.getElem_mem hj) n
  unfold f_law_of b_law_of
  rw [fnD2]
  simp -implicitDefEqProofs [d1, hat, hlt]
theorem one_row {B N w k : Nat} {o : MO} {rows : List (List Rat)} {ds : List MO} {z4 z5 z6 : Option D} (h : BagOk (B + 400) o) (hw : 0 < w) (hw2 : w ≤ 5) (hk : rows.length = k) (hk9 : k ≤ 100) (hr : ∀ r ∈ rows, r.length = w ∧ ∀ q ∈ r, Lt q) :
    ∃ (r : List Rat) (o' x : MO) (y5 y6 : Option D), w_law_rows_2 [some (.loc 0 0), some (.int (N : Int)), some (.int (w : Int)), some (.loc 1 0), some (.int (k : Int)), z5, z6, none] [[o], .lst (rows.map rowD) :: ds] = .ok (.nx [some (.loc 0 0), some (.int (N : Int)), some (.int (w : Int)), some (.loc 1 0), some (.int (k : Int)), y5, y6, none]) [[o'], .lst ((rows ++ [r]).map rowD) :: (ds ++ [x])] ∧ BagOk B o' ∧ r.length = w ∧ ∀ q ∈ r, Lt q := by
  obtain ⟨wy, o1, e1, h1, a1, b1⟩ := draw_run (B := B + 399) h (n := 4) (by omega) (by omega)
  have hmap : ∀ r, (rows ++ [r]).map rowD = rows.map rowD ++ [rowD r] := fun r => by rw [List.map_append]; rfl
  have hRl : (rows.map rowD).length = rows.length := by simp
  have hlt : ∀ k, D.lts k (rows.map rowD) = true := fun k => dlts_map fun _ _ => dlt_row
  have g0 : (rows.map rowD).length ≤ 16777215 := by omega
  by_cases hc : 1 < wy ∧ 0 < k
  · obtain ⟨c1, c2⟩ := hc
    have c2' : (0 : Int) < (k : Int) := by omega
    have hne : rows.map rowD ≠ [] := fun e => by
      have := congrArg List.length e
      simp at this
      rw [this] at hk
      simp at hk
      omega
    obtain ⟨x, o2, hx, e2, h2⟩ := of2_run (B := B + 398) (os := []) (ds := ds) h1 hne (by simp; omega) (by
      intro x hx n
      obtain ⟨r, _, rfl⟩ := List.mem_map.mp hx
      exact dlt_row)
    obtain ⟨r, hrr, rfl⟩ := List.mem_map.mp hx
    obtain ⟨r1, r2⟩ := hr r hrr
    have hrd : rowD r = .tup (r.map fr) := rfl
    have hrl : (r.map fr).length ≤ 16777216 := by simp; omega
    by_cases c3 : wy = 3
    · obtain ⟨q, o3, e3, h3, hq⟩ := light_run (B := B + 394) h2
      obtain ⟨c, o4, e4, h4, a4, b4⟩ := draw_run (B := B + 393) h3 (n := (w : Int)) (by omega) (by omega)
      have hix : ixN (r.map fr).length c = some c.toNat := by
        rw [List.length_map]
        exact ixN_in ⟨a4, by rw [r1]; exact b4⟩
      refine ⟨r.set c.toNat q, o4, .lst ((r.set c.toNat q).map fr), some (.int wy), some (.loc 1 (ds.length + 1)), ?_, h4.mono (by omega), by simp [r1], fun y hy => ?_⟩
      · rw [hmap]
        have hrs : (r.set c.toNat q).map fr = (r.map fr).set c.toNat (fr q) := List.map_set ..
        have hrd2 : rowD (r.set c.toNat q) = .tup ((r.map fr).set c.toNat (fr q)) := by unfold rowD; rw [hrs]
        rw [hrd2, hrs]
        rw [hrd] at e2
        have hlr : ∀ k, D.lts k (r.map fr) = true := fun k => dlts_frs
        have hls : ∀ k, D.lts k ((r.map fr).set c.toNat (fr q)) = true := fun k => by rw [← hrs]; exact dlts_frs
        have e3' := e3 [] [.lst (rows.map rowD) :: (ds ++ [.lst (r.map fr)])]
        have e4' := e4 [] [.lst (rows.map rowD) :: (ds ++ [.lst (r.map fr)])]
        generalize rows.map rowD = RR at *
        generalize r.map fr = R at *
        have g2 : (R.set c.toNat (fr q)).length ≤ 16777216 := by simpa using hrl
        generalize hRS : R.set c.toNat (fr q) = RS at *
        simp -implicitDefEqProofs [e1, c1, c2, c2', e2, hrl, c3, e3', e4', hix, hRS, hlt, hlr, hls, g0, g2]
      · rcases List.mem_or_eq_of_mem_set hy with hy | hy
        · exact r2 y hy
        · subst hy; exact hq
    · refine ⟨r, o2, .lst (r.map fr), some (.int wy), some (.loc 1 (ds.length + 1)), ?_, h2.mono (by omega), r1, r2⟩
      rw [hmap]
      rw [hrd] at e2 ⊢
      have hlr : ∀ k, D.lts k (r.map fr) = true := fun k => dlts_frs
      generalize rows.map rowD = RR at *
      generalize r.map fr = R at *
      simp -implicitDefEqProofs [e1, c1, c2, c2', e2, hrl, c3, hlt, hlr, g0]
  · obtain ⟨zs, m', e2, o2, r, rfl, h2, e3, h3, h4⟩ := lcD_ind (ck := fun _ => True) (g := gN 7) (t := tAll) (f := e_law_rows_1) (fun (k : Nat) => D.int (k : Int)) (ρ := [some (.loc 0 0), some (.int (N : Int)), some (.int (w : Int)), some (.loc 1 0), some (.int (k : Int)), some (.int wy), z6, none])
      (fun ks zs m => ∃ (o : MO) (r : List Rat), m = [[o], .lst (rows.map rowD) :: ds] ∧ BagOk (B + 4 * ks.length) o ∧ zs = r.map fr ∧ r.length + ks.length = w ∧ ∀ q ∈ r, Lt q) (List.range w) [] [[o1], .lst (rows.map rowD) :: ds] ⟨o1, [], rfl, h1.mono (by simp; omega), rfl, by simp, by simp⟩ (fun _ _ _ _ => trivial) (by
        rintro k ks zs m ⟨o, r, rfl, i1, rfl, i2, i3⟩
        rw [List.length_cons] at i1 i2
        obtain ⟨q, o', e, hb, hq⟩ := light_run (B := B + 4 * ks.length) (i1.mono (by omega))
        refine ⟨_, _, fr q, [[o'], .lst (rows.map rowD) :: ds], rfl, rfl, by simp -implicitDefEqProofs [e], o', r ++ [q], rfl, hb, by simp, by simp; omega, fun x hx => ?_⟩
        rcases List.mem_append.mp hx with hx | hx
        · exact i3 x hx
        · simp at hx; subst hx; exact hq)
    rw [List.nil_append] at e3
    subst e3
    simp only [List.length_nil, Nat.add_zero] at h3
    refine ⟨r, o2, .lst (r.map fr), some (.int wy), some (.loc 1 (ds.length + 1)), ?_, h2.mono (by omega), h3, h4⟩
    have gr : rngOk (w : Int) = true := rngOk_of (by omega) (by omega)
    rw [hmap]
    have hrd : rowD r = .tup (r.map fr) := rfl
    have hrl : (r.map fr).length ≤ 16777216 := by simp; omega
    have hlr : ∀ k, D.lts k (r.map fr) = true := fun k => dlts_frs
    rw [hrd]
    generalize rows.map rowD = RR at *
    generalize r.map fr = R at *
    by_cases c1 : 1 < wy
    · have c2 : ¬ (0 : Int) < (k : Int) := fun h => hc ⟨c1, by omega⟩
      have c2' : ¬ 0 < k := by omega
      simp -implicitDefEqProofs [e1, c1, c2, c2', gr, e2, hrl, hlt, hlr, g0]
    · simp -implicitDefEqProofs [e1, c1, gr, e2, hrl, hlt, hlr, g0]
theorem rows_run {B N w : Nat} {o : MO} (h : BagOk (B + 400 * N) o) (hw : 0 < w) (hw2 : w ≤ 5) (hN : N ≤ 100) : ∃ (rows : List (List Rat)) (o' : MO), f_law_rows [.loc 0 0, .int (N : Int), .int (w : Int)] [[o]] = .ok (.loc 0 1) [[o', .lst (rows.map rowD)]] ∧ BagOk B o' ∧ rows.length = N ∧ ∀ r ∈ rows, r.length = w ∧ ∀ q ∈ r, Lt q := by
  obtain ⟨ρ', m', e1, ks, rows, ds, o1, z4, z5, z6, h1, rfl, rfl, h2, ⟨h3, h3b⟩, h4⟩ := forD_ind (ck := fun _ => True) (g := gN 4) (b := w_law_rows_2)
    (fun dl ρ m => ∃ (ks : List Nat) (rows : List (List Rat)) (ds : List MO) (o : MO) (z4 z5 z6 : Option D), dl = ks.map (fun (i : Nat) => D.int (i : Int)) ∧ ρ = [some (.loc 0 0), some (.int (N : Int)), some (.int (w : Int)), some (.loc 1 0), z4, z5, z6, none] ∧ m = [[o], .lst (rows.map rowD) :: ds] ∧ BagOk (B + 400 * ks.length) o ∧ (ks = (List.range N).drop rows.length ∧ rows.length ≤ N) ∧ ∀ r ∈ rows, r.length = w ∧ ∀ q ∈ r, Lt q)
    ((List.range N).map fun (i : Nat) => D.int (i : Int)) [some (.loc 0 0), some (.int (N : Int)), some (.int (w : Int)), some (.loc 1 0), none, none, none, none] [[o], [.lst []]] ⟨List.range N, [], [], o, none, none, none, rfl, rfl, rfl, by simpa using h, ⟨by simp, by simp⟩, by simp⟩ (fun _ _ _ _ => trivial) (by
      rintro d dl ρ m ⟨ks, rows, ds, o, z4, z5, z6, h1, rfl, rfl, h2, ⟨h3, h3b⟩, h4⟩
      cases ks with
      | nil => cases h1
      | cons k ks =>
        cases h1
        have hk : rows.length < N := by
          by_cases hk : rows.length < N
          · exact hk
          · rw [List.drop_eq_nil_of_le (by simp; omega)] at h3; cases h3
        rw [List.drop_eq_getElem_cons (by simpa using hk), List.getElem_range] at h3
        injection h3 with ha hb
        rw [List.length_cons] at h2
        obtain ⟨r, o', x, y5, y6, e1, h5, h6, h7⟩ := one_row (N := N) (ds := ds) (z4 := z4) (z5 := z5) (z6 := z6) (B := B + 400 * ks.length) (k := k) (h2.mono (by omega)) hw hw2 ha.symm (by omega) h4
        refine ⟨_, _, _, _, rfl, .inl e1, ks, rows ++ [r], ds ++ [x], o', _, y5, y6, rfl, rfl, rfl, h5, ⟨by rw [hb]; simp, by simp; omega⟩, fun y hy => ?_⟩
        rcases List.mem_append.mp hy with hy | hy
        · exact h4 y hy
        · simp at hy; subst hy; exact ⟨h6, h7⟩)
  cases ks with
  | cons => cases h1
  | nil =>
    have hl : N ≤ rows.length := by
      have := congrArg List.length h3
      simp at this
      omega
    have hl2 : rows.length = N := by omega
    refine ⟨rows, o1, ?_, h2.mono (by simp), hl2, h4⟩
    have gr : rngOk (N : Int) = true := rngOk_of (by omega) (by omega)
    have hlt : ∀ k, D.lts k (rows.map rowD) = true := fun k => dlts_map fun _ _ => dlt_row
    unfold f_law_rows b_law_rows
    rw [fnM3]
    generalize rows.map rowD = R at *
    simp -implicitDefEqProofs [gr, e1]
    rw [lvM_loc]
    simp -implicitDefEqProofs [-List.map_map, map_fzl, hlt]
end P_k18
namespace P_k18
open PySem L2 PySem.Spec PyProof.Rows LN

/-! ### sizes -/
def C97 : Nat := cmnN ((List.range 97).map (· + 1))
theorem C97_dvd {d : Nat} (h0 : 0 < d) (h : d ≤ 97) : d ∣ C97 := dvd_cmn (List.mem_map.mpr ⟨d - 1, List.mem_range.mpr (by omega), by omega⟩)
theorem C97_pos : 0 < C97 := cmn_pos fun d hd => by obtain ⟨i, _, rfl⟩ := List.mem_map.mp hd; omega
theorem C97_lt : C97 < 2 ^ 140 := by decide +kernel
theorem Gt.dn {q : Rat} (h : Gt q) : Dn q.den (2 ^ 61) q := (Dn.of q).mono (by have := h.1; omega)
abbrev L0 (g : Nat) : Nat := C97 * g
abbrev FF : Nat := C97 * 2520
theorem FF_pos : 0 < FF := Nat.mul_pos C97_pos (by omega)
theorem FF_lt : FF < 2 ^ 152 := powb C97_lt (show 2520 < 2 ^ 12 by decide)
/-- rows that are drawn -/
structure Hy (w g : Nat) (rows : List (List Rat)) : Prop where
  r0 : rows ≠ []
  rl : rows.length ≤ 9
  w0 : 0 < w
  w5 : w ≤ 5
  g0 : 0 < g
  g1 : g < 2 ^ 61
  rs : ∀ r ∈ rows, r.length = w ∧ ∀ q ∈ r, Gt q ∧ q.den ∣ C97 * g
section
variable {w g : Nat} {rows : List (List Rat)} {hs : List Hd} {h : Hd}
theorem Hy.l0 (y : Hy w g rows) : 0 < L0 g ∧ L0 g < 2 ^ 201 := ⟨Nat.mul_pos C97_pos y.g0, powb C97_lt y.g1⟩
theorem Hy.rq (y : Hy w g rows) : Rq (L0 g) FF := ⟨y.l0.1, FF_pos, y.l0.2, powmono FF_lt (by omega)⟩
theorem Hy.rw (y : Hy w g rows) : ∀ r ∈ rows, RwOk (L0 g) w r := fun r hr => ⟨(y.rs r hr).1, fun q hq => ((y.rs r hr).2 q hq).1.dn.dvd ((y.rs r hr).2 q hq).2⟩
theorem Hy.low (y : Hy w g rows) : 0 < lowN rows ∧ lowN rows ∣ L0 g ∧ ∀ r ∈ rows, ∀ q ∈ r, q.den ∣ lowN rows := by
  have lf := low_from rows 1 (L0 g) (by omega) (Nat.one_dvd _) fun r hr q hq => ((y.rs r hr).2 q hq).2
  exact ⟨lf.1, lf.2.1, lf.2.2.2⟩
theorem Hy.lowlt (y : Hy w g rows) : lowN rows < 2 ^ 201 := Nat.lt_of_le_of_lt (Nat.le_of_dvd y.l0.1 y.low.2.1) y.l0.2
theorem Hy.z (y : Hy w g rows) : ∀ z ∈ rows.map (zRow (lowN rows)), z.length = w ∧ ∀ x ∈ z, x.natAbs < 2 ^ 600 := fun z hz => by
  obtain ⟨r, hr, rfl⟩ := List.mem_map.mp hz
  refine ⟨by simp [zRow, (y.rs r hr).1], fun x hx => ?_⟩
  obtain ⟨q, hq, rfl⟩ := List.mem_map.mp hx
  unfold zD
  refine Nat.lt_of_lt_of_le (powb_int (a := 61) (b := 201) ((y.rs r hr).2 q hq).1.1 ?_) (Nat.pow_le_pow_right (by omega) (by omega))
  have := Nat.div_le_self (lowN rows) q.den
  have := y.lowlt
  simp only [Int.natAbs_natCast]
  omega
theorem Lt.t {t : Int × Int × Rat} (h : InR w t.1 ∧ InR w t.2.1 ∧ Lt t.2.2) : TOk w FF t := ⟨h.1, h.2.1, ((Dn.of t.2.2).mono (by have := h.2.2.1; omega)).dvd (Nat.dvd_trans (C97_dvd t.2.2.den_pos h.2.2.2) (Nat.dvd_mul_right _ _))⟩
theorem Du.ok (d : Du w h) : HOk w FF h := ⟨d.sl, d.gl, fun t ht => Lt.t (d.s t ht), fun t ht => Lt.t (d.g t ht)⟩
theorem mS_c {S : List (Int × Int × Rat)} (hS : ∀ t ∈ S, InR w t.1 ∧ InR w t.2.1 ∧ Lt t.2.2) : mS S ∣ C97 := cmn_dvd fun d hd => by
  obtain ⟨q, hq, rfl⟩ := List.mem_map.mp hd
  exact C97_dvd q.2.2.den_pos (hS q hq).2.2.2
theorem lt600 {q : Rat} (h : Lt q) : q.num.natAbs < 2 ^ 600 := Nat.lt_of_le_of_lt h.1 (by decide +kernel)
theorem Du.dn (d : Du w h) : HDn FF 600 w h where
  w1 := Nat.dvd_trans (mS_c d.s) (Nat.dvd_mul_right _ _)
  w2 := by rw [Nat.mul_comm]; exact Nat.mul_dvd_mul (mS_c d.g) (Nat.dvd_refl _)
  s := fun t ht => ⟨(d.s t ht).1, (d.s t ht).2.1, lt600 (d.s t ht).2.2⟩
  g := fun t ht => ⟨(d.g t ht).1, (d.g t ht).2.1, lt600 (d.g t ht).2.2⟩
  sl := d.sl
  gl := d.gl
/-- the law's own scores are those of the rows -/
theorem sc_zd (y : Hy w g rows) (d : Du w h) {a : List Rat} (ha : a ∈ rows) : (rows.map (zRow (lowN rows))).map (scZ (mS h.S) (zRow (lowN rows) a) h.S) = zRow (mS h.S * lowN rows * lowN rows) (rows.map fun r => sc a h.S r) ∧ ∀ q ∈ rows.map (fun r => sc a h.S r), q.den ∣ mS h.S * lowN rows * lowN rows ∧ q.num.natAbs < 2 ^ 800 := by
  have hM : 0 < mS h.S * lowN rows * lowN rows := Nat.mul_pos (Nat.mul_pos (mS_pos _) y.low.1) y.low.1
  have key : ∀ r ∈ rows, (sc a h.S r).den ∣ mS h.S * lowN rows * lowN rows ∧ zD (mS h.S * lowN rows * lowN rows) (sc a h.S r) = scZ (mS h.S) (zRow (lowN rows) a) h.S (zRow (lowN rows) r) := fun r hr => by
    refine int_den ?_ hM
    rw [scZ_cast (y.low.2.2 a ha) (y.low.2.2 r hr) (fun t ht => ⟨by rw [(y.rs a ha).1]; exact (d.s t ht).1, by rw [(y.rs r hr).1]; exact (d.s t ht).2.1, mS_dvd ht⟩), sc_eq]
  constructor
  · unfold zRow
    rw [List.map_map, List.map_map]
    exact List.map_congr_left fun r hr => (key r hr).2.symm
  · intro q hq
    obtain ⟨r, hr, rfl⟩ := List.mem_map.mp hq
    refine ⟨(key r hr).1, ?_⟩
    have := (sc_run (m := []) (r := r) (Td := .tup ((tmS a h.S).map ent)) (ck0 := fun _ => True) y.rq d.sl (y.rw a ha) (y.rw r hr) d.ok.s (fun _ => ⟨rfl, trivial⟩)).2
    have hz := y.rq.rm.sz ((this.dvd ⟨2520, by show L0 g * L0 g * FF * 2520 = _; rw [Nat.mul_assoc (L0 g) (L0 g) FF]⟩).mono (by decide +kernel))
    exact Nat.lt_of_lt_of_le hz.1 (Nat.pow_le_pow_right (by omega) (by omega))
end
theorem cut_last {xs : List D} {y : D} : cutL (xs ++ [y]) none (some (-1)) = xs := by rw [cutL_n1, List.dropLast_concat]
theorem fst_ix : ∀ (xs : List D) (k : Nat) (y : D), xs[k]? = some y → ∃ j, j ≤ k ∧ xs[j]? = some y ∧ ∀ i, i < j → xs[i]? ≠ some y := by
  intro xs k
  induction k using Nat.strongRecOn with
  | _ k ih =>
    intro y h
    by_cases hx : ∃ i, i < k ∧ xs[i]? = some y
    · obtain ⟨i, hi, hy⟩ := hx
      obtain ⟨j, j1, j2, j3⟩ := ih i hi y hy
      exact ⟨j, by omega, j2, j3⟩
    · exact ⟨k, Nat.le_refl _, h, fun i hi hy => hx ⟨i, hi, hy⟩⟩
theorem rowD_inj {a b : List Rat} (h : rowD a = rowD b) : a = b := by
  unfold rowD at h
  injection h with h
  have : ∀ (a b : List Rat), a.map fr = b.map fr → a = b := by
    intro a
    induction a with
    | nil => intro b h; cases b with
      | nil => rfl
      | cons => cases h
    | cons x xs ih => intro b h; cases b with
      | nil => cases h
      | cons y ys =>
        rw [List.map_cons, List.map_cons] at h
        injection h with h1 h2
        rw [fr_inj.mp h1, ih ys h2]
  exact this a b h
theorem lk_ints {xs : List Int} (h : xs.length ≤ 1000) : lkD 7 (.lst (xs.map .int)) = true := by
  have : lkDs 6 (xs.map D.int) = true := lkDs_iff.mpr fun d hd => by
    obtain ⟨i, _, rfl⟩ := List.mem_map.mp hd
    rfl
  simp only [lkD, Bool.and_eq_true, decide_eq_true_eq]
  exact ⟨by simp; omega, this⟩
theorem like_zip {n : Nat} {ck : Mem → Prop} {xs : List D} {a b : D} {m : Mem} (hc : ck m) (h : lkDs n xs = true) :
    lcD ck (gT (gsCons (gN 2) (gsCons (gN 3) gsNil))) tAll (dCall (r_law_like (n + 1)) [] (dCons (dV 2) (dCons (dV 3) dNil))) ((xs.zip xs).map fun p => .tup [p.1, p.2]) [some a, some b, none, none] m = .ok ((xs.zip xs).map fun _ => D.bl true) m := by
  refine lcD_map _ _ _ hc fun p hp => ?_
  have hz : p.1 ∈ xs ∧ p.1 = p.2 := by
    have := List.of_mem_zip hp
    obtain ⟨i, hi⟩ := List.mem_iff_getElem?.mp hp
    rw [List.getElem?_zip_eq_some] at hi
    refine ⟨this.1, ?_⟩
    have := hi.1.symm.trans hi.2
    exact Option.some.inj this
  have := like_run n p.1 m (lkDs_iff.mp h p.1 hz.1)
  refine ⟨[some a, some b, some p.1, some p.2], by simp, by simp, ?_⟩
  rw [← hz.2]
  simp [this]
theorem like_lf {n j : Nat} {xs : List D} {fr0 : List MO} (hj : fr0[j]? = some (.lst xs)) (h : lkD (n + 1) (.lst xs) = true) : r_law_like (n + 2) [.loc 0 j, .lst xs] [fr0] = .ok (.bl true) [fr0] := by
  simp only [lkD, Bool.and_eq_true, decide_eq_true_eq] at h
  have s := like_zip (n := n) (ck := fun m' => ckL 0 j xs m' ∧ True) (xs := xs) (a := .loc 0 j) (b := .lst xs) (m := [fr0, []]) ⟨by simp [ckL, hj], trivial⟩ h.2
  have hb := bAll_map (l := xs.zip xs) (h := fun _ => true) (m := [fr0, []])
  have hl : (xs.zip xs).length = xs.length := by simp
  rw [r_law_like, fnD2]
  simp at s hb
  simp -implicitDefEqProofs [b_law_like, hj, s, hb, h.1]
theorem like_fl {n j : Nat} {xs : List D} {fr0 : List MO} (hj : fr0[j]? = some (.lst xs)) (h : lkD (n + 1) (.lst xs) = true) : r_law_like (n + 2) [.lst xs, .loc 0 j] [fr0] = .ok (.bl true) [fr0] := by
  simp only [lkD, Bool.and_eq_true, decide_eq_true_eq] at h
  have s := like_zip (n := n) (ck := fun m' => True ∧ ckL 0 j xs m') (xs := xs) (a := .lst xs) (b := .loc 0 j) (m := [fr0, []]) ⟨trivial, by simp [ckL, hj]⟩ h.2
  have hb := bAll_map (l := xs.zip xs) (h := fun _ => true) (m := [fr0, []])
  have hl : (xs.zip xs).length = xs.length := by simp
  rw [r_law_like, fnD2]
  simp at s hb
  simp -implicitDefEqProofs [b_law_like, hj, s, hb, h.1]
theorem like_l1 {n j : Nat} {xs : List D} {fr0 fr1 : List MO} (hj : fr1[j]? = some (.lst xs)) (h : lkD (n + 1) (.lst xs) = true) : r_law_like (n + 2) [.loc 1 j, .lst xs] [fr0, fr1] = .ok (.bl true) [fr0, fr1] := by
  simp only [lkD, Bool.and_eq_true, decide_eq_true_eq] at h
  have s := like_zip (n := n) (ck := fun m' => ckL 1 j xs m' ∧ True) (xs := xs) (a := .loc 1 j) (b := .lst xs) (m := [fr0, fr1, []]) ⟨by simp [ckL, hj], trivial⟩ h.2
  have hb := bAll_map (l := xs.zip xs) (h := fun _ => true) (m := [fr0, fr1, []])
  have hl : (xs.zip xs).length = xs.length := by simp
  rw [r_law_like, fnD2]
  simp at s hb
  simp -implicitDefEqProofs [b_law_like, hj, s, hb, h.1]
end P_k18
namespace P_k18
open PySem L2 PySem.Spec PyProof.Rows LN

theorem plds_row {r : List Rat} : plD 59 (rowD r) = true := by
  simp only [rowD, plD]
  exact plDs_iff.mpr fun d hd => by
    obtain ⟨q, _, rfl⟩ := List.mem_map.mp hd
    simp [fr]
section
variable {w g : Nat} {rows : List (List Rat)} {h : Hd} {i at' : Nat} {o : MO} {os : List MO} {a : List Rat} {st : D} {c1 c2 : List Int} {M : Nat} {z7 z8 z9 z10 : Option D} {B : Nat}
/-- the scores of equal rows -/
theorem lf_q4 (hi : os[i]? = some (.lst (rows.map rowD))) (hl : rows.length ≤ 9) : ∃ y8 : Option D, q_law_look_fits_4 [some (.loc 0 0), some (.loc 0 (i + 1)), some st, some (hdD h), some (.int (at' : Int)), some (.lst (c1.map .int)), some (.int (M : Int)), some (.lst (rows.map fun r => fr (sc a h.S r))), none, none, none] [o :: os, []] = .ok (.nx [some (.loc 0 0), some (.loc 0 (i + 1)), some st, some (hdD h), some (.int (at' : Int)), some (.lst (c1.map .int)), some (.int (M : Int)), some (.lst (rows.map fun r => fr (sc a h.S r))), y8, none, none]) [o :: os, []] := by
  obtain ⟨z, e1, -⟩ := forD_pure (ck := fun _ => True) (g := gN 8) (b := w_law_look_fits_1)
    (fun (_ : Unit) (z : Option D) => [some (.loc 0 0), some (.loc 0 (i + 1)), some st, some (hdD h), some (.int (at' : Int)), some (.lst (c1.map .int)), some (.int (M : Int)), some (.lst (rows.map fun r => fr (sc a h.S r))), z, none, none]) (fun _ => [o :: os, []]) (fun (k : Nat) => D.int (k : Int)) (fun s _ => s)
    (fun ks _ => ∀ k ∈ ks, k < rows.length) (List.range rows.length) () none (fun k hk => List.mem_range.mp hk) (fun _ _ _ => trivial) (by
      rintro k ks - z j
      have hk := j k (by simp)
      have hat : atI (rows.map rowD) (k : Int) = some (rowD rows[k]) := by rw [atI_natE, List.getElem?_map, List.getElem?_eq_getElem hk]; rfl
      have hq : (rows.map rowD)[k]? = some (rowD rows[k]) := by rw [List.getElem?_map, List.getElem?_eq_getElem hk]; rfl
      obtain ⟨jj, j1, j2, j3⟩ := fst_ix _ k _ hq
      have hjl : jj < rows.length := by omega
      have hr : rows[jj] = rows[k] := by
        rw [List.getElem?_map, List.getElem?_eq_getElem hjl] at j2
        exact rowD_inj (Option.some.inj j2)
      have ix := gIdx_run (m := [o :: os, []]) (l := .loc 0 (i + 1)) (xs := rows.map rowD) (by simp [hi]) (by unfold rdD; simp [hi]) (plDs_iff.mpr fun d hd => by
        obtain ⟨r, _, rfl⟩ := List.mem_map.mp hd
        exact plds_row) j2 j3
      have t1 : atI (rows.map fun r => fr (sc a h.S r)) (jj : Int) = some (fr (sc a h.S rows[k])) := by rw [atI_natE, List.getElem?_map, List.getElem?_eq_getElem hjl, hr]; rfl
      have t2 : atI (rows.map fun r => fr (sc a h.S r)) (k : Int) = some (fr (sc a h.S rows[k])) := by rw [atI_natE, List.getElem?_map, List.getElem?_eq_getElem hk]; rfl
      have nf := fun m' => ne_fr (a := sc a h.S rows[k]) (b := sc a h.S rows[k]) (m := m')
      refine ⟨fun x hx => j x (by simp [hx]), some (.int (k : Int)), ?_⟩
      generalize sc a h.S rows[k] = q at *
      generalize rowD rows[k] = RK at *
      generalize (rows.map fun r => fr (sc a h.S r)) = SS at *
      generalize rows.map rowD = RR at *
      generalize hdD h = HD at *
      simp -implicitDefEqProofs [hi, hat, ix, t1, t2, nf, isL])
  have gr : rngOk (rows.length : Int) = true := rngOk_of (by omega) (by omega)
  have hrl : (rows.map rowD).length = rows.length := by simp
  refine ⟨z, ?_⟩
  generalize (rows.map fun r => fr (sc a h.S r)) = SS at *
  generalize rows.map rowD = RR at *
  generalize hdD h = HD at *
  simp -implicitDefEqProofs [hi, hrl, gr, e1]
theorem look_run (y : Hy w g rows) (d : Du w h) (hi : os[i]? = some (.lst (rows.map rowD))) (hat : rows[at']? = some a) (hb : BagOk (B + 2) o) :
    ∃ o', f_law_look_fits [.loc 0 0, .loc 0 (i + 1), stD (lowN rows) (rows.map (zRow (lowN rows))), hdD h, .int (at' : Int)] [o :: os] = .ok (.bl true) [o' :: os] ∧ BagOk B o' := by
  have ha := List.mem_of_getElem? hat
  have hZat : (rows.map (zRow (lowN rows)))[at']? = some (zRow (lowN rows) a) := by rw [List.getElem?_map, hat]; rfl
  have hll : lowN rows < 2 ^ 600 := Nat.lt_of_lt_of_le y.lowlt (Nat.pow_le_pow_right (by omega) (by omega))
  have sd := scored_run (m := [o :: os, []]) (l := lowN rows) FF_pos (powmono FF_lt (show 152 ≤ 600 by omega)) (by omega) d.dn hll hZat y.z (by simpa using y.rl)
  have sz := sc_zd y d ha
  rw [sz.1] at sd
  obtain ⟨k1, o1, e1, h1, a1, b1⟩ := draw_run (B := B + 1) hb (n := 9) (by omega) (by omega)
  obtain ⟨k2, o2, e2, h2, a2, b2⟩ := draw_run (B := B) h1 (n := 9) (by omega) (by omega)
  have W : ∀ (p : MO) (tl : Mem), Rw (.loc 0 (i + 1)) rows ((p :: os) :: tl) := fun p tl => Rw.loc (by simpa using hi)
  have sr := fun p => scores_run (m := [p :: os, []]) y.rq (W p [[]]) (by have := y.rl; omega) y.rw d.ok hat
  have lr := fun (p : MO) fr1 => looked_run (m := [p :: os, fr1]) y.rq (W p [fr1]) (by have := y.rl; omega) y.rw d.ok hat (by simp)
  have sp := sp_cast (h := h) y.low.1 (fun r hr => ⟨(y.rs r hr).1, y.low.2.2 r hr⟩) ha (fun t ht => ⟨(d.s t ht).1, (d.s t ht).2.1⟩)
  unfold spZ at sp
  rw [sz.1] at sp
  have hM : 0 < mS h.S * lowN rows * lowN rows := Nat.mul_pos (Nat.mul_pos (mS_pos _) y.low.1) y.low.1
  have hM2 : mS h.S * lowN rows * lowN rows < 2 ^ 600 := by
    have h1 : mS h.S < 2 ^ 140 := Nat.lt_of_le_of_lt (Nat.le_of_dvd C97_pos (mS_c d.s)) C97_lt
    exact powmono (powb (powb h1 y.lowlt) y.lowlt) (by omega)
  have rs := fun m' => row_same_run (m := m') (A := 800) (fun q hq => ⟨(sz.2 q hq).2, (sz.2 q hq).1⟩) (powmono hM2 (by omega)) (by omega) hM (by have := y.rl; simp; omega)
  have hrow : rowD (rows.map fun r => sc a h.S r) = .tup (rows.map fun r => fr (sc a h.S r)) := by unfold rowD; rw [List.map_map]; rfl
  rw [hrow] at rs
  obtain ⟨y8, e4⟩ := lf_q4 (o := o1) (at' := at') (a := a) (h := h) (st := stD (lowN rows) (rows.map (zRow (lowN rows)))) (c1 := zRow (mS h.S * lowN rows * lowN rows) (rows.map fun r => sc a h.S r)) (M := mS h.S * lowN rows * lowN rows) hi y.rl
  have hxl : (zRow (mS h.S * lowN rows * lowN rows) (rows.map fun r => sc a h.S r)).length ≤ 9 := by simpa [zRow] using y.rl
  have hx0 : zRow (mS h.S * lowN rows * lowN rows) (rows.map fun r => sc a h.S r) ≠ [] := fun e => by
    have := congrArg List.length e
    simp [zRow] at this
    exact y.r0 this
  have hsl : (rows.map fun r => fr (sc a h.S r)).length ≤ 16777216 := by have := y.rl; simp; omega
  generalize zRow (mS h.S * lowN rows * lowN rows) (rows.map fun r => sc a h.S r) = xs at *
  generalize mS h.S * lowN rows * lowN rows = M at *
  rw [← sp] at lr
  have hsnl : (seenZ xs).length ≤ 9 := by have := seenZ_len (xs := xs); omega
  have lk : lkD 7 (.lst ((seenZ xs).map fun (i : Nat) => D.int (i : Int))) = true := by
    have := lk_ints (xs := (seenZ xs).map fun (i : Nat) => (i : Int)) (by simp; omega)
    rw [List.map_map] at this
    exact this
  have hbm := fun m' => bMaxL_run (m := m') (d := .lst (xs.map .int)) (n := (xs[0]?).getD 0) (ns := xs.tail) (by
    obtain ⟨x, ys, rfl⟩ := List.exists_cons_of_ne_nil hx0
    rfl)
  have hbz : xs.tail.foldl max ((xs[0]?).getD 0) = bestZ xs := by
    obtain ⟨x, ys, rfl⟩ := List.exists_cons_of_ne_nil hx0
    rw [best_cons]; rfl
  rw [hbz] at hbm
  have lc := fun o => lcD_fm (ck := fun _ => True) (g := gN 8) (t := t_law_look_fits_2) (f := e_law_look_fits_2) (fun (i : Nat) => D.int (i : Int))
    (fun i => if xs[i]? = some (bestZ xs) then some (D.int (i : Nat)) else none) (ρ := [some (.loc 0 0), some (.loc 0 (i + 1)), some (stD (lowN rows) (rows.map (zRow (lowN rows)))), some (hdD h), some (.int (at' : Int)), some (.lst (xs.map .int)), some (.int (M : Int)), some (.lst (rows.map fun r => fr (sc a h.S r))), none, some (.loc 1 0), some (.int (bestZ xs))]) (m := [o :: os, [.lst ((seenZ xs).map fun (i : Nat) => D.int (i : Int))]]) (List.range xs.length) trivial (by
      intro i hi
      have hi := List.mem_range.mp hi
      have hq : xs[i]? = some xs[i] := List.getElem?_eq_getElem hi
      have ha : atI (xs.map D.int) (i : Int) = some (.int xs[i]) := by rw [atI_natE, List.getElem?_map, hq]; rfl
      refine ⟨_, rfl, ?_⟩
      rw [hq]
      generalize xs[i] = x at *
      generalize bestZ xs = b at *
      by_cases hbb : x = b
      · right
        subst hbb
        refine ⟨_, if_pos rfl, ?_, ?_⟩
        · simp -implicitDefEqProofs [ha]
        · simp -implicitDefEqProofs
      · left
        refine ⟨if_neg (fun e => hbb (Option.some.inj e)), ?_⟩
        simp -implicitDefEqProofs [ha, hbb])
  have l7 := like_l1 (n := 6) (j := 0) (fr0 := o2 :: os) (fr1 := [.lst ((seenZ xs).map fun (i : Nat) => D.int (i : Int))]) rfl lk
  have l9 := like_l1 (n := 6) (j := 1) (fr0 := o2 :: os) (fr1 := [.lst (((seenZ xs).map fun (i : Nat) => D.int (i : Int)) ++ [.int (at' : Int)]), .lst ((seenZ xs).map fun (i : Nat) => D.int (i : Int))]) rfl lk
  have gr : rngOk (xs.length : Int) = true := rngOk_of (by omega) (by omega)
  have g1 : ((seenZ xs).map fun (i : Nat) => D.int (i : Int)).length ≤ 16777215 := by rw [List.length_map]; omega
  have g2 : ((seenZ xs).map fun (i : Nat) => D.int (i : Int)).length ≤ 16777216 := by omega
  have hlt : ∀ k, D.lts k ((seenZ xs).map fun (i : Nat) => D.int (i : Int)) = true := fun k => dlts_map fun _ _ => rfl
  have hli : (xs.map D.int).length = xs.length := by simp
  simp only [seen_fm] at lc
  clear sz sp hx0 hbz lk
  refine ⟨o2, ?_, h2⟩
  have lr1 := lr o2 []
  have lr2 := lr o2 [.lst (((seenZ xs).map fun (i : Nat) => D.int (i : Int)) ++ [.int (at' : Int)])]
  have e1' := e1 os [[]]
  have e2' := e2 os [[]]
  have sr1 := sr o1
  have lc2 := lc o2
  have rs1 := rs [o1 :: os, []]
  clear lr lc rs sr e1 e2 W
  generalize stD (lowN rows) (rows.map (zRow (lowN rows))) = ST at *
  generalize ((seenZ xs).map fun (i : Nat) => D.int (i : Int)) = SN at *
  generalize (rows.map fun r => fr (sc a h.S r)) = SS at *
  generalize hdD h = HD at *
  generalize xs.map D.int = XI at *
  have cl := cut_last (xs := SN) (y := .int (at' : Int))
  have q1 : q_law_look_fits_1 [some (.loc 0 0), some (.loc 0 (i + 1)), some ST, some HD, some (.int (at' : Int)), none, none, none, none, none, none] [o :: os, []] = .ok (.nx [some (.loc 0 0), some (.loc 0 (i + 1)), some ST, some HD, some (.int (at' : Int)), some (.lst XI), some (.int (M : Int)), none, none, none, none]) [o :: os, []] := by
    simp -implicitDefEqProofs [sd]
  have q2 : q_law_look_fits_2 [some (.loc 0 0), some (.loc 0 (i + 1)), some ST, some HD, some (.int (at' : Int)), some (.lst XI), some (.int (M : Int)), none, none, none, none] [o :: os, []] = .ok (.nx [some (.loc 0 0), some (.loc 0 (i + 1)), some ST, some HD, some (.int (at' : Int)), some (.lst XI), some (.int (M : Int)), some (.lst SS), none, none, none]) [o1 :: os, []] := by
    by_cases hk : k1 = 0
    · simp -implicitDefEqProofs [e1', hk, sr1, g_k0]
    · simp -implicitDefEqProofs [e1', hk, sr1]
  have q3 : q_law_look_fits_3 [some (.loc 0 0), some (.loc 0 (i + 1)), some ST, some HD, some (.int (at' : Int)), some (.lst XI), some (.int (M : Int)), some (.lst SS), none, none, none] [o1 :: os, []] = .ok (.nx [some (.loc 0 0), some (.loc 0 (i + 1)), some ST, some HD, some (.int (at' : Int)), some (.lst XI), some (.int (M : Int)), some (.lst SS), none, none, none]) [o1 :: os, []] := by
    simp -implicitDefEqProofs [hsl, rs1]
  have q5 : q_law_look_fits_5 [some (.loc 0 0), some (.loc 0 (i + 1)), some ST, some HD, some (.int (at' : Int)), some (.lst XI), some (.int (M : Int)), some (.lst SS), y8, none, none] [o1 :: os, []] = .ok (.nx [some (.loc 0 0), some (.loc 0 (i + 1)), some ST, some HD, some (.int (at' : Int)), some (.lst XI), some (.int (M : Int)), some (.lst SS), y8, some (.loc 1 0), none]) [o2 :: os, [.lst SN]] := by
    by_cases hk : k2 = 0
    · simp -implicitDefEqProofs [e2', hk, lr1, g_k1]
    · simp -implicitDefEqProofs [e2', hk, lr1]
  have q6 : q_law_look_fits_6 [some (.loc 0 0), some (.loc 0 (i + 1)), some ST, some HD, some (.int (at' : Int)), some (.lst XI), some (.int (M : Int)), some (.lst SS), y8, some (.loc 1 0), none] [o2 :: os, [.lst SN]] = .ok (.nx [some (.loc 0 0), some (.loc 0 (i + 1)), some ST, some HD, some (.int (at' : Int)), some (.lst XI), some (.int (M : Int)), some (.lst SS), y8, some (.loc 1 0), some (.int (bestZ xs))]) [o2 :: os, [.lst SN]] := by
    simp -implicitDefEqProofs [hbm]
  have q7 : q_law_look_fits_7 [some (.loc 0 0), some (.loc 0 (i + 1)), some ST, some HD, some (.int (at' : Int)), some (.lst XI), some (.int (M : Int)), some (.lst SS), y8, some (.loc 1 0), some (.int (bestZ xs))] [o2 :: os, [.lst SN]] = .ok (.nx [some (.loc 0 0), some (.loc 0 (i + 1)), some ST, some HD, some (.int (at' : Int)), some (.lst XI), some (.int (M : Int)), some (.lst SS), y8, some (.loc 1 0), some (.int (bestZ xs))]) [o2 :: os, [.lst SN]] := by
    simp -implicitDefEqProofs [hli, gr, lc2, g2, l7]
  have q8 : q_law_look_fits_8 [some (.loc 0 0), some (.loc 0 (i + 1)), some ST, some HD, some (.int (at' : Int)), some (.lst XI), some (.int (M : Int)), some (.lst SS), y8, some (.loc 1 0), some (.int (bestZ xs))] [o2 :: os, [.lst SN]] = .ok (.nx [some (.loc 0 0), some (.loc 0 (i + 1)), some ST, some HD, some (.int (at' : Int)), some (.lst XI), some (.int (M : Int)), some (.lst SS), y8, some (.loc 1 0), some (.int (bestZ xs))]) [o2 :: os, [.lst (SN ++ [.int (at' : Int)])]] := by
    simp -implicitDefEqProofs [hlt, g1]
  have q9 : q_law_look_fits_9 [some (.loc 0 0), some (.loc 0 (i + 1)), some ST, some HD, some (.int (at' : Int)), some (.lst XI), some (.int (M : Int)), some (.lst SS), y8, some (.loc 1 0), some (.int (bestZ xs))] [o2 :: os, [.lst (SN ++ [.int (at' : Int)])]] = .ok (.rt (.bl true)) [o2 :: os, [.lst (SN ++ [.int (at' : Int)]), .lst SN]] := by
    simp -implicitDefEqProofs [lr2, cl, g2, l9]
  have eb : b_law_look_fits [some (.loc 0 0), some (.loc 0 (i + 1)), some ST, some HD, some (.int (at' : Int)), none, none, none, none, none, none] [o :: os, []] = .ok (.rt (.bl true)) [o2 :: os, [.lst (SN ++ [.int (at' : Int)]), .lst SN]] := by
    unfold b_law_look_fits
    rw [sSeq_run, q1, kS_nx, sSeq_run, q2, kS_nx, sSeq_run, q3, kS_nx, sSeq_run, e4, kS_nx, sSeq_run, q5, kS_nx, sSeq_run, q6, kS_nx, sSeq_run, q7, kS_nx, sSeq_run, q8, kS_nx, q9]
  show lv 1 (b_law_look_fits [some (.loc 0 0), some (.loc 0 (i + 1)), some ST, some HD, some (.int (at' : Int)), none, none, none, none, none, none] [o :: os, []]) = _
  rw [eb]
  rfl
end
end P_k18
namespace P_k18
open PySem L2 PySem.Spec PyProof.Rows LN

def mulS (c : Rat) (S : List (Int × Int × Rat)) : List (Int × Int × Rat) := S.map fun t => (t.1, t.2.1, t.2.2 * c)
def negG (G : List (Int × Int × Rat)) : List (Int × Int × Rat) := G.map fun t => (t.1, t.2.1, -t.2.2)
/-- a factor that is drawn -/
structure Fc (c : Rat) : Prop where
  p : 0 < c
  n : c.num.natAbs ≤ 9
  d : c.den ≤ 9
theorem raised_run {w : Nat} {S : List (Int × Int × Rat)} {c : Rat} {m : Mem} (hS : ∀ t ∈ S, InR w t.1 ∧ InR w t.2.1 ∧ Lt t.2.2) (hl : S.length ≤ 5) (hc : Fc c) : f_law_raised [.tup (S.map tri), fr c] m = .ok (.tup ((mulS c S).map tri)) m := by
  have p17 : powOk 10 17 = true := by decide
  have l1 := lcD_fm (ck := fun _ => True) (g := gN 2) (t := t_law_raised_1) (f := e_law_raised_1) tri (fun _ => (none : Option D)) (ρ := [some (.tup (S.map tri)), some (fr c), none]) (m := m ++ [[]]) S trivial (by
    intro t ht
    obtain ⟨_, _, t1, t2⟩ := hS t ht
    refine ⟨_, rfl, .inl ⟨rfl, ?_⟩⟩
    have b1 : ¬ (100000000000000000 : Int) ≤ (t.2.2.num.natAbs : Int) := by omega
    have b2 : ¬ (100000000000000000 : Int) ≤ (t.2.2.den : Int) := by omega
    have hf : tri t = .tup [.int t.1, .int t.2.1, .tup [.int t.2.2.num, .int (t.2.2.den : Int)]] := rfl
    rw [hf]
    generalize S.map tri = SM at *
    generalize fr c = C at *
    simp -implicitDefEqProofs [p17, b1, b2])
  have hnone : S.filterMap (fun _ => (none : Option D)) = [] := by
    induction S with
    | nil => rfl
    | cons t S ih => rw [List.filterMap_cons]; exact List.filterMap_eq_nil_iff.mpr fun _ _ => rfl
  rw [hnone] at l1
  have l2 := lcD_map (ck := fun _ => True) (g := gN 2) (t := tAll) (f := e_law_raised_2) tri (fun t => tri (t.1, t.2.1, t.2.2 * c)) (ρ := [some (.tup (S.map tri)), some (fr c), none]) (m := m ++ [[]]) S trivial (fun t ht => ⟨_, rfl, rfl, by
    obtain ⟨_, _, t1, t2⟩ := hS t ht
    have m1 : mulOk t.2.2.num c.num = true := mulOk_of (a := 20) (b := 20) (by omega) (by have := hc.n; omega) (by omega)
    have m2 : mulOk (t.2.2.den : Int) (c.den : Int) = true := mulOk_of (a := 20) (b := 20) (by simp only [Int.natAbs_natCast]; omega) (by have := hc.d; simp only [Int.natAbs_natCast]; omega) (by omega)
    have hd : ((t.2.2.den : Int) * (c.den : Int)) ≠ 0 := by
      have := t.2.2.den_nz; have := c.den_nz
      exact Int.mul_ne_zero (by omega) (by omega)
    have lo := fun m' => low_run (p := t.2.2.num * c.num) (q := (t.2.2.den : Int) * (c.den : Int)) (m := m') hd (powmono (powb_int (a := 20) (b := 20) (by simp only [Int.natAbs_natCast]; omega) (by have := hc.d; simp only [Int.natAbs_natCast]; omega)) (by omega))
    rw [← mul_parts] at lo
    have hf : tri t = .tup [.int t.1, .int t.2.1, .tup [.int t.2.2.num, .int (t.2.2.den : Int)]] := rfl
    have hf2 : tri (t.1, t.2.1, t.2.2 * c) = .tup [.int t.1, .int t.2.1, fr (t.2.2 * c)] := rfl
    have hcf : fr c = .tup [.int c.num, .int (c.den : Int)] := rfl
    have ct : cutL [D.int t.1, D.int t.2.1, .tup [.int t.2.2.num, .int (t.2.2.den : Int)]] none (some 2) = [.int t.1, .int t.2.1] := rfl
    rw [hf, hf2, hcf]
    generalize t.2.2 * c = q at *
    generalize S.map tri = SM at *
    simp -implicitDefEqProofs [ct, m1, m2, lo]⟩)
  have hmm : S.map (fun t => tri (t.1, t.2.1, t.2.2 * c)) = (mulS c S).map tri := by unfold mulS; rw [List.map_map]; rfl
  rw [hmm] at l2
  have g1 : ((mulS c S).map tri).length ≤ 16777216 := by simp [mulS]; omega
  have hlt : ∀ k, D.lts k ((mulS c S).map tri) = true := fun k => dlts_tri
  unfold f_law_raised b_law_raised
  rw [fnD2]
  generalize (mulS c S).map tri = SC at *
  generalize S.map tri = SM at *
  generalize fr c = C at *
  simp -implicitDefEqProofs [l1, l2, g1, hlt]
theorem neg_fr (q : Rat) : D.tup [.int (-q.num), .int (q.den : Int)] = fr (-q) := by
  unfold fr
  rw [Rat.neg_num, Rat.neg_den]
/-! ### what parts do together -/
section
variable {rows : List (List Rat)} {a : List Rat} {c : Rat}
theorem lks_rev (S : List (Int × Int × Rat)) : lks rows S.reverse a = lks rows S a := by
  unfold lks
  have : (rows.map fun r => sc a S.reverse r) = rows.map fun r => sc a S r := List.map_congr_left fun r _ => by rw [sc_eq, sc_eq, scR_rev]
  rw [this]
theorem lks_mul (hc : 0 < c) (h0 : rows ≠ []) (S : List (Int × Int × Rat)) : lks rows (mulS c S) a = lks rows S a := by
  unfold lks
  have : (rows.map fun r => sc a (mulS c S) r) = (rows.map fun r => sc a S r).map (· * c) := by
    rw [List.map_map]
    exact List.map_congr_left fun r _ => by
      show sc a (mulS c S) r = sc a S r * c
      rw [sc_eq, sc_eq]
      exact scR_mul S
  rw [this, seen_mul hc (fun e => h0 (List.map_eq_nil_iff.mp e))]
def gvL (sr : List (List Rat)) (G : List (Int × Int × Rat)) (k : Int) : Rat := totA (G.map fun t => (t.1, t.2.2 * cm sr t.2.1)) k
theorem gvL_app (sr : List (List Rat)) (G H : List (Int × Int × Rat)) (k : Int) : gvL sr (G ++ H) k = gvL sr G k + gvL sr H k := by
  unfold gvL
  rw [List.map_append, totA_app]
theorem gvL_neg (sr : List (List Rat)) (k : Int) : ∀ (G : List (Int × Int × Rat)), gvL sr (negG G) k = -gvL sr G k
  | [] => by simp [gvL, negG, totA_nil]
  | t :: G => by
    have ih := gvL_neg sr k G
    unfold gvL negG at ih ⊢
    rw [List.map_cons, List.map_cons, List.map_cons, totA_cons, totA_cons, ih]
    show (if t.1 = k then -t.2.2 * cm sr t.2.1 else 0) + _ = -((if t.1 = k then t.2.2 * cm sr t.2.1 else 0) + _)
    by_cases h : t.1 = k
    · rw [if_pos h, if_pos h]; grind
    · rw [if_neg h, if_neg h]; grind
theorem gvs_eq (h : Hd) (k : Int) : totA (gvs rows h a) k = gvL (lks rows h.S a) h.G k := rfl
/-- a head in two parts -/
def cutH (j : Nat) (h : Hd) : List Hd := [⟨h.S, h.G.drop j⟩, ⟨h.S.reverse, h.G.take j⟩]
/-- a head lifted, and taken away -/
def offH (c : Rat) (h : Hd) : List Hd := [⟨mulS c h.S, h.G⟩, ⟨h.S, negG h.G⟩]
theorem gfts_cut (j : Nat) (h : Hd) (k : Int) : gfts rows a k (cutH j h) = totA (gvs rows h a) k := by
  unfold cutH
  rw [gfts, gfts, gfts, gvs_eq, gvs_eq, gvs_eq]
  dsimp only
  rw [lks_rev]
  have := gvL_app (lks rows h.S a) (h.G.take j) (h.G.drop j) k
  rw [List.take_append_drop] at this
  rw [this]
  grind
theorem gfts_off (hc : 0 < c) (h0 : rows ≠ []) (h : Hd) (k : Int) : gfts rows a k (offH c h) = 0 := by
  unfold offH
  rw [gfts, gfts, gfts, gvs_eq, gvs_eq]
  dsimp only
  rw [lks_mul hc h0, gvL_neg]
  grind
end
theorem Fc.dn {c : Rat} (h : Fc c) : Dn 2520 9 c := ((Dn.of c).mono h.n).dvd (div_len c.den_pos h.d)
section
variable {w : Nat} {h : Hd} {c : Rat}
theorem cut_ok (j : Nat) (d : Du w h) : ∀ p ∈ cutH j h, HOk w FF p := fun p hp => by
  have ok := d.ok
  simp only [cutH, List.mem_cons, List.not_mem_nil, or_false] at hp
  rcases hp with rfl | rfl
  · exact ⟨ok.sl, by have := ok.gl; simp; omega, ok.s, fun t ht => ok.g t (List.mem_of_mem_drop ht)⟩
  · exact ⟨by simpa using ok.sl, by have := ok.gl; simp; omega, fun t ht => ok.s t (by simpa using ht), fun t ht => ok.g t (List.mem_of_mem_take ht)⟩
theorem off_ok (hc : Fc c) (d : Du w h) : ∀ p ∈ offH c h, HOk w FF p := fun p hp => by
  have ok := d.ok
  simp only [offH, List.mem_cons, List.not_mem_nil, or_false] at hp
  rcases hp with rfl | rfl
  · refine ⟨by simpa [mulS] using ok.sl, ok.gl, fun t ht => ?_, ok.g⟩
    obtain ⟨u, hu, rfl⟩ := List.mem_map.mp ht
    obtain ⟨s1, s2, s3⟩ := d.s u hu
    refine ⟨s1, s2, ?_⟩
    have h1 : Dn C97 2000 u.2.2 := ((Dn.of u.2.2).mono s3.1).dvd (C97_dvd u.2.2.den_pos s3.2)
    exact (h1.mul hc.dn).mono (show 2000 * 9 ≤ 18000 by decide)
  · refine ⟨ok.sl, by simpa [negG] using ok.gl, ok.s, fun t ht => ?_⟩
    obtain ⟨u, hu, rfl⟩ := List.mem_map.mp ht
    have hu' := ok.g u hu
    refine ⟨hu'.a, hu'.b, ?_⟩
    obtain ⟨z, z1, z2⟩ := hu'.f
    refine ⟨-z, ?_, by rw [Int.natAbs_neg]; exact z2⟩
    show -u.2.2 * _ = _
    rw [Rat.neg_mul, z1, Rat.intCast_neg]
end
/-- heads that do what others do -/
structure Pa (w : Nat) (rows : List (List Rat)) (hs ps : List Hd) (N : Nat) : Prop where
  e : ∀ a k, gfts rows a k ps = gfts rows a k hs
  ok : ∀ p ∈ ps, HOk w FF p
  len : ps.length ≤ N
theorem Pa.nil {w : Nat} {rows : List (List Rat)} : Pa w rows [] [] 0 := ⟨fun _ _ => rfl, by simp, by simp⟩
theorem Pa.cut {w N : Nat} {rows : List (List Rat)} {hs ps : List Hd} {h : Hd} (p : Pa w rows hs ps N) (j : Nat) (d : Du w h) : Pa w rows (h :: hs) (ps ++ cutH j h) (N + 2) := by
  refine ⟨fun a k => ?_, fun q hq => ?_, by have := p.len; simp [cutH]; omega⟩
  · rw [gfts_app, gfts_cut, p.e, gfts]; grind
  · rcases List.mem_append.mp hq with hq | hq
    · exact p.ok q hq
    · exact cut_ok j d q hq
theorem Pa.off {w N : Nat} {rows : List (List Rat)} {hs ps : List Hd} {h : Hd} {c : Rat} (p : Pa w rows hs ps N) (hc : Fc c) (h0 : rows ≠ []) (d : Du w h) : Pa w rows hs (ps ++ offH c h) (N + 2) := by
  refine ⟨fun a k => ?_, fun q hq => ?_, by have := p.len; simp [offH]; omega⟩
  · rw [gfts_app, gfts_off hc.p h0, p.e]; grind
  · rcases List.mem_append.mp hq with hq | hq
    · exact p.ok q hq
    · exact off_ok hc d q hq
theorem Pa.same {w g N : Nat} {rows : List (List Rat)} {hs ps : List Hd} (y : Hy w g rows) (p : Pa w rows hs ps N) (hN : N ≤ 25) (hl : hs.length ≤ 25) (hd : ∀ h ∈ hs, Du w h) : rows.map (aft rows ps) = rows.map (aft rows hs) :=
  List.map_congr_left fun a ha => aft_same y.rq y.rl (by have := p.len; omega) hl y.rw p.ok (fun h hh => (hd h hh).ok) ha fun k => p.e a k
end P_k18
namespace P_k18
open PySem L2 PySem.Spec PyProof.Rows LN

theorem law_q1 {xs : List Int} : ∃ o, q_law_1 [some (.scr xs), none, none, none, none, none, none, none, none, none, none, none, none, none, none, none, none, none, none] [[]] = .ok (.nx [some (.scr xs), some (.loc 0 0), none, none, none, none, none, none, none, none, none, none, none, none, none, none, none, none, none]) [[o]] ∧ BagOk (2 ^ 99) o := by
  obtain ⟨o, e1, e2⟩ := bag_run xs
  exact ⟨o, by simp -implicitDefEqProofs [e1], e2⟩
theorem law_q2 {B : Nat} {o : MO} {xs : List Int} (h : BagOk (B + 1) o) : ∃ (w : Nat) (o' : MO), q_law_2 [some (.scr xs), some (.loc 0 0), none, none, none, none, none, none, none, none, none, none, none, none, none, none, none, none, none] [[o]] = .ok (.nx [some (.scr xs), some (.loc 0 0), some (.int (w : Int)), none, none, none, none, none, none, none, none, none, none, none, none, none, none, none, none]) [[o']] ∧ BagOk B o' ∧ 0 < w ∧ w ≤ 5 := by
  obtain ⟨k, o', d1, d2, d3, d4⟩ := draw_run (B := B) (n := 5) h (by omega) (by omega)
  obtain ⟨j, rfl⟩ : ∃ j : Nat, k = (j : Int) := ⟨k.toNat, by omega⟩
  refine ⟨1 + j, o', ?_, d2, by omega, by omega⟩
  rw [Int.natCast_add]
  simp -implicitDefEqProofs [d1]
theorem law_q3 {B w : Nat} {o : MO} {xs : List Int} (h : BagOk (B + 5000) o) (hw : 0 < w) (hw2 : w ≤ 5) : ∃ (rows : List (List Rat)) (o' : MO), q_law_3 [some (.scr xs), some (.loc 0 0), some (.int (w : Int)), none, none, none, none, none, none, none, none, none, none, none, none, none, none, none, none] [[o]] = .ok (.nx [some (.scr xs), some (.loc 0 0), some (.int (w : Int)), some (.loc 0 1), none, none, none, none, none, none, none, none, none, none, none, none, none, none, none]) [[o', .lst (rows.map rowD)]] ∧ BagOk B o' ∧ rows ≠ [] ∧ rows.length ≤ 9 ∧ ∀ r ∈ rows, r.length = w ∧ ∀ q ∈ r, Lt q := by
  obtain ⟨k, o1, d1, h1, d3, d4⟩ := draw_run (B := B + 4999) (n := 5) h (by omega) (by omega)
  obtain ⟨x, o2, hx, d2, h2⟩ := of_run (B := B + 4998) (o := o1) (xs := [.int 0, .int 0, .int 0, .int 0, .int 0, .int 0, .int 2, .int 4]) h1 (by simp) (by simp) (by
    intro x hx n
    simp at hx
    rcases hx with rfl | rfl | rfl <;> rfl)
  obtain ⟨j, rfl⟩ : ∃ j : Nat, k = (j : Int) := ⟨k.toNat, by omega⟩
  obtain ⟨e, rfl, he⟩ : ∃ e : Nat, x = .int (e : Int) ∧ e ≤ 4 := by
    simp at hx
    rcases hx with rfl | rfl | rfl
    · exact ⟨0, rfl, by omega⟩
    · exact ⟨2, rfl, by omega⟩
    · exact ⟨4, rfl, by omega⟩
  obtain ⟨rows, o3, d5, h3, r1, r2⟩ := rows_run (B := B) (o := o2) (N := 1 + j + e) (w := w) (h2.mono (by omega)) hw hw2 (by omega)
  refine ⟨rows, o3, ?_, h3, fun z => by rw [z] at r1; simp at r1; omega, by omega, r2⟩
  rw [Int.natCast_add, Int.natCast_add] at d5
  have c1 : ((1 : Nat) : Int) = 1 := rfl
  rw [c1] at d5
  generalize rows.map rowD = R at *
  simp -implicitDefEqProofs [d1, d2, d5]
theorem law_q4 {B w : Nat} {o : MO} {xs : List Int} {rows : List (List Rat)} (h : BagOk (B + 20) o) (hw : 0 < w) (hw2 : w ≤ 5) (hr0 : rows ≠ []) (hrl : rows.length ≤ 9) (hr : ∀ r ∈ rows, r.length = w ∧ ∀ q ∈ r, Lt q) :
    ∃ (rows' : List (List Rat)) (o' : MO) (z4 z5 : Option D) (g : Nat), q_law_4 [some (.scr xs), some (.loc 0 0), some (.int (w : Int)), some (.loc 0 1), none, none, none, none, none, none, none, none, none, none, none, none, none, none, none] [[o, .lst (rows.map rowD)]] = .ok (.nx [some (.scr xs), some (.loc 0 0), some (.int (w : Int)), some (.loc 0 1), z4, z5, none, none, none, none, none, none, none, none, none, none, none, none, none]) [[o', .lst (rows'.map rowD)]] ∧ BagOk B o' ∧ rows' ≠ [] ∧ rows'.length ≤ 9 ∧ 0 < g ∧ g < 2 ^ 61 ∧ ∀ r ∈ rows', r.length = w ∧ ∀ q ∈ r, Gt q ∧ q.den ∣ C97 * g := by
  obtain ⟨k1, o1, e1, h1, a1, b1⟩ := draw_run (B := B + 19) h (n := 6) (by omega) (by omega)
  by_cases hk : k1 = 0
  · have hrp := List.length_pos_iff.mpr hr0
    obtain ⟨k2, o2, e2, h2, a2, b2⟩ := draw_run (B := B + 18) h1 (n := rows.length) (by omega) (by omega)
    obtain ⟨k3, o3, e3, h3, a3, b3⟩ := draw_run (B := B + 17) h2 (n := (w : Int)) (by omega) (by omega)
    obtain ⟨k, rfl⟩ : ∃ j : Nat, k2 = (j : Int) := ⟨k2.toNat, by omega⟩
    obtain ⟨j, rfl⟩ : ∃ j : Nat, k3 = (j : Int) := ⟨k3.toNat, by omega⟩
    obtain ⟨q, o4, e4, h4, g4⟩ := factor_run (B := B + 7) h3
    have hkl : k < rows.length := by omega
    obtain ⟨r, hrk⟩ : ∃ r, rows[k]? = some r := ⟨_, List.getElem?_eq_getElem hkl⟩
    have hrm := List.mem_of_getElem? hrk
    obtain ⟨r1, r2⟩ := hr r hrm
    have hat : atI (rows.map rowD) (k : Int) = some (rowD r) := by rw [atI_natE, List.getElem?_map, hrk]; rfl
    have ct : cutL (r.map fr) none (some (j : Int)) = (r.take j).map fr := by rw [cutL_to, List.map_take]
    have cf : cutL (r.map fr) (some ((j : Int) + 1)) none = (r.drop (j + 1)).map fr := by
      have := cutL_from (k := j + 1) (l := r.map fr)
      rw [Int.natCast_add] at this
      rw [List.map_drop]
      exact this
    have hix : ixN rows.length (k : Int) = some k := ixN_nat hkl
    have hst : (rows.map rowD).set k (.tup ((r.take j).map fr ++ [fr q] ++ (r.drop (j + 1)).map fr)) = (rows.set k (r.take j ++ [q] ++ r.drop (j + 1))).map rowD := by
      rw [List.map_set]
      congr 1
      unfold rowD
      simp
    refine ⟨rows.set k (r.take j ++ [q] ++ r.drop (j + 1)), o4, some (.int (k : Int)), some (.int (j : Int)), q.den, ?_, h4.mono (by omega), by rw [Ne, ← List.length_eq_zero_iff, List.length_set]; omega, by simpa using hrl, q.den_pos, g4.2, fun x hx => ?_⟩
    · rw [← hst]
      have hrd : rowD r = .tup (r.map fr) := rfl
      rw [hrd] at hat
      have hl1 : (rows.map rowD).length = rows.length := by simp
      have t1 : (r.take j).length ≤ 100 := by simp; omega
      have t2 : (r.drop (j + 1)).length ≤ 100 := by simp; omega
      have hlt : ∀ k, D.lts k (rows.map rowD) = true := fun k => dlts_map fun _ _ => dlt_row
      generalize rows.map rowD = RR at *
      generalize r.map fr = R at *
      have t3 : ((r.take j).map fr).length = (r.take j).length := by simp
      have t4 : ((r.drop (j + 1)).map fr).length = (r.drop (j + 1)).length := by simp
      have l1 : ∀ k, D.lts k ((r.take j).map fr) = true := fun k => dlts_frs
      have l2 : ∀ k, D.lts k ((r.drop (j + 1)).map fr) = true := fun k => dlts_frs
      generalize (r.take j).map fr = R1 at *
      generalize (r.drop (j + 1)).map fr = R2 at *
      have u1 : R1.length ≤ 16777215 := by omega
      have u2 : R1.length + 1 + R2.length ≤ 16777216 := by omega
      have u3 : R1.length ≤ 16777216 := by omega
      have u4 : R2.length ≤ 16777216 := by omega
      simp -implicitDefEqProofs [e1, hk, e2, e3, e4, hat, ct, cf, hix, hl1, u1, u2, u3, u4, l1, l2]
    · have hx2 := List.mem_or_eq_of_mem_set hx
      rcases hx2 with hx2 | hx2
      · exact ⟨(hr x hx2).1, fun y hy => ⟨((hr x hx2).2 y hy).gt, Nat.dvd_trans (C97_dvd y.den_pos ((hr x hx2).2 y hy).2) (Nat.dvd_mul_right _ _)⟩⟩
      · subst hx2
        refine ⟨by simp; omega, fun y hy => ?_⟩
        rcases List.mem_append.mp hy with hy | hy
        · rcases List.mem_append.mp hy with hy | hy
          · have := r2 y (List.mem_of_mem_take hy)
            exact ⟨this.gt, Nat.dvd_trans (C97_dvd y.den_pos this.2) (Nat.dvd_mul_right _ _)⟩
          · simp at hy; subst hy
            exact ⟨g4, Nat.dvd_mul_left _ _⟩
        · have := r2 y (List.mem_of_mem_drop hy)
          exact ⟨this.gt, Nat.dvd_trans (C97_dvd y.den_pos this.2) (Nat.dvd_mul_right _ _)⟩
  · refine ⟨rows, o1, none, none, 1, ?_, h1.mono (by omega), hr0, hrl, by omega, by omega, fun r hrr => ⟨(hr r hrr).1, fun q hq => ⟨((hr r hrr).2 q hq).gt, Nat.dvd_trans (C97_dvd q.den_pos ((hr r hrr).2 q hq).2) (Nat.dvd_mul_right _ _)⟩⟩⟩
    simp -implicitDefEqProofs [e1, hk]
theorem law_q5 {B w : Nat} {o : MO} {xs : List Int} {R : List D} {z4 z5 : Option D} (h : BagOk (B + 500) o) (hw : 0 < w) (hw2 : w ≤ 5) :
    ∃ (hs : List Hd) (o' : MO), q_law_5 [some (.scr xs), some (.loc 0 0), some (.int (w : Int)), some (.loc 0 1), z4, z5, none, none, none, none, none, none, none, none, none, none, none, none, none] [[o, .lst R]] = .ok (.nx [some (.scr xs), some (.loc 0 0), some (.int (w : Int)), some (.loc 0 1), z4, z5, some (.loc 0 2), none, none, none, none, none, none, none, none, none, none, none, none]) [[o', .lst R, .lst (hs.map hdD)]] ∧ BagOk B o' ∧ (0 < hs.length ∧ hs.length ≤ 2) ∧ ∀ h ∈ hs, Du w h := by
  obtain ⟨k, o', d1, d2, d3, d4⟩ := draw_run (B := B + 499) (n := 2) h (by omega) (by omega)
  obtain ⟨N, rfl⟩ : ∃ j : Nat, k = (j : Int) := ⟨k.toNat, by omega⟩
  obtain ⟨zs, m', e1, o1, hs, rfl, h1, e2, h2, h3⟩ := lcD_ind (ck := fun _ => True) (g := gN 4) (t := tAll) (f := e_law_1) (fun (k : Nat) => D.int (k : Int)) (ρ := [some (.scr xs), some (.loc 0 0), some (.int (w : Int)), some (.loc 0 1), none, z5, none, none, none, none, none, none, none, none, none, none, none, none, none])
    (fun ks zs m => ∃ (o : MO) (hs : List Hd), m = [[o, .lst R]] ∧ BagOk (B + 60 * ks.length) o ∧ zs = hs.map hdD ∧ hs.length + ks.length = 1 + N ∧ ∀ u ∈ hs, Du w u) (List.range (1 + N)) [] [[o', .lst R]] ⟨o', [], rfl, d2.mono (by simp; omega), rfl, by simp, by simp⟩ (fun _ _ _ _ => trivial) (by
      rintro k ks zs m ⟨o, hs, rfl, i1, rfl, i2, i3⟩
      rw [List.length_cons] at i1 i2
      obtain ⟨u, o', e, hb, hq⟩ := head_run (B := B + 60 * ks.length) (w := w) (os := [.lst R]) (i1.mono (by omega)) hw (by omega)
      refine ⟨_, _, hdD u, [[o', .lst R]], rfl, rfl, ?_, o', hs ++ [u], rfl, hb, by simp, by simp; omega, fun x hx => ?_⟩
      · generalize hdD u = U at *
        simp -implicitDefEqProofs [e]
      rcases List.mem_append.mp hx with hx | hx
      · exact i3 x hx
      · simp at hx; subst hx; exact hq)
  rw [List.nil_append] at e2
  subst e2
  simp only [List.length_nil, Nat.add_zero] at h2
  refine ⟨hs, o1, ?_, h1.mono (by omega), ⟨by omega, by omega⟩, h3⟩
  have gr : rngOk (1 + (N : Int)) = true := rngOk_of (by omega) (by omega)
  have hN : (1 + (N : Int)).toNat = 1 + N := by omega
  have g1 : hs.length ≤ 16777216 := by omega
  have hul : (hs.map hdD).length = hs.length := by simp
  have hlt : ∀ k, D.lts k (hs.map hdD) = true := fun k => dlts_map fun _ _ => dlt_hd
  generalize hs.map hdD = U at *
  simp -implicitDefEqProofs [d1, gr, hN, e1, g1, hul, hlt]
theorem law_q6 {B w : Nat} {o : MO} {xs : List Int} {R : List D} {hs : List Hd} {z4 z5 : Option D} (h : BagOk (B + 100) o) (hw : 0 < w) (hw2 : w ≤ 5) (hl : 0 < hs.length) (hl2 : hs.length ≤ 2) (hd : ∀ h ∈ hs, Du w h) :
    ∃ (hs' : List Hd) (o' : MO), q_law_6 [some (.scr xs), some (.loc 0 0), some (.int (w : Int)), some (.loc 0 1), z4, z5, some (.loc 0 2), none, none, none, none, none, none, none, none, none, none, none, none] [[o, .lst R, .lst (hs.map hdD)]] = .ok (.nx [some (.scr xs), some (.loc 0 0), some (.int (w : Int)), some (.loc 0 1), z4, z5, some (.loc 0 2), none, none, none, none, none, none, none, none, none, none, none, none]) [[o', .lst R, .lst (hs'.map hdD)]] ∧ BagOk B o' ∧ hs'.length ≤ 3 ∧ ∀ h ∈ hs', Du w h := by
  obtain ⟨k, o1, d1, h1, d3, d4⟩ := draw_run (B := B + 99) (n := 3) h (by omega) (by omega)
  by_cases hk : k = 0
  · obtain ⟨u, o2, e2, h2, hu⟩ := head_run (B := B) (w := w) (os := [.lst R, .lst (hs.map hdD)]) (h1.mono (by omega)) hw (by omega)
    obtain ⟨h0, hr, rfl⟩ := List.exists_cons_of_ne_nil (List.length_pos_iff.mp hl)
    have d0 := hd h0 (by simp)
    refine ⟨(h0 :: hr) ++ [(⟨h0.S, u.G⟩ : Hd)], o2, ?_, h2, by simp at hl2 ⊢; omega, fun x hx => ?_⟩
    · have hm : ((h0 :: hr) ++ [(⟨h0.S, u.G⟩ : Hd)]).map hdD = (h0 :: hr).map hdD ++ [.tup [.tup (h0.S.map tri), .tup (u.G.map tri)]] := by rw [List.map_append]; rfl
      have hat : atI ((h0 :: hr).map hdD) 0 = some (.tup [.tup (h0.S.map tri), .tup (h0.G.map tri)]) := by rw [List.map_cons]; exact atI_0
      have hu1 : hdD u = .tup [.tup (u.S.map tri), .tup (u.G.map tri)] := rfl
      have g1 : ((h0 :: hr).map hdD).length ≤ 16777215 := by rw [List.length_map]; omega
      have l0 : ∀ k, D.lts k (h0.S.map tri) = true := fun k => dlts_tri
      have l1 : ∀ k, D.lts k (u.G.map tri) = true := fun k => dlts_tri
      have l2 : ∀ k, D.lts k ((h0 :: hr).map hdD) = true := fun k => dlts_map fun _ _ => dlt_hd
      rw [hm]
      rw [hu1] at e2
      generalize (h0 :: hr).map hdD = HH at *
      generalize h0.S.map tri = SS at *
      generalize u.G.map tri = GG at *
      simp -implicitDefEqProofs [d1, hk, hat, e2, g1, l0, l1, l2]
    · rcases List.mem_append.mp hx with hx | hx
      · exact hd x hx
      · simp at hx
        subst hx
        exact ⟨d0.s, hu.g, d0.sl, hu.gl⟩
  · refine ⟨hs, o1, ?_, h1.mono (by omega), by omega, hd⟩
    generalize hs.map hdD = HH at *
    simp -implicitDefEqProofs [d1, hk]
end P_k18
namespace P_k18
open PySem L2 PySem.Spec PyProof.Rows LN

section
variable {w g N : Nat} {xs : List Int} {z4 z5 z8 z9 z15 z17 : Option D} {R T U Ps : List D} {st due fcD : D} {o X Y : MO} {m m2 m3 : Mem} {B : Nat} {rows : List (List Rat)} {hs : List Hd}
theorem law_q7 (e : f_law_state [.loc 0 1] m = .ok st m) : q_law_7 [some (.scr xs), some (.loc 0 0), some (.int (w : Int)), some (.loc 0 1), z4, z5, some (.loc 0 2), none, none, none, none, none, none, none, none, none, none, none, none] m = .ok (.nx [some (.scr xs), some (.loc 0 0), some (.int (w : Int)), some (.loc 0 1), z4, z5, some (.loc 0 2), some st, none, none, none, none, none, none, none, none, none, none, none]) m := by
  simp -implicitDefEqProofs [e]
theorem law_q8 (y : Hy w g rows) (hd : ∀ h ∈ hs, Du w h) (hl : hs.length ≤ 3) (hb : BagOk (B + 100) o) :
    ∃ o' z8 z9, q_law_8 [some (.scr xs), some (.loc 0 0), some (.int (w : Int)), some (.loc 0 1), z4, z5, some (.loc 0 2), some (stD (lowN rows) (rows.map (zRow (lowN rows)))), none, none, none, none, none, none, none, none, none, none, none] [[o, .lst (rows.map rowD), .lst (hs.map hdD)]] = .ok (.nx [some (.scr xs), some (.loc 0 0), some (.int (w : Int)), some (.loc 0 1), z4, z5, some (.loc 0 2), some (stD (lowN rows) (rows.map (zRow (lowN rows)))), z8, z9, none, none, none, none, none, none, none, none, none]) [[o', .lst (rows.map rowD), .lst (hs.map hdD)]] ∧ BagOk B o' := by
  have inner : ∀ (h : Hd) (o : MO) (B : Nat) (z9 : Option D), Du w h → BagOk (B + 20) o → ∃ o' y9, w_law_3 [some (.scr xs), some (.loc 0 0), some (.int (w : Int)), some (.loc 0 1), z4, z5, some (.loc 0 2), some (stD (lowN rows) (rows.map (zRow (lowN rows)))), some (hdD h), z9, none, none, none, none, none, none, none, none, none] [[o, .lst (rows.map rowD), .lst (hs.map hdD)]] = .ok (.nx [some (.scr xs), some (.loc 0 0), some (.int (w : Int)), some (.loc 0 1), z4, z5, some (.loc 0 2), some (stD (lowN rows) (rows.map (zRow (lowN rows)))), some (hdD h), y9, none, none, none, none, none, none, none, none, none]) [[o', .lst (rows.map rowD), .lst (hs.map hdD)]] ∧ BagOk B o' := by
    intro h o B z9 d hb
    obtain ⟨ρ', m', e1, ks, o1, y9, h1, rfl, rfl, h2, h3⟩ := forD_ind (ck := fun _ => True) (g := gN 9) (b := w_law_2)
      (fun dl ρ m => ∃ (ks : List Nat) (o : MO) (z9 : Option D), dl = ks.map (fun (i : Nat) => D.int (i : Int)) ∧ ρ = [some (.scr xs), some (.loc 0 0), some (.int (w : Int)), some (.loc 0 1), z4, z5, some (.loc 0 2), some (stD (lowN rows) (rows.map (zRow (lowN rows)))), some (hdD h), z9, none, none, none, none, none, none, none, none, none] ∧ m = [[o, .lst (rows.map rowD), .lst (hs.map hdD)]] ∧ BagOk (B + 2 * ks.length) o ∧ ∀ k ∈ ks, k < rows.length)
      ((List.range rows.length).map fun (i : Nat) => D.int (i : Int)) [some (.scr xs), some (.loc 0 0), some (.int (w : Int)), some (.loc 0 1), z4, z5, some (.loc 0 2), some (stD (lowN rows) (rows.map (zRow (lowN rows)))), some (hdD h), z9, none, none, none, none, none, none, none, none, none] [[o, .lst (rows.map rowD), .lst (hs.map hdD)]] ⟨List.range rows.length, o, z9, rfl, rfl, rfl, hb.mono (by have := y.rl; simp; omega), fun k hk => List.mem_range.mp hk⟩ (fun _ _ _ _ => trivial) (by
        rintro d1 dl ρ m ⟨ks, o, z9, h1, rfl, rfl, h2, h3⟩
        cases ks with
        | nil => cases h1
        | cons k ks =>
          cases h1
          rw [List.length_cons] at h2
          have hk := h3 k (by simp)
          obtain ⟨o', e1, h4⟩ := look_run (B := B + 2 * ks.length) (i := 0) (os := [.lst (rows.map rowD), .lst (hs.map hdD)]) (at' := k) (o := o) y d rfl (List.getElem?_eq_getElem hk) (h2.mono (by omega))
          refine ⟨_, _, [some (.scr xs), some (.loc 0 0), some (.int (w : Int)), some (.loc 0 1), z4, z5, some (.loc 0 2), some (stD (lowN rows) (rows.map (zRow (lowN rows)))), some (hdD h), some (.int (k : Int)), none, none, none, none, none, none, none, none, none], [[o', .lst (rows.map rowD), .lst (hs.map hdD)]], rfl, .inl ?_, ks, o', _, rfl, rfl, rfl, h4, fun x hx => h3 x (by simp [hx])⟩
          generalize stD (lowN rows) (rows.map (zRow (lowN rows))) = ST at *
          generalize hs.map hdD = HH at *
          generalize hdD h = HD at *
          generalize rows.map rowD = RR at *
          simp -implicitDefEqProofs at e1 ⊢
          simp -implicitDefEqProofs [e1])
    cases ks with
    | cons => cases h1
    | nil =>
      refine ⟨o1, y9, ?_, h2.mono (by simp)⟩
      have gr : rngOk (rows.length : Int) = true := rngOk_of (by omega) (by have := y.rl; omega)
      have hrl : (rows.map rowD).length = rows.length := by simp
      generalize stD (lowN rows) (rows.map (zRow (lowN rows))) = ST at *
      generalize hs.map hdD = HH at *
      generalize hdD h = HD at *
      generalize rows.map rowD = RR at *
      simp -implicitDefEqProofs [hrl, gr, e1]
  obtain ⟨ρ', m', e1, rest, o1, y8, y9, h1, rfl, rfl, h2, h3⟩ := forD_ind (ck := ckL 0 2 (hs.map hdD)) (g := gN 8) (b := w_law_3)
    (fun dl ρ m => ∃ (rest : List Hd) (o : MO) (z8 z9 : Option D), dl = rest.map hdD ∧ ρ = [some (.scr xs), some (.loc 0 0), some (.int (w : Int)), some (.loc 0 1), z4, z5, some (.loc 0 2), some (stD (lowN rows) (rows.map (zRow (lowN rows)))), z8, z9, none, none, none, none, none, none, none, none, none] ∧ m = [[o, .lst (rows.map rowD), .lst (hs.map hdD)]] ∧ BagOk (B + 20 * rest.length) o ∧ ∀ h ∈ rest, Du w h)
    (hs.map hdD) [some (.scr xs), some (.loc 0 0), some (.int (w : Int)), some (.loc 0 1), z4, z5, some (.loc 0 2), some (stD (lowN rows) (rows.map (zRow (lowN rows)))), none, none, none, none, none, none, none, none, none, none, none] [[o, .lst (rows.map rowD), .lst (hs.map hdD)]] ⟨hs, o, none, none, rfl, rfl, rfl, hb.mono (by omega), hd⟩ (by
      rintro _ _ _ ⟨_, _, _, _, _, _, rfl, _, _⟩
      simp [ckL]) (by
      rintro d1 dl ρ m ⟨rest, o, z8, z9, h1, rfl, rfl, h2, h3⟩
      cases rest with
      | nil => cases h1
      | cons h rest =>
        cases h1
        rw [List.length_cons] at h2
        obtain ⟨o', y9, e1, h4⟩ := inner h o (B + 20 * rest.length) z9 (h3 h (by simp)) (h2.mono (by omega))
        exact ⟨_, _, _, _, rfl, .inl e1, rest, o', some (hdD h), y9, rfl, rfl, rfl, h4, fun x hx => h3 x (by simp [hx])⟩)
  cases rest with
  | cons => cases h1
  | nil =>
    refine ⟨o1, y8, y9, ?_, h2.mono (by simp)⟩
    generalize stD (lowN rows) (rows.map (zRow (lowN rows))) = ST at *
    generalize hs.map hdD = HH at *
    generalize rows.map rowD = RR at *
    simp -implicitDefEqProofs [e1]
theorem law_q9 (e : f_law_after_heads [st, .loc 0 2] m = .ok due m) : q_law_9 [some (.scr xs), some (.loc 0 0), some (.int (w : Int)), some (.loc 0 1), z4, z5, some (.loc 0 2), some st, z8, z9, none, none, none, none, none, none, none, none, none] m = .ok (.nx [some (.scr xs), some (.loc 0 0), some (.int (w : Int)), some (.loc 0 1), z4, z5, some (.loc 0 2), some st, z8, z9, some due, none, none, none, none, none, none, none, none]) m := by
  simp -implicitDefEqProofs [e]
theorem law_q10 (hl : R.length ≤ 1000) : q_law_10 [some (.scr xs), some (.loc 0 0), some (.int (w : Int)), some (.loc 0 1), z4, z5, some (.loc 0 2), some st, z8, z9, some due, none, none, none, none, none, none, none, none] [[o, .lst R, X]] = .ok (.nx [some (.scr xs), some (.loc 0 0), some (.int (w : Int)), some (.loc 0 1), z4, z5, some (.loc 0 2), some st, z8, z9, some due, some (.lst R), none, none, none, none, none, none, none]) [[o, .lst R, X]] := by
  have g1 : R.length ≤ 16777216 := by omega
  simp -implicitDefEqProofs [g1]
theorem law_q11 (e : f_heads_done [.lst R, .loc 0 2] m = .ok (.loc 0 3) m2) : q_law_11 [some (.scr xs), some (.loc 0 0), some (.int (w : Int)), some (.loc 0 1), z4, z5, some (.loc 0 2), some st, z8, z9, some due, some (.lst R), none, none, none, none, none, none, none] m = .ok (.nx [some (.scr xs), some (.loc 0 0), some (.int (w : Int)), some (.loc 0 1), z4, z5, some (.loc 0 2), some st, z8, z9, some due, some (.lst R), some (.loc 0 3), none, none, none, none, none, none]) m2 := by
  simp -implicitDefEqProofs [e]
theorem law_q12 (e1 : f_law_rows_same [.loc 0 3, due] m = .ok (.bl true) m) (e2 : r_law_like 8 [.lst R, .loc 0 1] m = .ok (.bl true) m) : q_law_12 [some (.scr xs), some (.loc 0 0), some (.int (w : Int)), some (.loc 0 1), z4, z5, some (.loc 0 2), some st, z8, z9, some due, some (.lst R), some (.loc 0 3), none, none, none, none, none, none] m = .ok (.nx [some (.scr xs), some (.loc 0 0), some (.int (w : Int)), some (.loc 0 1), z4, z5, some (.loc 0 2), some st, z8, z9, some due, some (.lst R), some (.loc 0 3), none, none, none, none, none, none]) m := by
  simp -implicitDefEqProofs [e1, e2]
theorem law_q13 (hl : T.length ≤ 1000) : q_law_13 [some (.scr xs), some (.loc 0 0), some (.int (w : Int)), some (.loc 0 1), z4, z5, some (.loc 0 2), some st, z8, z9, some due, some (.lst R), some (.loc 0 3), none, none, none, none, none, none] [[o, X, Y, .lst T]] = .ok (.nx [some (.scr xs), some (.loc 0 0), some (.int (w : Int)), some (.loc 0 1), z4, z5, some (.loc 0 2), some st, z8, z9, some due, some (.lst R), some (.loc 0 3), some (.lst T), none, none, none, none, none]) [[o, X, Y, .lst T]] := by
  have g1 : T.length ≤ 16777216 := by omega
  simp -implicitDefEqProofs [g1]
theorem law_q14 : q_law_14 [some (.scr xs), some (.loc 0 0), some (.int (w : Int)), some (.loc 0 1), z4, z5, some (.loc 0 2), some st, z8, z9, some due, some (.lst R), some (.loc 0 3), some (.lst T), none, none, none, none, none] [[o, X, Y, .lst T]] = .ok (.nx [some (.scr xs), some (.loc 0 0), some (.int (w : Int)), some (.loc 0 1), z4, z5, some (.loc 0 2), some st, z8, z9, some due, some (.lst R), some (.loc 0 3), some (.lst T), none, none, none, none, none]) [[o, X, Y, .lst []]] := by
  have hc : hClr T [] = some ([], .non) := rfl
  simp -implicitDefEqProofs [hc]
theorem law_q15 : q_law_15 [some (.scr xs), some (.loc 0 0), some (.int (w : Int)), some (.loc 0 1), z4, z5, some (.loc 0 2), some st, z8, z9, some due, some (.lst R), some (.loc 0 3), some (.lst T), none, none, none, none, none] m = .ok (.nx [some (.scr xs), some (.loc 0 0), some (.int (w : Int)), some (.loc 0 1), z4, z5, some (.loc 0 2), some st, z8, z9, some due, some (.lst R), some (.loc 0 3), some (.lst T), some (.lst []), none, none, none, none]) m := by
  simp -implicitDefEqProofs
theorem law_q16 (hd : ∀ h ∈ hs, Du w h) (hl : hs.length ≤ 3) (hb : BagOk (B + 10) o) :
    ∃ ps o' y9 y15, q_law_16 [some (.scr xs), some (.loc 0 0), some (.int (w : Int)), some (.loc 0 1), z4, z5, some (.loc 0 2), some st, z8, z9, some due, some (.lst R), some (.loc 0 3), some (.lst T), some (.lst []), none, none, none, none] [[o, X, .lst (hs.map hdD), Y]] = .ok (.nx [some (.scr xs), some (.loc 0 0), some (.int (w : Int)), some (.loc 0 1), z4, z5, some (.loc 0 2), some st, z8, y9, some due, some (.lst R), some (.loc 0 3), some (.lst T), some (.lst (ps.map hdD)), y15, none, none, none]) [[o', X, .lst (hs.map hdD), Y]] ∧ BagOk B o' ∧ Pa w rows hs ps 6 := by
  obtain ⟨ρ', m', e1, rest, done, ps, o1, y9, y15, h1, rfl, rfl, h2, h3, h4⟩ := forD_ind (ck := fun _ => True) (g := gN 15) (b := w_law_4)
    (fun ds ρ m => ∃ (rest done ps : List Hd) (o : MO) (z9 z15 : Option D), ds = rest.map hdD ∧ ρ = [some (.scr xs), some (.loc 0 0), some (.int (w : Int)), some (.loc 0 1), z4, z5, some (.loc 0 2), some st, z8, z9, some due, some (.lst R), some (.loc 0 3), some (.lst T), some (.lst (ps.map hdD)), z15, none, none, none] ∧ m = [[o, X, .lst (hs.map hdD), Y]] ∧ hs = rest.reverse ++ done ∧ Pa w rows done ps (2 * done.length) ∧ BagOk (B + rest.length) o)
    (hs.reverse.map hdD) [some (.scr xs), some (.loc 0 0), some (.int (w : Int)), some (.loc 0 1), z4, z5, some (.loc 0 2), some st, z8, z9, some due, some (.lst R), some (.loc 0 3), some (.lst T), some (.lst []), none, none, none, none] [[o, X, .lst (hs.map hdD), Y]] ⟨hs.reverse, [], [], o, z9, none, rfl, rfl, rfl, by simp, Pa.nil, hb.mono (by simp; omega)⟩ (fun _ _ _ _ => trivial) (by
      rintro d1 ds ρ m ⟨rest, done, ps, o, z9, z15, h1, rfl, rfl, h2, h3, h4⟩
      cases rest with
      | nil => cases h1
      | cons u rest =>
        cases h1
        rw [List.length_cons] at h4
        have hu : u ∈ hs := by rw [h2]; simp
        have du := hd u hu
        have hgu := du.gl
        have htu := du.sl
        obtain ⟨k, o', f1, f2, f3, f4⟩ := draw_run (B := B + rest.length) (n := (u.G.length : Int) + 1) (h4.mono (by omega)) (by omega) (by omega)
        obtain ⟨j, rfl⟩ : ∃ j : Nat, k = (j : Int) := ⟨k.toNat, by omega⟩
        have hdn : done.length ≤ 3 := by
          have := congrArg List.length h2
          simp at this
          omega
        have hpl : ps.length ≤ 3000 := by have := h3.len; omega
        refine ⟨_, _, [some (.scr xs), some (.loc 0 0), some (.int (w : Int)), some (.loc 0 1), z4, z5, some (.loc 0 2), some st, z8, some (.int (j : Int)), some due, some (.lst R), some (.loc 0 3), some (.lst T), some (.lst ((ps ++ cutH j u).map hdD)), some (hdD u), none, none, none], [[o', X, .lst (hs.map hdD), Y]], rfl, .inl ?_, rest, u :: done, ps ++ cutH j u, o', _, some (hdD u), rfl, rfl, rfl, by rw [h2]; simp, by have := h3.cut j du; rw [List.length_cons]; exact this, f2⟩
        have ct : cutL (u.G.map tri) none (some (j : Int)) = (u.G.take j).map tri := by rw [cutL_to, List.map_take]
        have cf : cutL (u.G.map tri) (some (j : Int)) none = (u.G.drop j).map tri := by rw [cutL_from, List.map_drop]
        have hrv : (u.S.map tri).reverse = u.S.reverse.map tri := by rw [List.map_reverse]
        have hmap : (ps ++ cutH j u).map hdD = ps.map hdD ++ [.tup [.tup (u.S.map tri), .tup ((u.G.drop j).map tri)], .tup [.tup (u.S.reverse.map tri), .tup ((u.G.take j).map tri)]] := by
          rw [List.map_append]; rfl
        have hun : hdD u = .tup [.tup (u.S.map tri), .tup (u.G.map tri)] := rfl
        have hgl : (u.G.map tri).length = u.G.length := by simp
        have hql : (ps.map hdD).length = ps.length := by simp
        rw [hmap, hun]
        generalize hs.map hdD = UU at *
        generalize ps.map hdD = PP at *
        generalize u.G.map tri = GV at *
        generalize (u.G.take j).map tri = G1 at *
        generalize (u.G.drop j).map tri = G2 at *
        generalize u.S.map tri = TS at *
        generalize u.S.reverse.map tri = TR at *
        have g1 : PP.length + 2 ≤ 16777216 := by omega
        simp -implicitDefEqProofs [f1, hgl, ct, cf, hrv, g1])
  cases rest with
  | cons => cases h1
  | nil =>
    simp only [List.reverse_nil, List.nil_append] at h2
    subst h2
    refine ⟨ps, o1, y9, y15, ?_, h4.mono (by simp), ⟨h3.e, h3.ok, by have := h3.len; omega⟩⟩
    have g1 : hs.length ≤ 16777216 := by omega
    have hrv : (hs.map hdD).reverse = hs.reverse.map hdD := by rw [List.map_reverse]
    have hul : (hs.map hdD).length = hs.length := by simp
    have hrl : (hs.reverse.map hdD).length = hs.length := by simp
    generalize hs.map hdD = UU at *
    generalize hs.reverse.map hdD = UR at *
    generalize ps.map hdD = PP at *
    simp -implicitDefEqProofs [hrv, hul, hrl, g1, e1]
theorem law_q17 {os : List MO} (h : BagOk (B + 2) o) : ∃ (c : Rat) (o' : MO), q_law_17 [some (.scr xs), some (.loc 0 0), some (.int (w : Int)), some (.loc 0 1), z4, z5, some (.loc 0 2), some st, z8, z9, some due, some (.lst R), some (.loc 0 3), some (.lst T), some (.lst Ps), z15, none, none, none] [o :: os] = .ok (.nx [some (.scr xs), some (.loc 0 0), some (.int (w : Int)), some (.loc 0 1), z4, z5, some (.loc 0 2), some st, z8, z9, some due, some (.lst R), some (.loc 0 3), some (.lst T), some (.lst Ps), z15, some (fr c), none, none]) [o' :: os] ∧ BagOk B o' ∧ Fc c := by
  obtain ⟨k1, o1, d1, h1, a1, b1⟩ := draw_run (B := B + 1) (n := 9) h (by omega) (by omega)
  obtain ⟨k2, o2, d2, h2, a2, b2⟩ := draw_run (B := B) (n := 9) h1 (by omega) (by omega)
  have lo := fun m => low_run (p := 1 + k1) (q := 1 + k2) (m := m) (by omega) (powmono (a := 10) (by omega) (by omega))
  have hle := divInt_le (p := 1 + k1) (q := 1 + k2) (by omega)
  refine ⟨Rat.divInt (1 + k1) (1 + k2), o2, ?_, h2, ?_, by omega, by omega⟩
  · generalize Rat.divInt (1 + k1) (1 + k2) = q at *
    simp -implicitDefEqProofs [d1, d2, lo]
  · have pc : ∀ k : Int, 0 ≤ k → (0 : Rat) < ((1 + k : Int) : Rat) := fun k hk => by
      have : ((0 : Int) : Rat) < ((1 + k : Int) : Rat) := Rat.intCast_lt_intCast.mpr (by omega)
      exact this
    have p1 := pc k1 a1
    have p2 := pc k2 a2
    have hm : Rat.divInt (1 + k1) (1 + k2) * ((1 + k2 : Int) : Rat) = ((1 + k1 : Int) : Rat) := by
      rw [Rat.divInt_eq_div]
      exact Rat.div_mul_cancel fun e => by rw [e] at p2; exact absurd p2 Rat.lt_irrefl
    by_cases hq : 0 < Rat.divInt (1 + k1) (1 + k2)
    · exact hq
    · have h1 := Rat.mul_le_mul_of_nonneg_right (Rat.not_lt.mp hq) (Rat.le_of_lt p2)
      rw [Rat.zero_mul, hm] at h1
      exact absurd p1 (Rat.not_lt.mpr h1)
theorem law_q18 {c : Rat} {pre : List Hd} {Zs : List MO} (hd : ∀ h ∈ hs, Du w h) (hl : hs.length ≤ 3) (hc : Fc c) (h0 : rows ≠ []) (hp : Pa w rows hs pre 6) (hz : Zs[2]? = some (.lst (hs.map hdD))) :
    ∃ ps y8 y17, q_law_18 [some (.scr xs), some (.loc 0 0), some (.int (w : Int)), some (.loc 0 1), z4, z5, some (.loc 0 2), some st, z8, z9, some due, some (.lst R), some (.loc 0 3), some (.lst T), some (.lst (pre.map hdD)), z15, some (fr c), none, none] [Zs] = .ok (.nx [some (.scr xs), some (.loc 0 0), some (.int (w : Int)), some (.loc 0 1), z4, z5, some (.loc 0 2), some st, y8, z9, some due, some (.lst R), some (.loc 0 3), some (.lst T), some (.lst (ps.map hdD)), z15, some (fr c), y17, none]) [Zs] ∧ Pa w rows hs ps 12 := by
  obtain ⟨ρ', m', e1, rest, ps, n, y8, y17, h1, rfl, rfl, h2, h3, h4⟩ := forD_ind (ck := ckL 0 2 (hs.map hdD)) (g := gN 8) (b := w_law_6)
    (fun ds ρ m => ∃ (rest ps : List Hd) (n : Nat) (z8 z17 : Option D), ds = rest.map hdD ∧ ρ = [some (.scr xs), some (.loc 0 0), some (.int (w : Int)), some (.loc 0 1), z4, z5, some (.loc 0 2), some st, z8, z9, some due, some (.lst R), some (.loc 0 3), some (.lst T), some (.lst (ps.map hdD)), z15, some (fr c), z17, none] ∧ m = [Zs] ∧ (∀ h ∈ rest, Du w h) ∧ Pa w rows hs ps n ∧ n + 2 * rest.length ≤ 12)
    (hs.map hdD) [some (.scr xs), some (.loc 0 0), some (.int (w : Int)), some (.loc 0 1), z4, z5, some (.loc 0 2), some st, z8, z9, some due, some (.lst R), some (.loc 0 3), some (.lst T), some (.lst (pre.map hdD)), z15, some (fr c), none, none] [Zs] ⟨hs, pre, 6, z8, none, rfl, rfl, rfl, hd, hp, by omega⟩ (by
      rintro _ _ _ ⟨_, _, _, _, _, _, _, rfl, _⟩
      simp [ckL, hz]) (by
      rintro d1 ds ρ m ⟨rest, ps, n, z8, z17, h1, rfl, rfl, h2, h3, h4⟩
      cases rest with
      | nil => cases h1
      | cons u rest =>
        cases h1
        rw [List.length_cons] at h4
        have du := h2 u (by simp)
        have hgu := du.gl
        have htu := du.sl
        have rr := fun m' => raised_run (m := m') du.s du.sl hc
        have hpl : ps.length ≤ 3000 := by have := h3.len; omega
        refine ⟨_, _, [some (.scr xs), some (.loc 0 0), some (.int (w : Int)), some (.loc 0 1), z4, z5, some (.loc 0 2), some st, some (hdD u), z9, some due, some (.lst R), some (.loc 0 3), some (.lst T), some (.lst ((ps ++ offH c u).map hdD)), z15, some (fr c), some (.lst ((negG u.G).map tri)), none], [Zs], rfl, .inl ?_, rest, ps ++ offH c u, n + 2, _, _, rfl, rfl, rfl, fun x hx => h2 x (by simp [hx]), h3.off hc h0 du, by omega⟩
        have hun : hdD u = .tup [.tup (u.S.map tri), .tup (u.G.map tri)] := rfl
        have hmap : (ps ++ offH c u).map hdD = ps.map hdD ++ [.tup [.tup ((mulS c u.S).map tri), .tup (u.G.map tri)], .tup [.tup (u.S.map tri), .tup ((negG u.G).map tri)]] := by
          rw [List.map_append]; rfl
        have lc := lcD_map (ck := fun _ => True) (g := gN 15) (t := tAll) (f := e_law_5) tri (fun t => tri (t.1, t.2.1, -t.2.2)) (ρ := [some (.scr xs), some (.loc 0 0), some (.int (w : Int)), some (.loc 0 1), z4, z5, some (.loc 0 2), some st, some (hdD u), z9, some due, some (.lst R), some (.loc 0 3), some (.lst T), some (.lst (ps.map hdD)), none, some (fr c), z17, none]) (m := [Zs]) u.G trivial (fun t ht => ⟨_, rfl, rfl, by
          have hf : tri t = .tup [.int t.1, .int t.2.1, .tup [.int t.2.2.num, .int (t.2.2.den : Int)]] := rfl
          have hf2 : tri (t.1, t.2.1, -t.2.2) = .tup [.int t.1, .int t.2.1, .tup [.int (-t.2.2.num), .int (t.2.2.den : Int)]] := by
            show D.tup [.int t.1, .int t.2.1, fr (-t.2.2)] = _
            rw [← neg_fr]
          have ct : cutL [D.int t.1, D.int t.2.1, .tup [.int t.2.2.num, .int (t.2.2.den : Int)]] none (some 2) = [.int t.1, .int t.2.1] := rfl
          rw [hf, hf2]
          simp -implicitDefEqProofs [ct]⟩)
        have hmm : u.G.map (fun t => tri (t.1, t.2.1, -t.2.2)) = (negG u.G).map tri := by unfold negG; rw [List.map_map]; rfl
        rw [hmm] at lc
        have g2 : ((negG u.G).map tri).length ≤ 16777216 := by simp [negG]; omega
        have hql : (ps.map hdD).length = ps.length := by simp
        rw [hmap]
        rw [hun] at lc ⊢
        generalize ps.map hdD = PP at *
        generalize (negG u.G).map tri = NG at *
        generalize (mulS c u.S).map tri = MS at *
        generalize u.S.map tri = TS at *
        generalize u.G.map tri = GV at *
        have g1 : PP.length + 2 ≤ 16777216 := by omega
        generalize fr c = C at *
        simp -implicitDefEqProofs [lc, g2, rr, g1])
  cases rest with
  | cons => cases h1
  | nil =>
    refine ⟨ps, y8, y17, ?_, ⟨h3.e, h3.ok, by have := h3.len; omega⟩⟩
    generalize hs.map hdD = UU at *
    generalize ps.map hdD = PP at *
    generalize fr c = C at *
    simp -implicitDefEqProofs [hz, e1]
theorem law_q19 {os os2 : List MO} {d : D} (h : BagOk (B + 1) o) (hl : Ps.length ≤ 1000) (e1 : ∀ o, f_heads_done [.lst R, .tup Ps] [o :: os] = .ok d [o :: os2]) (e2 : ∀ o, f_heads_done [.lst R, .lst Ps] [o :: os] = .ok d [o :: os2]) : ∃ o', q_law_19 [some (.scr xs), some (.loc 0 0), some (.int (w : Int)), some (.loc 0 1), z4, z5, some (.loc 0 2), some st, z8, z9, some due, some (.lst R), some (.loc 0 3), some (.lst T), some (.lst Ps), z15, some fcD, z17, none] [o :: os] = .ok (.nx [some (.scr xs), some (.loc 0 0), some (.int (w : Int)), some (.loc 0 1), z4, z5, some (.loc 0 2), some st, z8, z9, some due, some (.lst R), some (.loc 0 3), some (.lst T), some (.lst Ps), z15, some fcD, z17, some d]) [o' :: os2] ∧ BagOk B o' := by
  obtain ⟨k, o', d1, d2, d3, d4⟩ := draw_run (B := B) (n := 3) h (by omega) (by omega)
  have g1 : Ps.length ≤ 16777216 := by omega
  refine ⟨o', ?_, d2⟩
  by_cases hk : k = 0
  · simp -implicitDefEqProofs [d1, hk, e1, g1, g_k2]
  · simp -implicitDefEqProofs [d1, hk, e2]
end
end P_k18
namespace P_k18
open PySem L2 PySem.Spec PyProof.Rows LN

theorem Hw.lst {hs : List Hd} {m : Mem} : Hw (.lst (hs.map hdD)) hs m := ⟨fun _ => True, fun _ => ⟨rfl, trivial⟩⟩
theorem Hw.tup {hs : List Hd} {m : Mem} : Hw (.tup (hs.map hdD)) hs m := ⟨fun _ => True, fun _ => ⟨rfl, trivial⟩⟩
theorem Hw.loc {hs : List Hd} {j : Nat} {fr0 : List MO} {r : Mem} (hj : fr0[j]? = some (.lst (hs.map hdD))) : Hw (.loc 0 j) hs (fr0 :: r) := by
  refine ⟨ckL 0 j (hs.map hdD), fun tl => ⟨?_, ?_⟩⟩
  · rw [kWalk_loc', List.cons_append, Mem.get_z, hj]; rfl
  · rw [ckL, List.cons_append, Mem.get_z, hj]
section
variable {w g : Nat} {rows : List (List Rat)} {hs : List Hd}
theorem heads1 {Rd Ud : D} {fr0 : List MO} (y : Hy w g rows) (W : Rw Rd rows [fr0]) (U : Hw Ud hs [fr0]) (hk : ∀ h ∈ hs, HOk w FF h) (hl : hs.length ≤ 25) :
    f_heads_done [Rd, Ud] [fr0] = .ok (.loc 0 fr0.length) [fr0 ++ [.lst ((rows.map (aft rows hs)).map rowD)]] := by
  have := heads_done_run (m := [fr0]) y.rq W U y.rl hl y.rw (by have := y.w5; omega) hk (by simp)
  rw [Mem.nx_one, Mem.new_one] at this
  rw [List.map_map]
  exact this
theorem more_ok (hd : ∀ h ∈ hs, Du w h) : 0 < moreN hs ∧ moreN hs ∣ FF ∧ ∀ h ∈ hs, 2520 * mS h.G ∣ moreN hs := by
  have mf := more_from hs 1 FF (by omega) (Nat.one_dvd _) fun u hu => (hd u hu).dn.w2
  exact ⟨mf.1, mf.2.1, mf.2.2.2⟩
theorem rc (y : Hy w g rows) (hd : ∀ h ∈ hs, Du w h) (hl : hs.length ≤ 25) {a : List Rat} (ha : a ∈ rows) :
    hs.foldl (fun y h => abH (moreN hs) (rows.map (zRow (lowN rows))) h (zRow (lowN rows) a) y) ((zRow (lowN rows) a).map fun x => x * ((moreN hs : Nat) : Int)) = zRow (lowN rows * moreN hs) (aft rows hs a) ∧ ∀ q ∈ aft rows hs a, q.den ∣ lowN rows * moreN hs := row_cast (l := lowN rows) (mo := moreN hs) y.rq y.rl hl y.rw (fun h hh => (hd h hh).ok) ha y.low.1 (more_ok hd).1 y.low.2.2 (more_ok hd).2.2
theorem after1 {Ud : D} {m : Mem} (y : Hy w g rows) (hd : ∀ h ∈ hs, Du w h) (hl : hs.length ≤ 25) (U : Hw Ud hs m) :
    f_law_after_heads [stD (lowN rows) (rows.map (zRow (lowN rows))), Ud] m = .ok (stD (lowN rows * moreN hs) ((rows.map (aft rows hs)).map (zRow (lowN rows * moreN hs)))) m := by
  have hll : lowN rows < 2 ^ 600 := Nat.lt_of_lt_of_le y.lowlt (Nat.pow_le_pow_right (by omega) (by omega))
  have ab := after_heads_run (m := m) (l := lowN rows) (Z := rows.map (zRow (lowN rows))) FF_pos (powmono FF_lt (show 152 ≤ 600 by omega)) (by omega) (fun h hh => (hd h hh).dn) hll y.z (by have := y.w5; omega) (by simpa using y.rl) (by simpa using List.length_pos_iff.mpr y.r0) U
  have he : abA (moreN hs) hs (rows.map (zRow (lowN rows))) = (rows.map (aft rows hs)).map (zRow (lowN rows * moreN hs)) := by
    apply List.ext_getElem?
    intro i
    rw [abA_at, List.getElem?_map, List.getElem?_map, List.getElem?_map]
    cases h : rows[i]? with
    | none => rfl
    | some r =>
      have hr := List.mem_of_getElem? h
      simp only [Option.map_some, (rc y hd hl hr).1]
  rw [he] at ab
  exact ab
theorem same1 {j : Nat} {fr0 : List MO} (y : Hy w g rows) (hd : ∀ h ∈ hs, Du w h) (hl : hs.length ≤ 25) (hj : fr0[j]? = some (.lst ((rows.map (aft rows hs)).map rowD))) :
    f_law_rows_same [.loc 0 j, stD (lowN rows * moreN hs) ((rows.map (aft rows hs)).map (zRow (lowN rows * moreN hs)))] [fr0] = .ok (.bl true) [fr0] := by
  have mo := more_ok hd
  have hM : lowN rows * moreN hs < 2 ^ 800 := by
    have : moreN hs < 2 ^ 152 := Nat.lt_of_le_of_lt (Nat.le_of_dvd FF_pos mo.2.1) FF_lt
    exact powmono (powb y.lowlt this) (by omega)
  refine rows_same_run (A := 800) hj (fun r hr => ?_) hM (by omega) (Nat.mul_pos y.low.1 mo.1) (by have := y.rl; simp; omega)
  obtain ⟨a, ha, rfl⟩ := List.mem_map.mp hr
  refine ⟨by rw [aft_len, (y.rs a ha).1]; have := y.w5; omega, fun q hq => ⟨?_, (rc y hd hl ha).2 q hq⟩⟩
  have := aft_dn y.rq y.rl hl y.rw (fun h hh => (hd h hh).ok) ha (by have := y.w5; omega) q hq
  have hz := y.rq.rm.sz (this.mono (by decide +kernel))
  exact Nat.lt_of_lt_of_le hz.1 (Nat.pow_le_pow_right (by omega) (by omega))
theorem same0 {j : Nat} {fr0 : List MO} (y : Hy w g rows) (hj : fr0[j]? = some (.lst (rows.map rowD))) :
    f_law_rows_same [.loc 0 j, stD (lowN rows) (rows.map (zRow (lowN rows)))] [fr0] = .ok (.bl true) [fr0] :=
  rows_same_run (A := 800) hj (fun r hr => ⟨by rw [(y.rs r hr).1]; have := y.w5; omega, fun q hq => ⟨Nat.lt_of_lt_of_le ((y.rs r hr).2 q hq).1.1 (Nat.pow_le_pow_right (by omega) (by omega)), y.low.2.2 r hr q hq⟩⟩) (Nat.lt_of_lt_of_le y.lowlt (Nat.pow_le_pow_right (by omega) (by omega))) (by omega) y.low.1 (by have := y.rl; omega)
theorem state1 {m : Mem} {Rd : D} {ck : Mem → Prop} (y : Hy w g rows) (hw : kWalk Rd (m ++ [[]]) = .ok ⟨rows.map rowD, ck⟩ (m ++ [[]])) (hck : ck (m ++ [[]])) : f_law_state [Rd] m = .ok (stD (lowN rows) (rows.map (zRow (lowN rows)))) m :=
  state_run (n := 0) (K := L0 g) (A := 201) hw hck (fun r hr => ⟨by rw [(y.rs r hr).1]; have := y.w5; omega, fun q hq => ⟨((y.rs r hr).2 q hq).2, Nat.lt_of_lt_of_le ((y.rs r hr).2 q hq).1.1 (Nat.pow_le_pow_right (by omega) (by omega))⟩⟩) y.l0.1 y.l0.2 (by omega) (by have := y.rl; omega)
theorem lk_rows {rs : List (List Rat)} (hl : rs.length ≤ 1000) (hr : ∀ r ∈ rs, r.length ≤ 1000) : lkD 7 (.lst (rs.map rowD)) = true := by
  have h1 : lkDs 6 (rs.map rowD) = true := lkDs_iff.mpr fun d hd => by
    obtain ⟨r, hrr, rfl⟩ := List.mem_map.mp hd
    have h2 : lkDs 5 (r.map fr) = true := lkDs_iff.mpr fun d hd => by
      obtain ⟨q, _, rfl⟩ := List.mem_map.mp hd
      simp [fr, lkD, lkDs]
    unfold rowD
    simp only [lkD, Bool.and_eq_true, decide_eq_true_eq]
    exact ⟨by have := hr r hrr; simp; omega, h2⟩
  simp only [lkD, Bool.and_eq_true, decide_eq_true_eq]
  exact ⟨by simp; omega, h1⟩
theorem aft_nil (a : List Rat) : aft rows [] a = a := rfl
end
section
variable {w g N : Nat} {xs : List Int} {z4 z5 z8 z9 z15 z17 : Option D} {R T U Ps : List D} {st due fcD : D} {o X Y : MO} {m m2 m3 : Mem} {B : Nat} {rows : List (List Rat)} {hs : List Hd} {os : List MO}
theorem law_q20 (hl : R.length ≤ 1000) (e1 : r_law_like 8 [.loc 0 4, .lst T] [o :: .lst R :: os] = .ok (.bl true) [o :: .lst R :: os]) (e2 : f_heads_done [.tup R, .loc 0 2] [o :: .lst R :: os] = .ok (.loc 0 5) m2) (e3 : r_law_like 8 [.loc 0 5, .lst T] m2 = .ok (.bl true) m2) : q_law_20 [some (.scr xs), some (.loc 0 0), some (.int (w : Int)), some (.loc 0 1), z4, z5, some (.loc 0 2), some st, z8, z9, some due, some (.lst R), some (.loc 0 3), some (.lst T), some (.lst Ps), z15, some fcD, z17, some (.loc 0 4)] [o :: .lst R :: os] = .ok (.nx [some (.scr xs), some (.loc 0 0), some (.int (w : Int)), some (.loc 0 1), z4, z5, some (.loc 0 2), some st, z8, z9, some due, some (.lst R), some (.loc 0 3), some (.lst T), some (.lst Ps), z15, some fcD, z17, some (.loc 0 4)]) m2 := by
  have g1 : R.length ≤ 16777216 := by omega
  simp -implicitDefEqProofs [e1, e2, e3, g1]
theorem law_q21 (e1 : f_heads_done [.loc 0 1, .lst []] m = .ok (.loc 0 6) m2) (e2 : f_law_rows_same [.loc 0 6, st] m2 = .ok (.bl true) m2) (e3 : r_law_like 8 [.lst R, .loc 0 1] m2 = .ok (.bl true) m2) : q_law_21 [some (.scr xs), some (.loc 0 0), some (.int (w : Int)), some (.loc 0 1), z4, z5, some (.loc 0 2), some st, z8, z9, some due, some (.lst R), some (.loc 0 3), some (.lst T), some (.lst Ps), z15, some fcD, z17, some (.loc 0 4)] m = .ok (.rt (.bl true)) m2 := by
  simp -implicitDefEqProofs [e1, e2, e3]
theorem law_body (y : Hy w g rows) (hd : ∀ h ∈ hs, Du w h) (hl : hs.length ≤ 3) (hb : BagOk (B + 200) o) :
    ∃ m3, (sSeq q_law_7 (sSeq q_law_8 (sSeq q_law_9 (sSeq q_law_10 (sSeq q_law_11 (sSeq q_law_12 (sSeq q_law_13 (sSeq q_law_14 (sSeq q_law_15 (sSeq q_law_16 (sSeq q_law_17 (sSeq q_law_18 (sSeq q_law_19 (sSeq q_law_20 q_law_21)))))))))))))) [some (.scr xs), some (.loc 0 0), some (.int (w : Int)), some (.loc 0 1), z4, z5, some (.loc 0 2), none, none, none, none, none, none, none, none, none, none, none, none] [[o, .lst (rows.map rowD), .lst (hs.map hdD)]] = .ok (.rt (.bl true)) m3 := by
  have hRl : (rows.map rowD).length ≤ 1000 := by have := y.rl; simp; omega
  have hTl : ((rows.map (aft rows hs)).map rowD).length ≤ 1000 := by have := y.rl; simp; omega
  have hk : ∀ h ∈ hs, HOk w FF h := fun h hh => (hd h hh).ok
  have lR := lk_rows (rs := rows) (by have := y.rl; omega) (fun r hr => by rw [(y.rs r hr).1]; have := y.w5; omega)
  have lT := lk_rows (rs := rows.map (aft rows hs)) (by have := y.rl; simp; omega) (fun r hr => by
    obtain ⟨a, ha, rfl⟩ := List.mem_map.mp hr
    rw [aft_len, (y.rs a ha).1]; have := y.w5; omega)
  have st := state1 (m := [[o, .lst (rows.map rowD), .lst (hs.map hdD)]]) (Rd := .loc 0 1) (ck := ckL 0 1 (rows.map rowD)) y (by simp) (by simp [ckL])
  obtain ⟨o8, z8, z9, e8, h8⟩ := law_q8 (xs := xs) (z4 := z4) (z5 := z5) (B := B + 100) y hd hl (hb.mono (by omega))
  have a9 := after1 (Ud := .loc 0 2) (m := [[o8, .lst (rows.map rowD), .lst (hs.map hdD)]]) y hd (by omega) (Hw.loc rfl)
  have e11 := heads1 (Rd := .lst (rows.map rowD)) (Ud := .loc 0 2) (fr0 := [o8, .lst (rows.map rowD), .lst (hs.map hdD)]) y Rw.lst (Hw.loc rfl) hk (by omega)
  have s12 := same1 (j := 3) (fr0 := [o8, .lst (rows.map rowD), .lst (hs.map hdD), .lst ((rows.map (aft rows hs)).map rowD)]) y hd (by omega) rfl
  have l12 := like_fl (n := 6) (j := 1) (fr0 := [o8, .lst (rows.map rowD), .lst (hs.map hdD), .lst ((rows.map (aft rows hs)).map rowD)]) rfl lR
  obtain ⟨ps, o16, y9, y15, e16, h16, pa1⟩ := law_q16 (xs := xs) (w := w) (z4 := z4) (z5 := z5) (z8 := z8) (z9 := z9) (st := stD (lowN rows) (rows.map (zRow (lowN rows)))) (due := stD (lowN rows * moreN hs) ((rows.map (aft rows hs)).map (zRow (lowN rows * moreN hs)))) (R := rows.map rowD) (T := (rows.map (aft rows hs)).map rowD) (X := .lst (rows.map rowD)) (Y := .lst []) (rows := rows) (B := B + 90) hd hl (h8.mono (by omega))
  obtain ⟨c, o17, e17, h17, hc⟩ := law_q17 (xs := xs) (w := w) (z4 := z4) (z5 := z5) (z8 := z8) (z9 := y9) (z15 := y15) (st := stD (lowN rows) (rows.map (zRow (lowN rows)))) (due := stD (lowN rows * moreN hs) ((rows.map (aft rows hs)).map (zRow (lowN rows * moreN hs)))) (R := rows.map rowD) (T := (rows.map (aft rows hs)).map rowD) (Ps := ps.map hdD) (os := [.lst (rows.map rowD), .lst (hs.map hdD), .lst []]) (B := B + 88) (h16.mono (by omega))
  obtain ⟨ps2, y8, y17, e18, pa2⟩ := law_q18 (xs := xs) (z4 := z4) (z5 := z5) (z8 := z8) (z9 := y9) (z15 := y15) (st := stD (lowN rows) (rows.map (zRow (lowN rows)))) (due := stD (lowN rows * moreN hs) ((rows.map (aft rows hs)).map (zRow (lowN rows * moreN hs)))) (R := rows.map rowD) (T := (rows.map (aft rows hs)).map rowD) (pre := ps) (Zs := [o17, .lst (rows.map rowD), .lst (hs.map hdD), .lst []]) hd hl hc y.r0 pa1 rfl
  have mt := pa2.same y (by omega) (by omega) hd
  have hpl : ps2.length ≤ 25 := by have := pa2.len; omega
  have e19a := fun o : MO => heads1 (Rd := .lst (rows.map rowD)) (Ud := .tup (ps2.map hdD)) (fr0 := [o, .lst (rows.map rowD), .lst (hs.map hdD), .lst []]) y Rw.lst Hw.tup pa2.ok hpl
  have e19b := fun o : MO => heads1 (Rd := .lst (rows.map rowD)) (Ud := .lst (ps2.map hdD)) (fr0 := [o, .lst (rows.map rowD), .lst (hs.map hdD), .lst []]) y Rw.lst Hw.lst pa2.ok hpl
  rw [mt] at e19a e19b
  obtain ⟨o19, e19, h19⟩ := law_q19 (d := .loc 0 4) (xs := xs) (w := w) (z4 := z4) (z5 := z5) (z8 := y8) (z9 := y9) (z15 := y15) (z17 := y17) (st := stD (lowN rows) (rows.map (zRow (lowN rows)))) (due := stD (lowN rows * moreN hs) ((rows.map (aft rows hs)).map (zRow (lowN rows * moreN hs)))) (R := rows.map rowD) (T := (rows.map (aft rows hs)).map rowD) (Ps := ps2.map hdD) (fcD := fr c) (os := [.lst (rows.map rowD), .lst (hs.map hdD), .lst []]) (os2 := [.lst (rows.map rowD), .lst (hs.map hdD), .lst [], .lst ((rows.map (aft rows hs)).map rowD)]) (B := B) (h17.mono (by omega)) (by simp; omega) e19a e19b
  have l20 := like_lf (n := 6) (j := 4) (fr0 := [o19, .lst (rows.map rowD), .lst (hs.map hdD), .lst [], .lst ((rows.map (aft rows hs)).map rowD)]) rfl lT
  have e20 := heads1 (Rd := .tup (rows.map rowD)) (Ud := .loc 0 2) (fr0 := [o19, .lst (rows.map rowD), .lst (hs.map hdD), .lst [], .lst ((rows.map (aft rows hs)).map rowD)]) y Rw.tup (Hw.loc rfl) hk (by omega)
  have l20b := like_lf (n := 6) (j := 5) (fr0 := [o19, .lst (rows.map rowD), .lst (hs.map hdD), .lst [], .lst ((rows.map (aft rows hs)).map rowD), .lst ((rows.map (aft rows hs)).map rowD)]) rfl lT
  have e21 := heads1 (Rd := .loc 0 1) (Ud := .lst ([] : List D)) (hs := []) (fr0 := [o19, .lst (rows.map rowD), .lst (hs.map hdD), .lst [], .lst ((rows.map (aft rows hs)).map rowD), .lst ((rows.map (aft rows hs)).map rowD)]) y (Rw.loc rfl) (Hw.lst (hs := [])) (by simp) (by simp)
  have hnil : rows.map (aft rows []) = rows := by
    conv => rhs; rw [← List.map_id rows]
    exact List.map_congr_left fun r _ => aft_nil r
  rw [hnil] at e21
  have s21 := same0 (j := 6) (fr0 := [o19, .lst (rows.map rowD), .lst (hs.map hdD), .lst [], .lst ((rows.map (aft rows hs)).map rowD), .lst ((rows.map (aft rows hs)).map rowD), .lst (rows.map rowD)]) y rfl
  have l21 := like_fl (n := 6) (j := 1) (fr0 := [o19, .lst (rows.map rowD), .lst (hs.map hdD), .lst [], .lst ((rows.map (aft rows hs)).map rowD), .lst ((rows.map (aft rows hs)).map rowD), .lst (rows.map rowD)]) rfl lR
  refine ⟨[[o19, .lst (rows.map rowD), .lst (hs.map hdD), .lst [], .lst ((rows.map (aft rows hs)).map rowD), .lst ((rows.map (aft rows hs)).map rowD), .lst (rows.map rowD)]], ?_⟩
  rw [sSeq_run, law_q7 st, kS_nx, sSeq_run, e8, kS_nx, sSeq_run, law_q9 a9, kS_nx, sSeq_run, law_q10 hRl, kS_nx, sSeq_run, law_q11 e11, kS_nx]
  show kS _ (q_law_12 _ [[o8, .lst (rows.map rowD), .lst (hs.map hdD), .lst ((rows.map (aft rows hs)).map rowD)]]) = _
  rw [law_q12 s12 l12, kS_nx, sSeq_run, law_q13 hTl, kS_nx, sSeq_run, law_q14, kS_nx, sSeq_run, law_q15, kS_nx, sSeq_run, e16, kS_nx, sSeq_run, e17, kS_nx, sSeq_run, e18, kS_nx, sSeq_run]
  show kS _ (q_law_19 _ [o17 :: [.lst (rows.map rowD), .lst (hs.map hdD), .lst []]]) = _
  rw [show (q_law_19 _ [o17 :: [.lst (rows.map rowD), .lst (hs.map hdD), .lst []]]) = _ from e19, kS_nx, sSeq_run, law_q20 hRl l20 e20 l20b, kS_nx]
  exact law_q21 e21 s21 l21
theorem law_run (xs : List Int) : ∃ m : Mem, f_law [.scr xs] [] = .ok (.bl true) m := by
  obtain ⟨o1, e1, h1⟩ := law_q1 (xs := xs)
  obtain ⟨w, o2, e2, h2, w1, w2⟩ := law_q2 (xs := xs) (B := 2 ^ 99 - 1) (h1.mono (by omega))
  obtain ⟨rows, o3, e3, h3, r1, r2, r3⟩ := law_q3 (xs := xs) (B := 2000) (h2.mono (by decide)) w1 w2
  obtain ⟨rows', o4, z4, z5, g, e4, h4, s1, s2, s3, s4, s5⟩ := law_q4 (xs := xs) (B := 1900) (h3.mono (by omega)) w1 w2 r1 r2 r3
  obtain ⟨hs, o5, e5, h5, ⟨u1, u2⟩, u3⟩ := law_q5 (xs := xs) (z4 := z4) (z5 := z5) (R := rows'.map rowD) (B := 1000) (h4.mono (by omega)) w1 w2
  obtain ⟨hs', o6, e6, h6, v1, v2⟩ := law_q6 (xs := xs) (z4 := z4) (z5 := z5) (R := rows'.map rowD) (B := 800) (h5.mono (by omega)) w1 w2 u1 u2 u3
  obtain ⟨m3, e7⟩ := law_body (xs := xs) (z4 := z4) (z5 := z5) (o := o6) (B := 100) (rows := rows') (g := g) ⟨s1, s2, w1, w2, s3, s4, s5⟩ v2 v1 (h6.mono (by omega))
  refine ⟨[], ?_⟩
  unfold f_law b_law
  rw [fnD1]
  show lv 0 (_) = _
  have : ∀ r, (sSeq q_law_1 (sSeq q_law_2 (sSeq q_law_3 (sSeq q_law_4 (sSeq q_law_5 (sSeq q_law_6 r)))))) [some (.scr xs), none, none, none, none, none, none, none, none, none, none, none, none, none, none, none, none, none, none] [[]] = r [some (.scr xs), some (.loc 0 0), some (.int (w : Int)), some (.loc 0 1), z4, z5, some (.loc 0 2), none, none, none, none, none, none, none, none, none, none, none, none] [[o6, .lst (rows'.map rowD), .lst (hs'.map hdD)]] := fun r => by
    rw [sSeq_run, e1, kS_nx, sSeq_run, e2, kS_nx, sSeq_run, e3, kS_nx, sSeq_run, e4, kS_nx, sSeq_run, e5, kS_nx, sSeq_run, e6, kS_nx]
  have hx : lv 0 ((sSeq q_law_1 (sSeq q_law_2 (sSeq q_law_3 (sSeq q_law_4 (sSeq q_law_5 (sSeq q_law_6 (sSeq q_law_7 (sSeq q_law_8 (sSeq q_law_9 (sSeq q_law_10 (sSeq q_law_11 (sSeq q_law_12 (sSeq q_law_13 (sSeq q_law_14 (sSeq q_law_15 (sSeq q_law_16 (sSeq q_law_17 (sSeq q_law_18 (sSeq q_law_19 (sSeq q_law_20 q_law_21)))))))))))))))))))) [some (.scr xs), none, none, none, none, none, none, none, none, none, none, none, none, none, none, none, none, none, none] [[]]) = .ok (.bl true) [] := by
    rw [this, e7]; rfl
  exact hx
end
end P_k18
/-! each def computes this (printed by gen.py) -/
namespace P_k18
open PySem L2 PySem.Spec PyProof.Rows LN
def top (i : Nat) : Stmt := PySem.Challenge.pw_lookingnets_k18_whole_scores_and_looks.main.body.getD i (.Pass ⟨0, 0, 0, 0⟩)
abbrev s_fraction : Stmt := top 5
abbrev s_plus : Stmt := top 6
abbrev s_times : Stmt := top 7
abbrev s_below : Stmt := top 8
abbrev s_with_gifts : Stmt := top 11
abbrev s_add_gift : Stmt := top 12
abbrev s_weighted_sum : Stmt := top 13
abbrev s_column_mean : Stmt := top 14
abbrev s_scores : Stmt := top 15
abbrev s_looked_at : Stmt := top 16
abbrev s_heads_done : Stmt := top 17
abbrev s_law_bag : Stmt := top 19
abbrev s_law_draw : Stmt := top 20
abbrev s_law_of : Stmt := top 21
abbrev s_law_like : Stmt := top 22
abbrev s_law_gcd : Stmt := top 23
abbrev s_law_low : Stmt := top 24
abbrev s_law_great : Stmt := top 25
abbrev s_law_factor : Stmt := top 26
abbrev s_law_number : Stmt := top 27
abbrev s_law_is_fraction : Stmt := top 28
abbrev s_law_common : Stmt := top 29
abbrev s_law_state : Stmt := top 30
abbrev s_law_scored : Stmt := top 31
abbrev s_law_seen : Stmt := top 32
abbrev s_law_after_heads : Stmt := top 33
abbrev s_law_same : Stmt := top 34
abbrev s_law_row_same : Stmt := top 35
abbrev s_law_rows_same : Stmt := top 36
abbrev s_law_light : Stmt := top 37
abbrev s_law_lights : Stmt := top 38
abbrev s_law_rows : Stmt := top 39
abbrev s_law_head : Stmt := top 40
abbrev s_law_look_fits : Stmt := top 41
abbrev s_law_raised : Stmt := top 42
abbrev s_law : Stmt := top 43
abbrev FnP (K : PySem.W.Frag) (x : Str) (st : Stmt) (dvs : List V) (f : Addr) (fd : FuncData) : Prop := FunD K x x (defArgs st) (defBody st) (defScope st) dvs [] f fd
structure Txt (c : Ct) (mg : Str → Option Value) where
  a_fraction : Addr
  d_fraction : FuncData
  F_fraction : FnP c.K "fraction" s_fraction [V.int 1] a_fraction d_fraction
  g_fraction : mg "fraction" = some (.ref a_fraction)
  a_plus : Addr
  d_plus : FuncData
  F_plus : FnP c.K "plus" s_plus [] a_plus d_plus
  g_plus : mg "plus" = some (.ref a_plus)
  a_times : Addr
  d_times : FuncData
  F_times : FnP c.K "times" s_times [] a_times d_times
  g_times : mg "times" = some (.ref a_times)
  a_below : Addr
  d_below : FuncData
  F_below : FnP c.K "below" s_below [] a_below d_below
  g_below : mg "below" = some (.ref a_below)
  a_with_gifts : Addr
  d_with_gifts : FuncData
  F_with_gifts : FnP c.K "with_gifts" s_with_gifts [] a_with_gifts d_with_gifts
  g_with_gifts : mg "with_gifts" = some (.ref a_with_gifts)
  a_add_gift : Addr
  d_add_gift : FuncData
  F_add_gift : FnP c.K "add_gift" s_add_gift [] a_add_gift d_add_gift
  g_add_gift : mg "add_gift" = some (.ref a_add_gift)
  a_weighted_sum : Addr
  d_weighted_sum : FuncData
  F_weighted_sum : FnP c.K "weighted_sum" s_weighted_sum [] a_weighted_sum d_weighted_sum
  g_weighted_sum : mg "weighted_sum" = some (.ref a_weighted_sum)
  a_column_mean : Addr
  d_column_mean : FuncData
  F_column_mean : FnP c.K "column_mean" s_column_mean [] a_column_mean d_column_mean
  g_column_mean : mg "column_mean" = some (.ref a_column_mean)
  a_scores : Addr
  d_scores : FuncData
  F_scores : FnP c.K "scores" s_scores [] a_scores d_scores
  g_scores : mg "scores" = some (.ref a_scores)
  a_looked_at : Addr
  d_looked_at : FuncData
  F_looked_at : FnP c.K "looked_at" s_looked_at [] a_looked_at d_looked_at
  g_looked_at : mg "looked_at" = some (.ref a_looked_at)
  a_heads_done : Addr
  d_heads_done : FuncData
  F_heads_done : FnP c.K "heads_done" s_heads_done [] a_heads_done d_heads_done
  g_heads_done : mg "heads_done" = some (.ref a_heads_done)
  a_law_bag : Addr
  d_law_bag : FuncData
  F_law_bag : FnP c.K "_law_bag" s_law_bag [] a_law_bag d_law_bag
  g_law_bag : mg "_law_bag" = some (.ref a_law_bag)
  a_law_draw : Addr
  d_law_draw : FuncData
  F_law_draw : FnP c.K "_law_draw" s_law_draw [] a_law_draw d_law_draw
  g_law_draw : mg "_law_draw" = some (.ref a_law_draw)
  a_law_of : Addr
  d_law_of : FuncData
  F_law_of : FnP c.K "_law_of" s_law_of [] a_law_of d_law_of
  g_law_of : mg "_law_of" = some (.ref a_law_of)
  a_law_like : Addr
  d_law_like : FuncData
  F_law_like : FnP c.K "_law_like" s_law_like [] a_law_like d_law_like
  g_law_like : mg "_law_like" = some (.ref a_law_like)
  a_law_gcd : Addr
  d_law_gcd : FuncData
  F_law_gcd : FnP c.K "_law_gcd" s_law_gcd [] a_law_gcd d_law_gcd
  g_law_gcd : mg "_law_gcd" = some (.ref a_law_gcd)
  a_law_low : Addr
  d_law_low : FuncData
  F_law_low : FnP c.K "_law_low" s_law_low [] a_law_low d_law_low
  g_law_low : mg "_law_low" = some (.ref a_law_low)
  a_law_great : Addr
  d_law_great : FuncData
  F_law_great : FnP c.K "_law_great" s_law_great [] a_law_great d_law_great
  g_law_great : mg "_law_great" = some (.ref a_law_great)
  a_law_factor : Addr
  d_law_factor : FuncData
  F_law_factor : FnP c.K "_law_factor" s_law_factor [] a_law_factor d_law_factor
  g_law_factor : mg "_law_factor" = some (.ref a_law_factor)
  a_law_number : Addr
  d_law_number : FuncData
  F_law_number : FnP c.K "_law_number" s_law_number [] a_law_number d_law_number
  g_law_number : mg "_law_number" = some (.ref a_law_number)
  a_law_is_fraction : Addr
  d_law_is_fraction : FuncData
  F_law_is_fraction : FnP c.K "_law_is_fraction" s_law_is_fraction [] a_law_is_fraction d_law_is_fraction
  g_law_is_fraction : mg "_law_is_fraction" = some (.ref a_law_is_fraction)
  a_law_common : Addr
  d_law_common : FuncData
  F_law_common : FnP c.K "_law_common" s_law_common [] a_law_common d_law_common
  g_law_common : mg "_law_common" = some (.ref a_law_common)
  a_law_state : Addr
  d_law_state : FuncData
  F_law_state : FnP c.K "_law_state" s_law_state [] a_law_state d_law_state
  g_law_state : mg "_law_state" = some (.ref a_law_state)
  a_law_scored : Addr
  d_law_scored : FuncData
  F_law_scored : FnP c.K "_law_scored" s_law_scored [] a_law_scored d_law_scored
  g_law_scored : mg "_law_scored" = some (.ref a_law_scored)
  a_law_seen : Addr
  d_law_seen : FuncData
  F_law_seen : FnP c.K "_law_seen" s_law_seen [] a_law_seen d_law_seen
  g_law_seen : mg "_law_seen" = some (.ref a_law_seen)
  a_law_after_heads : Addr
  d_law_after_heads : FuncData
  F_law_after_heads : FnP c.K "_law_after_heads" s_law_after_heads [] a_law_after_heads d_law_after_heads
  g_law_after_heads : mg "_law_after_heads" = some (.ref a_law_after_heads)
  a_law_same : Addr
  d_law_same : FuncData
  F_law_same : FnP c.K "_law_same" s_law_same [] a_law_same d_law_same
  g_law_same : mg "_law_same" = some (.ref a_law_same)
  a_law_row_same : Addr
  d_law_row_same : FuncData
  F_law_row_same : FnP c.K "_law_row_same" s_law_row_same [] a_law_row_same d_law_row_same
  g_law_row_same : mg "_law_row_same" = some (.ref a_law_row_same)
  a_law_rows_same : Addr
  d_law_rows_same : FuncData
  F_law_rows_same : FnP c.K "_law_rows_same" s_law_rows_same [] a_law_rows_same d_law_rows_same
  g_law_rows_same : mg "_law_rows_same" = some (.ref a_law_rows_same)
  a_law_light : Addr
  d_law_light : FuncData
  F_law_light : FnP c.K "_law_light" s_law_light [] a_law_light d_law_light
  g_law_light : mg "_law_light" = some (.ref a_law_light)
  a_law_lights : Addr
  d_law_lights : FuncData
  F_law_lights : FnP c.K "_law_lights" s_law_lights [] a_law_lights d_law_lights
  g_law_lights : mg "_law_lights" = some (.ref a_law_lights)
  a_law_rows : Addr
  d_law_rows : FuncData
  F_law_rows : FnP c.K "_law_rows" s_law_rows [] a_law_rows d_law_rows
  g_law_rows : mg "_law_rows" = some (.ref a_law_rows)
  a_law_head : Addr
  d_law_head : FuncData
  F_law_head : FnP c.K "_law_head" s_law_head [] a_law_head d_law_head
  g_law_head : mg "_law_head" = some (.ref a_law_head)
  a_law_look_fits : Addr
  d_law_look_fits : FuncData
  F_law_look_fits : FnP c.K "_law_look_fits" s_law_look_fits [] a_law_look_fits d_law_look_fits
  g_law_look_fits : mg "_law_look_fits" = some (.ref a_law_look_fits)
  a_law_raised : Addr
  d_law_raised : FuncData
  F_law_raised : FnP c.K "_law_raised" s_law_raised [] a_law_raised d_law_raised
  g_law_raised : mg "_law_raised" = some (.ref a_law_raised)
  a_law : Addr
  d_law : FuncData
  F_law : FnP c.K "law" s_law [] a_law d_law
  g_law : mg "law" = some (.ref a_law)
  n_abs : mg "abs" = none
  n_all : mg "all" = none
  n_bool : mg "bool" = none
  n_dict : mg "dict" = none
  n_enumerate : mg "enumerate" = none
  n_int : mg "int" = none
  n_isinstance : mg "isinstance" = none
  n_len : mg "len" = none
  n_list : mg "list" = none
  n_max : mg "max" = none
  n_range : mg "range" = none
  n_str : mg "str" = none
  n_sum : mg "sum" = none
  n_tuple : mg "tuple" = none
  n_zip : mg "zip" = none
  m_gcd : mg "gcd" = some (.builtin "math.gcd")
  v_ZERO : Value
  g_ZERO : mg "ZERO" = some v_ZERO
  w_ZERO : V
  r_ZERO : RelV w_ZERO v_ZERO
  c_ZERO : ∀ W, Rp c W c_ZERO w_ZERO
section
variable {c : Ct} {mg : Str → Option Value} (T : Txt c mg)
theorem Txt.k_fraction : PySem.W.keepIn c.K (.ref T.a_fraction) = true := T.F_fraction.kp
theorem Txt.b_fraction : Binds c.K T.d_fraction ["p", "q"] [] := by
  obtain ⟨ds, h1, h2⟩ := T.F_fraction.binds1 (ps := ["p", "q"]) 2 1 (by simp) rfl (fun _ _ _ _ _ _ _ us its h1 h2 => by
    match us, h1, its, h2 with
    | [_, _], _, [_], _ => exact ⟨_, rfl, rfl⟩)
  cases h1
  exact h2
theorem Txt.k_plus : PySem.W.keepIn c.K (.ref T.a_plus) = true := T.F_plus.kp
theorem Txt.b_plus : Binds c.K T.d_plus ["a", "b"] [] := T.F_plus.bindsN fun _ _ _ _ _ _ us hl => match us, hl with | [_, _], _ => rfl
theorem Txt.k_times : PySem.W.keepIn c.K (.ref T.a_times) = true := T.F_times.kp
theorem Txt.b_times : Binds c.K T.d_times ["a", "b"] [] := T.F_times.bindsN fun _ _ _ _ _ _ us hl => match us, hl with | [_, _], _ => rfl
theorem Txt.k_below : PySem.W.keepIn c.K (.ref T.a_below) = true := T.F_below.kp
theorem Txt.b_below : Binds c.K T.d_below ["a", "b"] [] := T.F_below.bindsN fun _ _ _ _ _ _ us hl => match us, hl with | [_, _], _ => rfl
theorem Txt.k_with_gifts : PySem.W.keepIn c.K (.ref T.a_with_gifts) = true := T.F_with_gifts.kp
theorem Txt.b_with_gifts : Binds c.K T.d_with_gifts ["row", "gifts"] [] := T.F_with_gifts.bindsN fun _ _ _ _ _ _ us hl => match us, hl with | [_, _], _ => rfl
theorem Txt.k_add_gift : PySem.W.keepIn c.K (.ref T.a_add_gift) = true := T.F_add_gift.kp
theorem Txt.b_add_gift : Binds c.K T.d_add_gift ["gifts", "column", "gift"] [] := T.F_add_gift.bindsN fun _ _ _ _ _ _ us hl => match us, hl with | [_, _, _], _ => rfl
theorem Txt.k_weighted_sum : PySem.W.keepIn c.K (.ref T.a_weighted_sum) = true := T.F_weighted_sum.kp
theorem Txt.b_weighted_sum : Binds c.K T.d_weighted_sum ["row", "terms", "start"] [] := T.F_weighted_sum.bindsN fun _ _ _ _ _ _ us hl => match us, hl with | [_, _, _], _ => rfl
theorem Txt.k_column_mean : PySem.W.keepIn c.K (.ref T.a_column_mean) = true := T.F_column_mean.kp
theorem Txt.b_column_mean : Binds c.K T.d_column_mean ["seen", "column"] [] := T.F_column_mean.bindsN fun _ _ _ _ _ _ us hl => match us, hl with | [_, _], _ => rfl
theorem Txt.k_scores : PySem.W.keepIn c.K (.ref T.a_scores) = true := T.F_scores.kp
theorem Txt.b_scores : Binds c.K T.d_scores ["rows", "head", "at"] [] := T.F_scores.bindsN fun _ _ _ _ _ _ us hl => match us, hl with | [_, _, _], _ => rfl
theorem Txt.k_looked_at : PySem.W.keepIn c.K (.ref T.a_looked_at) = true := T.F_looked_at.kp
theorem Txt.b_looked_at : Binds c.K T.d_looked_at ["rows", "head", "at"] [] := T.F_looked_at.bindsN fun _ _ _ _ _ _ us hl => match us, hl with | [_, _, _], _ => rfl
theorem Txt.k_heads_done : PySem.W.keepIn c.K (.ref T.a_heads_done) = true := T.F_heads_done.kp
theorem Txt.b_heads_done : Binds c.K T.d_heads_done ["rows", "heads"] [] := T.F_heads_done.bindsN fun _ _ _ _ _ _ us hl => match us, hl with | [_, _], _ => rfl
theorem Txt.k_law_bag : PySem.W.keepIn c.K (.ref T.a_law_bag) = true := T.F_law_bag.kp
theorem Txt.b_law_bag : Binds c.K T.d_law_bag ["_law_script"] [] := T.F_law_bag.bindsN fun _ _ _ _ _ _ us hl => match us, hl with | [_], _ => rfl
theorem Txt.k_law_draw : PySem.W.keepIn c.K (.ref T.a_law_draw) = true := T.F_law_draw.kp
theorem Txt.b_law_draw : Binds c.K T.d_law_draw ["_law_bag_here", "_law_many"] [] := T.F_law_draw.bindsN fun _ _ _ _ _ _ us hl => match us, hl with | [_, _], _ => rfl
theorem Txt.k_law_of : PySem.W.keepIn c.K (.ref T.a_law_of) = true := T.F_law_of.kp
theorem Txt.b_law_of : Binds c.K T.d_law_of ["_law_bag_here", "_law_things"] [] := T.F_law_of.bindsN fun _ _ _ _ _ _ us hl => match us, hl with | [_, _], _ => rfl
theorem Txt.k_law_like : PySem.W.keepIn c.K (.ref T.a_law_like) = true := T.F_law_like.kp
theorem Txt.b_law_like : Binds c.K T.d_law_like ["_law_found", "_law_due"] [] := T.F_law_like.bindsN fun _ _ _ _ _ _ us hl => match us, hl with | [_, _], _ => rfl
theorem Txt.k_law_gcd : PySem.W.keepIn c.K (.ref T.a_law_gcd) = true := T.F_law_gcd.kp
theorem Txt.b_law_gcd : Binds c.K T.d_law_gcd ["_law_a", "_law_b"] [] := T.F_law_gcd.bindsN fun _ _ _ _ _ _ us hl => match us, hl with | [_, _], _ => rfl
theorem Txt.k_law_low : PySem.W.keepIn c.K (.ref T.a_law_low) = true := T.F_law_low.kp
theorem Txt.b_law_low : Binds c.K T.d_law_low ["_law_p", "_law_q"] [] := T.F_law_low.bindsN fun _ _ _ _ _ _ us hl => match us, hl with | [_, _], _ => rfl
theorem Txt.k_law_great : PySem.W.keepIn c.K (.ref T.a_law_great) = true := T.F_law_great.kp
theorem Txt.b_law_great : Binds c.K T.d_law_great ["_law_bag_here"] [] := T.F_law_great.bindsN fun _ _ _ _ _ _ us hl => match us, hl with | [_], _ => rfl
theorem Txt.k_law_factor : PySem.W.keepIn c.K (.ref T.a_law_factor) = true := T.F_law_factor.kp
theorem Txt.b_law_factor : Binds c.K T.d_law_factor ["_law_bag_here"] [] := T.F_law_factor.bindsN fun _ _ _ _ _ _ us hl => match us, hl with | [_], _ => rfl
theorem Txt.k_law_number : PySem.W.keepIn c.K (.ref T.a_law_number) = true := T.F_law_number.kp
theorem Txt.b_law_number : Binds c.K T.d_law_number ["_law_x"] [] := T.F_law_number.bindsN fun _ _ _ _ _ _ us hl => match us, hl with | [_], _ => rfl
theorem Txt.k_law_is_fraction : PySem.W.keepIn c.K (.ref T.a_law_is_fraction) = true := T.F_law_is_fraction.kp
theorem Txt.b_law_is_fraction : Binds c.K T.d_law_is_fraction ["_law_x"] [] := T.F_law_is_fraction.bindsN fun _ _ _ _ _ _ us hl => match us, hl with | [_], _ => rfl
theorem Txt.k_law_common : PySem.W.keepIn c.K (.ref T.a_law_common) = true := T.F_law_common.kp
theorem Txt.b_law_common : Binds c.K T.d_law_common ["_law_parts"] [] := T.F_law_common.bindsN fun _ _ _ _ _ _ us hl => match us, hl with | [_], _ => rfl
theorem Txt.k_law_state : PySem.W.keepIn c.K (.ref T.a_law_state) = true := T.F_law_state.kp
theorem Txt.b_law_state : Binds c.K T.d_law_state ["_law_rows_y"] [] := T.F_law_state.bindsN fun _ _ _ _ _ _ us hl => match us, hl with | [_], _ => rfl
theorem Txt.k_law_scored : PySem.W.keepIn c.K (.ref T.a_law_scored) = true := T.F_law_scored.kp
theorem Txt.b_law_scored : Binds c.K T.d_law_scored ["_law_state_here", "_law_head_z", "_law_at_z"] [] := T.F_law_scored.bindsN fun _ _ _ _ _ _ us hl => match us, hl with | [_, _, _], _ => rfl
theorem Txt.k_law_seen : PySem.W.keepIn c.K (.ref T.a_law_seen) = true := T.F_law_seen.kp
theorem Txt.b_law_seen : Binds c.K T.d_law_seen ["_law_state_here", "_law_head_z", "_law_at_z"] [] := T.F_law_seen.bindsN fun _ _ _ _ _ _ us hl => match us, hl with | [_, _, _], _ => rfl
theorem Txt.k_law_after_heads : PySem.W.keepIn c.K (.ref T.a_law_after_heads) = true := T.F_law_after_heads.kp
theorem Txt.b_law_after_heads : Binds c.K T.d_law_after_heads ["_law_state_here", "_law_heads_y"] [] := T.F_law_after_heads.bindsN fun _ _ _ _ _ _ us hl => match us, hl with | [_, _], _ => rfl
theorem Txt.k_law_same : PySem.W.keepIn c.K (.ref T.a_law_same) = true := T.F_law_same.kp
theorem Txt.b_law_same : Binds c.K T.d_law_same ["_law_told", "_law_upper", "_law_lower"] [] := T.F_law_same.bindsN fun _ _ _ _ _ _ us hl => match us, hl with | [_, _, _], _ => rfl
theorem Txt.k_law_row_same : PySem.W.keepIn c.K (.ref T.a_law_row_same) = true := T.F_law_row_same.kp
theorem Txt.b_law_row_same : Binds c.K T.d_law_row_same ["_law_told", "_law_row", "_law_lower"] [] := T.F_law_row_same.bindsN fun _ _ _ _ _ _ us hl => match us, hl with | [_, _, _], _ => rfl
theorem Txt.k_law_rows_same : PySem.W.keepIn c.K (.ref T.a_law_rows_same) = true := T.F_law_rows_same.kp
theorem Txt.b_law_rows_same : Binds c.K T.d_law_rows_same ["_law_told", "_law_state_here"] [] := T.F_law_rows_same.bindsN fun _ _ _ _ _ _ us hl => match us, hl with | [_, _], _ => rfl
theorem Txt.k_law_light : PySem.W.keepIn c.K (.ref T.a_law_light) = true := T.F_law_light.kp
theorem Txt.b_law_light : Binds c.K T.d_law_light ["_law_bag_here"] [] := T.F_law_light.bindsN fun _ _ _ _ _ _ us hl => match us, hl with | [_], _ => rfl
theorem Txt.k_law_lights : PySem.W.keepIn c.K (.ref T.a_law_lights) = true := T.F_law_lights.kp
theorem Txt.b_law_lights : Binds c.K T.d_law_lights ["_law_bag_here", "_law_many", "_law_width", "_law_most"] [] := T.F_law_lights.bindsN fun _ _ _ _ _ _ us hl => match us, hl with | [_, _, _, _], _ => rfl
theorem Txt.k_law_rows : PySem.W.keepIn c.K (.ref T.a_law_rows) = true := T.F_law_rows.kp
theorem Txt.b_law_rows : Binds c.K T.d_law_rows ["_law_bag_here", "_law_many", "_law_width"] [] := T.F_law_rows.bindsN fun _ _ _ _ _ _ us hl => match us, hl with | [_, _, _], _ => rfl
theorem Txt.k_law_head : PySem.W.keepIn c.K (.ref T.a_law_head) = true := T.F_law_head.kp
theorem Txt.b_law_head : Binds c.K T.d_law_head ["_law_bag_here", "_law_width"] [] := T.F_law_head.bindsN fun _ _ _ _ _ _ us hl => match us, hl with | [_, _], _ => rfl
theorem Txt.k_law_look_fits : PySem.W.keepIn c.K (.ref T.a_law_look_fits) = true := T.F_law_look_fits.kp
theorem Txt.b_law_look_fits : Binds c.K T.d_law_look_fits ["_law_bag_here", "_law_rows_y", "_law_state_here", "_law_head_z", "_law_at_z"] [] := T.F_law_look_fits.bindsN fun _ _ _ _ _ _ us hl => match us, hl with | [_, _, _, _, _], _ => rfl
theorem Txt.k_law_raised : PySem.W.keepIn c.K (.ref T.a_law_raised) = true := T.F_law_raised.kp
theorem Txt.b_law_raised : Binds c.K T.d_law_raised ["_law_items", "_law_factor_here"] [] := T.F_law_raised.bindsN fun _ _ _ _ _ _ us hl => match us, hl with | [_, _], _ => rfl
theorem Txt.k_law : PySem.W.keepIn c.K (.ref T.a_law) = true := T.F_law.kp
theorem Txt.b_law : Binds c.K T.d_law ["_law_script"] [] := T.F_law.bindsN fun _ _ _ _ _ _ us hl => match us, hl with | [_], _ => rfl
theorem g_k0_rps {c : Ct} {W : Wd} {ds zs : List D} {vs us : List V} (h : Rps c W ds vs) (k : Rps c W zs us) : Rps c W (g_k0 ds zs) (g_k0 vs us) := by
  have l1 := h.length
  have l2 := k.length
  by_cases e : ds.length = 0 ∧ zs.length = 3
  · match ds, zs, vs, us, e, l1, l2 with
    | [], [b0, b1, b2], [], [u0, u1, u2], _, _, _ =>
      simp only [Rps, List.cons.injEq] at h k
      simp only [g_k0, Rps]
      simp only [Rps, List.cons.injEq, exists_and_left, exists_and_right, exists_eq_left, exists_eq_left', and_assoc] at *
      simp_all
  · have z1 : g_k0 ds zs = [] := by
      unfold g_k0
      split
      · exact absurd ⟨rfl, rfl⟩ e
      · rfl
    have z2 : g_k0 vs us = [] := by
      unfold g_k0
      split
      · exact absurd ⟨l1, l2⟩ e
      · rfl
    rw [z1, z2]; exact Rps.nil
theorem Txt.k0 : KBinds c.K T.d_scores ["rows", "head", "at"] ["rows", "head", "at"] g_k0 g_k0 := kb_of (ks := ["rows", "head", "at"]) (g := g_k0) T.F_scores (fun _ _ _ _ _ _ us ws hl => by
    unfold g_k0 at hl ⊢
    split at hl
    · rfl
    · cases hl) (fun {vs us zs ws} r1 r2 => by
    have l1 := r1.length
    have l2 := r2.length
    by_cases e : vs.length = 0 ∧ zs.length = 3
    · match vs, zs, us, ws, e, l1, l2, r1, r2 with
      | [], [b0, b1, b2], [], [u0, u1, u2], _, _, _, r1, r2 =>
        match r1, r2 with
        | .nil, .cons q0 (.cons q1 (.cons q2 (.nil))) => exact .cons q0 (.cons q1 (.cons q2 (.nil)))
    · have z1 : g_k0 vs zs = [] := by
        unfold g_k0
        split
        · exact absurd ⟨rfl, rfl⟩ e
        · rfl
      have z2 : g_k0 us ws = [] := by
        unfold g_k0
        split
        · exact absurd ⟨l1, l2⟩ e
        · rfl
      rw [z1, z2]; exact .nil)
theorem g_k1_rps {c : Ct} {W : Wd} {ds zs : List D} {vs us : List V} (h : Rps c W ds vs) (k : Rps c W zs us) : Rps c W (g_k1 ds zs) (g_k1 vs us) := by
  have l1 := h.length
  have l2 := k.length
  by_cases e : ds.length = 0 ∧ zs.length = 3
  · match ds, zs, vs, us, e, l1, l2 with
    | [], [b0, b1, b2], [], [u0, u1, u2], _, _, _ =>
      simp only [Rps, List.cons.injEq] at h k
      simp only [g_k1, Rps]
      simp only [Rps, List.cons.injEq, exists_and_left, exists_and_right, exists_eq_left, exists_eq_left', and_assoc] at *
      simp_all
  · have z1 : g_k1 ds zs = [] := by
      unfold g_k1
      split
      · exact absurd ⟨rfl, rfl⟩ e
      · rfl
    have z2 : g_k1 vs us = [] := by
      unfold g_k1
      split
      · exact absurd ⟨l1, l2⟩ e
      · rfl
    rw [z1, z2]; exact Rps.nil
theorem Txt.k1 : KBinds c.K T.d_looked_at ["rows", "head", "at"] ["rows", "head", "at"] g_k1 g_k1 := kb_of (ks := ["rows", "head", "at"]) (g := g_k1) T.F_looked_at (fun _ _ _ _ _ _ us ws hl => by
    unfold g_k1 at hl ⊢
    split at hl
    · rfl
    · cases hl) (fun {vs us zs ws} r1 r2 => by
    have l1 := r1.length
    have l2 := r2.length
    by_cases e : vs.length = 0 ∧ zs.length = 3
    · match vs, zs, us, ws, e, l1, l2, r1, r2 with
      | [], [b0, b1, b2], [], [u0, u1, u2], _, _, _, r1, r2 =>
        match r1, r2 with
        | .nil, .cons q0 (.cons q1 (.cons q2 (.nil))) => exact .cons q0 (.cons q1 (.cons q2 (.nil)))
    · have z1 : g_k1 vs zs = [] := by
        unfold g_k1
        split
        · exact absurd ⟨rfl, rfl⟩ e
        · rfl
      have z2 : g_k1 us ws = [] := by
        unfold g_k1
        split
        · exact absurd ⟨l1, l2⟩ e
        · rfl
      rw [z1, z2]; exact .nil)
theorem g_k2_rps {c : Ct} {W : Wd} {ds zs : List D} {vs us : List V} (h : Rps c W ds vs) (k : Rps c W zs us) : Rps c W (g_k2 ds zs) (g_k2 vs us) := by
  have l1 := h.length
  have l2 := k.length
  by_cases e : ds.length = 0 ∧ zs.length = 2
  · match ds, zs, vs, us, e, l1, l2 with
    | [], [b0, b1], [], [u0, u1], _, _, _ =>
      simp only [Rps, List.cons.injEq] at h k
      simp only [g_k2, Rps]
      simp only [Rps, List.cons.injEq, exists_and_left, exists_and_right, exists_eq_left, exists_eq_left', and_assoc] at *
      simp_all
  · have z1 : g_k2 ds zs = [] := by
      unfold g_k2
      split
      · exact absurd ⟨rfl, rfl⟩ e
      · rfl
    have z2 : g_k2 vs us = [] := by
      unfold g_k2
      split
      · exact absurd ⟨l1, l2⟩ e
      · rfl
    rw [z1, z2]; exact Rps.nil
theorem Txt.k2 : KBinds c.K T.d_heads_done ["rows", "heads"] ["rows", "heads"] g_k2 g_k2 := kb_of (ks := ["rows", "heads"]) (g := g_k2) T.F_heads_done (fun _ _ _ _ _ _ us ws hl => by
    unfold g_k2 at hl ⊢
    split at hl
    · rfl
    · cases hl) (fun {vs us zs ws} r1 r2 => by
    have l1 := r1.length
    have l2 := r2.length
    by_cases e : vs.length = 0 ∧ zs.length = 2
    · match vs, zs, us, ws, e, l1, l2, r1, r2 with
      | [], [b0, b1], [], [u0, u1], _, _, _, r1, r2 =>
        match r1, r2 with
        | .nil, .cons q0 (.cons q1 (.nil)) => exact .cons q0 (.cons q1 (.nil))
    · have z1 : g_k2 vs zs = [] := by
        unfold g_k2
        split
        · exact absurd ⟨rfl, rfl⟩ e
        · rfl
      have z2 : g_k2 us ws = [] := by
        unfold g_k2
        split
        · exact absurd ⟨l1, l2⟩ e
        · rfl
      rw [z1, z2]; exact .nil)
end
theorem sc_fraction : FnScope ["p", "q", "common"] ["p", "q"] (defScope s_fraction) := ⟨rfl, rfl, rfl, by decide +kernel, rfl, by decide +kernel, by decide +kernel⟩
theorem sc_plus : FnScope ["a", "b"] ["a", "b"] (defScope s_plus) := ⟨rfl, rfl, rfl, by decide +kernel, rfl, by decide +kernel, by decide +kernel⟩
theorem sc_times : FnScope ["a", "b"] ["a", "b"] (defScope s_times) := ⟨rfl, rfl, rfl, by decide +kernel, rfl, by decide +kernel, by decide +kernel⟩
theorem sc_below : FnScope ["a", "b"] ["a", "b"] (defScope s_below) := ⟨rfl, rfl, rfl, by decide +kernel, rfl, by decide +kernel, by decide +kernel⟩
theorem sc_with_gifts : FnScope ["row", "gifts", "fresh", "column", "gift"] ["row", "gifts"] (defScope s_with_gifts) := ⟨rfl, rfl, rfl, by decide +kernel, rfl, by decide +kernel, by decide +kernel⟩
theorem sc_add_gift : FnScope ["gifts", "column", "gift"] ["gifts", "column", "gift"] (defScope s_add_gift) := ⟨rfl, rfl, rfl, by decide +kernel, rfl, by decide +kernel, by decide +kernel⟩
theorem sc_weighted_sum : FnScope ["row", "terms", "start", "total", "column", "factor"] ["row", "terms", "start"] (defScope s_weighted_sum) := ⟨rfl, rfl, rfl, by decide +kernel, rfl, by decide +kernel, by decide +kernel⟩
theorem sc_column_mean : FnScope ["seen", "column", "total", "row"] ["seen", "column"] (defScope s_column_mean) := ⟨rfl, rfl, rfl, by decide +kernel, rfl, by decide +kernel, by decide +kernel⟩
theorem sc_scores : FnScope ["rows", "head", "at", "looking", "terms", "here", "there", "factor", "row"] ["rows", "head", "at"] (defScope s_scores) := ⟨rfl, rfl, rfl, by decide +kernel, rfl, by decide +kernel, by decide +kernel⟩
theorem sc_looked_at : FnScope ["rows", "head", "at", "found", "greatest", "score", "index"] ["rows", "head", "at"] (defScope s_looked_at) := ⟨rfl, rfl, rfl, by decide +kernel, rfl, by decide +kernel, by decide +kernel⟩
theorem sc_heads_done : FnScope ["rows", "heads", "changed", "at", "row", "gifts", "head", "seen", "target", "source", "factor", "mean", "index"] ["rows", "heads"] (defScope s_heads_done) := ⟨rfl, rfl, rfl, by decide +kernel, rfl, by decide +kernel, by decide +kernel⟩
theorem sc_law_bag : FnScope ["_law_script", "_law_mixed", "_law_cell"] ["_law_script"] (defScope s_law_bag) := ⟨rfl, rfl, rfl, by decide +kernel, rfl, by decide +kernel, by decide +kernel⟩
theorem sc_law_draw : FnScope ["_law_bag_here", "_law_many", "_law_cell", "_law_digit"] ["_law_bag_here", "_law_many"] (defScope s_law_draw) := ⟨rfl, rfl, rfl, by decide +kernel, rfl, by decide +kernel, by decide +kernel⟩
theorem sc_law_of : FnScope ["_law_bag_here", "_law_things"] ["_law_bag_here", "_law_things"] (defScope s_law_of) := ⟨rfl, rfl, rfl, by decide +kernel, rfl, by decide +kernel, by decide +kernel⟩
theorem sc_law_like : FnScope ["_law_found", "_law_due", "_law_one", "_law_two"] ["_law_found", "_law_due"] (defScope s_law_like) := ⟨rfl, rfl, rfl, by decide +kernel, rfl, by decide +kernel, by decide +kernel⟩
theorem sc_law_gcd : FnScope ["_law_a", "_law_b"] ["_law_a", "_law_b"] (defScope s_law_gcd) := ⟨rfl, rfl, rfl, by decide +kernel, rfl, by decide +kernel, by decide +kernel⟩
theorem sc_law_low : FnScope ["_law_p", "_law_q", "_law_g"] ["_law_p", "_law_q"] (defScope s_law_low) := ⟨rfl, rfl, rfl, by decide +kernel, rfl, by decide +kernel, by decide +kernel⟩
theorem sc_law_great : FnScope ["_law_bag_here"] ["_law_bag_here"] (defScope s_law_great) := ⟨rfl, rfl, rfl, by decide +kernel, rfl, by decide +kernel, by decide +kernel⟩
theorem sc_law_factor : FnScope ["_law_bag_here", "_law_way", "_law_sign"] ["_law_bag_here"] (defScope s_law_factor) := ⟨rfl, rfl, rfl, by decide +kernel, rfl, by decide +kernel, by decide +kernel⟩
theorem sc_law_number : FnScope ["_law_x"] ["_law_x"] (defScope s_law_number) := ⟨rfl, rfl, rfl, by decide +kernel, rfl, by decide +kernel, by decide +kernel⟩
theorem sc_law_is_fraction : FnScope ["_law_x"] ["_law_x"] (defScope s_law_is_fraction) := ⟨rfl, rfl, rfl, by decide +kernel, rfl, by decide +kernel, by decide +kernel⟩
theorem sc_law_common : FnScope ["_law_parts", "_law_found", "_law_one"] ["_law_parts"] (defScope s_law_common) := ⟨rfl, rfl, rfl, by decide +kernel, rfl, by decide +kernel, by decide +kernel⟩
theorem sc_law_state : FnScope ["_law_rows_y", "_law_lower", "_law_row", "_law_one"] ["_law_rows_y"] (defScope s_law_state) := ⟨rfl, rfl, rfl, by decide +kernel, rfl, by decide +kernel, by decide +kernel⟩
theorem sc_law_scored : FnScope ["_law_state_here", "_law_head_z", "_law_at_z", "_law_lower", "_law_rows_y", "_law_more", "_law_found", "_law_one", "_law_here", "_law_old", "_law_row"] ["_law_state_here", "_law_head_z", "_law_at_z"] (defScope s_law_scored) := ⟨rfl, rfl, rfl, by decide +kernel, rfl, by decide +kernel, by decide +kernel⟩
theorem sc_law_seen : FnScope ["_law_state_here", "_law_head_z", "_law_at_z", "_law_found", "_law_best", "_law_k"] ["_law_state_here", "_law_head_z", "_law_at_z"] (defScope s_law_seen) := ⟨rfl, rfl, rfl, by decide +kernel, rfl, by decide +kernel, by decide +kernel⟩
theorem sc_law_after_heads : FnScope ["_law_state_here", "_law_heads_y", "_law_lower", "_law_rows_y", "_law_more", "_law_head_z", "_law_made", "_law_at_z", "_law_spots", "_law_one", "_law_total", "_law_row", "_law_k"] ["_law_state_here", "_law_heads_y"] (defScope s_law_after_heads) := ⟨rfl, rfl, rfl, by decide +kernel, rfl, by decide +kernel, by decide +kernel⟩
theorem sc_law_same : FnScope ["_law_told", "_law_upper", "_law_lower"] ["_law_told", "_law_upper", "_law_lower"] (defScope s_law_same) := ⟨rfl, rfl, rfl, by decide +kernel, rfl, by decide +kernel, by decide +kernel⟩
theorem sc_law_row_same : FnScope ["_law_told", "_law_row", "_law_lower", "_law_one", "_law_two"] ["_law_told", "_law_row", "_law_lower"] (defScope s_law_row_same) := ⟨rfl, rfl, rfl, by decide +kernel, rfl, by decide +kernel, by decide +kernel⟩
theorem sc_law_rows_same : FnScope ["_law_told", "_law_state_here", "_law_one", "_law_two"] ["_law_told", "_law_state_here"] (defScope s_law_rows_same) := ⟨rfl, rfl, rfl, by decide +kernel, rfl, by decide +kernel, by decide +kernel⟩
theorem sc_law_light : FnScope ["_law_bag_here"] ["_law_bag_here"] (defScope s_law_light) := ⟨rfl, rfl, rfl, by decide +kernel, rfl, by decide +kernel, by decide +kernel⟩
theorem sc_law_lights : FnScope ["_law_bag_here", "_law_many", "_law_width", "_law_most", "_law_found", "_law_k", "_law_j"] ["_law_bag_here", "_law_many", "_law_width", "_law_most"] (defScope s_law_lights) := ⟨rfl, rfl, rfl, by decide +kernel, rfl, by decide +kernel, by decide +kernel⟩
theorem sc_law_rows : FnScope ["_law_bag_here", "_law_many", "_law_width", "_law_found", "_law_k", "_law_way", "_law_row", "_law_j"] ["_law_bag_here", "_law_many", "_law_width"] (defScope s_law_rows) := ⟨rfl, rfl, rfl, by decide +kernel, rfl, by decide +kernel, by decide +kernel⟩
theorem sc_law_head : FnScope ["_law_bag_here", "_law_width"] ["_law_bag_here", "_law_width"] (defScope s_law_head) := ⟨rfl, rfl, rfl, by decide +kernel, rfl, by decide +kernel, by decide +kernel⟩
theorem sc_law_look_fits : FnScope ["_law_bag_here", "_law_rows_y", "_law_state_here", "_law_head_z", "_law_at_z", "_law_due", "_law_lower", "_law_told", "_law_k", "_law_seen_here", "_law_best"] ["_law_bag_here", "_law_rows_y", "_law_state_here", "_law_head_z", "_law_at_z"] (defScope s_law_look_fits) := ⟨rfl, rfl, rfl, by decide +kernel, rfl, by decide +kernel, by decide +kernel⟩
theorem sc_law_raised : FnScope ["_law_items", "_law_factor_here", "_law_one"] ["_law_items", "_law_factor_here"] (defScope s_law_raised) := ⟨rfl, rfl, rfl, by decide +kernel, rfl, by decide +kernel, by decide +kernel⟩
theorem sc_law : FnScope ["_law_script", "_law_bag_here", "_law_width", "_law_rows_y", "_law_k", "_law_j", "_law_heads_y", "_law_state_here", "_law_head_z", "_law_at_z", "_law_due", "_law_handed", "_law_told", "_law_kept", "_law_parted", "_law_one", "_law_factor_here", "_law_minus_y", "_law_found"] ["_law_script"] (defScope s_law) := ⟨rfl, rfl, rfl, by decide +kernel, rfl, by decide +kernel, by decide +kernel⟩
section
variable {P : Program} {w : World} {c : Ct} {mg : Str → Option Value} {base : Heap} (T : Txt c mg) (hck : CkOk c ck)
include T
include hck in
theorem ok_fraction : FnOk P w c.K mg base (L2.CX P w) 1 T.a_fraction T.d_fraction ["p", "q"] (spD c f_fraction) :=
  fnOkD T.F_fraction sc_fraction rfl rfl <| fun cdv A outer s H E hr => by
    have hu := hu_of hr
    have hu65 := hu65_of hr
    have hu66 := hu66_of hr
    exact (psd_cons (psd_if (ptd_cmp (op_eqA hu66) os_eqA (pd_var 1) pd_int (nomark _))
  (psd_one psd_never)
  psd_nil)
  (psd_cons (psd_asg (pd_bltM cr_gcd cs_gcd T.m_gcd (pad_cons (pd_var 0) (pad_cons (pd_var 1) pad_nil))) (pgd_name 2 sc_fraction.nd))
  (psd_cons (psd_if (ptd_cmp op_lt os_cmp (pd_var 1) pd_int (nomark _))
  (psd_one (psd_asg (pd_un un_neg us_neg (pd_var 2)) (pgd_name 2 sc_fraction.nd)))
  psd_nil)
  (psd_one (psd_ret (pd_tup (pad_cons (pd_op op_fdivA os_fdiv (pd_var 0) (pd_var 2)) (pad_cons (pd_op op_fdivA os_fdiv (pd_var 1) (pd_var 2)) pad_nil))))))))
include hck in
theorem ok_plus (G_fraction : FnOk P w c.K mg base (L2.CX P w) 1 T.a_fraction T.d_fraction ["p", "q"] (spD c f_fraction)) : FnOk P w c.K mg base (L2.CX P w) 2 T.a_plus T.d_plus ["a", "b"] (spD c f_plus) :=
  fnOkD T.F_plus sc_plus rfl rfl <| fun cdv A outer s H E hr => by
    have hu := hu_of hr
    have hu65 := hu65_of hr
    have hu66 := hu66_of hr
    exact (psd_one (psd_ret (pd_call G_fraction (hr.mono (by decide)) T.g_fraction T.k_fraction T.b_fraction .nil (fun W => Rps.nil) (passE rfl rfl rfl rfl) (pad_cons (pd_op op_addAll (os_add finN_F) (pd_op op_mulA os_mul (pd_ixT hck hu (pd_var 0) pd_int) (pd_ixT hck hu (pd_var 1) pd_int)) (pd_op op_mulA os_mul (pd_ixT hck hu (pd_var 1) pd_int) (pd_ixT hck hu (pd_var 0) pd_int))) (pad_cons (pd_op op_mulA os_mul (pd_ixT hck hu (pd_var 0) pd_int) (pd_ixT hck hu (pd_var 1) pd_int)) pad_nil)))))
include hck in
theorem ok_times (G_fraction : FnOk P w c.K mg base (L2.CX P w) 1 T.a_fraction T.d_fraction ["p", "q"] (spD c f_fraction)) : FnOk P w c.K mg base (L2.CX P w) 2 T.a_times T.d_times ["a", "b"] (spD c f_times) :=
  fnOkD T.F_times sc_times rfl rfl <| fun cdv A outer s H E hr => by
    have hu := hu_of hr
    have hu65 := hu65_of hr
    have hu66 := hu66_of hr
    exact (psd_one (psd_ret (pd_call G_fraction (hr.mono (by decide)) T.g_fraction T.k_fraction T.b_fraction .nil (fun W => Rps.nil) (passE rfl rfl rfl rfl) (pad_cons (pd_op op_mulA os_mul (pd_ixT hck hu (pd_var 0) pd_int) (pd_ixT hck hu (pd_var 1) pd_int)) (pad_cons (pd_op op_mulA os_mul (pd_ixT hck hu (pd_var 0) pd_int) (pd_ixT hck hu (pd_var 1) pd_int)) pad_nil)))))
include hck in
theorem ok_below : FnOk P w c.K mg base (L2.CX P w) 1 T.a_below T.d_below ["a", "b"] (spD c f_below) :=
  fnOkD T.F_below sc_below rfl rfl <| fun cdv A outer s H E hr => by
    have hu := hu_of hr
    have hu65 := hu65_of hr
    have hu66 := hu66_of hr
    exact (psd_one (psd_ret (pd_cmp op_lt os_cmp (pd_op op_mulA os_mul (pd_ixT hck hu (pd_var 0) pd_int) (pd_ixT hck hu (pd_var 1) pd_int)) (pd_op op_mulA os_mul (pd_ixT hck hu (pd_var 1) pd_int) (pd_ixT hck hu (pd_var 0) pd_int)) (nomark _))))
include hck in
theorem ok_with_gifts (G_plus : FnOk P w c.K mg base (L2.CX P w) 2 T.a_plus T.d_plus ["a", "b"] (spD c f_plus)) : FnOk P w c.K mg base (L2.CX P w) 3 T.a_with_gifts T.d_with_gifts ["row", "gifts"] (spD c f_with_gifts) :=
  fnOkD T.F_with_gifts sc_with_gifts rfl rfl <| fun cdv A outer s H E hr => by
    have hu := hu_of hr
    have hu65 := hu65_of hr
    have hu66 := hu66_of hr
    exact (psd_cons (psd_if (ptd_cmp (op_eqA hu66) os_eqA (pd_blt cr_lenA cs_lenA T.n_len (by decide +kernel) (pad_cons (pd_var 1) pad_nil)) pd_int (nomark _))
  (psd_one (psd_ret (pd_var 0)))
  psd_nil)
  (psd_cons (psd_asg (pd_tyc (cr_lstA rfl) (cs_lstA finN_M) T.n_list (by decide +kernel) (pad_cons (pd_var 0) pad_nil)) (pgd_name 2 sc_with_gifts.nd))
  (psd_cons (psd_lock 1 (psd_for (passes_of rfl) rfl (pid_items (pd_var 1)) (pgd_tup rfl (pgsd_cons (pgd_name 3 sc_with_gifts.nd) (pgsd_cons (pgd_name 4 sc_with_gifts.nd) pgsd_nil)) (gsCons_len (gN_pure 3) (gsCons_len (gN_pure 4) gsNil_len)))
  (psd_one (psd_asg (pd_call G_plus (hr.mono (by decide)) T.g_plus T.k_plus T.b_plus .nil (fun W => Rps.nil) (passE rfl rfl rfl rfl) (pad_cons (pd_ixT hck hu (pd_var 2) (pd_var 3)) (pad_cons (pd_var 4) pad_nil))) (pgd_sub (pd_var 2) (pd_var 3) (set_all hu) (ss_setT hck))))))
  (psd_one (psd_ret (pd_tyc call_tuple_of cs_tup T.n_tuple (by decide +kernel) (pad_cons (pd_var 2) pad_nil)))))))
include hck in
theorem ok_add_gift (G_plus : FnOk P w c.K mg base (L2.CX P w) 2 T.a_plus T.d_plus ["a", "b"] (spD c f_plus)) : FnOk P w c.K mg base (L2.CX P w) 3 T.a_add_gift T.d_add_gift ["gifts", "column", "gift"] (spD c f_add_gift) :=
  fnOkD T.F_add_gift sc_add_gift rfl rfl <| fun cdv A outer s H E hr => by
    have hu := hu_of hr
    have hu65 := hu65_of hr
    have hu66 := hu66_of hr
    exact (psd_one (psd_asg (pd_if (ptd_inT hck hu (pd_var 1) (pd_var 0)) (pd_call G_plus (hr.mono (by decide)) T.g_plus T.k_plus T.b_plus .nil (fun W => Rps.nil) (passE rfl rfl rfl rfl) (pad_cons (pd_ixT hck hu (pd_var 0) (pd_var 1)) (pad_cons (pd_var 2) pad_nil))) (pd_var 2)) (pgd_sub (pd_var 0) (pd_var 1) (set_all hu) (ss_setT hck))))
include hck in
theorem ok_weighted_sum (G_plus : FnOk P w c.K mg base (L2.CX P w) 2 T.a_plus T.d_plus ["a", "b"] (spD c f_plus)) (G_times : FnOk P w c.K mg base (L2.CX P w) 2 T.a_times T.d_times ["a", "b"] (spD c f_times)) : FnOk P w c.K mg base (L2.CX P w) 3 T.a_weighted_sum T.d_weighted_sum ["row", "terms", "start"] (spD c f_weighted_sum) :=
  fnOkD T.F_weighted_sum sc_weighted_sum rfl rfl <| fun cdv A outer s H E hr => by
    have hu := hu_of hr
    have hu65 := hu65_of hr
    have hu66 := hu66_of hr
    exact (psd_cons (psd_asg (pd_var 2) (pgd_name 3 sc_weighted_sum.nd))
  (psd_cons (psd_for (passes_of rfl) rfl (pid_any (pd_var 1)) (pgd_tup rfl (pgsd_cons (pgd_name 4 sc_weighted_sum.nd) (pgsd_cons (pgd_name 5 sc_weighted_sum.nd) pgsd_nil)) (gsCons_len (gN_pure 4) (gsCons_len (gN_pure 5) gsNil_len)))
  (psd_one (psd_if (ptd_cmp (op_neA hu66) os_neA (pd_ixT hck hu (pd_ixT hck hu (pd_var 0) (pd_var 4)) pd_int) pd_int (nomark _))
  (psd_one (psd_asg (pd_call G_plus (hr.mono (by decide)) T.g_plus T.k_plus T.b_plus .nil (fun W => Rps.nil) (passE rfl rfl rfl rfl) (pad_cons (pd_var 3) (pad_cons (pd_call G_times (hr.mono (by decide)) T.g_times T.k_times T.b_times .nil (fun W => Rps.nil) (passE rfl rfl rfl rfl) (pad_cons (pd_ixT hck hu (pd_var 0) (pd_var 4)) (pad_cons (pd_var 5) pad_nil))) pad_nil))) (pgd_name 3 sc_weighted_sum.nd)))
  psd_nil)))
  (psd_one (psd_ret (pd_var 3)))))
include hck in
theorem ok_column_mean (G_plus : FnOk P w c.K mg base (L2.CX P w) 2 T.a_plus T.d_plus ["a", "b"] (spD c f_plus)) (G_times : FnOk P w c.K mg base (L2.CX P w) 2 T.a_times T.d_times ["a", "b"] (spD c f_times)) (G_fraction : FnOk P w c.K mg base (L2.CX P w) 1 T.a_fraction T.d_fraction ["p", "q"] (spD c f_fraction)) : FnOk P w c.K mg base (L2.CX P w) 3 T.a_column_mean T.d_column_mean ["seen", "column"] (spD c f_column_mean) :=
  fnOkD T.F_column_mean sc_column_mean rfl rfl <| fun cdv A outer s H E hr => by
    have hu := hu_of hr
    have hu65 := hu65_of hr
    have hu66 := hu66_of hr
    exact (psd_cons (psd_asg (pd_glob rfl T.g_ZERO T.r_ZERO fun W => T.c_ZERO W) (pgd_name 2 sc_column_mean.nd))
  (psd_cons (psd_for (passes_of rfl) rfl (pid_any (pd_var 0)) (pgd_name 3 sc_column_mean.nd)
  (psd_one (psd_if (ptd_cmp (op_neA hu66) os_neA (pd_ixT hck hu (pd_ixT hck hu (pd_var 3) (pd_var 1)) pd_int) pd_int (nomark _))
  (psd_one (psd_asg (pd_call G_plus (hr.mono (by decide)) T.g_plus T.k_plus T.b_plus .nil (fun W => Rps.nil) (passE rfl rfl rfl rfl) (pad_cons (pd_var 2) (pad_cons (pd_ixT hck hu (pd_var 3) (pd_var 1)) pad_nil))) (pgd_name 2 sc_column_mean.nd)))
  psd_nil)))
  (psd_cons (psd_if (ptd_cmp (op_eqA hu66) os_eqA (pd_ixT hck hu (pd_var 2) pd_int) pd_int (nomark _))
  (psd_one (psd_ret (pd_glob rfl T.g_ZERO T.r_ZERO fun W => T.c_ZERO W)))
  psd_nil)
  (psd_one (psd_ret (pd_call G_times (hr.mono (by decide)) T.g_times T.k_times T.b_times .nil (fun W => Rps.nil) (passE rfl rfl rfl rfl) (pad_cons (pd_var 2) (pad_cons (pd_call G_fraction (hr.mono (by decide)) T.g_fraction T.k_fraction T.b_fraction .nil (fun W => Rps.nil) (passE rfl rfl rfl rfl) (pad_cons pd_int (pad_cons (pd_blt cr_lenA cs_lenA T.n_len (by decide +kernel) (pad_cons (pd_var 0) pad_nil)) pad_nil))) pad_nil))))))))
include hck in
theorem ok_scores (G_times : FnOk P w c.K mg base (L2.CX P w) 2 T.a_times T.d_times ["a", "b"] (spD c f_times)) (G_weighted_sum : FnOk P w c.K mg base (L2.CX P w) 3 T.a_weighted_sum T.d_weighted_sum ["row", "terms", "start"] (spD c f_weighted_sum)) : FnOk P w c.K mg base (L2.CX P w) 4 T.a_scores T.d_scores ["rows", "head", "at"] (spD c f_scores) :=
  fnOkD T.F_scores sc_scores rfl rfl <| fun cdv A outer s H E hr => by
    have hu := hu_of hr
    have hu65 := hu65_of hr
    have hu66 := hu66_of hr
    exact (psd_cons (psd_asg (pd_ixT hck hu (pd_var 0) (pd_var 2)) (pgd_name 3 sc_scores.nd))
  (psd_cons (psd_asg (pd_lstM pad_nil) (pgd_name 4 sc_scores.nd))
  (psd_cons (psd_for (passes_of rfl) rfl (pid_any (pd_ixT hck hu (pd_var 1) pd_int)) (pgd_tup rfl (pgsd_cons (pgd_name 5 sc_scores.nd) (pgsd_cons (pgd_name 6 sc_scores.nd) (pgsd_cons (pgd_name 7 sc_scores.nd) pgsd_nil))) (gsCons_len (gN_pure 5) (gsCons_len (gN_pure 6) (gsCons_len (gN_pure 7) gsNil_len))))
  (psd_one (psd_if (ptd_cmp (op_neA hu66) os_neA (pd_ixT hck hu (pd_ixT hck hu (pd_var 3) (pd_var 5)) pd_int) pd_int (nomark _))
  (psd_one (psd_expr (pd_m PySem.F.plainAttrs_list PySem.F.slot_list_append PySem.F.type_list_append mt_append ty_list ms_app (pd_var 4) (pad_cons (pd_tup (pad_cons (pd_var 6) (pad_cons (pd_call G_times (hr.mono (by decide)) T.g_times T.k_times T.b_times .nil (fun W => Rps.nil) (passE rfl rfl rfl rfl) (pad_cons (pd_ixT hck hu (pd_var 3) (pd_var 5)) (pad_cons (pd_var 7) pad_nil))) pad_nil))) pad_nil))))
  psd_nil)))
  (psd_one (psd_ret (pd_lc (own := [("row", 8)]) fin_F rfl sc_scores.nd (pid_any (pd_var 0)) (by kernel_rfl) (fun _ _ _ _ _ => (pgd_name 8 sc_scores.nd)) (fun _ _ _ _ _ => ptsd_nil) (fun _ _ _ _ _ => (pd_call G_weighted_sum (hr.mono (by decide)) T.g_weighted_sum T.k_weighted_sum T.b_weighted_sum .nil (fun W => Rps.nil) passE0 (pad_cons (pd_var 8) (pad_cons (pd_var 4) (pad_cons (pd_glob rfl T.g_ZERO T.r_ZERO fun W => T.c_ZERO W) pad_nil)))))))))))
include hck in
theorem ok_looked_at (G_scores : FnOk P w c.K mg base (L2.CX P w) 4 T.a_scores T.d_scores ["rows", "head", "at"] (spD c f_scores)) (G_below : FnOk P w c.K mg base (L2.CX P w) 1 T.a_below T.d_below ["a", "b"] (spD c f_below)) : FnOk P w c.K mg base (L2.CX P w) 5 T.a_looked_at T.d_looked_at ["rows", "head", "at"] (spD c f_looked_at) :=
  fnOkMD T.F_looked_at sc_looked_at rfl rfl <| fun cdv A outer s H E hr => by
    have hu := hu_of hr
    have hu65 := hu65_of hr
    have hu66 := hu66_of hr
    exact (psd_cons (psd_asg (pd_call G_scores (hr.mono (by decide)) T.g_scores T.k_scores T.b_scores .nil (fun W => Rps.nil) (passE rfl rfl rfl rfl) (pad_cons (pd_var 0) (pad_cons (pd_var 1) (pad_cons (pd_var 2) pad_nil)))) (pgd_name 3 sc_looked_at.nd))
  (psd_cons (psd_asg (pd_ixT hck hu (pd_var 3) pd_int) (pgd_name 4 sc_looked_at.nd))
  (psd_cons (psd_for (passes_of rfl) rfl (pid_any (pd_var 3)) (pgd_name 5 sc_looked_at.nd)
  (psd_one (psd_if (ptd_tru (pd_call G_below (hr.mono (by decide)) T.g_below T.k_below T.b_below .nil (fun W => Rps.nil) (passE rfl rfl rfl rfl) (pad_cons (pd_var 4) (pad_cons (pd_var 5) pad_nil))))
  (psd_one (psd_asg (pd_var 5) (pgd_name 4 sc_looked_at.nd)))
  psd_nil)))
  (psd_one (psd_ret (pd_lc (own := [("index", 6), ("score", 5)]) fin_M rfl sc_looked_at.nd (pid_enumA T.n_enumerate (pd_var 3)) (by kernel_rfl) (fun _ _ _ _ _ => (pgd_tup rfl (pgsd_cons (pgd_name 6 sc_looked_at.nd) (pgsd_cons (pgd_name 5 sc_looked_at.nd) pgsd_nil)) (gsCons_len (gN_pure 6) (gsCons_len (gN_pure 5) gsNil_len)))) (fun _ _ _ _ _ => (ptsd_one (ptd_cmp (op_eqA hu66) os_eqA (pd_var 5) (pd_var 4) (nomark _)))) (fun _ _ _ _ _ => (pd_var 6))))))))
include hck in
theorem ok_heads_done (G_looked_at : FnOk P w c.K mg base (L2.CX P w) 5 T.a_looked_at T.d_looked_at ["rows", "head", "at"] (spD c f_looked_at)) (G_column_mean : FnOk P w c.K mg base (L2.CX P w) 3 T.a_column_mean T.d_column_mean ["seen", "column"] (spD c f_column_mean)) (G_add_gift : FnOk P w c.K mg base (L2.CX P w) 3 T.a_add_gift T.d_add_gift ["gifts", "column", "gift"] (spD c f_add_gift)) (G_times : FnOk P w c.K mg base (L2.CX P w) 2 T.a_times T.d_times ["a", "b"] (spD c f_times)) (G_with_gifts : FnOk P w c.K mg base (L2.CX P w) 3 T.a_with_gifts T.d_with_gifts ["row", "gifts"] (spD c f_with_gifts)) : FnOk P w c.K mg base (L2.CX P w) 6 T.a_heads_done T.d_heads_done ["rows", "heads"] (spD c f_heads_done) :=
  fnOkMD T.F_heads_done sc_heads_done rfl rfl <| fun cdv A outer s H E hr => by
    have hu := hu_of hr
    have hu65 := hu65_of hr
    have hu66 := hu66_of hr
    exact (psd_cons (psd_asg (pd_lstM pad_nil) (pgd_name 2 sc_heads_done.nd))
  (psd_cons (psd_for (passes_of rfl) rfl (pid_enumA T.n_enumerate (pd_var 0)) (pgd_tup rfl (pgsd_cons (pgd_name 3 sc_heads_done.nd) (pgsd_cons (pgd_name 4 sc_heads_done.nd) pgsd_nil)) (gsCons_len (gN_pure 3) (gsCons_len (gN_pure 4) gsNil_len)))
  (psd_cons (psd_asg pd_dict (pgd_name 5 sc_heads_done.nd))
  (psd_cons (psd_for (passes_of rfl) rfl (pid_any (pd_var 1)) (pgd_name 6 sc_heads_done.nd)
  (psd_cons (psd_setLc (own := [("index", 12)]) fin_F rfl sc_heads_done.nd (pid_any (pd_call G_looked_at (hr.mono (by decide)) T.g_looked_at T.k_looked_at T.b_looked_at .nil (fun W => Rps.nil) (passE rfl rfl rfl rfl) (pad_cons (pd_var 0) (pad_cons (pd_var 6) (pad_cons (pd_var 3) pad_nil))))) (by kernel_rfl) (fun _ _ _ _ _ => (pgd_name 12 sc_heads_done.nd)) (fun _ _ _ _ _ => ptsd_nil) (fun _ _ _ _ _ => (pd_ixT hck hu (pd_var 0) (pd_var 12))) (sw_true rfl rfl rfl (by decide +kernel)))
  (psd_one (psd_for (passes_of rfl) rfl (pid_any (pd_ixT hck hu (pd_var 6) pd_int)) (pgd_tup rfl (pgsd_cons (pgd_name 8 sc_heads_done.nd) (pgsd_cons (pgd_name 9 sc_heads_done.nd) (pgsd_cons (pgd_name 10 sc_heads_done.nd) pgsd_nil))) (gsCons_len (gN_pure 8) (gsCons_len (gN_pure 9) (gsCons_len (gN_pure 10) gsNil_len))))
  (psd_cons (psd_asg (pd_call G_column_mean (hr.mono (by decide)) T.g_column_mean T.k_column_mean T.b_column_mean .nil (fun W => Rps.nil) (passE rfl rfl rfl rfl) (pad_cons (pd_var 7) (pad_cons (pd_var 9) pad_nil))) (pgd_name 11 sc_heads_done.nd))
  (psd_one (psd_if (ptd_cmp (op_neA hu66) os_neA (pd_ixT hck hu (pd_var 11) pd_int) pd_int (nomark _))
  (psd_one (psd_expr (pd_call G_add_gift (hr.mono (by decide)) T.g_add_gift T.k_add_gift T.b_add_gift .nil (fun W => Rps.nil) (passE rfl rfl rfl rfl) (pad_cons (pd_var 5) (pad_cons (pd_var 8) (pad_cons (pd_call G_times (hr.mono (by decide)) T.g_times T.k_times T.b_times .nil (fun W => Rps.nil) (passE rfl rfl rfl rfl) (pad_cons (pd_var 10) (pad_cons (pd_var 11) pad_nil))) pad_nil))))))
  psd_nil)))))))
  (psd_one (psd_expr (pd_m PySem.F.plainAttrs_list PySem.F.slot_list_append PySem.F.type_list_append mt_append ty_list ms_app (pd_var 2) (pad_cons (pd_call G_with_gifts (hr.mono (by decide)) T.g_with_gifts T.k_with_gifts T.b_with_gifts .nil (fun W => Rps.nil) (passE rfl rfl rfl rfl) (pad_cons (pd_var 4) (pad_cons (pd_var 5) pad_nil))) pad_nil)))))))
  (psd_one (psd_ret (pd_var 2)))))
include hck in
theorem ok_law_bag : FnOk P w c.K mg base (L2.CX P w) 1 T.a_law_bag T.d_law_bag ["_law_script"] (spD c f_law_bag) :=
  fnOkMD T.F_law_bag sc_law_bag rfl rfl <| fun cdv A outer s H E hr => by
    have hu := hu_of hr
    have hu65 := hu65_of hr
    have hu66 := hu66_of hr
    exact (psd_cons (psd_asg pd_int (pgd_name 1 sc_law_bag.nd))
  (psd_cons (psd_for (passes_of rfl) rfl (pid_any (pd_sl sl_all (ss_all finN_F) (pd_var 0) pod_none (pod_some pd_int))) (pgd_name 2 sc_law_bag.nd)
  (psd_one (psd_asg (pd_op op_modN os_mod (pd_tyc cr_int cs_int T.n_int (by decide +kernel) (pad_cons (pd_op op_powA os_pow (pd_op op_addAll (os_add finN_F) (pd_op op_addAll (os_add finN_F) (pd_var 1) (pd_op op_modN os_mod (pd_tyc cr_int cs_int T.n_int (by decide +kernel) (pad_cons (pd_var 2) pad_nil)) pd_int)) pd_int) pd_int) pad_nil)) pd_int) (pgd_name 1 sc_law_bag.nd))))
  (psd_one (psd_ret (pd_lstM (pad_cons (pd_tyc (cr_lstA rfl) (cs_lstA finN_F) T.n_list (by decide +kernel) (pad_cons (pd_sl sl_all (ss_all finN_F) (pd_var 0) pod_none (pod_some pd_int)) pad_nil)) (pad_cons pd_int (pad_cons pd_int (pad_cons (pd_var 1) (pad_cons pd_int pad_nil))))))))))
include hck in
theorem ok_law_draw : FnOk P w c.K mg base (L2.CX P w) 1 T.a_law_draw T.d_law_draw ["_law_bag_here", "_law_many"] (spD c f_law_draw) :=
  fnOkD T.F_law_draw sc_law_draw rfl rfl <| fun cdv A outer s H E hr => by
    have hu := hu_of hr
    have hu65 := hu65_of hr
    have hu66 := hu66_of hr
    exact (psd_cons (psd_asg (pd_op op_addAll (os_add finN_F) (pd_ixT hck hu (pd_var 0) pd_int) pd_int) (pgd_sub (pd_var 0) pd_int (set_all hu) (ss_setT hck)))
  (psd_cons (psd_if (PW.pt (pw_dand (ptd_cmp (op_eqA hu66) os_eqA (pd_ixT hck hu (pd_var 0) pd_int) pd_int (nomark _)) (pw_dand1 (ptd_cmp op_lt os_cmp (pd_ixT hck hu (pd_var 0) pd_int) (pd_blt cr_lenA cs_lenA T.n_len (by decide +kernel) (pad_cons (pd_ixT hck hu (pd_var 0) pd_int) pad_nil)) (nomark _)))))
  (psd_cons (psd_asg (pd_tyc cr_int cs_int T.n_int (by decide +kernel) (pad_cons (pd_ixT hck hu (pd_ixT hck hu (pd_var 0) pd_int) (pd_ixT hck hu (pd_var 0) pd_int)) pad_nil)) (pgd_name 2 sc_law_draw.nd))
  (psd_cons (psd_asg (pd_op op_addAll (os_add finN_F) (pd_ixT hck hu (pd_var 0) pd_int) pd_int) (pgd_sub (pd_var 0) pd_int (set_all hu) (ss_setT hck)))
  (psd_one (psd_if (ptd_cmp op_ge os_cmp (pd_var 2) (pd_op op_powA os_pow pd_int pd_int) (nomark _))
  (psd_one (psd_asg (pd_var 2) (pgd_sub (pd_var 0) pd_int (set_all hu) (ss_setT hck))))
  (psd_one (psd_asg (pd_op op_modN os_mod (pd_tyc cr_int cs_int T.n_int (by decide +kernel) (pad_cons (pd_op op_powA os_pow (pd_op op_addAll (os_add finN_F) (pd_op op_addAll (os_add finN_F) (pd_ixT hck hu (pd_var 0) pd_int) (pd_op op_mulA os_mul (pd_op op_modN os_mod (pd_tyc cr_int cs_int T.n_int (by decide +kernel) (pad_cons (pd_var 2) pad_nil)) pd_int) pd_int)) pd_int) pd_int) pad_nil)) pd_int) (pgd_sub (pd_var 0) pd_int (set_all hu) (ss_setT hck))))))))
  psd_nil)
  (psd_cons (psd_if (ptd_cmp op_gt os_cmp (pd_ixT hck hu (pd_var 0) pd_int) pd_int (nomark _))
  (psd_cons (psd_asg (pd_op op_modN os_mod (pd_tyc cr_int cs_int T.n_int (by decide +kernel) (pad_cons (pd_ixT hck hu (pd_var 0) pd_int) pad_nil)) (pd_var 1)) (pgd_name 3 sc_law_draw.nd))
  (psd_cons (psd_asg (pd_op op_fdivA os_fdiv (pd_tyc cr_int cs_int T.n_int (by decide +kernel) (pad_cons (pd_ixT hck hu (pd_var 0) pd_int) pad_nil)) (pd_var 1)) (pgd_sub (pd_var 0) pd_int (set_all hu) (ss_setT hck)))
  (psd_one (psd_ret (pd_var 3)))))
  psd_nil)
  (psd_cons (psd_asg (pd_op op_modN os_mod (pd_tyc cr_int cs_int T.n_int (by decide +kernel) (pad_cons (pd_op op_powA os_pow (pd_op op_addAll (os_add finN_F) (pd_op op_addAll (os_add finN_F) (pd_ixT hck hu (pd_var 0) pd_int) (pd_op op_mulA os_mul (pd_ixT hck hu (pd_var 0) pd_int) pd_int)) pd_int) pd_int) pad_nil)) pd_int) (pgd_sub (pd_var 0) pd_int (set_all hu) (ss_setT hck)))
  (psd_one (psd_ret (pd_op op_modN os_mod (pd_tyc cr_int cs_int T.n_int (by decide +kernel) (pad_cons (pd_op op_fdivA os_fdiv (pd_ixT hck hu (pd_var 0) pd_int) pd_int) pad_nil)) (pd_var 1))))))))
include hck in
theorem ok_law_of (G_law_draw : FnOk P w c.K mg base (L2.CX P w) 1 T.a_law_draw T.d_law_draw ["_law_bag_here", "_law_many"] (spD c f_law_draw)) : FnOk P w c.K mg base (L2.CX P w) 2 T.a_law_of T.d_law_of ["_law_bag_here", "_law_things"] (spD c f_law_of) :=
  fnOkD T.F_law_of sc_law_of rfl rfl <| fun cdv A outer s H E hr => by
    have hu := hu_of hr
    have hu65 := hu65_of hr
    have hu66 := hu66_of hr
    exact (psd_one (psd_ret (pd_ixT hck hu (pd_var 1) (pd_call G_law_draw (hr.mono (by decide)) T.g_law_draw T.k_law_draw T.b_law_draw .nil (fun W => Rps.nil) (passE rfl rfl rfl rfl) (pad_cons (pd_var 0) (pad_cons (pd_blt cr_lenA cs_lenA T.n_len (by decide +kernel) (pad_cons (pd_var 1) pad_nil)) pad_nil))))))
include hck in
theorem ok_law_like : ∀ n : Nat, FnOk P w c.K mg base (L2.CX P w) (1 + n) T.a_law_like T.d_law_like ["_law_found", "_law_due"] (spD c (r_law_like n))
  | 0 => fnOk0
  | n + 1 => by
    have G_law_like := ok_law_like n
    exact fnOkD T.F_law_like sc_law_like rfl rfl <| fun cdv A outer s H E hr => by
      have hu := hu_of hr
      have hu65 := hu65_of hr
      have hu66 := hu66_of hr
      exact (psd_cons (psd_if (ptd_tru (pd_blt cr_isi cs_isi T.n_isinstance (by decide +kernel) (pad_cons (pd_var 1) (pad_cons (pd_tup (pad_cons (pd_ty (n := "list") rfl T.n_list (by decide +kernel)) (pad_cons (pd_ty (n := "tuple") rfl T.n_tuple (by decide +kernel)) pad_nil))) pad_nil))))
  (psd_cons (psd_if (PW.pt (pw_dor (ptd_cmp (op_neA hu66) os_neA (pd_blt cr_isi cs_isi T.n_isinstance (by decide +kernel) (pad_cons (pd_var 0) (pad_cons (pd_ty (n := "list") rfl T.n_list (by decide +kernel)) pad_nil))) (pd_blt cr_isi cs_isi T.n_isinstance (by decide +kernel) (pad_cons (pd_var 1) (pad_cons (pd_ty (n := "list") rfl T.n_list (by decide +kernel)) pad_nil))) (nomark _)) (pw_dor1 (ptd_cmp (op_neA hu66) os_neA (pd_blt cr_isi cs_isi T.n_isinstance (by decide +kernel) (pad_cons (pd_var 0) (pad_cons (pd_ty (n := "tuple") rfl T.n_tuple (by decide +kernel)) pad_nil))) (pd_blt cr_isi cs_isi T.n_isinstance (by decide +kernel) (pad_cons (pd_var 1) (pad_cons (pd_ty (n := "tuple") rfl T.n_tuple (by decide +kernel)) pad_nil))) (nomark _)))))
  (psd_one (psd_ret pd_bl))
  psd_nil)
  (psd_one (psd_ret (pd_and (pd_cmp (op_eqA hu66) os_eqA (pd_blt cr_lenA cs_lenA T.n_len (by decide +kernel) (pad_cons (pd_var 0) pad_nil)) (pd_blt cr_lenA cs_lenA T.n_len (by decide +kernel) (pad_cons (pd_var 1) pad_nil)) (nomark _)) (pd_one (pd_blt (cr_all rfl) cs_all T.n_all (by decide +kernel) (pad_cons (pd_lc (own := [("_law_one", 2), ("_law_two", 3)]) fin_F rfl sc_law_like.nd (pid_zip2 T.n_zip (pd_var 0) (pd_var 1)) (by kernel_rfl) (fun _ _ _ _ _ => (pgd_tup rfl (pgsd_cons (pgd_name 2 sc_law_like.nd) (pgsd_cons (pgd_name 3 sc_law_like.nd) pgsd_nil)) (gsCons_len (gN_pure 2) (gsCons_len (gN_pure 3) gsNil_len)))) (fun _ _ _ _ _ => ptsd_nil) (fun _ _ _ _ _ => (pd_call G_law_like hr T.g_law_like T.k_law_like T.b_law_like .nil (fun W => Rps.nil) passE0 (pad_cons (pd_var 2) (pad_cons (pd_var 3) pad_nil))))) pad_nil)))))))
  psd_nil)
  (psd_cons (psd_if (PW.pt (pw_dor (ptd_cmp op_isN os_isN (pd_var 1) pd_non (nomark _)) (pw_dor1 (ptd_cmp op_isN os_isN (pd_var 0) pd_non (nomark _)))))
  (psd_one (psd_ret (pd_and (pd_cmp op_isN os_isN (pd_var 1) pd_non (nomark _)) (pd_one (pd_cmp op_isN os_isN (pd_var 0) pd_non (nomark _))))))
  psd_nil)
  (psd_cons (psd_if (PW.pt (pw_dor (ptd_tru (pd_blt cr_isi cs_isi T.n_isinstance (by decide +kernel) (pad_cons (pd_var 0) (pad_cons (pd_tup (pad_cons (pd_ty (n := "list") rfl T.n_list (by decide +kernel)) (pad_cons (pd_ty (n := "tuple") rfl T.n_tuple (by decide +kernel)) (pad_cons (pd_ty (n := "dict") rfl T.n_dict (by decide +kernel)) pad_nil)))) pad_nil)))) (pw_dor1 (ptd_cmp (op_neA hu66) os_neA (pd_blt cr_isi cs_isi T.n_isinstance (by decide +kernel) (pad_cons (pd_var 0) (pad_cons (pd_ty (n := "bool") rfl T.n_bool (by decide +kernel)) pad_nil))) (pd_blt cr_isi cs_isi T.n_isinstance (by decide +kernel) (pad_cons (pd_var 1) (pad_cons (pd_ty (n := "bool") rfl T.n_bool (by decide +kernel)) pad_nil))) (nomark _)))))
  (psd_one (psd_ret pd_bl))
  psd_nil)
  (psd_cons (psd_if (PW.pt (pw_dor (ptd_cmp (op_neA hu66) os_neA (pd_blt cr_isi cs_isi T.n_isinstance (by decide +kernel) (pad_cons (pd_var 0) (pad_cons (pd_ty (n := "str") rfl T.n_str (by decide +kernel)) pad_nil))) (pd_blt cr_isi cs_isi T.n_isinstance (by decide +kernel) (pad_cons (pd_var 1) (pad_cons (pd_ty (n := "str") rfl T.n_str (by decide +kernel)) pad_nil))) (nomark _)) (pw_dor1 (ptd_cmp (op_neA hu66) os_neA (pd_blt cr_isi cs_isi T.n_isinstance (by decide +kernel) (pad_cons (pd_var 0) (pad_cons (pd_ty (n := "int") rfl T.n_int (by decide +kernel)) pad_nil))) (pd_blt cr_isi cs_isi T.n_isinstance (by decide +kernel) (pad_cons (pd_var 1) (pad_cons (pd_ty (n := "int") rfl T.n_int (by decide +kernel)) pad_nil))) (nomark _)))))
  (psd_one (psd_ret pd_bl))
  psd_nil)
  (psd_one (psd_ret (pd_cmp (op_eqA hu66) os_eqA (pd_var 0) (pd_var 1) (nomark _))))))))
include hck in
theorem ok_law_gcd : FnOk P w c.K mg base (L2.CX P w) 1 T.a_law_gcd T.d_law_gcd ["_law_a", "_law_b"] (spD c f_law_gcd) :=
  fnOkD T.F_law_gcd sc_law_gcd rfl rfl <| fun cdv A outer s H E hr => by
    have hu := hu_of hr
    have hu65 := hu65_of hr
    have hu66 := hu66_of hr
    exact (psd_cons (psd_par 0 1 rfl sc_law_gcd.nd (pad_cons (pd_blt call_abs cs_abs T.n_abs (by decide +kernel) (pad_cons (pd_var 0) pad_nil)) (pad_cons (pd_blt call_abs cs_abs T.n_abs (by decide +kernel) (pad_cons (pd_var 1) pad_nil)) pad_nil)))
  (psd_cons (psd_while (passes_of rfl) (ptd_cmp op_gt os_cmp (pd_var 1) pd_int (nomark _))
  (psd_one (psd_par 0 1 rfl sc_law_gcd.nd (pad_cons (pd_var 1) (pad_cons (pd_op op_modN os_mod (pd_tyc cr_int cs_int T.n_int (by decide +kernel) (pad_cons (pd_var 0) pad_nil)) (pd_var 1)) pad_nil)))))
  (psd_one (psd_ret (pd_var 0)))))
include hck in
theorem ok_law_low (G_law_gcd : FnOk P w c.K mg base (L2.CX P w) 1 T.a_law_gcd T.d_law_gcd ["_law_a", "_law_b"] (spD c f_law_gcd)) : FnOk P w c.K mg base (L2.CX P w) 2 T.a_law_low T.d_law_low ["_law_p", "_law_q"] (spD c f_law_low) :=
  fnOkD T.F_law_low sc_law_low rfl rfl <| fun cdv A outer s H E hr => by
    have hu := hu_of hr
    have hu65 := hu65_of hr
    have hu66 := hu66_of hr
    exact (psd_cons (psd_asg (pd_call G_law_gcd (hr.mono (by decide)) T.g_law_gcd T.k_law_gcd T.b_law_gcd .nil (fun W => Rps.nil) (passE rfl rfl rfl rfl) (pad_cons (pd_var 0) (pad_cons (pd_var 1) pad_nil))) (pgd_name 2 sc_law_low.nd))
  (psd_cons (psd_if (ptd_cmp op_lt os_cmp (pd_var 1) pd_int (nomark _))
  (psd_one (psd_asg (pd_un un_neg us_neg (pd_var 2)) (pgd_name 2 sc_law_low.nd)))
  psd_nil)
  (psd_one (psd_ret (pd_tup (pad_cons (pd_op op_fdivA os_fdiv (pd_var 0) (pd_var 2)) (pad_cons (pd_op op_fdivA os_fdiv (pd_var 1) (pd_var 2)) pad_nil)))))))
include hck in
theorem ok_law_great (G_law_draw : FnOk P w c.K mg base (L2.CX P w) 1 T.a_law_draw T.d_law_draw ["_law_bag_here", "_law_many"] (spD c f_law_draw)) : FnOk P w c.K mg base (L2.CX P w) 2 T.a_law_great T.d_law_great ["_law_bag_here"] (spD c f_law_great) :=
  fnOkD T.F_law_great sc_law_great rfl rfl <| fun cdv A outer s H E hr => by
    have hu := hu_of hr
    have hu65 := hu65_of hr
    have hu66 := hu66_of hr
    exact (psd_one (psd_ret (pd_op op_addAll (os_add finN_F) (pd_op op_mulA os_mul (pd_call G_law_draw (hr.mono (by decide)) T.g_law_draw T.k_law_draw T.b_law_draw .nil (fun W => Rps.nil) (passE rfl rfl rfl rfl) (pad_cons (pd_var 0) (pad_cons (pd_op op_powA os_pow pd_int pd_int) pad_nil))) (pd_op op_powA os_pow pd_int pd_int)) (pd_call G_law_draw (hr.mono (by decide)) T.g_law_draw T.k_law_draw T.b_law_draw .nil (fun W => Rps.nil) (passE rfl rfl rfl rfl) (pad_cons (pd_var 0) (pad_cons (pd_op op_powA os_pow pd_int pd_int) pad_nil))))))
include hck in
theorem ok_law_factor (G_law_draw : FnOk P w c.K mg base (L2.CX P w) 1 T.a_law_draw T.d_law_draw ["_law_bag_here", "_law_many"] (spD c f_law_draw)) (G_law_low : FnOk P w c.K mg base (L2.CX P w) 2 T.a_law_low T.d_law_low ["_law_p", "_law_q"] (spD c f_law_low)) (G_law_great : FnOk P w c.K mg base (L2.CX P w) 2 T.a_law_great T.d_law_great ["_law_bag_here"] (spD c f_law_great)) : FnOk P w c.K mg base (L2.CX P w) 3 T.a_law_factor T.d_law_factor ["_law_bag_here"] (spD c f_law_factor) :=
  fnOkD T.F_law_factor sc_law_factor rfl rfl <| fun cdv A outer s H E hr => by
    have hu := hu_of hr
    have hu65 := hu65_of hr
    have hu66 := hu66_of hr
    exact (psd_cons (psd_asg (pd_call G_law_draw (hr.mono (by decide)) T.g_law_draw T.k_law_draw T.b_law_draw .nil (fun W => Rps.nil) (passE rfl rfl rfl rfl) (pad_cons (pd_var 0) (pad_cons pd_int pad_nil))) (pgd_name 1 sc_law_factor.nd))
  (psd_cons (psd_if (ptd_cmp op_lt os_cmp (pd_var 1) pd_int (nomark _))
  (psd_one (psd_ret (pd_tup (pad_cons (pd_op op_sub os_sub (pd_call G_law_draw (hr.mono (by decide)) T.g_law_draw T.k_law_draw T.b_law_draw .nil (fun W => Rps.nil) (passE rfl rfl rfl rfl) (pad_cons (pd_var 0) (pad_cons pd_int pad_nil))) pd_int) (pad_cons pd_int pad_nil)))))
  psd_nil)
  (psd_cons (psd_if (ptd_cmp op_lt os_cmp (pd_var 1) pd_int (nomark _))
  (psd_one (psd_ret (pd_call G_law_low (hr.mono (by decide)) T.g_law_low T.k_law_low T.b_law_low .nil (fun W => Rps.nil) (passE rfl rfl rfl rfl) (pad_cons (pd_op op_sub os_sub (pd_call G_law_draw (hr.mono (by decide)) T.g_law_draw T.k_law_draw T.b_law_draw .nil (fun W => Rps.nil) (passE rfl rfl rfl rfl) (pad_cons (pd_var 0) (pad_cons pd_int pad_nil))) pd_int) (pad_cons (pd_op op_addAll (os_add finN_F) pd_int (pd_call G_law_draw (hr.mono (by decide)) T.g_law_draw T.k_law_draw T.b_law_draw .nil (fun W => Rps.nil) (passE rfl rfl rfl rfl) (pad_cons (pd_var 0) (pad_cons pd_int pad_nil)))) pad_nil)))))
  psd_nil)
  (psd_cons (psd_if (ptd_cmp (op_eqA hu66) os_eqA (pd_var 1) pd_int (nomark _))
  (psd_one (psd_ret (pd_call G_law_low (hr.mono (by decide)) T.g_law_low T.k_law_low T.b_law_low .nil (fun W => Rps.nil) (passE rfl rfl rfl rfl) (pad_cons (pd_op op_sub os_sub (pd_call G_law_draw (hr.mono (by decide)) T.g_law_draw T.k_law_draw T.b_law_draw .nil (fun W => Rps.nil) (passE rfl rfl rfl rfl) (pad_cons (pd_var 0) (pad_cons pd_int pad_nil))) pd_int) (pad_cons (pd_op op_addAll (os_add finN_F) pd_int (pd_call G_law_draw (hr.mono (by decide)) T.g_law_draw T.k_law_draw T.b_law_draw .nil (fun W => Rps.nil) (passE rfl rfl rfl rfl) (pad_cons (pd_var 0) (pad_cons pd_int pad_nil)))) pad_nil)))))
  psd_nil)
  (psd_cons (psd_asg (pd_op op_sub os_sub pd_int (pd_op op_mulA os_mul pd_int (pd_call G_law_draw (hr.mono (by decide)) T.g_law_draw T.k_law_draw T.b_law_draw .nil (fun W => Rps.nil) (passE rfl rfl rfl rfl) (pad_cons (pd_var 0) (pad_cons pd_int pad_nil))))) (pgd_name 2 sc_law_factor.nd))
  (psd_one (psd_ret (pd_call G_law_low (hr.mono (by decide)) T.g_law_low T.k_law_low T.b_law_low .nil (fun W => Rps.nil) (passE rfl rfl rfl rfl) (pad_cons (pd_op op_mulA os_mul (pd_var 2) (pd_call G_law_great (hr.mono (by decide)) T.g_law_great T.k_law_great T.b_law_great .nil (fun W => Rps.nil) (passE rfl rfl rfl rfl) (pad_cons (pd_var 0) pad_nil))) (pad_cons (pd_op op_addAll (os_add finN_F) pd_int (pd_op op_fdivA os_fdiv (pd_call G_law_great (hr.mono (by decide)) T.g_law_great T.k_law_great T.b_law_great .nil (fun W => Rps.nil) (passE rfl rfl rfl rfl) (pad_cons (pd_var 0) pad_nil)) (pd_op op_addAll (os_add finN_F) pd_int (pd_op op_mulA os_mul (pd_call G_law_draw (hr.mono (by decide)) T.g_law_draw T.k_law_draw T.b_law_draw .nil (fun W => Rps.nil) (passE rfl rfl rfl rfl) (pad_cons (pd_var 0) (pad_cons pd_int pad_nil))) (pd_op op_powA os_pow pd_int pd_int))))) pad_nil))))))))))
include hck in
theorem ok_law_number : FnOk P w c.K mg base (L2.CX P w) 1 T.a_law_number T.d_law_number ["_law_x"] (spD c f_law_number) :=
  fnOkD T.F_law_number sc_law_number rfl rfl <| fun cdv A outer s H E hr => by
    have hu := hu_of hr
    have hu65 := hu65_of hr
    have hu66 := hu66_of hr
    exact (psd_one (psd_ret (pd_and (pd_blt cr_isi cs_isi T.n_isinstance (by decide +kernel) (pad_cons (pd_var 0) (pad_cons (pd_ty (n := "int") rfl T.n_int (by decide +kernel)) pad_nil))) (pd_one (pd_not (pd_blt cr_isi cs_isi T.n_isinstance (by decide +kernel) (pad_cons (pd_var 0) (pad_cons (pd_ty (n := "bool") rfl T.n_bool (by decide +kernel)) pad_nil))))))))
include hck in
theorem ok_law_is_fraction (G_law_number : FnOk P w c.K mg base (L2.CX P w) 1 T.a_law_number T.d_law_number ["_law_x"] (spD c f_law_number)) (G_law_gcd : FnOk P w c.K mg base (L2.CX P w) 1 T.a_law_gcd T.d_law_gcd ["_law_a", "_law_b"] (spD c f_law_gcd)) : FnOk P w c.K mg base (L2.CX P w) 2 T.a_law_is_fraction T.d_law_is_fraction ["_law_x"] (spD c f_law_is_fraction) :=
  fnOkD T.F_law_is_fraction sc_law_is_fraction rfl rfl <| fun cdv A outer s H E hr => by
    have hu := hu_of hr
    have hu65 := hu65_of hr
    have hu66 := hu66_of hr
    exact (psd_cons (psd_if (PW.pt (pw_dor (ptd_not (ptd_tru (pd_blt cr_isi cs_isi T.n_isinstance (by decide +kernel) (pad_cons (pd_var 0) (pad_cons (pd_ty (n := "tuple") rfl T.n_tuple (by decide +kernel)) pad_nil))))) (pw_dor1 (ptd_cmp (op_neA hu66) os_neA (pd_blt cr_lenA cs_lenA T.n_len (by decide +kernel) (pad_cons (pd_var 0) pad_nil)) pd_int (nomark _)))))
  (psd_one (psd_ret pd_bl))
  psd_nil)
  (psd_cons (psd_if (PW.pt (pw_dor (ptd_not (ptd_tru (pd_call G_law_number (hr.mono (by decide)) T.g_law_number T.k_law_number T.b_law_number .nil (fun W => Rps.nil) (passE rfl rfl rfl rfl) (pad_cons (pd_ixT hck hu (pd_var 0) pd_int) pad_nil)))) (pw_dor1 (ptd_not (ptd_tru (pd_call G_law_number (hr.mono (by decide)) T.g_law_number T.k_law_number T.b_law_number .nil (fun W => Rps.nil) (passE rfl rfl rfl rfl) (pad_cons (pd_ixT hck hu (pd_var 0) pd_int) pad_nil)))))))
  (psd_one (psd_ret pd_bl))
  psd_nil)
  (psd_one (psd_ret (pd_and (pd_cmp op_ge os_cmp (pd_ixT hck hu (pd_var 0) pd_int) pd_int (nomark _)) (pd_one (pd_cmp (op_eqA hu66) os_eqA (pd_call G_law_gcd (hr.mono (by decide)) T.g_law_gcd T.k_law_gcd T.b_law_gcd .nil (fun W => Rps.nil) (passE rfl rfl rfl rfl) (pad_cons (pd_ixT hck hu (pd_var 0) pd_int) (pad_cons (pd_ixT hck hu (pd_var 0) pd_int) pad_nil))) pd_int (nomark _))))))))
include hck in
theorem ok_law_common (G_law_gcd : FnOk P w c.K mg base (L2.CX P w) 1 T.a_law_gcd T.d_law_gcd ["_law_a", "_law_b"] (spD c f_law_gcd)) : FnOk P w c.K mg base (L2.CX P w) 2 T.a_law_common T.d_law_common ["_law_parts"] (spD c f_law_common) :=
  fnOkD T.F_law_common sc_law_common rfl rfl <| fun cdv A outer s H E hr => by
    have hu := hu_of hr
    have hu65 := hu65_of hr
    have hu66 := hu66_of hr
    exact (psd_cons (psd_asg pd_int (pgd_name 1 sc_law_common.nd))
  (psd_cons (psd_for (passes_of rfl) rfl (pid_any (pd_var 0)) (pgd_name 2 sc_law_common.nd)
  (psd_one (psd_asg (pd_op op_mulA os_mul (pd_op op_fdivA os_fdiv (pd_var 1) (pd_call G_law_gcd (hr.mono (by decide)) T.g_law_gcd T.k_law_gcd T.b_law_gcd .nil (fun W => Rps.nil) (passE rfl rfl rfl rfl) (pad_cons (pd_var 1) (pad_cons (pd_ixT hck hu (pd_var 2) pd_int) pad_nil)))) (pd_ixT hck hu (pd_var 2) pd_int)) (pgd_name 1 sc_law_common.nd))))
  (psd_one (psd_ret (pd_var 1)))))
include hck in
theorem ok_law_state (G_law_common : FnOk P w c.K mg base (L2.CX P w) 2 T.a_law_common T.d_law_common ["_law_parts"] (spD c f_law_common)) : FnOk P w c.K mg base (L2.CX P w) 3 T.a_law_state T.d_law_state ["_law_rows_y"] (spD c f_law_state) :=
  fnOkD T.F_law_state sc_law_state rfl rfl <| fun cdv A outer s H E hr => by
    have hu := hu_of hr
    have hu65 := hu65_of hr
    have hu66 := hu66_of hr
    exact (psd_cons (psd_asg pd_int (pgd_name 1 sc_law_state.nd))
  (psd_cons (psd_for (passes_of rfl) rfl (pid_any (pd_var 0)) (pgd_name 2 sc_law_state.nd)
  (psd_one (psd_asg (pd_call G_law_common (hr.mono (by decide)) T.g_law_common T.k_law_common T.b_law_common .nil (fun W => Rps.nil) (passE rfl rfl rfl rfl) (pad_cons (pd_op op_addAll (os_add finN_F) (pd_lst (pad_cons (pd_tup (pad_cons pd_int (pad_cons (pd_var 1) pad_nil))) pad_nil)) (pd_tyc (cr_lstA rfl) (cs_lstA finN_F) T.n_list (by decide +kernel) (pad_cons (pd_var 2) pad_nil))) pad_nil)) (pgd_name 1 sc_law_state.nd))))
  (psd_one (psd_ret (pd_tup (pad_cons (pd_var 1) (pad_cons (pd_lc (own := [("_law_row", 2)]) fin_F rfl sc_law_state.nd (pid_any (pd_var 0)) (by kernel_rfl) (fun _ _ _ _ _ => (pgd_name 2 sc_law_state.nd)) (fun _ _ _ _ _ => ptsd_nil) (fun _ _ _ _ _ => (pd_lc (own := [("_law_one", 3)]) fin_F rfl sc_law_state.nd (pid_any (pd_var 2)) (by kernel_rfl) (fun _ _ _ _ _ => (pgd_name 3 sc_law_state.nd)) (fun _ _ _ _ _ => ptsd_nil) (fun _ _ _ _ _ => (pd_op op_mulA os_mul (pd_ixT hck hu (pd_var 3) pd_int) (pd_op op_fdivA os_fdiv (pd_var 1) (pd_ixT hck hu (pd_var 3) pd_int))))))) pad_nil)))))))
include hck in
theorem ok_law_scored (G_law_common : FnOk P w c.K mg base (L2.CX P w) 2 T.a_law_common T.d_law_common ["_law_parts"] (spD c f_law_common)) : FnOk P w c.K mg base (L2.CX P w) 3 T.a_law_scored T.d_law_scored ["_law_state_here", "_law_head_z", "_law_at_z"] (spD c f_law_scored) :=
  fnOkD T.F_law_scored sc_law_scored rfl rfl <| fun cdv A outer s H E hr => by
    have hu := hu_of hr
    have hu65 := hu65_of hr
    have hu66 := hu66_of hr
    exact (psd_cons (psd_asg (pd_var 0) (pgd_tup rfl (pgsd_cons (pgd_name 3 sc_law_scored.nd) (pgsd_cons (pgd_name 4 sc_law_scored.nd) pgsd_nil)) (gsCons_len (gN_pure 3) (gsCons_len (gN_pure 4) gsNil_len))))
  (psd_cons (psd_asg (pd_call G_law_common (hr.mono (by decide)) T.g_law_common T.k_law_common T.b_law_common .nil (fun W => Rps.nil) (passE rfl rfl rfl rfl) (pad_cons (pd_lc (own := [("_law_one", 7)]) fin_F rfl sc_law_scored.nd (pid_any (pd_ixT hck hu (pd_var 1) pd_int)) (by kernel_rfl) (fun _ _ _ _ _ => (pgd_name 7 sc_law_scored.nd)) (fun _ _ _ _ _ => ptsd_nil) (fun _ _ _ _ _ => (pd_ixT hck hu (pd_var 7) pd_int))) pad_nil)) (pgd_name 5 sc_law_scored.nd))
  (psd_cons (psd_asg (pd_op op_mulAA (os_mulA finN_F) (pd_lst (pad_cons pd_int pad_nil)) (pd_blt cr_lenA cs_lenA T.n_len (by decide +kernel) (pad_cons (pd_var 4) pad_nil))) (pgd_name 6 sc_law_scored.nd))
  (psd_cons (psd_for (passes_of rfl) rfl (pid_any (pd_ixT hck hu (pd_var 1) pd_int)) (pgd_name 7 sc_law_scored.nd)
  (psd_cons (psd_asg (pd_op op_mulA os_mul (pd_op op_mulA os_mul (pd_ixT hck hu (pd_ixT hck hu (pd_var 4) (pd_var 2)) (pd_ixT hck hu (pd_var 7) pd_int)) (pd_ixT hck hu (pd_ixT hck hu (pd_var 7) pd_int) pd_int)) (pd_op op_fdivA os_fdiv (pd_var 5) (pd_ixT hck hu (pd_ixT hck hu (pd_var 7) pd_int) pd_int))) (pgd_name 8 sc_law_scored.nd))
  (psd_one (psd_if (ptd_cmp (op_neA hu66) os_neA (pd_var 8) pd_int (nomark _))
  (psd_one (psd_setLc (own := [("_law_old", 9), ("_law_row", 10)]) fin_F rfl sc_law_scored.nd (pid_zip2 T.n_zip (pd_var 6) (pd_var 4)) (by kernel_rfl) (fun _ _ _ _ _ => (pgd_tup rfl (pgsd_cons (pgd_name 9 sc_law_scored.nd) (pgsd_cons (pgd_name 10 sc_law_scored.nd) pgsd_nil)) (gsCons_len (gN_pure 9) (gsCons_len (gN_pure 10) gsNil_len)))) (fun _ _ _ _ _ => ptsd_nil) (fun _ _ _ _ _ => (pd_op op_addAll (os_add finN_F) (pd_var 9) (pd_op op_mulA os_mul (pd_var 8) (pd_ixT hck hu (pd_var 10) (pd_ixT hck hu (pd_var 7) pd_int))))) (sw_true rfl rfl rfl (by decide +kernel))))
  psd_nil))))
  (psd_one (psd_ret (pd_tup (pad_cons (pd_var 6) (pad_cons (pd_op op_mulA os_mul (pd_op op_mulA os_mul (pd_var 5) (pd_var 3)) (pd_var 3)) pad_nil)))))))))
include hck in
theorem ok_law_seen (G_law_scored : FnOk P w c.K mg base (L2.CX P w) 3 T.a_law_scored T.d_law_scored ["_law_state_here", "_law_head_z", "_law_at_z"] (spD c f_law_scored)) : FnOk P w c.K mg base (L2.CX P w) 4 T.a_law_seen T.d_law_seen ["_law_state_here", "_law_head_z", "_law_at_z"] (spD c f_law_seen) :=
  fnOkD T.F_law_seen sc_law_seen rfl rfl <| fun cdv A outer s H E hr => by
    have hu := hu_of hr
    have hu65 := hu65_of hr
    have hu66 := hu66_of hr
    exact (psd_cons (psd_asg (pd_ixT hck hu (pd_call G_law_scored (hr.mono (by decide)) T.g_law_scored T.k_law_scored T.b_law_scored .nil (fun W => Rps.nil) (passE rfl rfl rfl rfl) (pad_cons (pd_var 0) (pad_cons (pd_var 1) (pad_cons (pd_var 2) pad_nil)))) pd_int) (pgd_name 3 sc_law_seen.nd))
  (psd_cons (psd_asg (pd_blt (cr_max rfl) cs_maxL T.n_max (by decide +kernel) (pad_cons (pd_var 3) pad_nil)) (pgd_name 4 sc_law_seen.nd))
  (psd_one (psd_ret (pd_lc (own := [("_law_k", 5)]) fin_F rfl sc_law_seen.nd (pid_rng1 T.n_range (pd_blt cr_lenA cs_lenA T.n_len (by decide +kernel) (pad_cons (pd_var 3) pad_nil))) (by kernel_rfl) (fun _ _ _ _ _ => (pgd_name 5 sc_law_seen.nd)) (fun _ _ _ _ _ => (ptsd_one (ptd_cmp (op_eqA hu66) os_eqA (pd_ixT hck hu (pd_var 3) (pd_var 5)) (pd_var 4) (nomark _)))) (fun _ _ _ _ _ => (pd_var 5)))))))
include hck in
theorem ok_law_after_heads (G_law_common : FnOk P w c.K mg base (L2.CX P w) 2 T.a_law_common T.d_law_common ["_law_parts"] (spD c f_law_common)) (G_law_seen : FnOk P w c.K mg base (L2.CX P w) 4 T.a_law_seen T.d_law_seen ["_law_state_here", "_law_head_z", "_law_at_z"] (spD c f_law_seen)) : FnOk P w c.K mg base (L2.CX P w) 5 T.a_law_after_heads T.d_law_after_heads ["_law_state_here", "_law_heads_y"] (spD c f_law_after_heads) :=
  fnOkD T.F_law_after_heads sc_law_after_heads rfl rfl <| fun cdv A outer s H E hr => by
    have hu := hu_of hr
    have hu65 := hu65_of hr
    have hu66 := hu66_of hr
    exact (psd_cons (psd_asg (pd_var 0) (pgd_tup rfl (pgsd_cons (pgd_name 2 sc_law_after_heads.nd) (pgsd_cons (pgd_name 3 sc_law_after_heads.nd) pgsd_nil)) (gsCons_len (gN_pure 2) (gsCons_len (gN_pure 3) gsNil_len))))
  (psd_cons (psd_asg pd_int (pgd_name 4 sc_law_after_heads.nd))
  (psd_cons (psd_for (passes_of rfl) rfl (pid_any (pd_var 1)) (pgd_name 5 sc_law_after_heads.nd)
  (psd_one (psd_asg (pd_call G_law_common (hr.mono (by decide)) T.g_law_common T.k_law_common T.b_law_common .nil (fun W => Rps.nil) (passE rfl rfl rfl rfl) (pad_cons (pd_lst (pad_cons (pd_tup (pad_cons pd_int (pad_cons (pd_var 4) pad_nil))) (pad_cons (pd_tup (pad_cons pd_int (pad_cons (pd_op op_mulA os_mul pd_int (pd_call G_law_common (hr.mono (by decide)) T.g_law_common T.k_law_common T.b_law_common .nil (fun W => Rps.nil) (passE rfl rfl rfl rfl) (pad_cons (pd_lc (own := [("_law_one", 9)]) fin_F rfl sc_law_after_heads.nd (pid_any (pd_ixT hck hu (pd_var 5) pd_int)) (by kernel_rfl) (fun _ _ _ _ _ => (pgd_name 9 sc_law_after_heads.nd)) (fun _ _ _ _ _ => ptsd_nil) (fun _ _ _ _ _ => (pd_ixT hck hu (pd_var 9) pd_int))) pad_nil))) pad_nil))) pad_nil))) pad_nil)) (pgd_name 4 sc_law_after_heads.nd))))
  (psd_cons (psd_setLc (own := [("_law_row", 11)]) fin_F rfl sc_law_after_heads.nd (pid_any (pd_var 3)) (by kernel_rfl) (fun _ _ _ _ _ => (pgd_name 11 sc_law_after_heads.nd)) (fun _ _ _ _ _ => ptsd_nil) (fun _ _ _ _ _ => (pd_lc (own := [("_law_one", 9)]) fin_M rfl sc_law_after_heads.nd (pid_any (pd_var 11)) (by kernel_rfl) (fun _ _ _ _ _ => (pgd_name 9 sc_law_after_heads.nd)) (fun _ _ _ _ _ => ptsd_nil) (fun _ _ _ _ _ => (pd_op op_mulA os_mul (pd_var 9) (pd_var 4))))) (sw_true rfl rfl rfl (by decide +kernel)))
  (psd_cons (psd_for (passes_of rfl) rfl (pid_any (pd_var 1)) (pgd_name 5 sc_law_after_heads.nd)
  (psd_one (psd_for (passes_of rfl) rfl (pid_rng1 T.n_range (pd_blt cr_lenA cs_lenA T.n_len (by decide +kernel) (pad_cons (pd_var 3) pad_nil))) (pgd_name 7 sc_law_after_heads.nd)
  (psd_cons (psd_asg (pd_call G_law_seen (hr.mono (by decide)) T.g_law_seen T.k_law_seen T.b_law_seen .nil (fun W => Rps.nil) (passE rfl rfl rfl rfl) (pad_cons (pd_var 0) (pad_cons (pd_var 5) (pad_cons (pd_var 7) pad_nil)))) (pgd_name 8 sc_law_after_heads.nd))
  (psd_one (psd_for (passes_of rfl) rfl (pid_any (pd_ixT hck hu (pd_var 5) pd_int)) (pgd_name 9 sc_law_after_heads.nd)
  (psd_cons (psd_asg (pd_blt (cr_sum rfl) cs_sum T.n_sum (by decide +kernel) (pad_cons (pd_lc (own := [("_law_k", 12)]) fin_F rfl sc_law_after_heads.nd (pid_any (pd_var 8)) (by kernel_rfl) (fun _ _ _ _ _ => (pgd_name 12 sc_law_after_heads.nd)) (fun _ _ _ _ _ => ptsd_nil) (fun _ _ _ _ _ => (pd_ixT hck hu (pd_ixT hck hu (pd_var 3) (pd_var 12)) (pd_ixT hck hu (pd_var 9) pd_int)))) pad_nil)) (pgd_name 10 sc_law_after_heads.nd))
  (psd_one (psd_augS hu (pd_ixT hck hu (pd_var 6) (pd_var 7)) (pd_ixT hck hu (pd_var 9) pd_int) (pd_op op_mulA os_mul (pd_op op_mulA os_mul (pd_var 10) (pd_ixT hck hu (pd_ixT hck hu (pd_var 9) pd_int) pd_int)) (pd_op op_fdivA os_fdiv (pd_var 4) (pd_op op_mulA os_mul (pd_ixT hck hu (pd_ixT hck hu (pd_var 9) pd_int) pd_int) (pd_blt cr_lenA cs_lenA T.n_len (by decide +kernel) (pad_cons (pd_var 8) pad_nil))))) iop_add os_addI)))))))))
  (psd_one (psd_ret (pd_tup (pad_cons (pd_op op_mulA os_mul (pd_var 2) (pd_var 4)) (pad_cons (pd_var 6) pad_nil))))))))))
include hck in
theorem ok_law_same (G_law_is_fraction : FnOk P w c.K mg base (L2.CX P w) 2 T.a_law_is_fraction T.d_law_is_fraction ["_law_x"] (spD c f_law_is_fraction)) : FnOk P w c.K mg base (L2.CX P w) 3 T.a_law_same T.d_law_same ["_law_told", "_law_upper", "_law_lower"] (spD c f_law_same) :=
  fnOkD T.F_law_same sc_law_same rfl rfl <| fun cdv A outer s H E hr => by
    have hu := hu_of hr
    have hu65 := hu65_of hr
    have hu66 := hu66_of hr
    exact (psd_one (psd_ret (pd_and (pd_call G_law_is_fraction (hr.mono (by decide)) T.g_law_is_fraction T.k_law_is_fraction T.b_law_is_fraction .nil (fun W => Rps.nil) (passE rfl rfl rfl rfl) (pad_cons (pd_var 0) pad_nil)) (pd_one (pd_cmp (op_eqA hu66) os_eqA (pd_op op_mulA os_mul (pd_ixT hck hu (pd_var 0) pd_int) (pd_var 2)) (pd_op op_mulA os_mul (pd_var 1) (pd_ixT hck hu (pd_var 0) pd_int)) (nomark _))))))
include hck in
theorem ok_law_row_same (G_law_same : FnOk P w c.K mg base (L2.CX P w) 3 T.a_law_same T.d_law_same ["_law_told", "_law_upper", "_law_lower"] (spD c f_law_same)) : FnOk P w c.K mg base (L2.CX P w) 4 T.a_law_row_same T.d_law_row_same ["_law_told", "_law_row", "_law_lower"] (spD c f_law_row_same) :=
  fnOkD T.F_law_row_same sc_law_row_same rfl rfl <| fun cdv A outer s H E hr => by
    have hu := hu_of hr
    have hu65 := hu65_of hr
    have hu66 := hu66_of hr
    exact (psd_cons (psd_if (PW.pt (pw_dor (ptd_not (ptd_tru (pd_blt cr_isi cs_isi T.n_isinstance (by decide +kernel) (pad_cons (pd_var 0) (pad_cons (pd_ty (n := "tuple") rfl T.n_tuple (by decide +kernel)) pad_nil))))) (pw_dor1 (ptd_cmp (op_neA hu66) os_neA (pd_blt cr_lenA cs_lenA T.n_len (by decide +kernel) (pad_cons (pd_var 0) pad_nil)) (pd_blt cr_lenA cs_lenA T.n_len (by decide +kernel) (pad_cons (pd_var 1) pad_nil)) (nomark _)))))
  (psd_one (psd_ret pd_bl))
  psd_nil)
  (psd_one (psd_ret (pd_blt (cr_all rfl) cs_all T.n_all (by decide +kernel) (pad_cons (pd_lc (own := [("_law_one", 3), ("_law_two", 4)]) fin_F rfl sc_law_row_same.nd (pid_zip2 T.n_zip (pd_var 0) (pd_var 1)) (by kernel_rfl) (fun _ _ _ _ _ => (pgd_tup rfl (pgsd_cons (pgd_name 3 sc_law_row_same.nd) (pgsd_cons (pgd_name 4 sc_law_row_same.nd) pgsd_nil)) (gsCons_len (gN_pure 3) (gsCons_len (gN_pure 4) gsNil_len)))) (fun _ _ _ _ _ => ptsd_nil) (fun _ _ _ _ _ => (pd_call G_law_same (hr.mono (by decide)) T.g_law_same T.k_law_same T.b_law_same .nil (fun W => Rps.nil) passE0 (pad_cons (pd_var 3) (pad_cons (pd_var 4) (pad_cons (pd_var 2) pad_nil)))))) pad_nil)))))
include hck in
theorem ok_law_rows_same (G_law_row_same : FnOk P w c.K mg base (L2.CX P w) 4 T.a_law_row_same T.d_law_row_same ["_law_told", "_law_row", "_law_lower"] (spD c f_law_row_same)) : FnOk P w c.K mg base (L2.CX P w) 5 T.a_law_rows_same T.d_law_rows_same ["_law_told", "_law_state_here"] (spD c f_law_rows_same) :=
  fnOkD T.F_law_rows_same sc_law_rows_same rfl rfl <| fun cdv A outer s H E hr => by
    have hu := hu_of hr
    have hu65 := hu65_of hr
    have hu66 := hu66_of hr
    exact (psd_cons (psd_if (PW.pt (pw_dor (ptd_not (ptd_tru (pd_blt cr_isi cs_isi T.n_isinstance (by decide +kernel) (pad_cons (pd_var 0) (pad_cons (pd_ty (n := "list") rfl T.n_list (by decide +kernel)) pad_nil))))) (pw_dor1 (ptd_cmp (op_neA hu66) os_neA (pd_blt cr_lenA cs_lenA T.n_len (by decide +kernel) (pad_cons (pd_var 0) pad_nil)) (pd_blt cr_lenA cs_lenA T.n_len (by decide +kernel) (pad_cons (pd_ixT hck hu (pd_var 1) pd_int) pad_nil)) (nomark _)))))
  (psd_one (psd_ret pd_bl))
  psd_nil)
  (psd_one (psd_ret (pd_blt (cr_all rfl) cs_all T.n_all (by decide +kernel) (pad_cons (pd_lc (own := [("_law_one", 2), ("_law_two", 3)]) fin_F rfl sc_law_rows_same.nd (pid_zip2 T.n_zip (pd_var 0) (pd_ixT hck hu (pd_var 1) pd_int)) (by kernel_rfl) (fun _ _ _ _ _ => (pgd_tup rfl (pgsd_cons (pgd_name 2 sc_law_rows_same.nd) (pgsd_cons (pgd_name 3 sc_law_rows_same.nd) pgsd_nil)) (gsCons_len (gN_pure 2) (gsCons_len (gN_pure 3) gsNil_len)))) (fun _ _ _ _ _ => ptsd_nil) (fun _ _ _ _ _ => (pd_call G_law_row_same (hr.mono (by decide)) T.g_law_row_same T.k_law_row_same T.b_law_row_same .nil (fun W => Rps.nil) passE0 (pad_cons (pd_var 2) (pad_cons (pd_var 3) (pad_cons (pd_ixT hck hu (pd_var 1) pd_int) pad_nil)))))) pad_nil)))))
include hck in
theorem ok_law_light (G_law_draw : FnOk P w c.K mg base (L2.CX P w) 1 T.a_law_draw T.d_law_draw ["_law_bag_here", "_law_many"] (spD c f_law_draw)) (G_law_low : FnOk P w c.K mg base (L2.CX P w) 2 T.a_law_low T.d_law_low ["_law_p", "_law_q"] (spD c f_law_low)) : FnOk P w c.K mg base (L2.CX P w) 3 T.a_law_light T.d_law_light ["_law_bag_here"] (spD c f_law_light) :=
  fnOkD T.F_law_light sc_law_light rfl rfl <| fun cdv A outer s H E hr => by
    have hu := hu_of hr
    have hu65 := hu65_of hr
    have hu66 := hu66_of hr
    exact (psd_cons (psd_if (ptd_cmp op_gt os_cmp (pd_call G_law_draw (hr.mono (by decide)) T.g_law_draw T.k_law_draw T.b_law_draw .nil (fun W => Rps.nil) (passE rfl rfl rfl rfl) (pad_cons (pd_var 0) (pad_cons pd_int pad_nil))) pd_int (nomark _))
  (psd_one (psd_ret (pd_tup (pad_cons (pd_op op_sub os_sub (pd_call G_law_draw (hr.mono (by decide)) T.g_law_draw T.k_law_draw T.b_law_draw .nil (fun W => Rps.nil) (passE rfl rfl rfl rfl) (pad_cons (pd_var 0) (pad_cons pd_int pad_nil))) pd_int) (pad_cons pd_int pad_nil)))))
  psd_nil)
  (psd_cons (psd_if (ptd_cmp (op_eqA hu66) os_eqA (pd_call G_law_draw (hr.mono (by decide)) T.g_law_draw T.k_law_draw T.b_law_draw .nil (fun W => Rps.nil) (passE rfl rfl rfl rfl) (pad_cons (pd_var 0) (pad_cons pd_int pad_nil))) pd_int (nomark _))
  (psd_one (psd_ret (pd_call G_law_low (hr.mono (by decide)) T.g_law_low T.k_law_low T.b_law_low .nil (fun W => Rps.nil) (passE rfl rfl rfl rfl) (pad_cons (pd_op op_sub os_sub (pd_call G_law_draw (hr.mono (by decide)) T.g_law_draw T.k_law_draw T.b_law_draw .nil (fun W => Rps.nil) (passE rfl rfl rfl rfl) (pad_cons (pd_var 0) (pad_cons pd_int pad_nil))) pd_int) (pad_cons (pd_op op_addAll (os_add finN_F) pd_int (pd_call G_law_draw (hr.mono (by decide)) T.g_law_draw T.k_law_draw T.b_law_draw .nil (fun W => Rps.nil) (passE rfl rfl rfl rfl) (pad_cons (pd_var 0) (pad_cons pd_int pad_nil)))) pad_nil)))))
  psd_nil)
  (psd_one (psd_ret (pd_call G_law_low (hr.mono (by decide)) T.g_law_low T.k_law_low T.b_law_low .nil (fun W => Rps.nil) (passE rfl rfl rfl rfl) (pad_cons (pd_op op_sub os_sub (pd_call G_law_draw (hr.mono (by decide)) T.g_law_draw T.k_law_draw T.b_law_draw .nil (fun W => Rps.nil) (passE rfl rfl rfl rfl) (pad_cons (pd_var 0) (pad_cons pd_int pad_nil))) pd_int) (pad_cons (pd_op op_addAll (os_add finN_F) pd_int (pd_call G_law_draw (hr.mono (by decide)) T.g_law_draw T.k_law_draw T.b_law_draw .nil (fun W => Rps.nil) (passE rfl rfl rfl rfl) (pad_cons (pd_var 0) (pad_cons pd_int pad_nil)))) pad_nil)))))))
include hck in
theorem ok_law_lights (G_law_draw : FnOk P w c.K mg base (L2.CX P w) 1 T.a_law_draw T.d_law_draw ["_law_bag_here", "_law_many"] (spD c f_law_draw)) (G_law_light : FnOk P w c.K mg base (L2.CX P w) 3 T.a_law_light T.d_law_light ["_law_bag_here"] (spD c f_law_light)) : FnOk P w c.K mg base (L2.CX P w) 4 T.a_law_lights T.d_law_lights ["_law_bag_here", "_law_many", "_law_width", "_law_most"] (spD c f_law_lights) :=
  fnOkD T.F_law_lights sc_law_lights rfl rfl <| fun cdv A outer s H E hr => by
    have hu := hu_of hr
    have hu65 := hu65_of hr
    have hu66 := hu66_of hr
    exact (psd_cons (psd_asg (pd_lstM pad_nil) (pgd_name 4 sc_law_lights.nd))
  (psd_cons (psd_for (passes_of rfl) rfl (pid_rng1 T.n_range (pd_call G_law_draw (hr.mono (by decide)) T.g_law_draw T.k_law_draw T.b_law_draw .nil (fun W => Rps.nil) (passE rfl rfl rfl rfl) (pad_cons (pd_var 0) (pad_cons (pd_op op_addAll (os_add finN_F) (pd_var 3) pd_int) pad_nil)))) (pgd_name 5 sc_law_lights.nd)
  (psd_one (psd_expr (pd_m PySem.F.plainAttrs_list PySem.F.slot_list_append PySem.F.type_list_append mt_append ty_list ms_app (pd_var 4) (pad_cons (pd_op op_addAll (os_add finN_F) (pd_tyc call_tuple_of cs_tup T.n_tuple (by decide +kernel) (pad_cons (pd_lc (own := [("_law_j", 6)]) fin_F rfl sc_law_lights.nd (pid_rng1 T.n_range (pd_var 1)) (by kernel_rfl) (fun _ _ _ _ _ => (pgd_name 6 sc_law_lights.nd)) (fun _ _ _ _ _ => ptsd_nil) (fun _ _ _ _ _ => (pd_call G_law_draw (hr.mono (by decide)) T.g_law_draw T.k_law_draw T.b_law_draw .nil (fun W => Rps.nil) passE0 (pad_cons (pd_var 0) (pad_cons (pd_var 2) pad_nil))))) pad_nil)) (pd_tup (pad_cons (pd_call G_law_light (hr.mono (by decide)) T.g_law_light T.k_law_light T.b_law_light .nil (fun W => Rps.nil) (passE rfl rfl rfl rfl) (pad_cons (pd_var 0) pad_nil)) pad_nil))) pad_nil)))))
  (psd_one (psd_ret (pd_var 4)))))
include hck in
theorem ok_law_rows (G_law_draw : FnOk P w c.K mg base (L2.CX P w) 1 T.a_law_draw T.d_law_draw ["_law_bag_here", "_law_many"] (spD c f_law_draw)) (G_law_of : FnOk P w c.K mg base (L2.CX P w) 2 T.a_law_of T.d_law_of ["_law_bag_here", "_law_things"] (spD c f_law_of)) (G_law_light : FnOk P w c.K mg base (L2.CX P w) 3 T.a_law_light T.d_law_light ["_law_bag_here"] (spD c f_law_light)) : FnOk P w c.K mg base (L2.CX P w) 4 T.a_law_rows T.d_law_rows ["_law_bag_here", "_law_many", "_law_width"] (spD c f_law_rows) :=
  fnOkMD T.F_law_rows sc_law_rows rfl rfl <| fun cdv A outer s H E hr => by
    have hu := hu_of hr
    have hu65 := hu65_of hr
    have hu66 := hu66_of hr
    exact (psd_cons (psd_asg (pd_lstM pad_nil) (pgd_name 3 sc_law_rows.nd))
  (psd_cons (psd_for (passes_of rfl) rfl (pid_rng1 T.n_range (pd_var 1)) (pgd_name 4 sc_law_rows.nd)
  (psd_cons (psd_asg (pd_call G_law_draw (hr.mono (by decide)) T.g_law_draw T.k_law_draw T.b_law_draw .nil (fun W => Rps.nil) (passE rfl rfl rfl rfl) (pad_cons (pd_var 0) (pad_cons pd_int pad_nil))) (pgd_name 5 sc_law_rows.nd))
  (psd_cons (psd_if (PW.pt (pw_dand (ptd_cmp op_gt os_cmp (pd_var 5) pd_int (nomark _)) (pw_dand1 (ptd_cmp op_gt os_cmp (pd_var 4) pd_int (nomark _)))))
  (psd_cons (psd_asg (pd_tyc (cr_lstA rfl) (cs_lstA finN_M) T.n_list (by decide +kernel) (pad_cons (pd_call G_law_of (hr.mono (by decide)) T.g_law_of T.k_law_of T.b_law_of .nil (fun W => Rps.nil) (passE rfl rfl rfl rfl) (pad_cons (pd_var 0) (pad_cons (pd_var 3) pad_nil))) pad_nil)) (pgd_name 6 sc_law_rows.nd))
  (psd_one (psd_if (ptd_cmp (op_eqA hu66) os_eqA (pd_var 5) pd_int (nomark _))
  (psd_one (psd_asg (pd_call G_law_light (hr.mono (by decide)) T.g_law_light T.k_law_light T.b_law_light .nil (fun W => Rps.nil) (passE rfl rfl rfl rfl) (pad_cons (pd_var 0) pad_nil)) (pgd_sub (pd_var 6) (pd_call G_law_draw (hr.mono (by decide)) T.g_law_draw T.k_law_draw T.b_law_draw .nil (fun W => Rps.nil) (passE rfl rfl rfl rfl) (pad_cons (pd_var 0) (pad_cons (pd_var 2) pad_nil))) (set_all hu) (ss_setT hck))))
  psd_nil)))
  (psd_one (psd_setLc (own := [("_law_j", 7)]) fin_M rfl sc_law_rows.nd (pid_rng1 T.n_range (pd_var 2)) (by kernel_rfl) (fun _ _ _ _ _ => (pgd_name 7 sc_law_rows.nd)) (fun _ _ _ _ _ => ptsd_nil) (fun _ _ _ _ _ => (pd_call G_law_light (hr.mono (by decide)) T.g_law_light T.k_law_light T.b_law_light .nil (fun W => Rps.nil) passE0 (pad_cons (pd_var 0) pad_nil))) (sw_true rfl rfl rfl (by decide +kernel)))))
  (psd_one (psd_expr (pd_m PySem.F.plainAttrs_list PySem.F.slot_list_append PySem.F.type_list_append mt_append ty_list ms_app (pd_var 3) (pad_cons (pd_tyc call_tuple_of cs_tup T.n_tuple (by decide +kernel) (pad_cons (pd_var 6) pad_nil)) pad_nil)))))))
  (psd_one (psd_ret (pd_var 3)))))
include hck in
theorem ok_law_head (G_law_lights : FnOk P w c.K mg base (L2.CX P w) 4 T.a_law_lights T.d_law_lights ["_law_bag_here", "_law_many", "_law_width", "_law_most"] (spD c f_law_lights)) : FnOk P w c.K mg base (L2.CX P w) 5 T.a_law_head T.d_law_head ["_law_bag_here", "_law_width"] (spD c f_law_head) :=
  fnOkD T.F_law_head sc_law_head rfl rfl <| fun cdv A outer s H E hr => by
    have hu := hu_of hr
    have hu65 := hu65_of hr
    have hu66 := hu66_of hr
    exact (psd_one (psd_ret (pd_tup (pad_cons (pd_tyc call_tuple_of cs_tup T.n_tuple (by decide +kernel) (pad_cons (pd_call G_law_lights (hr.mono (by decide)) T.g_law_lights T.k_law_lights T.b_law_lights .nil (fun W => Rps.nil) (passE rfl rfl rfl rfl) (pad_cons (pd_var 0) (pad_cons pd_int (pad_cons (pd_var 1) (pad_cons pd_int pad_nil))))) pad_nil)) (pad_cons (pd_tyc call_tuple_of cs_tup T.n_tuple (by decide +kernel) (pad_cons (pd_call G_law_lights (hr.mono (by decide)) T.g_law_lights T.k_law_lights T.b_law_lights .nil (fun W => Rps.nil) (passE rfl rfl rfl rfl) (pad_cons (pd_var 0) (pad_cons pd_int (pad_cons (pd_var 1) (pad_cons pd_int pad_nil))))) pad_nil)) pad_nil)))))
include hck in
theorem ok_law_look_fits (G_law_scored : FnOk P w c.K mg base (L2.CX P w) 3 T.a_law_scored T.d_law_scored ["_law_state_here", "_law_head_z", "_law_at_z"] (spD c f_law_scored)) (G_law_draw : FnOk P w c.K mg base (L2.CX P w) 1 T.a_law_draw T.d_law_draw ["_law_bag_here", "_law_many"] (spD c f_law_draw)) (G_scores : FnOk P w c.K mg base (L2.CX P w) 4 T.a_scores T.d_scores ["rows", "head", "at"] (spD c f_scores)) (G_law_row_same : FnOk P w c.K mg base (L2.CX P w) 4 T.a_law_row_same T.d_law_row_same ["_law_told", "_law_row", "_law_lower"] (spD c f_law_row_same)) (G_looked_at : FnOk P w c.K mg base (L2.CX P w) 5 T.a_looked_at T.d_looked_at ["rows", "head", "at"] (spD c f_looked_at)) (G_law_like : FnOk P w c.K mg base (L2.CX P w) 9 T.a_law_like T.d_law_like ["_law_found", "_law_due"] (spD c f_law_like)) : FnOk P w c.K mg base (L2.CX P w) 10 T.a_law_look_fits T.d_law_look_fits ["_law_bag_here", "_law_rows_y", "_law_state_here", "_law_head_z", "_law_at_z"] (spD c f_law_look_fits) :=
  fnOkD T.F_law_look_fits sc_law_look_fits rfl rfl <| fun cdv A outer s H E hr => by
    have hu := hu_of hr
    have hu65 := hu65_of hr
    have hu66 := hu66_of hr
    exact (psd_cons (psd_asg (pd_call G_law_scored (hr.mono (by decide)) T.g_law_scored T.k_law_scored T.b_law_scored .nil (fun W => Rps.nil) (passE rfl rfl rfl rfl) (pad_cons (pd_var 2) (pad_cons (pd_var 3) (pad_cons (pd_var 4) pad_nil)))) (pgd_tup rfl (pgsd_cons (pgd_name 5 sc_law_look_fits.nd) (pgsd_cons (pgd_name 6 sc_law_look_fits.nd) pgsd_nil)) (gsCons_len (gN_pure 5) (gsCons_len (gN_pure 6) gsNil_len))))
  (psd_cons (psd_asg (pd_if (ptd_cmp (op_eqA hu66) os_eqA (pd_call G_law_draw (hr.mono (by decide)) T.g_law_draw T.k_law_draw T.b_law_draw .nil (fun W => Rps.nil) (passE rfl rfl rfl rfl) (pad_cons (pd_var 0) (pad_cons pd_int pad_nil))) pd_int (nomark _)) (pd_callK0 G_scores (hr.mono (by decide)) T.g_scores T.k_scores T.k0 (passE rfl rfl rfl rfl) (fun W ds zs vs us => g_k0_rps) (pkd_cons (pd_var 1) (pkd_cons (pd_var 3) (pkd_cons (pd_var 4) pkd_nil)))) (pd_call G_scores (hr.mono (by decide)) T.g_scores T.k_scores T.b_scores .nil (fun W => Rps.nil) (passE rfl rfl rfl rfl) (pad_cons (pd_var 1) (pad_cons (pd_var 3) (pad_cons (pd_var 4) pad_nil))))) (pgd_name 7 sc_law_look_fits.nd))
  (psd_cons (psd_if (PW.pt (pw_dor (ptd_not (ptd_tru (pd_blt cr_isi cs_isi T.n_isinstance (by decide +kernel) (pad_cons (pd_var 7) (pad_cons (pd_ty (n := "list") rfl T.n_list (by decide +kernel)) pad_nil))))) (pw_dor1 (ptd_not (ptd_tru (pd_call G_law_row_same (hr.mono (by decide)) T.g_law_row_same T.k_law_row_same T.b_law_row_same .nil (fun W => Rps.nil) (passE rfl rfl rfl rfl) (pad_cons (pd_tyc call_tuple_of cs_tup T.n_tuple (by decide +kernel) (pad_cons (pd_var 7) pad_nil)) (pad_cons (pd_var 5) (pad_cons (pd_var 6) pad_nil)))))))))
  (psd_one (psd_ret pd_bl))
  psd_nil)
  (psd_cons (psd_for (passes_of rfl) rfl (pid_rng1 T.n_range (pd_blt cr_lenA cs_lenA T.n_len (by decide +kernel) (pad_cons (pd_var 1) pad_nil))) (pgd_name 8 sc_law_look_fits.nd)
  (psd_one (psd_if (ptd_cmp (op_neA hu66) os_neA (pd_ixT hck hu (pd_var 7) (pd_m PySem.F.plainAttrs_list PySem.F.slot_list_index PySem.F.type_list_index (mt_indexD hu65) ty_list ms_idx (pd_var 1) (pad_cons (pd_ixT hck hu (pd_var 1) (pd_var 8)) pad_nil))) (pd_ixT hck hu (pd_var 7) (pd_var 8)) (nomark _))
  (psd_one (psd_ret pd_bl))
  psd_nil)))
  (psd_cons (psd_asg (pd_if (ptd_cmp (op_eqA hu66) os_eqA (pd_call G_law_draw (hr.mono (by decide)) T.g_law_draw T.k_law_draw T.b_law_draw .nil (fun W => Rps.nil) (passE rfl rfl rfl rfl) (pad_cons (pd_var 0) (pad_cons pd_int pad_nil))) pd_int (nomark _)) (pd_callK0 G_looked_at (hr.mono (by decide)) T.g_looked_at T.k_looked_at T.k1 (passE rfl rfl rfl rfl) (fun W ds zs vs us => g_k1_rps) (pkd_cons (pd_var 1) (pkd_cons (pd_var 3) (pkd_cons (pd_var 4) pkd_nil)))) (pd_call G_looked_at (hr.mono (by decide)) T.g_looked_at T.k_looked_at T.b_looked_at .nil (fun W => Rps.nil) (passE rfl rfl rfl rfl) (pad_cons (pd_var 1) (pad_cons (pd_var 3) (pad_cons (pd_var 4) pad_nil))))) (pgd_name 9 sc_law_look_fits.nd))
  (psd_cons (psd_asg (pd_blt (cr_max rfl) cs_maxL T.n_max (by decide +kernel) (pad_cons (pd_var 5) pad_nil)) (pgd_name 10 sc_law_look_fits.nd))
  (psd_cons (psd_if (ptd_not (ptd_tru (pd_call G_law_like (hr.mono (by decide)) T.g_law_like T.k_law_like T.b_law_like .nil (fun W => Rps.nil) (passE rfl rfl rfl rfl) (pad_cons (pd_var 9) (pad_cons (pd_lc (own := [("_law_k", 8)]) fin_F rfl sc_law_look_fits.nd (pid_rng1 T.n_range (pd_blt cr_lenA cs_lenA T.n_len (by decide +kernel) (pad_cons (pd_var 5) pad_nil))) (by kernel_rfl) (fun _ _ _ _ _ => (pgd_name 8 sc_law_look_fits.nd)) (fun _ _ _ _ _ => (ptsd_one (ptd_cmp (op_eqA hu66) os_eqA (pd_ixT hck hu (pd_var 5) (pd_var 8)) (pd_var 10) (nomark _)))) (fun _ _ _ _ _ => (pd_var 8))) pad_nil)))))
  (psd_one (psd_ret pd_bl))
  psd_nil)
  (psd_cons (psd_expr (pd_m PySem.F.plainAttrs_list PySem.F.slot_list_append PySem.F.type_list_append mt_append ty_list ms_app (pd_var 9) (pad_cons (pd_var 4) pad_nil)))
  (psd_one (psd_ret (pd_call G_law_like (hr.mono (by decide)) T.g_law_like T.k_law_like T.b_law_like .nil (fun W => Rps.nil) (passE rfl rfl rfl rfl) (pad_cons (pd_call G_looked_at (hr.mono (by decide)) T.g_looked_at T.k_looked_at T.b_looked_at .nil (fun W => Rps.nil) (passE rfl rfl rfl rfl) (pad_cons (pd_var 1) (pad_cons (pd_var 3) (pad_cons (pd_var 4) pad_nil)))) (pad_cons (pd_sl sl_all (ss_all finN_F) (pd_var 9) pod_none (pod_some (pd_un un_neg us_neg pd_int))) pad_nil)))))))))))))
include hck in
theorem ok_law_raised (G_law_low : FnOk P w c.K mg base (L2.CX P w) 2 T.a_law_low T.d_law_low ["_law_p", "_law_q"] (spD c f_law_low)) : FnOk P w c.K mg base (L2.CX P w) 3 T.a_law_raised T.d_law_raised ["_law_items", "_law_factor_here"] (spD c f_law_raised) :=
  fnOkD T.F_law_raised sc_law_raised rfl rfl <| fun cdv A outer s H E hr => by
    have hu := hu_of hr
    have hu65 := hu65_of hr
    have hu66 := hu66_of hr
    exact (psd_cons (psd_if (ptd_tru (pd_lc (own := [("_law_one", 2)]) fin_F rfl sc_law_raised.nd (pid_any (pd_var 0)) (by kernel_rfl) (fun _ _ _ _ _ => (pgd_name 2 sc_law_raised.nd)) (fun _ _ _ _ _ => (ptsd_one (PW.pt (pw_dor (ptd_cmp op_ge os_cmp (pd_blt call_abs cs_abs T.n_abs (by decide +kernel) (pad_cons (pd_ixT hck hu (pd_ixT hck hu (pd_var 2) pd_int) pd_int) pad_nil)) (pd_op op_powA os_pow pd_int pd_int) (nomark _)) (pw_dor1 (ptd_cmp op_ge os_cmp (pd_ixT hck hu (pd_ixT hck hu (pd_var 2) pd_int) pd_int) (pd_op op_powA os_pow pd_int pd_int) (nomark _))))))) (fun _ _ _ _ _ => (pd_var 2))))
  (psd_one (psd_ret (pd_var 0)))
  psd_nil)
  (psd_one (psd_ret (pd_tyc call_tuple_of cs_tup T.n_tuple (by decide +kernel) (pad_cons (pd_lc (own := [("_law_one", 2)]) fin_F rfl sc_law_raised.nd (pid_any (pd_var 0)) (by kernel_rfl) (fun _ _ _ _ _ => (pgd_name 2 sc_law_raised.nd)) (fun _ _ _ _ _ => ptsd_nil) (fun _ _ _ _ _ => (pd_op op_addAll (os_add finN_F) (pd_sl sl_all (ss_all finN_F) (pd_var 2) pod_none (pod_some pd_int)) (pd_tup (pad_cons (pd_call G_law_low (hr.mono (by decide)) T.g_law_low T.k_law_low T.b_law_low .nil (fun W => Rps.nil) passE0 (pad_cons (pd_op op_mulA os_mul (pd_ixT hck hu (pd_ixT hck hu (pd_var 2) pd_int) pd_int) (pd_ixT hck hu (pd_var 1) pd_int)) (pad_cons (pd_op op_mulA os_mul (pd_ixT hck hu (pd_ixT hck hu (pd_var 2) pd_int) pd_int) (pd_ixT hck hu (pd_var 1) pd_int)) pad_nil))) pad_nil))))) pad_nil)))))
include hck in
theorem ok_law (G_law_bag : FnOk P w c.K mg base (L2.CX P w) 1 T.a_law_bag T.d_law_bag ["_law_script"] (spD c f_law_bag)) (G_law_draw : FnOk P w c.K mg base (L2.CX P w) 1 T.a_law_draw T.d_law_draw ["_law_bag_here", "_law_many"] (spD c f_law_draw)) (G_law_rows : FnOk P w c.K mg base (L2.CX P w) 4 T.a_law_rows T.d_law_rows ["_law_bag_here", "_law_many", "_law_width"] (spD c f_law_rows)) (G_law_of : FnOk P w c.K mg base (L2.CX P w) 2 T.a_law_of T.d_law_of ["_law_bag_here", "_law_things"] (spD c f_law_of)) (G_law_factor : FnOk P w c.K mg base (L2.CX P w) 3 T.a_law_factor T.d_law_factor ["_law_bag_here"] (spD c f_law_factor)) (G_law_head : FnOk P w c.K mg base (L2.CX P w) 5 T.a_law_head T.d_law_head ["_law_bag_here", "_law_width"] (spD c f_law_head)) (G_law_state : FnOk P w c.K mg base (L2.CX P w) 3 T.a_law_state T.d_law_state ["_law_rows_y"] (spD c f_law_state)) (G_law_look_fits : FnOk P w c.K mg base (L2.CX P w) 10 T.a_law_look_fits T.d_law_look_fits ["_law_bag_here", "_law_rows_y", "_law_state_here", "_law_head_z", "_law_at_z"] (spD c f_law_look_fits)) (G_law_after_heads : FnOk P w c.K mg base (L2.CX P w) 5 T.a_law_after_heads T.d_law_after_heads ["_law_state_here", "_law_heads_y"] (spD c f_law_after_heads)) (G_heads_done : FnOk P w c.K mg base (L2.CX P w) 6 T.a_heads_done T.d_heads_done ["rows", "heads"] (spD c f_heads_done)) (G_law_like : FnOk P w c.K mg base (L2.CX P w) 9 T.a_law_like T.d_law_like ["_law_found", "_law_due"] (spD c f_law_like)) (G_law_rows_same : FnOk P w c.K mg base (L2.CX P w) 5 T.a_law_rows_same T.d_law_rows_same ["_law_told", "_law_state_here"] (spD c f_law_rows_same)) (G_law_low : FnOk P w c.K mg base (L2.CX P w) 2 T.a_law_low T.d_law_low ["_law_p", "_law_q"] (spD c f_law_low)) (G_law_raised : FnOk P w c.K mg base (L2.CX P w) 3 T.a_law_raised T.d_law_raised ["_law_items", "_law_factor_here"] (spD c f_law_raised)) : FnOk P w c.K mg base (L2.CX P w) 11 T.a_law T.d_law ["_law_script"] (spD c f_law) :=
  fnOkD T.F_law sc_law rfl rfl <| fun cdv A outer s H E hr => by
    have hu := hu_of hr
    have hu65 := hu65_of hr
    have hu66 := hu66_of hr
    exact (psd_cons (psd_asg (pd_call G_law_bag (hr.mono (by decide)) T.g_law_bag T.k_law_bag T.b_law_bag .nil (fun W => Rps.nil) (passE rfl rfl rfl rfl) (pad_cons (pd_var 0) pad_nil)) (pgd_name 1 sc_law.nd))
  (psd_cons (psd_asg (pd_op op_addAll (os_add finN_F) pd_int (pd_call G_law_draw (hr.mono (by decide)) T.g_law_draw T.k_law_draw T.b_law_draw .nil (fun W => Rps.nil) (passE rfl rfl rfl rfl) (pad_cons (pd_var 1) (pad_cons pd_int pad_nil)))) (pgd_name 2 sc_law.nd))
  (psd_cons (psd_asg (pd_call G_law_rows (hr.mono (by decide)) T.g_law_rows T.k_law_rows T.b_law_rows .nil (fun W => Rps.nil) (passE rfl rfl rfl rfl) (pad_cons (pd_var 1) (pad_cons (pd_op op_addAll (os_add finN_F) (pd_op op_addAll (os_add finN_F) pd_int (pd_call G_law_draw (hr.mono (by decide)) T.g_law_draw T.k_law_draw T.b_law_draw .nil (fun W => Rps.nil) (passE rfl rfl rfl rfl) (pad_cons (pd_var 1) (pad_cons pd_int pad_nil)))) (pd_call G_law_of (hr.mono (by decide)) T.g_law_of T.k_law_of T.b_law_of .nil (fun W => Rps.nil) (passE rfl rfl rfl rfl) (pad_cons (pd_var 1) (pad_cons (pd_lst (pad_cons pd_int (pad_cons pd_int (pad_cons pd_int (pad_cons pd_int (pad_cons pd_int (pad_cons pd_int (pad_cons pd_int (pad_cons pd_int pad_nil))))))))) pad_nil)))) (pad_cons (pd_var 2) pad_nil)))) (pgd_name 3 sc_law.nd))
  (psd_cons (psd_if (ptd_cmp (op_eqA hu66) os_eqA (pd_call G_law_draw (hr.mono (by decide)) T.g_law_draw T.k_law_draw T.b_law_draw .nil (fun W => Rps.nil) (passE rfl rfl rfl rfl) (pad_cons (pd_var 1) (pad_cons pd_int pad_nil))) pd_int (nomark _))
  (psd_cons (psd_par 4 5 rfl sc_law.nd (pad_cons (pd_call G_law_draw (hr.mono (by decide)) T.g_law_draw T.k_law_draw T.b_law_draw .nil (fun W => Rps.nil) (passE rfl rfl rfl rfl) (pad_cons (pd_var 1) (pad_cons (pd_blt cr_lenA cs_lenA T.n_len (by decide +kernel) (pad_cons (pd_var 3) pad_nil)) pad_nil))) (pad_cons (pd_call G_law_draw (hr.mono (by decide)) T.g_law_draw T.k_law_draw T.b_law_draw .nil (fun W => Rps.nil) (passE rfl rfl rfl rfl) (pad_cons (pd_var 1) (pad_cons (pd_var 2) pad_nil))) pad_nil)))
  (psd_one (psd_asg (pd_op op_addAll (os_add finN_F) (pd_op op_addAll (os_add finN_F) (pd_sl sl_all (ss_all finN_F) (pd_ixT hck hu (pd_var 3) (pd_var 4)) pod_none (pod_some (pd_var 5))) (pd_tup (pad_cons (pd_call G_law_factor (hr.mono (by decide)) T.g_law_factor T.k_law_factor T.b_law_factor .nil (fun W => Rps.nil) (passE rfl rfl rfl rfl) (pad_cons (pd_var 1) pad_nil)) pad_nil))) (pd_sl sl_all (ss_all finN_F) (pd_ixT hck hu (pd_var 3) (pd_var 4)) (pod_some (pd_op op_addAll (os_add finN_F) (pd_var 5) pd_int)) pod_none)) (pgd_sub (pd_var 3) (pd_var 4) (set_all hu) (ss_setT hck)))))
  psd_nil)
  (psd_cons (psd_setLc (own := [("_law_k", 4)]) fin_M rfl sc_law.nd (pid_rng1 T.n_range (pd_op op_addAll (os_add finN_F) pd_int (pd_call G_law_draw (hr.mono (by decide)) T.g_law_draw T.k_law_draw T.b_law_draw .nil (fun W => Rps.nil) (passE rfl rfl rfl rfl) (pad_cons (pd_var 1) (pad_cons pd_int pad_nil))))) (by kernel_rfl) (fun _ _ _ _ _ => (pgd_name 4 sc_law.nd)) (fun _ _ _ _ _ => ptsd_nil) (fun _ _ _ _ _ => (pd_call G_law_head (hr.mono (by decide)) T.g_law_head T.k_law_head T.b_law_head .nil (fun W => Rps.nil) passE0 (pad_cons (pd_var 1) (pad_cons (pd_var 2) pad_nil)))) (sw_true rfl rfl rfl (by decide +kernel)))
  (psd_cons (psd_if (ptd_cmp (op_eqA hu66) os_eqA (pd_call G_law_draw (hr.mono (by decide)) T.g_law_draw T.k_law_draw T.b_law_draw .nil (fun W => Rps.nil) (passE rfl rfl rfl rfl) (pad_cons (pd_var 1) (pad_cons pd_int pad_nil))) pd_int (nomark _))
  (psd_one (psd_expr (pd_m PySem.F.plainAttrs_list PySem.F.slot_list_append PySem.F.type_list_append mt_append ty_list ms_app (pd_var 6) (pad_cons (pd_tup (pad_cons (pd_ixT hck hu (pd_ixT hck hu (pd_var 6) pd_int) pd_int) (pad_cons (pd_ixT hck hu (pd_call G_law_head (hr.mono (by decide)) T.g_law_head T.k_law_head T.b_law_head .nil (fun W => Rps.nil) (passE rfl rfl rfl rfl) (pad_cons (pd_var 1) (pad_cons (pd_var 2) pad_nil))) pd_int) pad_nil))) pad_nil))))
  psd_nil)
  (psd_cons (psd_asg (pd_call G_law_state (hr.mono (by decide)) T.g_law_state T.k_law_state T.b_law_state .nil (fun W => Rps.nil) (passE rfl rfl rfl rfl) (pad_cons (pd_var 3) pad_nil)) (pgd_name 7 sc_law.nd))
  (psd_cons (psd_for (passes_of rfl) rfl (pid_any (pd_var 6)) (pgd_name 8 sc_law.nd)
  (psd_one (psd_for (passes_of rfl) rfl (pid_rng1 T.n_range (pd_blt cr_lenA cs_lenA T.n_len (by decide +kernel) (pad_cons (pd_var 3) pad_nil))) (pgd_name 9 sc_law.nd)
  (psd_one (psd_if (ptd_not (ptd_tru (pd_call G_law_look_fits (hr.mono (by decide)) T.g_law_look_fits T.k_law_look_fits T.b_law_look_fits .nil (fun W => Rps.nil) (passE rfl rfl rfl rfl) (pad_cons (pd_var 1) (pad_cons (pd_var 3) (pad_cons (pd_var 7) (pad_cons (pd_var 8) (pad_cons (pd_var 9) pad_nil))))))))
  (psd_one (psd_ret pd_bl))
  psd_nil)))))
  (psd_cons (psd_asg (pd_call G_law_after_heads (hr.mono (by decide)) T.g_law_after_heads T.k_law_after_heads T.b_law_after_heads .nil (fun W => Rps.nil) (passE rfl rfl rfl rfl) (pad_cons (pd_var 7) (pad_cons (pd_var 6) pad_nil))) (pgd_name 10 sc_law.nd))
  (psd_cons (psd_asg (pd_tyc (cr_lstA rfl) (cs_lstA finN_F) T.n_list (by decide +kernel) (pad_cons (pd_var 3) pad_nil)) (pgd_name 11 sc_law.nd))
  (psd_cons (psd_asg (pd_call G_heads_done (hr.mono (by decide)) T.g_heads_done T.k_heads_done T.b_heads_done .nil (fun W => Rps.nil) (passE rfl rfl rfl rfl) (pad_cons (pd_var 11) (pad_cons (pd_var 6) pad_nil))) (pgd_name 12 sc_law.nd))
  (psd_cons (psd_if (PW.pt (pw_dor (ptd_not (ptd_tru (pd_call G_law_rows_same (hr.mono (by decide)) T.g_law_rows_same T.k_law_rows_same T.b_law_rows_same .nil (fun W => Rps.nil) (passE rfl rfl rfl rfl) (pad_cons (pd_var 12) (pad_cons (pd_var 10) pad_nil))))) (pw_dor1 (ptd_not (ptd_tru (pd_call G_law_like (hr.mono (by decide)) T.g_law_like T.k_law_like T.b_law_like .nil (fun W => Rps.nil) (passE rfl rfl rfl rfl) (pad_cons (pd_var 11) (pad_cons (pd_var 3) pad_nil))))))))
  (psd_one (psd_ret pd_bl))
  psd_nil)
  (psd_cons (psd_asg (pd_tyc (cr_lstA rfl) (cs_lstA finN_F) T.n_list (by decide +kernel) (pad_cons (pd_var 12) pad_nil)) (pgd_name 13 sc_law.nd))
  (psd_cons (psd_expr (pd_m0 PySem.F.plainAttrs_list PySem.F.slot_list_clear PySem.F.type_list_clear mt_clear ty_list ms_clr (pd_var 12)))
  (psd_cons (psd_asg (pd_lst pad_nil) (pgd_name 14 sc_law.nd))
  (psd_cons (psd_for (passes_of rfl) rfl (pid_any (pd_rev finN_F (pd_var 6) (pod_some (pd_un un_neg us_neg pd_int)))) (pgd_name 15 sc_law.nd)
  (psd_cons (psd_asg (pd_call G_law_draw (hr.mono (by decide)) T.g_law_draw T.k_law_draw T.b_law_draw .nil (fun W => Rps.nil) (passE rfl rfl rfl rfl) (pad_cons (pd_var 1) (pad_cons (pd_op op_addAll (os_add finN_F) (pd_blt cr_lenA cs_lenA T.n_len (by decide +kernel) (pad_cons (pd_ixT hck hu (pd_var 15) pd_int) pad_nil)) pd_int) pad_nil))) (pgd_name 9 sc_law.nd))
  (psd_one (psd_asg (pd_op op_addAll (os_add finN_F) (pd_var 14) (pd_lst (pad_cons (pd_tup (pad_cons (pd_ixT hck hu (pd_var 15) pd_int) (pad_cons (pd_sl sl_all (ss_all finN_F) (pd_ixT hck hu (pd_var 15) pd_int) (pod_some (pd_var 9)) pod_none) pad_nil))) (pad_cons (pd_tup (pad_cons (pd_rev finN_F (pd_ixT hck hu (pd_var 15) pd_int) (pod_some (pd_un un_neg us_neg pd_int))) (pad_cons (pd_sl sl_all (ss_all finN_F) (pd_ixT hck hu (pd_var 15) pd_int) pod_none (pod_some (pd_var 9))) pad_nil))) pad_nil)))) (pgd_name 14 sc_law.nd)))))
  (psd_cons (psd_asg (pd_call G_law_low (hr.mono (by decide)) T.g_law_low T.k_law_low T.b_law_low .nil (fun W => Rps.nil) (passE rfl rfl rfl rfl) (pad_cons (pd_op op_addAll (os_add finN_F) pd_int (pd_call G_law_draw (hr.mono (by decide)) T.g_law_draw T.k_law_draw T.b_law_draw .nil (fun W => Rps.nil) (passE rfl rfl rfl rfl) (pad_cons (pd_var 1) (pad_cons pd_int pad_nil)))) (pad_cons (pd_op op_addAll (os_add finN_F) pd_int (pd_call G_law_draw (hr.mono (by decide)) T.g_law_draw T.k_law_draw T.b_law_draw .nil (fun W => Rps.nil) (passE rfl rfl rfl rfl) (pad_cons (pd_var 1) (pad_cons pd_int pad_nil)))) pad_nil))) (pgd_name 16 sc_law.nd))
  (psd_cons (psd_for (passes_of rfl) rfl (pid_any (pd_var 6)) (pgd_name 8 sc_law.nd)
  (psd_cons (psd_setLc (own := [("_law_one", 15)]) fin_F rfl sc_law.nd (pid_any (pd_ixT hck hu (pd_var 8) pd_int)) (by kernel_rfl) (fun _ _ _ _ _ => (pgd_name 15 sc_law.nd)) (fun _ _ _ _ _ => ptsd_nil) (fun _ _ _ _ _ => (pd_op op_addAll (os_add finN_F) (pd_sl sl_all (ss_all finN_F) (pd_var 15) pod_none (pod_some pd_int)) (pd_tup (pad_cons (pd_tup (pad_cons (pd_un un_neg us_neg (pd_ixT hck hu (pd_ixT hck hu (pd_var 15) pd_int) pd_int)) (pad_cons (pd_ixT hck hu (pd_ixT hck hu (pd_var 15) pd_int) pd_int) pad_nil))) pad_nil)))) (sw_true rfl rfl rfl (by decide +kernel)))
  (psd_one (psd_asg (pd_op op_addAll (os_add finN_F) (pd_var 14) (pd_lst (pad_cons (pd_tup (pad_cons (pd_call G_law_raised (hr.mono (by decide)) T.g_law_raised T.k_law_raised T.b_law_raised .nil (fun W => Rps.nil) (passE rfl rfl rfl rfl) (pad_cons (pd_ixT hck hu (pd_var 8) pd_int) (pad_cons (pd_var 16) pad_nil))) (pad_cons (pd_ixT hck hu (pd_var 8) pd_int) pad_nil))) (pad_cons (pd_tup (pad_cons (pd_ixT hck hu (pd_var 8) pd_int) (pad_cons (pd_tyc call_tuple_of cs_tup T.n_tuple (by decide +kernel) (pad_cons (pd_var 17) pad_nil)) pad_nil))) pad_nil)))) (pgd_name 14 sc_law.nd)))))
  (psd_cons (psd_asg (pd_if (ptd_cmp (op_eqA hu66) os_eqA (pd_call G_law_draw (hr.mono (by decide)) T.g_law_draw T.k_law_draw T.b_law_draw .nil (fun W => Rps.nil) (passE rfl rfl rfl rfl) (pad_cons (pd_var 1) (pad_cons pd_int pad_nil))) pd_int (nomark _)) (pd_callK0 G_heads_done (hr.mono (by decide)) T.g_heads_done T.k_heads_done T.k2 (passE rfl rfl rfl rfl) (fun W ds zs vs us => g_k2_rps) (pkd_cons (pd_var 11) (pkd_cons (pd_tyc call_tuple_of cs_tup T.n_tuple (by decide +kernel) (pad_cons (pd_var 14) pad_nil)) pkd_nil))) (pd_call G_heads_done (hr.mono (by decide)) T.g_heads_done T.k_heads_done T.b_heads_done .nil (fun W => Rps.nil) (passE rfl rfl rfl rfl) (pad_cons (pd_var 11) (pad_cons (pd_var 14) pad_nil)))) (pgd_name 18 sc_law.nd))
  (psd_cons (psd_if (PW.pt (pw_dor (ptd_not (ptd_tru (pd_call G_law_like (hr.mono (by decide)) T.g_law_like T.k_law_like T.b_law_like .nil (fun W => Rps.nil) (passE rfl rfl rfl rfl) (pad_cons (pd_var 18) (pad_cons (pd_var 13) pad_nil))))) (pw_dor1 (ptd_not (ptd_tru (pd_call G_law_like (hr.mono (by decide)) T.g_law_like T.k_law_like T.b_law_like .nil (fun W => Rps.nil) (passE rfl rfl rfl rfl) (pad_cons (pd_call G_heads_done (hr.mono (by decide)) T.g_heads_done T.k_heads_done T.b_heads_done .nil (fun W => Rps.nil) (passE rfl rfl rfl rfl) (pad_cons (pd_tyc call_tuple_of cs_tup T.n_tuple (by decide +kernel) (pad_cons (pd_var 3) pad_nil)) (pad_cons (pd_var 6) pad_nil))) (pad_cons (pd_var 13) pad_nil))))))))
  (psd_one (psd_ret pd_bl))
  psd_nil)
  (psd_one (psd_ret (pd_and (pd_call G_law_rows_same (hr.mono (by decide)) T.g_law_rows_same T.k_law_rows_same T.b_law_rows_same .nil (fun W => Rps.nil) (passE rfl rfl rfl rfl) (pad_cons (pd_call G_heads_done (hr.mono (by decide)) T.g_heads_done T.k_heads_done T.b_heads_done .nil (fun W => Rps.nil) (passE rfl rfl rfl rfl) (pad_cons (pd_var 3) (pad_cons (pd_lst pad_nil) pad_nil))) (pad_cons (pd_var 7) pad_nil))) (pd_one (pd_call G_law_like (hr.mono (by decide)) T.g_law_like T.k_law_like T.b_law_like .nil (fun W => Rps.nil) (passE rfl rfl rfl rfl) (pad_cons (pd_var 11) (pad_cons (pd_var 3) pad_nil)))))))))))))))))))))))))))
include hck in
theorem ok_all : FnOk P w c.K mg base (L2.CX P w) 11 T.a_law T.d_law ["_law_script"] (spD c f_law) := by
  have G_law_bag := ok_law_bag (P := P) (w := w) (base := base) T hck
  have G_law_draw := ok_law_draw (P := P) (w := w) (base := base) T hck
  have G_law_of := ok_law_of (P := P) (w := w) (base := base) T hck G_law_draw
  have G_law_gcd := ok_law_gcd (P := P) (w := w) (base := base) T hck
  have G_law_low := ok_law_low (P := P) (w := w) (base := base) T hck G_law_gcd
  have G_law_light := ok_law_light (P := P) (w := w) (base := base) T hck G_law_draw G_law_low
  have G_law_rows := ok_law_rows (P := P) (w := w) (base := base) T hck G_law_draw G_law_of G_law_light
  have G_law_great := ok_law_great (P := P) (w := w) (base := base) T hck G_law_draw
  have G_law_factor := ok_law_factor (P := P) (w := w) (base := base) T hck G_law_draw G_law_low G_law_great
  have G_law_lights := ok_law_lights (P := P) (w := w) (base := base) T hck G_law_draw G_law_light
  have G_law_head := ok_law_head (P := P) (w := w) (base := base) T hck G_law_lights
  have G_law_common := ok_law_common (P := P) (w := w) (base := base) T hck G_law_gcd
  have G_law_state := ok_law_state (P := P) (w := w) (base := base) T hck G_law_common
  have G_law_scored := ok_law_scored (P := P) (w := w) (base := base) T hck G_law_common
  have G_fraction := ok_fraction (P := P) (w := w) (base := base) T hck
  have G_times := ok_times (P := P) (w := w) (base := base) T hck G_fraction
  have G_plus := ok_plus (P := P) (w := w) (base := base) T hck G_fraction
  have G_weighted_sum := ok_weighted_sum (P := P) (w := w) (base := base) T hck G_plus G_times
  have G_scores := ok_scores (P := P) (w := w) (base := base) T hck G_times G_weighted_sum
  have G_law_number := ok_law_number (P := P) (w := w) (base := base) T hck
  have G_law_is_fraction := ok_law_is_fraction (P := P) (w := w) (base := base) T hck G_law_number G_law_gcd
  have G_law_same := ok_law_same (P := P) (w := w) (base := base) T hck G_law_is_fraction
  have G_law_row_same := ok_law_row_same (P := P) (w := w) (base := base) T hck G_law_same
  have G_below := ok_below (P := P) (w := w) (base := base) T hck
  have G_looked_at := ok_looked_at (P := P) (w := w) (base := base) T hck G_scores G_below
  have G_law_like := ok_law_like (P := P) (w := w) (base := base) T hck 8
  have G_law_look_fits := ok_law_look_fits (P := P) (w := w) (base := base) T hck G_law_scored G_law_draw G_scores G_law_row_same G_looked_at G_law_like
  have G_law_seen := ok_law_seen (P := P) (w := w) (base := base) T hck G_law_scored
  have G_law_after_heads := ok_law_after_heads (P := P) (w := w) (base := base) T hck G_law_common G_law_seen
  have G_column_mean := ok_column_mean (P := P) (w := w) (base := base) T hck G_plus G_times G_fraction
  have G_add_gift := ok_add_gift (P := P) (w := w) (base := base) T hck G_plus
  have G_with_gifts := ok_with_gifts (P := P) (w := w) (base := base) T hck G_plus
  have G_heads_done := ok_heads_done (P := P) (w := w) (base := base) T hck G_looked_at G_column_mean G_add_gift G_times G_with_gifts
  have G_law_rows_same := ok_law_rows_same (P := P) (w := w) (base := base) T hck G_law_row_same
  have G_law_raised := ok_law_raised (P := P) (w := w) (base := base) T hck G_law_low
  have G_law := ok_law (P := P) (w := w) (base := base) T hck G_law_bag G_law_draw G_law_rows G_law_of G_law_factor G_law_head G_law_state G_law_look_fits G_law_after_heads G_heads_done G_law_like G_law_rows_same G_law_low G_law_raised
  exact G_law
end
end P_k18
namespace P_k18
open PySem PySem.Spec PyProof.Rows L2 LN
def dd_fraction : He.DefD := ⟨("fraction", none), "fraction", "fraction", defArgs s_fraction, defBody s_fraction, defScope s_fraction, [.int 1], []⟩
def dd_plus : He.DefD := ⟨("plus", none), "plus", "plus", defArgs s_plus, defBody s_plus, defScope s_plus, [], []⟩
def dd_times : He.DefD := ⟨("times", none), "times", "times", defArgs s_times, defBody s_times, defScope s_times, [], []⟩
def dd_below : He.DefD := ⟨("below", none), "below", "below", defArgs s_below, defBody s_below, defScope s_below, [], []⟩
def dd_with_gifts : He.DefD := ⟨("with_gifts", none), "with_gifts", "with_gifts", defArgs s_with_gifts, defBody s_with_gifts, defScope s_with_gifts, [], []⟩
def dd_add_gift : He.DefD := ⟨("add_gift", none), "add_gift", "add_gift", defArgs s_add_gift, defBody s_add_gift, defScope s_add_gift, [], []⟩
def dd_weighted_sum : He.DefD := ⟨("weighted_sum", none), "weighted_sum", "weighted_sum", defArgs s_weighted_sum, defBody s_weighted_sum, defScope s_weighted_sum, [], []⟩
def dd_column_mean : He.DefD := ⟨("column_mean", none), "column_mean", "column_mean", defArgs s_column_mean, defBody s_column_mean, defScope s_column_mean, [], []⟩
def dd_scores : He.DefD := ⟨("scores", none), "scores", "scores", defArgs s_scores, defBody s_scores, defScope s_scores, [], []⟩
def dd_looked_at : He.DefD := ⟨("looked_at", none), "looked_at", "looked_at", defArgs s_looked_at, defBody s_looked_at, defScope s_looked_at, [], []⟩
def dd_heads_done : He.DefD := ⟨("heads_done", none), "heads_done", "heads_done", defArgs s_heads_done, defBody s_heads_done, defScope s_heads_done, [], []⟩
def dd_law_bag : He.DefD := ⟨("_law_bag", none), "_law_bag", "_law_bag", defArgs s_law_bag, defBody s_law_bag, defScope s_law_bag, [], []⟩
def dd_law_draw : He.DefD := ⟨("_law_draw", none), "_law_draw", "_law_draw", defArgs s_law_draw, defBody s_law_draw, defScope s_law_draw, [], []⟩
def dd_law_of : He.DefD := ⟨("_law_of", none), "_law_of", "_law_of", defArgs s_law_of, defBody s_law_of, defScope s_law_of, [], []⟩
def dd_law_like : He.DefD := ⟨("_law_like", none), "_law_like", "_law_like", defArgs s_law_like, defBody s_law_like, defScope s_law_like, [], []⟩
def dd_law_gcd : He.DefD := ⟨("_law_gcd", none), "_law_gcd", "_law_gcd", defArgs s_law_gcd, defBody s_law_gcd, defScope s_law_gcd, [], []⟩
def dd_law_low : He.DefD := ⟨("_law_low", none), "_law_low", "_law_low", defArgs s_law_low, defBody s_law_low, defScope s_law_low, [], []⟩
def dd_law_great : He.DefD := ⟨("_law_great", none), "_law_great", "_law_great", defArgs s_law_great, defBody s_law_great, defScope s_law_great, [], []⟩
def dd_law_factor : He.DefD := ⟨("_law_factor", none), "_law_factor", "_law_factor", defArgs s_law_factor, defBody s_law_factor, defScope s_law_factor, [], []⟩
def dd_law_number : He.DefD := ⟨("_law_number", none), "_law_number", "_law_number", defArgs s_law_number, defBody s_law_number, defScope s_law_number, [], []⟩
def dd_law_is_fraction : He.DefD := ⟨("_law_is_fraction", none), "_law_is_fraction", "_law_is_fraction", defArgs s_law_is_fraction, defBody s_law_is_fraction, defScope s_law_is_fraction, [], []⟩
def dd_law_common : He.DefD := ⟨("_law_common", none), "_law_common", "_law_common", defArgs s_law_common, defBody s_law_common, defScope s_law_common, [], []⟩
def dd_law_state : He.DefD := ⟨("_law_state", none), "_law_state", "_law_state", defArgs s_law_state, defBody s_law_state, defScope s_law_state, [], []⟩
def dd_law_scored : He.DefD := ⟨("_law_scored", none), "_law_scored", "_law_scored", defArgs s_law_scored, defBody s_law_scored, defScope s_law_scored, [], []⟩
def dd_law_seen : He.DefD := ⟨("_law_seen", none), "_law_seen", "_law_seen", defArgs s_law_seen, defBody s_law_seen, defScope s_law_seen, [], []⟩
def dd_law_after_heads : He.DefD := ⟨("_law_after_heads", none), "_law_after_heads", "_law_after_heads", defArgs s_law_after_heads, defBody s_law_after_heads, defScope s_law_after_heads, [], []⟩
def dd_law_same : He.DefD := ⟨("_law_same", none), "_law_same", "_law_same", defArgs s_law_same, defBody s_law_same, defScope s_law_same, [], []⟩
def dd_law_row_same : He.DefD := ⟨("_law_row_same", none), "_law_row_same", "_law_row_same", defArgs s_law_row_same, defBody s_law_row_same, defScope s_law_row_same, [], []⟩
def dd_law_rows_same : He.DefD := ⟨("_law_rows_same", none), "_law_rows_same", "_law_rows_same", defArgs s_law_rows_same, defBody s_law_rows_same, defScope s_law_rows_same, [], []⟩
def dd_law_light : He.DefD := ⟨("_law_light", none), "_law_light", "_law_light", defArgs s_law_light, defBody s_law_light, defScope s_law_light, [], []⟩
def dd_law_lights : He.DefD := ⟨("_law_lights", none), "_law_lights", "_law_lights", defArgs s_law_lights, defBody s_law_lights, defScope s_law_lights, [], []⟩
def dd_law_rows : He.DefD := ⟨("_law_rows", none), "_law_rows", "_law_rows", defArgs s_law_rows, defBody s_law_rows, defScope s_law_rows, [], []⟩
def dd_law_head : He.DefD := ⟨("_law_head", none), "_law_head", "_law_head", defArgs s_law_head, defBody s_law_head, defScope s_law_head, [], []⟩
def dd_law_look_fits : He.DefD := ⟨("_law_look_fits", none), "_law_look_fits", "_law_look_fits", defArgs s_law_look_fits, defBody s_law_look_fits, defScope s_law_look_fits, [], []⟩
def dd_law_raised : He.DefD := ⟨("_law_raised", none), "_law_raised", "_law_raised", defArgs s_law_raised, defBody s_law_raised, defScope s_law_raised, [], []⟩
def dd_law : He.DefD := ⟨("law", none), "law", "law", defArgs s_law, defBody s_law, defScope s_law, [], []⟩
def hfn : List He.DefD := [dd_fraction, dd_plus, dd_times, dd_below, dd_with_gifts, dd_add_gift, dd_weighted_sum, dd_column_mean, dd_scores, dd_looked_at, dd_heads_done, dd_law_bag, dd_law_draw, dd_law_of, dd_law_like, dd_law_gcd, dd_law_low, dd_law_great, dd_law_factor, dd_law_number, dd_law_is_fraction, dd_law_common, dd_law_state, dd_law_scored, dd_law_seen, dd_law_after_heads, dd_law_same, dd_law_row_same, dd_law_rows_same, dd_law_light, dd_law_lights, dd_law_rows, dd_law_head, dd_law_look_fits, dd_law_raised, dd_law]
def hfa : List He.Fa := [.glo "fraction", .glo "plus", .glo "times", .glo "below", .glo "with_gifts", .glo "add_gift", .glo "weighted_sum", .glo "column_mean", .glo "scores", .glo "looked_at", .glo "heads_done", .glo "_law_bag", .glo "_law_draw", .glo "_law_of", .glo "_law_like", .glo "_law_gcd", .glo "_law_low", .glo "_law_great", .glo "_law_factor", .glo "_law_number", .glo "_law_is_fraction", .glo "_law_common", .glo "_law_state", .glo "_law_scored", .glo "_law_seen", .glo "_law_after_heads", .glo "_law_same", .glo "_law_row_same", .glo "_law_rows_same", .glo "_law_light", .glo "_law_lights", .glo "_law_rows", .glo "_law_head", .glo "_law_look_fits", .glo "_law_raised", .glo "law", .free "abs", .free "all", .free "bool", .free "dict", .free "enumerate", .free "int", .free "isinstance", .free "len", .free "list", .free "max", .free "range", .free "str", .free "sum", .free "tuple", .free "zip"]
def hcs : List (List V) := [[.int 0, .int 1]]
def hex (K : PySem.W.Frag) : Bool := (bltX K "gcd" "math.gcd" && (conX K "ZERO" 3 c_ZERO hcs))
abbrev hR : PySem.W.OpenRow := PySem.W.OpenLaw.row PySem.Challenge.rw_lookingnets_k18_whole_scores_and_looks
abbrev hkX : PySem.W.Hook := hookX 4 hfa hfn hex
def hob (s : PySem.W.SharedT) : He.AlD := obsXG 4 hfa hfn hex (HandSHeadRun.getT s)
theorem hob_eq (s : PySem.W.SharedT) : hob s = hkX.obs s.abs := obsXG_eq (HandSHeadRun.getT_eq s)
def hn0 : List Str := ["NetError", "BadValue", "fraction", "plus", "times", "below", "ZERO", "with_gifts", "add_gift", "weighted_sum", "column_mean", "scores", "looked_at", "heads_done", "_law_bag", "_law_draw", "_law_of", "_law_like", "_law_gcd", "_law_low", "_law_great", "_law_factor", "_law_number", "_law_is_fraction", "_law_common", "_law_state", "_law_scored", "_law_seen", "_law_after_heads", "_law_same"]
def hn1 : List Str := ["_law_row_same", "_law_rows_same", "_law_light", "_law_lights", "_law_rows", "_law_head", "_law_look_fits", "_law_raised"]
def hnames : List Str := hn0 ++ hn1
theorem hrun (w : World) : HandSHeadRun.RunEqI hR (PySem.W.view hR.prog [0, 43]) hkX hob 6000 hnames w := by
  unfold HandSHeadRun.RunEqI
  kernel_rfl
theorem hck (K : PySem.W.Frag) (Γ : Str → Addr) : CkOk ⟨K, hcs, Γ⟩ ck := fun k h => by
  have h : k ≠ [.inl 0, .inl 1] := by simpa [ck] using h
  intro z
  simp only [hcs, List.mem_singleton] at z
  match k, z with
  | [.inl a, .inl b], z =>
    simp only [List.map_cons, List.map_nil, kV, List.cons.injEq, V.int.injEq, and_true] at z
    obtain ⟨rfl, rfl⟩ := z
    exact h rfl
  | [.inr a, _], z => simp [kV] at z
  | [.inl a, .inr b], z => simp [kV] at z
theorem hfacts {P : Program} {w : World} {K : PySem.W.Frag} {h : Heap} {mg : Str → Option Value} {f : Addr} (X : K.In h) (G : h.Ns mainGlobals mg) (hfa0 : mg ("law" : Str) = some (.ref f)) (c : SaysX hfa hfn hex K) :
    ∃ fd : FuncData, (∀ (s : Shared) (v : Value), BindsTo s fd ⟨[v], []⟩ [("_law_script", v)]) ∧ ∀ base : Heap, K.In base → base.Ns mainGlobals mg → FnOk P w K mg base CX0 11 f fd ["_law_script"] (fun vs H Q _ => spD ⟨K, hcs, fun _ => 0⟩ f_law vs H Q fun _ _ _ => False) := by
  obtain ⟨c, cx⟩ := c.d
  obtain ⟨fd_fraction, F_fraction⟩ := c.def_ 0 (d := dd_fraction) rfl
  obtain ⟨fd_plus, F_plus⟩ := c.def_ 1 (d := dd_plus) rfl
  obtain ⟨fd_times, F_times⟩ := c.def_ 2 (d := dd_times) rfl
  obtain ⟨fd_below, F_below⟩ := c.def_ 3 (d := dd_below) rfl
  obtain ⟨fd_with_gifts, F_with_gifts⟩ := c.def_ 4 (d := dd_with_gifts) rfl
  obtain ⟨fd_add_gift, F_add_gift⟩ := c.def_ 5 (d := dd_add_gift) rfl
  obtain ⟨fd_weighted_sum, F_weighted_sum⟩ := c.def_ 6 (d := dd_weighted_sum) rfl
  obtain ⟨fd_column_mean, F_column_mean⟩ := c.def_ 7 (d := dd_column_mean) rfl
  obtain ⟨fd_scores, F_scores⟩ := c.def_ 8 (d := dd_scores) rfl
  obtain ⟨fd_looked_at, F_looked_at⟩ := c.def_ 9 (d := dd_looked_at) rfl
  obtain ⟨fd_heads_done, F_heads_done⟩ := c.def_ 10 (d := dd_heads_done) rfl
  obtain ⟨fd_law_bag, F_law_bag⟩ := c.def_ 11 (d := dd_law_bag) rfl
  obtain ⟨fd_law_draw, F_law_draw⟩ := c.def_ 12 (d := dd_law_draw) rfl
  obtain ⟨fd_law_of, F_law_of⟩ := c.def_ 13 (d := dd_law_of) rfl
  obtain ⟨fd_law_like, F_law_like⟩ := c.def_ 14 (d := dd_law_like) rfl
  obtain ⟨fd_law_gcd, F_law_gcd⟩ := c.def_ 15 (d := dd_law_gcd) rfl
  obtain ⟨fd_law_low, F_law_low⟩ := c.def_ 16 (d := dd_law_low) rfl
  obtain ⟨fd_law_great, F_law_great⟩ := c.def_ 17 (d := dd_law_great) rfl
  obtain ⟨fd_law_factor, F_law_factor⟩ := c.def_ 18 (d := dd_law_factor) rfl
  obtain ⟨fd_law_number, F_law_number⟩ := c.def_ 19 (d := dd_law_number) rfl
  obtain ⟨fd_law_is_fraction, F_law_is_fraction⟩ := c.def_ 20 (d := dd_law_is_fraction) rfl
  obtain ⟨fd_law_common, F_law_common⟩ := c.def_ 21 (d := dd_law_common) rfl
  obtain ⟨fd_law_state, F_law_state⟩ := c.def_ 22 (d := dd_law_state) rfl
  obtain ⟨fd_law_scored, F_law_scored⟩ := c.def_ 23 (d := dd_law_scored) rfl
  obtain ⟨fd_law_seen, F_law_seen⟩ := c.def_ 24 (d := dd_law_seen) rfl
  obtain ⟨fd_law_after_heads, F_law_after_heads⟩ := c.def_ 25 (d := dd_law_after_heads) rfl
  obtain ⟨fd_law_same, F_law_same⟩ := c.def_ 26 (d := dd_law_same) rfl
  obtain ⟨fd_law_row_same, F_law_row_same⟩ := c.def_ 27 (d := dd_law_row_same) rfl
  obtain ⟨fd_law_rows_same, F_law_rows_same⟩ := c.def_ 28 (d := dd_law_rows_same) rfl
  obtain ⟨fd_law_light, F_law_light⟩ := c.def_ 29 (d := dd_law_light) rfl
  obtain ⟨fd_law_lights, F_law_lights⟩ := c.def_ 30 (d := dd_law_lights) rfl
  obtain ⟨fd_law_rows, F_law_rows⟩ := c.def_ 31 (d := dd_law_rows) rfl
  obtain ⟨fd_law_head, F_law_head⟩ := c.def_ 32 (d := dd_law_head) rfl
  obtain ⟨fd_law_look_fits, F_law_look_fits⟩ := c.def_ 33 (d := dd_law_look_fits) rfl
  obtain ⟨fd_law_raised, F_law_raised⟩ := c.def_ 34 (d := dd_law_raised) rfl
  obtain ⟨fd_law, F_law⟩ := c.def_ 35 (d := dd_law) rfl
  have e := hfa0.symm.trans (He.glo_ok X G (c.fact 35 (f := .glo "law") rfl))
  cases e
  unfold hex at cx
  simp only [Bool.and_eq_true] at cx
  obtain ⟨cx0, cx1⟩ := cx
  obtain ⟨v_ZERO, m_ZERO, r_ZERO, p_ZERO⟩ := conX_ok (c := ⟨K, hcs, fun _ => 0⟩) X G cx1
  have b0 := FunD.bindsA (ps := ["_law_script"]) F_law fun _ _ _ _ _ _ us hl => match us, hl with | [_], _ => rfl
  refine ⟨fd_law, fun s v => b0 s [v] rfl, fun base _ _ => FnOk_nox (ok_all (P := P) (w := w) (base := base) (c := ⟨K, hcs, fun _ => 0⟩) (mg := mg) {
    a_fraction := He.ga K "fraction"
    d_fraction := fd_fraction
    F_fraction := F_fraction
    g_fraction := He.glo_ok X G (c.fact 0 (f := .glo "fraction") rfl)
    a_plus := He.ga K "plus"
    d_plus := fd_plus
    F_plus := F_plus
    g_plus := He.glo_ok X G (c.fact 1 (f := .glo "plus") rfl)
    a_times := He.ga K "times"
    d_times := fd_times
    F_times := F_times
    g_times := He.glo_ok X G (c.fact 2 (f := .glo "times") rfl)
    a_below := He.ga K "below"
    d_below := fd_below
    F_below := F_below
    g_below := He.glo_ok X G (c.fact 3 (f := .glo "below") rfl)
    a_with_gifts := He.ga K "with_gifts"
    d_with_gifts := fd_with_gifts
    F_with_gifts := F_with_gifts
    g_with_gifts := He.glo_ok X G (c.fact 4 (f := .glo "with_gifts") rfl)
    a_add_gift := He.ga K "add_gift"
    d_add_gift := fd_add_gift
    F_add_gift := F_add_gift
    g_add_gift := He.glo_ok X G (c.fact 5 (f := .glo "add_gift") rfl)
    a_weighted_sum := He.ga K "weighted_sum"
    d_weighted_sum := fd_weighted_sum
    F_weighted_sum := F_weighted_sum
    g_weighted_sum := He.glo_ok X G (c.fact 6 (f := .glo "weighted_sum") rfl)
    a_column_mean := He.ga K "column_mean"
    d_column_mean := fd_column_mean
    F_column_mean := F_column_mean
    g_column_mean := He.glo_ok X G (c.fact 7 (f := .glo "column_mean") rfl)
    a_scores := He.ga K "scores"
    d_scores := fd_scores
    F_scores := F_scores
    g_scores := He.glo_ok X G (c.fact 8 (f := .glo "scores") rfl)
    a_looked_at := He.ga K "looked_at"
    d_looked_at := fd_looked_at
    F_looked_at := F_looked_at
    g_looked_at := He.glo_ok X G (c.fact 9 (f := .glo "looked_at") rfl)
    a_heads_done := He.ga K "heads_done"
    d_heads_done := fd_heads_done
    F_heads_done := F_heads_done
    g_heads_done := He.glo_ok X G (c.fact 10 (f := .glo "heads_done") rfl)
    a_law_bag := He.ga K "_law_bag"
    d_law_bag := fd_law_bag
    F_law_bag := F_law_bag
    g_law_bag := He.glo_ok X G (c.fact 11 (f := .glo "_law_bag") rfl)
    a_law_draw := He.ga K "_law_draw"
    d_law_draw := fd_law_draw
    F_law_draw := F_law_draw
    g_law_draw := He.glo_ok X G (c.fact 12 (f := .glo "_law_draw") rfl)
    a_law_of := He.ga K "_law_of"
    d_law_of := fd_law_of
    F_law_of := F_law_of
    g_law_of := He.glo_ok X G (c.fact 13 (f := .glo "_law_of") rfl)
    a_law_like := He.ga K "_law_like"
    d_law_like := fd_law_like
    F_law_like := F_law_like
    g_law_like := He.glo_ok X G (c.fact 14 (f := .glo "_law_like") rfl)
    a_law_gcd := He.ga K "_law_gcd"
    d_law_gcd := fd_law_gcd
    F_law_gcd := F_law_gcd
    g_law_gcd := He.glo_ok X G (c.fact 15 (f := .glo "_law_gcd") rfl)
    a_law_low := He.ga K "_law_low"
    d_law_low := fd_law_low
    F_law_low := F_law_low
    g_law_low := He.glo_ok X G (c.fact 16 (f := .glo "_law_low") rfl)
    a_law_great := He.ga K "_law_great"
    d_law_great := fd_law_great
    F_law_great := F_law_great
    g_law_great := He.glo_ok X G (c.fact 17 (f := .glo "_law_great") rfl)
    a_law_factor := He.ga K "_law_factor"
    d_law_factor := fd_law_factor
    F_law_factor := F_law_factor
    g_law_factor := He.glo_ok X G (c.fact 18 (f := .glo "_law_factor") rfl)
    a_law_number := He.ga K "_law_number"
    d_law_number := fd_law_number
    F_law_number := F_law_number
    g_law_number := He.glo_ok X G (c.fact 19 (f := .glo "_law_number") rfl)
    a_law_is_fraction := He.ga K "_law_is_fraction"
    d_law_is_fraction := fd_law_is_fraction
    F_law_is_fraction := F_law_is_fraction
    g_law_is_fraction := He.glo_ok X G (c.fact 20 (f := .glo "_law_is_fraction") rfl)
    a_law_common := He.ga K "_law_common"
    d_law_common := fd_law_common
    F_law_common := F_law_common
    g_law_common := He.glo_ok X G (c.fact 21 (f := .glo "_law_common") rfl)
    a_law_state := He.ga K "_law_state"
    d_law_state := fd_law_state
    F_law_state := F_law_state
    g_law_state := He.glo_ok X G (c.fact 22 (f := .glo "_law_state") rfl)
    a_law_scored := He.ga K "_law_scored"
    d_law_scored := fd_law_scored
    F_law_scored := F_law_scored
    g_law_scored := He.glo_ok X G (c.fact 23 (f := .glo "_law_scored") rfl)
    a_law_seen := He.ga K "_law_seen"
    d_law_seen := fd_law_seen
    F_law_seen := F_law_seen
    g_law_seen := He.glo_ok X G (c.fact 24 (f := .glo "_law_seen") rfl)
    a_law_after_heads := He.ga K "_law_after_heads"
    d_law_after_heads := fd_law_after_heads
    F_law_after_heads := F_law_after_heads
    g_law_after_heads := He.glo_ok X G (c.fact 25 (f := .glo "_law_after_heads") rfl)
    a_law_same := He.ga K "_law_same"
    d_law_same := fd_law_same
    F_law_same := F_law_same
    g_law_same := He.glo_ok X G (c.fact 26 (f := .glo "_law_same") rfl)
    a_law_row_same := He.ga K "_law_row_same"
    d_law_row_same := fd_law_row_same
    F_law_row_same := F_law_row_same
    g_law_row_same := He.glo_ok X G (c.fact 27 (f := .glo "_law_row_same") rfl)
    a_law_rows_same := He.ga K "_law_rows_same"
    d_law_rows_same := fd_law_rows_same
    F_law_rows_same := F_law_rows_same
    g_law_rows_same := He.glo_ok X G (c.fact 28 (f := .glo "_law_rows_same") rfl)
    a_law_light := He.ga K "_law_light"
    d_law_light := fd_law_light
    F_law_light := F_law_light
    g_law_light := He.glo_ok X G (c.fact 29 (f := .glo "_law_light") rfl)
    a_law_lights := He.ga K "_law_lights"
    d_law_lights := fd_law_lights
    F_law_lights := F_law_lights
    g_law_lights := He.glo_ok X G (c.fact 30 (f := .glo "_law_lights") rfl)
    a_law_rows := He.ga K "_law_rows"
    d_law_rows := fd_law_rows
    F_law_rows := F_law_rows
    g_law_rows := He.glo_ok X G (c.fact 31 (f := .glo "_law_rows") rfl)
    a_law_head := He.ga K "_law_head"
    d_law_head := fd_law_head
    F_law_head := F_law_head
    g_law_head := He.glo_ok X G (c.fact 32 (f := .glo "_law_head") rfl)
    a_law_look_fits := He.ga K "_law_look_fits"
    d_law_look_fits := fd_law_look_fits
    F_law_look_fits := F_law_look_fits
    g_law_look_fits := He.glo_ok X G (c.fact 33 (f := .glo "_law_look_fits") rfl)
    a_law_raised := He.ga K "_law_raised"
    d_law_raised := fd_law_raised
    F_law_raised := F_law_raised
    g_law_raised := He.glo_ok X G (c.fact 34 (f := .glo "_law_raised") rfl)
    a_law := He.ga K "law"
    d_law := fd_law
    F_law := F_law
    g_law := He.glo_ok X G (c.fact 35 (f := .glo "law") rfl)
    n_abs := He.free_ok X G (c.fact 36 (f := .free "abs") rfl)
    n_all := He.free_ok X G (c.fact 37 (f := .free "all") rfl)
    n_bool := He.free_ok X G (c.fact 38 (f := .free "bool") rfl)
    n_dict := He.free_ok X G (c.fact 39 (f := .free "dict") rfl)
    n_enumerate := He.free_ok X G (c.fact 40 (f := .free "enumerate") rfl)
    n_int := He.free_ok X G (c.fact 41 (f := .free "int") rfl)
    n_isinstance := He.free_ok X G (c.fact 42 (f := .free "isinstance") rfl)
    n_len := He.free_ok X G (c.fact 43 (f := .free "len") rfl)
    n_list := He.free_ok X G (c.fact 44 (f := .free "list") rfl)
    n_max := He.free_ok X G (c.fact 45 (f := .free "max") rfl)
    n_range := He.free_ok X G (c.fact 46 (f := .free "range") rfl)
    n_str := He.free_ok X G (c.fact 47 (f := .free "str") rfl)
    n_sum := He.free_ok X G (c.fact 48 (f := .free "sum") rfl)
    n_tuple := He.free_ok X G (c.fact 49 (f := .free "tuple") rfl)
    n_zip := He.free_ok X G (c.fact 50 (f := .free "zip") rfl)
    m_gcd := bltX_ok X G cx0
    v_ZERO := v_ZERO
    g_ZERO := m_ZERO
    w_ZERO := vOf v_ZERO
    r_ZERO := r_ZERO
    c_ZERO := p_ZERO } (hck K fun _ => 0))⟩
end P_k18
open PySem PySem.W PySem.Calls PyProof.Rows
theorem PySem.Challenge.cw_lookingnets_k18_whole_scores_and_looks_holds : PySem.Challenge.rw_lookingnets_k18_whole_scores_and_looks.Holds := by
  w_on; o_law
  refine HandSHeadRun.head_imp (r := OpenLaw.row PySem.Challenge.rw_lookingnets_k18_whole_scores_and_looks) (q := view (OpenLaw.row PySem.Challenge.rw_lookingnets_k18_whole_scores_and_looks).prog [0, 43]) (H := P_k18.hkX) (ob := P_k18.hob) (M := 6000) (loose := P_k18.hnames) (d := HandSHeadRun.topDef (OpenLaw.row PySem.Challenge.rw_lookingnets_k18_whole_scores_and_looks).prog 43) (kwd := []) P_k18.hob_eq
    P_k18.hrun (by kernel_rfl) (by kernel_rfl) (by kernel_rfl) (by rfl) (by first | assumption | decide +kernel) (by decide +kernel) ⟨rfl, rfl, rfl, rfl, rfl, by decide +kernel⟩ ?hw ?hc
  case hw => w_witness2
  case hc =>
    refine L2.walk_ofE (l := PySem.Challenge.rw_lookingnets_k18_whole_scores_and_looks) (n := 63) (k := 11) (x := "_law_script") (CX := L2.CX0) rfl (by decide) (by kernel_rfl) ⟨rfl, by decide, by decide⟩ ?F (fun _ _ _ _ z => z)
    intro w mg fa h Y G hmg0
    obtain ⟨K, KX, c⟩ := Y
    have hmg : mg ("law" : PySem.Str) = some (.ref fa) := by
      have e : (HandSHeadRun.topDef (OpenLaw.row PySem.Challenge.rw_lookingnets_k18_whole_scores_and_looks).prog 43).name = ("law" : PySem.Str) := by kernel_rfl
      rw [← e]
      exact hmg0
    obtain ⟨fd, hb, hF⟩ := P_k18.hfacts (P := (PySem.Challenge.rw_lookingnets_k18_whole_scores_and_looks).prog) (w := w) KX G hmg c
    exact ⟨K, fd, fun vs H Q _ => LN.spD ⟨K, P_k18.hcs, fun _ => 0⟩ P_k18.f_law vs H Q fun _ _ _ => False, KX, hb, fun H a ns hl _ hS => LN.law_promise (c := ⟨K, P_k18.hcs, fun _ => 0⟩) P_k18.law_run H a ns hS, hF⟩
