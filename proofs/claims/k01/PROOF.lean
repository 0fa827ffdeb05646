import PyProof.Rows.All
import Wide.All
import OpenK.AllK
import Wide.FinOn
import KE.KeyNested
import KE.KDictCopyH
import KE.KDictWalk
import HandS.Dict
import HandS.DictComp
import HandS.Conv
import HandS.Iter
import HandS.TupLen
import HandS.ForMost
import HandS.WordsExc
import HandS.Wide
import HandS.WideBits
import HandS.TupAny
import HandS.IsInst
import HandS.Defaults
import HandS.Deep
import HandS.Flow
import HandS.Gcd
import HandS.Lambda
import HandS.Style
import HandS.SortInts
import HandS.Small
import HandS.More
import HandS.TupSets
import HandS.Zip
import KE.GoesZip
import KE.GoesMore
import KE.GoesEnum
import KE.KEqDict
import HandS.WordsDict
import KE.KRevSl
import HandS.NoneIn
import HandS.StrMore
import HandS.FStr
import HandS.ReplaceLit
import HandS.MapJoin
import HandS.TupMul
import HandS.ExcInit
import HandS.ExcField
import HandS.ExcIs
import HandS.Nested
import KE.KSuper
import KE.KExcSuper
import KE.KExcInit
import KE.SortKeyHeap
import HandS.Head0
import HandS.Head1
import HandS.Head2
import HandS.HeadEnd
import HandS.HeadHook1
import HandS.HeadHook2
import HandS.Words
import KE.KStateDown
import HandS.HeadHook3
import HandS.Head3
import HandS.HeadHook4
import HandS.EndTab
import HandS.HeadWalk
import PySem.Challenge.RW_lookingnets_k01_fractions_worked
set_option Elab.async false
set_option linter.all false
set_option maxRecDepth 100000
set_option maxHeartbeats 0
set_option maxHeartbeats 2000000
/-! LNaa: dicts whose keys are tuples of any depth, written ones of the module too. -/
namespace L2
open PySem PySem.Spec PyProof.Rows
abbrev NK := NestedKey
mutual
/-- the value is the key -/
def NV (K : PySem.W.Frag) (H : Hp) : NK → V → Prop
  | .none, v => v = .non
  | .num i, v => v = .int i
  | .text x, v => v = .str x
  | .tup ks, v => ∃ a vs, v = .ref a ∧ SqT K H a vs ∧ NVs K H ks vs
def NVs (K : PySem.W.Frag) (H : Hp) : List NK → List V → Prop
  | [], vs => vs = []
  | k :: ks, vs => ∃ v r, vs = v :: r ∧ NV K H k v ∧ NVs K H ks r
end
theorem SqT.ext {K : PySem.W.Frag} {H H' : Hp} {a : Addr} {xs : List V} (k : ∀ a o, H a = some o → H' a = some o) (h : SqT K H a xs) : SqT K H' a xs := by
  rcases h with (h | ⟨o, h⟩) | h
  · exact .inl (.inl (k _ _ h))
  · exact .inl (.inr ⟨o, k _ _ h⟩)
  · exact .inr h
theorem SqT.ext2 {K : PySem.W.Frag} {H H' : Hp} {a : Addr} {xs : List V} (k1 : ∀ a xs, H a = some (.tup xs) → H' a = some (.tup xs)) (k2 : ∀ a o xs, H a = some (.frz o (.tup xs)) → H' a = some (.frz o (.tup xs))) (h : SqT K H a xs) : SqT K H' a xs := by
  rcases h with (h | ⟨o, h⟩) | h
  · exact .inl (.inl (k1 _ _ h))
  · exact .inl (.inr ⟨o, k2 _ _ _ h⟩)
  · exact .inr h
mutual
theorem NV.ext2 {K : PySem.W.Frag} {H H' : Hp} (k1 : ∀ a xs, H a = some (.tup xs) → H' a = some (.tup xs)) (k2 : ∀ a o xs, H a = some (.frz o (.tup xs)) → H' a = some (.frz o (.tup xs))) : ∀ (k : NK) {v : V}, NV K H k v → NV K H' k v
  | .none, _, h => h
  | .num _, _, h => h
  | .text _, _, h => h
  | .tup ks, _, h => by
    simp only [NV] at h ⊢
    obtain ⟨a, vs, e, q, r⟩ := h
    exact ⟨a, vs, e, q.ext2 k1 k2, NVs.ext2 k1 k2 ks r⟩
theorem NVs.ext2 {K : PySem.W.Frag} {H H' : Hp} (k1 : ∀ a xs, H a = some (.tup xs) → H' a = some (.tup xs)) (k2 : ∀ a o xs, H a = some (.frz o (.tup xs)) → H' a = some (.frz o (.tup xs))) : ∀ (ks : List NK) {vs : List V}, NVs K H ks vs → NVs K H' ks vs
  | [], _, h => h
  | k :: ks, _, h => by
    simp only [NVs] at h ⊢
    obtain ⟨v, r, e, p, q⟩ := h
    exact ⟨v, r, e, NV.ext2 k1 k2 k p, NVs.ext2 k1 k2 ks q⟩
end
section
variable {X : Cx} {pins : List (Addr × Obj)} {σ : St} {H : Hp} {s : Shared}
mutual
theorem NV.is (I : Inv X pins σ H s) : ∀ (k : NK) {v : V} {u : Value}, NV X.K H k v → RelV v u → NestedIs s.heap k u
  | .none, v, u, h, r => by simp only [NV] at h; subst h; cases (show u = Value.none from r); exact .none
  | .num i, v, u, h, r => by
    simp only [NV] at h; subst h
    obtain ⟨t, rfl⟩ := (show ∃ t, u = Value.int i t from r)
    exact .int i t
  | .text x, v, u, h, r => by
    simp only [NV] at h; subst h
    obtain ⟨t, rfl⟩ := (show ∃ t, u = Value.str x t from r)
    exact .text x t
  | .tup ks, v, u, h, r => by
    simp only [NV] at h
    obtain ⟨a, vs, rfl, q, r2⟩ := h
    cases (show u = Value.ref a from r)
    obtain ⟨its, rv, ⟨o, e1, e2, n, e3⟩, _⟩ := I.tuple q
    exact .tup e1 e2 e3 (by simpa using NVs.is I ks r2 rv)
theorem NVs.is (I : Inv X pins σ H s) : ∀ (ks : List NK) {vs : List V} {us : List Value}, NVs X.K H ks vs → Vals vs us → NestedAll s.heap ks us
  | [], vs, us, h, r => by simp only [NVs] at h; subst h; cases r; exact .nil
  | k :: ks, vs, us, h, r => by
    simp only [NVs] at h
    obtain ⟨v, vr, rfl, h1, h2⟩ := h
    cases r with
    | cons r1 r2 => exact .cons (NV.is I k h1 r1) (NVs.is I ks h2 r2)
end
end
/-! ### entries: key, its object, value -/
abbrev NE := NK × Addr × V
def nent (w : World) (x : NK × Addr × Value) : DictEntry := ⟨x.1.hash w, .ref x.2.1, x.2.2⟩
abbrev NP : List NE → List (NK × Addr × Value) → Prop := Paired fun p q => p.1 = q.1 ∧ p.2.1 = q.2.1 ∧ RelV p.2.2 q.2.2
def NDat (w : World) (h : Heap) (a : Addr) (kvs : List NE) : Prop :=
  kvs.length ≤ sizeLine ∧ (a == sysModules) = false ∧ ∃ xs, NP kvs xs ∧ ∃ o es ep, h.get? a = some o ∧ o.ExactDict ∧ o.data = .dict es ep ∧ es.toList = xs.map (nent w) ∧ (xs.map (·.1)).Nodup
def NDo (w : World) (a : Addr) (kvs : List NE) : HO := .ext fun h => NDat w h a kvs
theorem ndo_ok {P : Program} {w w' : World} {H : Hp} {h : Heap} {a : Addr} {kvs : List NE} (x : NDat w h a kvs) : ObjOk P w' H h a (NDo w a kvs) := by
  refine ⟨x, ?_, fun h1 h2 z k => ?_⟩
  · obtain ⟨_, _, xs, _, o, es, ep, e, _⟩ := x
    exact ⟨o, e⟩
  · obtain ⟨z1, z2, xs, z3, o, es, ep, e, r⟩ := z
    exact ⟨z1, z2, xs, z3, o, es, ep, k _ e, r⟩
theorem nd_at {P : Program} {w w' : World} {H : Hp} {h : Heap} {a : Addr} {kvs : List NE} (hok : HOk P w' H h) (e : Rd H a (NDo w a kvs)) : NDat w h a kvs := by
  have x : ObjOk P w' H h a (.ext fun h => NDat w h a kvs) := e.ok hok
  exact x.1
theorem ndo_inj {w : World} {a : Addr} {kvs : List NE} {u : HO} (h : ∀ φ, u ≠ .ext φ) : NDo w a kvs ≠ u := fun z => h _ z.symm
theorem NP.len {kvs : List NE} {xs : List (NK × Addr × Value)} (r : NP kvs xs) : kvs.length = xs.length := Paired.length r
theorem NP.get {kvs : List NE} {xs : List (NK × Addr × Value)} (r : NP kvs xs) {i : Nat} {p : NE} (h : kvs[i]? = some p) : ∃ q, xs[i]? = some q ∧ p.1 = q.1 ∧ p.2.1 = q.2.1 ∧ RelV p.2.2 q.2.2 := paired_get r h
theorem NP.get' {kvs : List NE} {xs : List (NK × Addr × Value)} (r : NP kvs xs) {i : Nat} {q : NK × Addr × Value} (h : xs[i]? = some q) : ∃ p, kvs[i]? = some p ∧ p.1 = q.1 ∧ p.2.1 = q.2.1 ∧ RelV p.2.2 q.2.2 := by
  have hi := (List.getElem?_eq_some_iff.mp h).1
  have l := r.len
  obtain ⟨q', e1, e2⟩ := r.get (List.getElem?_eq_getElem (l := kvs) (i := i) (by omega))
  rw [h] at e1; cases e1
  exact ⟨_, List.getElem?_eq_getElem (by omega), e2⟩
/-- the keys are told -/
def NKs (K : PySem.W.Frag) (H : Hp) (kvs : List NE) : Prop := ∀ p ∈ kvs, NV K H p.1 (.ref p.2.1) ∧ p.1.depth ≤ 8
def valN (kvs : List NE) (k : NK) : Option V := (kvs.find? fun x => decide (x.1 = k)).map (·.2.2)
def putN (kvs : List NE) (k : NK) (b : Addr) (v : V) : List NE := if (valN kvs k).isSome = true then kvs.map (fun x => if x.1 = k then (x.1, x.2.1, v) else x) else kvs ++ [(k, b, v)]
theorem NP.val {kvs : List NE} {xs : List (NK × Addr × Value)} (r : NP kvs xs) (k : NK) : RelO (valN kvs k) ((atKey xs k).map (·.2)) := by
  unfold valN atKey
  induction r with
  | nil => exact True.intro
  | @cons p q ps qs h t ih =>
    rw [List.find?_cons, List.find?_cons, ← h.1]
    by_cases e : p.1 = k
    · rw [decide_eq_true e]
      exact h.2.2
    · rw [decide_eq_false e]
      exact ih
theorem NP.put {kvs : List NE} {xs : List (NK × Addr × Value)} (r : NP kvs xs) (k : NK) {b : Addr} {v : V} {u : Value} (rv : RelV v u) : NP (putN kvs k b v) (storedH xs k b u) := by
  have hs := (r.val k).isSome_eq
  rw [Option.isSome_map] at hs
  unfold putN storedH
  rw [hs]
  by_cases e : (atKey xs k).isSome = true
  · rw [if_pos e, if_pos e]
    have key : ∀ {kvs : List NE} {xs : List (NK × Addr × Value)}, NP kvs xs → NP (kvs.map fun x => if x.1 = k then (x.1, x.2.1, v) else x) (xs.map (putAt k u)) := by
      intro kvs xs r
      induction r with
      | nil => exact .nil
      | @cons p q ps qs h t ih =>
        refine .cons ?_ ih
        unfold putAt
        dsimp only
        rw [h.1]
        by_cases e : q.1 = k
        · rw [if_pos e, if_pos e]; exact ⟨rfl, h.2.1, rv⟩
        · rw [if_neg e, if_neg e]; exact h
    exact key r
  · rw [if_neg e, if_neg e]
    have key : ∀ {kvs : List NE} {xs : List (NK × Addr × Value)}, NP kvs xs → NP (kvs ++ [(k, b, v)]) (xs ++ [(k, b, u)]) := by
      intro kvs xs r
      induction r with
      | nil => exact .cons ⟨rfl, rfl, rv⟩ .nil
      | cons h t ih => exact .cons h ih
    exact key r
theorem putN_len (kvs : List NE) (k : NK) (b : Addr) (v : V) : (putN kvs k b v).length ≤ kvs.length + 1 := by
  unfold putN
  split
  · rw [List.length_map]; omega
  · simp
section
variable {X : Cx} {pins : List (Addr × Obj)} {σ : St} {H : Hp} {s : Shared} {a : Addr} {kvs : List NE} {k : NK} {b : Addr} {v : V} {u : Value}
theorem nd_heap (I : Inv X pins σ H s) (e : Rd H a (NDo X.w a kvs)) (hk : NKs X.K H kvs) : kvs.length ≤ sizeLine ∧ (a == sysModules) = false ∧ ∃ xs, NP kvs xs ∧ s.heap.DictOfH (nestedKind X.prog X.w) a xs := by
  obtain ⟨z1, z2, xs, r, o, es, ep, e1, e2, e3, e4, e5⟩ := nd_at I.hok e
  refine ⟨z1, z2, xs, r, o, es, ep, e1, e2, e3, e4, fun x hx => ?_, e5⟩
  obtain ⟨i, hi⟩ := List.mem_iff_getElem?.mp hx
  obtain ⟨p, hp, q1, q2, q3⟩ := r.get' hi
  obtain ⟨n1, n2⟩ := hk p (List.mem_of_getElem? hp)
  refine ⟨?_, by rw [← q1]; exact n2⟩
  have := NV.is I p.1 n1 (u := .ref x.2.1) (by rw [q2]; rfl)
  rw [← q1]; exact this
theorem nd_of {h' : Heap} {xs : List (NK × Addr × Value)} (z : kvs.length ≤ sizeLine) (hd : (a == sysModules) = false) (r : NP kvs xs) (dd : h'.DictOfH (nestedKind X.prog X.w) a xs) : NDat X.w h' a kvs := by
  obtain ⟨o, es, ep, e1, e2, e3, e4, _, e5⟩ := dd
  exact ⟨z, hd, xs, r, o, es, ep, e1, e2, e3, e4, e5⟩
theorem nk_is (I : Inv X pins σ H s) (hb : NV X.K H k (.ref b)) (hd : k.depth ≤ 8) : (nestedKind X.prog X.w).is s.heap k b := ⟨NV.is I k hb rfl, hd⟩
end
/-! ### d[k] -/
def rIxN (w : World) (K : PySem.W.Frag) : R2 := fun x y H Q => ∃ a kvs k b v, x = .ref a ∧ y = .ref b ∧ Rd H a (NDo w a kvs) ∧ NKs K H kvs ∧ NV K H k (.ref b) ∧ k.depth ≤ 8 ∧ valN kvs k = some v ∧ Q v H
def rInN (w : World) (K : PySem.W.Frag) (neg : Bool) : R2 := fun y x H Q => ∃ a kvs k b, x = .ref a ∧ y = .ref b ∧ Rd H a (NDo w a kvs) ∧ NKs K H kvs ∧ NV K H k (.ref b) ∧ k.depth ≤ 8 ∧ Q (.bl (neg ^^ (valN kvs k).isSome)) H
def rSetN (w : World) (K : PySem.W.Frag) : TSet := fun x y v H Q => ∃ a kvs k b, x = .ref a ∧ y = .ref b ∧ H a = some (NDo w a kvs) ∧ NKs K H kvs ∧ NV K H k (.ref b) ∧ k.depth ≤ 8 ∧ kvs.length < sizeLine ∧ Q (upd H a (NDo w a (putN kvs k b v)))
def rLenN (w : World) (K : PySem.W.Frag) : List V → Hp → VK → Prop := fun xs H Q => ∃ a kvs, xs = [V.ref a] ∧ Rd H a (NDo w a kvs) ∧ NKs K H kvs ∧ Q (.int kvs.length) H
section
variable {X : Cx}
theorem ix_N (hu : X.A.units + 10 < cLine) : IxR X (rIxN X.w X.K) := by
  intro value slice pins s σ H x y v u Q I rx ry h hs
  obtain ⟨a, kvs, k, b, z, rfl, rfl, e, hk, hb, hd, hv, q⟩ := h
  obtain rfl : v = Value.ref a := rx
  obtain rfl : u = Value.ref b := ry
  obtain ⟨z1, z2, xs, r, dd⟩ := nd_heap I e hk
  obtain ⟨w', hw, rw'⟩ := RelO.some_of (v := z) (o := (atKey xs k).map (·.2)) (by rw [← hv]; exact r.val k)
  obtain ⟨p, hp, hp2⟩ := Option.map_eq_some_iff.mp hw
  refine tail_any dd.typeIs PySem.F.slot_dict_getitem.lookup (wpAny_getItem_heap (knd := nestedKind X.prog X.w) (by show X.A.units + 1 + 8 < cLine; omega) (nk_is I hb hd) dd hp ?_) hs
  rw [hp2]
  exact ⟨z, H, I.tok _, rw', q⟩
theorem op_inN (hu : X.A.units + 10 < cLine) : OpR X (compareOp .In) (rInN X.w X.K false) := by
  intro pins s σ H y x v u Q I ry rx h
  obtain ⟨a, kvs, k, b, rfl, rfl, e, hk, hb, hd, q⟩ := h
  obtain rfl : u = Value.ref a := rx
  obtain rfl : v = Value.ref b := ry
  obtain ⟨z1, z2, xs, r, dd⟩ := nd_heap I e hk
  refine wpAny_in_heap (knd := nestedKind X.prog X.w) (by show X.A.units + 1 + 8 < cLine; omega) (nk_is I hb hd) z2 dd ?_
  have q2 := (r.val k).isSome_eq
  rw [Option.isSome_map] at q2
  rw [← q2]
  exact ⟨.bl _, H, I.tok _, rfl, by simpa using q⟩
theorem op_ninN (hu : X.A.units + 10 < cLine) : OpR X (compareOp .NotIn) (rInN X.w X.K true) := by
  intro pins s σ H y x v u Q I ry rx h
  obtain ⟨a, kvs, k, b, rfl, rfl, e, hk, hb, hd, q⟩ := h
  obtain rfl : u = Value.ref a := rx
  obtain rfl : v = Value.ref b := ry
  obtain ⟨z1, z2, xs, r, dd⟩ := nd_heap I e hk
  refine wpAny_notIn_heap (knd := nestedKind X.prog X.w) (by show X.A.units + 1 + 8 < cLine; omega) (nk_is I hb hd) z2 dd ?_
  have q2 := (r.val k).isSome_eq
  rw [Option.isSome_map] at q2
  rw [← q2]
  exact ⟨.bl _, H, I.tok _, rfl, by simpa using q⟩
theorem nd_write {pins : List (Addr × Obj)} {σ : St} {H : Hp} {s : Shared} {h' : Heap} {t' : Nat} {a : Addr} {kvs ks2 : List NE} (I : Inv X pins σ H s) (e : H a = some (NDo X.w a kvs)) (hs : Heap.SameBut a s.heap h') (x : NDat X.w h' a ks2) :
    Inv X pins σ (upd H a (NDo X.w a ks2)) { s with heap := h', toks := t' } := by
  have he : ∃ q, h'.get? a = some q := by
    obtain ⟨_, _, xs, _, o, es, ep, e1, _⟩ := x
    exact ⟨o, e1⟩
  exact I.write (x := a) (e := a) (by rw [e]; exact True.intro) (.inl rfl) (fun b q hb z => (hs.2 b hb).trans z) he (ndo_ok x)
theorem set_N (hu : X.A.units + 10 < cLine) : PSet X (rSetN X.w X.K) := by
  intro pins s σ H x y v xv yv u Q I rx ry rv h
  obtain ⟨a, kvs, k, b, rfl, rfl, e, hk, hb, hd, hl, q⟩ := h
  obtain rfl : xv = Value.ref a := rx
  obtain rfl : yv = Value.ref b := ry
  obtain ⟨z1, z2, xs, r, dd⟩ := nd_heap I (.inl e) hk
  have hz : xs.length ≤ sizeLine := by rw [← r.len]; exact z1
  refine wpAny_setItem_heap (hsz := hz) (knd := nestedKind X.prog X.w) (by show X.A.units + 1 + 8 < cLine; omega) (nk_is I hb hd) dd fun h' dd' hs => ⟨_, nd_write I e hs (nd_of (by have := putN_len kvs k b v; omega) z2 (r.put k rv) dd'), q⟩
theorem call_len_N : CallR X (.builtin "len") (rLenN X.w X.K) := by
  intro pins s σ H xs us Q I r h
  obtain ⟨a, kvs, rfl, e, hk, q⟩ := h
  obtain ⟨u, rfl, rx⟩ := r.one
  obtain rfl : u = Value.ref a := rx
  obtain ⟨z1, z2, ys, rel, dd⟩ := nd_heap I e hk
  have hl := rel.len
  refine call_len_dictH z2 dd (by rw [← hl]; rw [sizeLine_eq] at z1; omega) ?_
  rw [← hl]
  exact ⟨.int ((kvs.length : Nat) : Int), H, I.tok _, ⟨_, rfl⟩, q⟩
/-! ### {} -/
theorem ndat_new (w : World) (h : Heap) (hb : sysModules < h.objs.size) : NDat w (h.push { cls := .type "dict", data := .dict #[] }) h.objs.size [] :=
  ⟨Nat.zero_le _, by simpa using Nat.ne_of_gt hb, [], .nil, { cls := .type "dict", data := .dict #[] }, #[], _, Heap.get?_push_size h rfl, ⟨rfl, rfl, rfl⟩, rfl, rfl, .nil⟩
def tDNewN (w : World) : TE := fun _ H Q => ∀ p, H p = none → Q (.ref p) (upd H p (NDo w p []))
theorem pe_dnewN {pos : Pos} : PE X (.Dict [] [] pos) (tDNewN X.w) := ⟨fun pins s σ H Q I h =>
  wpAny_Dict_empty ⟨.ref s.heap.objs.size, _, I.laid (a := s.heap.objs.size) (o := NDo X.w s.heap.objs.size []) (t' := s.toks) (fun _ _ q => Heap.get?_push_of_some _ q) (Nat.le_refl _) (ndo_ok (ndat_new X.w s.heap I.big)), rfl, h _ (I.hok.fresh (Nat.le_refl _))⟩⟩
end
/-! ### list(d), list(d.keys()) -/
/-- the keys' objects -/
def nRefs (kvs : List NE) : List V := kvs.map fun p => V.ref p.2.1
theorem nRefs_ok {kvs : List NE} {xs : List (NK × Addr × Value)} (r : NP kvs xs) : Vals (nRefs kvs) (xs.map fun x => Value.ref x.2.1) := by
  unfold nRefs
  induction r with
  | nil => exact .nil
  | cons h t ih => exact .cons (show _ = Value.ref _ from by rw [h.2.1]) ih
theorem nd_raw {X : Cx} {pins : List (Addr × Obj)} {σ : St} {H : Hp} {s : Shared} {a : Addr} {kvs : List NE} (I : Inv X pins σ H s) (e : Rd H a (NDo X.w a kvs)) :
    (a == sysModules) = false ∧ kvs.length ≤ sizeLine ∧ ∃ o es ep, s.heap.get? a = some o ∧ o.ExactDict ∧ o.data = .dict es ep ∧ es.size = kvs.length ∧ ∀ (i : Nat) (en : DictEntry), es[i]? = some en → ∃ p, kvs[i]? = some p ∧ en.key = .ref p.2.1 := by
  obtain ⟨z1, z2, xs, r, o, es, ep, e1, e2, e3, e4, e5⟩ := nd_at I.hok e
  have l := r.len
  have l2 : es.size = xs.length := by
    have := congrArg List.length e4
    rw [List.length_map, Array.length_toList] at this
    exact this
  refine ⟨z2, z1, o, es, ep, e1, e2, e3, by omega, fun i en hen => ?_⟩
  have h1 : es.toList[i]? = some en := by rw [Array.getElem?_toList]; exact hen
  rw [e4, List.getElem?_map] at h1
  cases hx : xs[i]? with
  | none => rw [hx] at h1; cases h1
  | some x =>
    rw [hx] at h1
    cases h1
    obtain ⟨p, hp, q1, q2, q3⟩ := r.get' hx
    exact ⟨p, hp, by rw [q2]; rfl⟩
section
variable {X : Cx}
theorem list_of_keys {pins : List (Addr × Obj)} {σ : St} {H : Hp} {s : Shared} {kvs : List NE} {acc : Array Value} {h' : Heap} {tk c' : Nat} {Q : VK} (I : Inv X pins σ H s) (z : kvs.length ≤ sizeLine) (hl : acc.size = kvs.length)
    (it : ∀ (j : Nat) (v : Value), acc[j]? = some v → ∃ p, kvs[j]? = some p ∧ v = .ref p.2.1) (kp : ∀ b o, s.heap.get? b = some o → h'.get? b = some o) (e : h'.get? s.heap.objs.size = some { cls := .type "list", data := .seq acc c' })
    (q : ∀ p, H p = none → Q (.ref p) (upd H p (.lst (nRefs kvs)))) : EP X pins σ Q (.ref s.heap.objs.size) { s with heap := h', toks := tk } := by
  refine ⟨.ref s.heap.objs.size, _, I.laid (t' := tk) (o := .lst (nRefs kvs)) kp (Nat.le_refl _) ?_, rfl, q _ (I.hok.fresh (Nat.le_refl _))⟩
  refine ⟨by unfold nRefs; rw [List.length_map]; exact z, acc.toList, c', ?_, by rw [Array.toArray_toList]; exact e⟩
  refine vals_of_at (by unfold nRefs; rw [List.length_map, Array.length_toList]; exact hl.symm) fun j x w h1 h2 => ?_
  obtain ⟨p, hp, rfl⟩ := it j w (by rw [← Array.getElem?_toList]; exact h2)
  unfold nRefs at h1
  rw [List.getElem?_map, hp] at h1
  cases h1
  rfl
def rListN (w : World) : List V → Hp → VK → Prop := fun xs H Q => ∃ d kvs, xs = [V.ref d] ∧ Rd H d (NDo w d kvs) ∧ ∀ p, H p = none → Q (.ref p) (upd H p (.lst (nRefs kvs)))
theorem call_list_N (hc : X.calm = true) : CallR X (.type "list") (rListN X.w) := by
  intro pins s σ H xs us Q I r h
  obtain ⟨d, kvs, rfl, hd, q⟩ := h
  obtain ⟨u, rfl, rx⟩ := r.one
  cases rx
  obtain ⟨hs, z, o, es, ep, ho, hx, hdt, hsz, ent⟩ := nd_raw I hd
  refine PySem.W.kdl_call (kdl_raw hs hx hdt) (I.ok.hd hc) ho (by omega) fun h' tk acc c' kp e it => ?_
  refine list_of_keys I z (by rw [it.1]; exact hsz) (fun j v hv => ?_) kp e q
  obtain ⟨en, hen, rfl⟩ := it.2 j v hv
  exact ent j en hen
def keysW (p d : Addr) : HO := .ext fun h => PySem.W.KdlKeysView h p d
theorem mt_keysN : MtR X "dict.keys" (fun x xs H Q => ∃ a kvs, x = .ref a ∧ xs = [] ∧ Rd H a (NDo X.w a kvs) ∧ ∀ p, H p = none → Q (.ref p) (upd H p (keysW p a))) := by
  intro pins s σ H x xs v us Q I rx rxs h
  obtain ⟨a, kvs, rfl, rfl, hd, q⟩ := h
  cases rx
  cases rxs
  obtain ⟨hs, z, o, es, ep, ho, hx, hdt, hsz, ent⟩ := nd_raw I hd
  have hr : s.heap.DictRaw a es ep := ⟨o, ho, hx, hdt⟩
  have hf : H s.heap.objs.size = none := I.hok.fresh (Nat.le_refl _)
  have hv : (s.heap.push { cls := .type "dict_keys", data := .fields #[.ref a] }).get? s.heap.objs.size = some { cls := .type "dict_keys", data := .fields #[.ref a] } := Heap.get?_push_size _ rfl
  refine call_meetsIn PySem.F.slot_dict_keys hr.typeIs PySem.F.entry_dict_keys (PySem.F.args_dict_keys_1 _) (meets_dict_keys_raw a hs) ⟨⟨es, ep, hr⟩,
    ⟨.ref s.heap.objs.size, upd H s.heap.objs.size (keysW s.heap.objs.size a), I.laid (t' := s.toks) (fun b u e => Heap.get?_push_of_some _ e) (Nat.le_refl _) ?_, rfl, q _ hf⟩⟩
  exact ⟨⟨_, hv, rfl, rfl⟩, ⟨_, hv⟩, fun h1 h2 x k => let ⟨o, ho, r⟩ := x; ⟨o, k o ho, r⟩⟩
def rListKN (w : World) : List V → Hp → VK → Prop := fun xs H Q => ∃ p d kvs, xs = [.ref p] ∧ H p = some (keysW p d) ∧ Rd H d (NDo w d kvs) ∧ ∀ q, H q = none → Q (.ref q) (upd H q (.lst (nRefs kvs)))
theorem call_list_kN (hc : X.calm = true) : CallR X (.type "list") (rListKN X.w) := by
  intro pins s σ H xs us Q I r h
  obtain ⟨p, d, kvs, rfl, hp, hd, q⟩ := h
  obtain ⟨u, rfl, rx⟩ := r.one
  cases rx
  have hv : PySem.W.KdlKeysView s.heap p d := (show ObjOk X.prog X.w H s.heap p (keysW p d) from I.hok p _ hp).1
  obtain ⟨hs, z, o, es, ep, ho, hx, hdt, hsz, ent⟩ := nd_raw I hd
  refine PySem.W.kdl_call (PySem.KdlSrc.rawKeys (r := p) (d := d) (es := es) (ep := ep)) (I.ok.hd hc) ⟨hv, ⟨o, ho, hx, hdt⟩⟩ (by omega) fun h' tk acc c' kp e it => ?_
  refine list_of_keys I z (by rw [it.1]; exact hsz) (fun j v hv => ?_) kp e q
  obtain ⟨hi, rfl⟩ := it.2 j v hv
  exact ent j _ (Array.getElem?_eq_getElem hi)
end
/-! ### for k in d -/
def ItN (w : World) (d : Addr) (o : Obj) (kvs : List NE) : It :=
  ⟨fun i H => H d = some (.frz o (NDo w d kvs)) ∧ i < kvs.length, fun i H x H' => H' = H ∧ ∃ p, kvs[i]? = some p ∧ x = .ref p.2.1, fun i H => H d = some (.frz o (NDo w d kvs)) ∧ kvs.length ≤ i⟩
theorem nd_frz {X : Cx} {pins : List (Addr × Obj)} {σ : St} {H : Hp} {s : Shared} {d : Addr} {o : Obj} {kvs : List NE} (I : Inv X pins σ H s) (h : H d = some (.frz o (NDo X.w d kvs))) :
    (d == sysModules) = false ∧ s.heap.get? d = some o ∧ o.ExactDict ∧ ∃ (es : Array DictEntry) (ep : Nat), o.data = .dict es ep ∧ es.size = kvs.length ∧ ∀ (i : Nat) (p : NE), kvs[i]? = some p → ∃ en, es[i]? = some en ∧ en.key = .ref p.2.1 := by
  obtain ⟨hd, _⟩ := I.hok d _ h
  obtain ⟨hs, z, o', es, ep, ho, hx, hdt, hsz, ent⟩ := nd_raw I (.inr ⟨o, h⟩)
  rw [hd] at ho
  cases ho
  refine ⟨hs, hd, hx, es, ep, hdt, hsz, fun i p hp => ?_⟩
  have hi : i < es.size := by rw [hsz]; exact (List.getElem?_eq_some_iff.mp hp).1
  obtain ⟨p', h1, h2⟩ := ent i _ (Array.getElem?_eq_getElem hi)
  rw [hp] at h1; cases h1
  exact ⟨_, Array.getElem?_eq_getElem hi, h2⟩
theorem turn_N {P : Program} {w : World} {K : PySem.W.Frag} {tg : Expr} {d : Addr} {o : Obj} {es : Array DictEntry} {ep : Nat} {kvs : List NE} (it : Addr) (hod : o.data = .dict es ep) : Turn P w K tg (ItN w d o kvs) [it] it (fun i h => h.IsKeyIter it d i kvs.length ep) := by
  refine ⟨by simp, fun i h st b hb => ?_, fun i h h' st k => st.at fun oi e => k it (by simp) oi e, ?_, ?_, fun A i s Q E st h => ?_⟩
  · rw [List.mem_singleton.mp hb]
    obtain ⟨oi, e, c, dd⟩ := st
    exact ⟨oi, e, fun v z => by rw [dd] at z; cases z⟩
  · rintro X rfl rfl rfl hc i pins s σ H E I hf st ⟨hd, hi⟩
    obtain ⟨f0, f1, f2, f3, f4, f5⟩ := hf it (by simp)
    obtain ⟨hs, hgd, hx, es', ep', hdt, hsz, ent⟩ := nd_frz I hd
    obtain ⟨rfl, rfl⟩ := dict_ep hod hdt
    have hp := List.getElem?_eq_getElem hi
    obtain ⟨en, hen, hkey⟩ := ent i _ hp
    refine next_key_item st hgd hdt hsz hen fun h' st' sb => ?_
    have J : Inv X pins σ H { s with heap := h' } := I.turned (t' := s.toks) (fun c ob hb z => (sb.2 c hb).trans z) f0 f1 f3 f4 f5
    obtain ⟨oi, e, c, dd⟩ := id st'
    exact ⟨en.key, rfl, go_of (s := { s with heap := h' }) e c dd (by decide) ⟨.ref kvs[i].2.1, H, J, hkey, ⟨rfl, _, hp, rfl⟩, st', fun b hb => (hf b hb).1⟩⟩
  · rintro X rfl rfl rfl hc i pins s σ H E I hf st ⟨hd, hi⟩
    obtain ⟨f0, f1, f2, f3, f4, f5⟩ := hf it (by simp)
    obtain ⟨hs, hgd, hx, es', ep', hdt, hsz, ent⟩ := nd_frz I hd
    obtain ⟨rfl, rfl⟩ := dict_ep hod hdt
    exact next_key_end (I.ok.hd hc) st hgd hdt hsz hi fun h' eb => ⟨rfl, I.turned (t' := s.toks) (fun c ob hb z => eb c ob hb z) f0 f1 f3 f4 f5⟩
  · have nx := F.slot_dict_keyiterator_next.lookup
    refine wpAny_pyIter_slot (E := E) st.typeIs F.slot_dict_keyiterator_iter (wpAny_call_entry (E := E) F.slot_dict_keyiterator_iter st.typeIs F.entry_dict_keyiterator_iter ?_ (F.args_dict_keyiterator_iter_1 _))
    show wpAny (model P w) A.in1 (ret (Value.ref it)) _ E s
    exact wpAny_pure ⟨Value.ref it, rfl, "dict_keyiterator", _, st.typeIs, nx, h⟩
def iKeysN (w : World) (td : TE) : TI := fun σ H R => td σ H fun x H1 => ∃ d o kvs, x = .ref d ∧ H1 d = some (.frz o (NDo w d kvs)) ∧ R (ItN w d o kvs) H1
theorem pi_keysN {X : Cx} {tg e : Expr} {td : TE} (he : PE X e td) : PI X tg e (iKeysN X.w td) := by
  refine ⟨fun pins s σ H R I h => thn (he.run pins s σ H _ I h) fun u s1 ⟨x, H1, I1, rx, d, o, kvs, ex, hd, q⟩ => ?_⟩
  subst ex
  obtain rfl : u = Value.ref d := rx
  obtain ⟨hs, hgd, hx, es, ep, hdt, hsz, ent⟩ := nd_frz I1 hd
  refine iter_keys hs hgd hx hdt (pi_one (tk := s1.toks) I1 _ (turn_N _ hdt) ⟨_, Heap.get?_push_size _ rfl, rfl, ?_⟩ q)
  rw [hsz] <;> rfl
end L2
set_option maxHeartbeats 2000000
/-! LNab: dict comprehensions with such keys. -/
namespace L2
open PySem PySem.Spec PyProof.Rows
/-- d[k] = v at the library's level, the key a tuple of any depth -/
theorem nd_dictSet {X : Cx} {pins : List (Addr × Obj)} {σ : St} {H : Hp} {s : Shared} {E : Value → Shared → Prop} {D b : Addr} {kvs : List NE} {k : NK} {v : V} {r : Value} {Q : Unit → Shared → Prop} (hu : X.A.units + 10 < cLine) (I : Inv X pins σ H s) (hD : H D = some (NDo X.w D kvs))
    (hk : NKs X.K H kvs) (hb : NV X.K H k (.ref b)) (hd : k.depth ≤ 8) (hz : kvs.length < sizeLine) (rv : RelV v r) (h : ∀ s', Inv X pins σ (upd H D (NDo X.w D (putN kvs k b v))) s' → Q () s') : wpAny (model X.prog X.w) X.A (dictSet D (.ref b) r) Q E s := by
  obtain ⟨z1, z2, xs, rel, dd⟩ := nd_heap I (.inl hD) hk
  refine wpAny_dictSet_heap (hsz := by rw [← rel.len]; exact z1) (knd := nestedKind X.prog X.w) (by show X.A.units + 8 < cLine; omega) (nk_is I hb hd) dd fun h' dd' hs => h _ (nd_write I hD hs (nd_of (by have := putN_len kvs k b v; omega) z2 (rel.put k rv) dd'))
/-- {k: v for target in iter if ..}: the new dict at D -/
def tDcN (w : World) (K : PySem.W.Frag) (wi : TI) (g : TG) (tt : TT) (tk tv : TE) (vs : List Nat) : TE := fun σ H Q => wi σ H fun J H1 => ∀ D, H1 D = none → ∃ W : Nat → Nat → Hp → Prop, (∃ m, W 0 m (upd H1 D (NDo w D []))) ∧ ∀ i m H, W i m H →
  (J.stop i H ∧ Q (.ref D) H) ∨ (J.go i H ∧ ∃ Nx : Hp → Prop, (∀ H', Nx H' → ∃ m', m' < m ∧ W (i + 1) m' H') ∧ ∀ x H', J.yld i H x H' → g x (wipe σ vs) H' fun σ2 H2 => wipe σ2 vs = wipe σ vs ∧ tt σ2 H2 fun b H3 =>
    if b = true then tk σ2 H3 fun y H4 => tv σ2 H4 fun z H5 => ∃ kvs k bb, y = .ref bb ∧ H5 D = some (NDo w D kvs) ∧ NKs K H5 kvs ∧ NV K H5 k (.ref bb) ∧ k.depth ≤ 8 ∧ kvs.length < sizeLine ∧ Nx (upd H5 D (NDo w D (putN kvs k bb z))) else Nx H3)
section
variable {X : Cx} {kx vx tg iter : Expr} {ifs : List Expr} {scope : Scope} {own : List (Str × Nat)} {pos : Pos} {wi : TI} {g : TG} {tt : TT} {tk tv : TE}
theorem dcN_core {pins : List (Addr × Obj)} {s : Shared} {σ : St} {H : Hp} {Q : VK} {pos' : Pos} {use : Option (Value → Sem Unit)} {Qf : Value → Shared → Prop} (hu : X.A.units + 10 < cLine) (hcalm : X.calm = true) (nd : X.N.Nodup) (I : Inv X pins σ H s) (hit : PI X tg iter wi) (hown : BlkOk X.N X.env.scope scope own)
    (pG : ∀ (s : Shared) (H : Hp) (C : Addr) (cl : List (Str × Addr)) (fp : List Addr), PG (X.blk s H scope (compEnvC scope cl C X.env) fp) tg g) (pT : ∀ (s : Shared) (H : Hp) (C : Addr) (cl : List (Str × Addr)) (fp : List Addr), PTs (X.blk s H scope (compEnvC scope cl C X.env) fp) ifs tt)
    (pK : ∀ (s : Shared) (H : Hp) (C : Addr) (cl : List (Str × Addr)) (fp : List Addr), PE (X.blk s H scope (compEnvC scope cl C X.env) fp) kx tk) (pV : ∀ (s : Shared) (H : Hp) (C : Addr) (cl : List (Str × Addr)) (fp : List Addr), PE (X.blk s H scope (compEnvC scope cl C X.env) fp) vx tv)
    (hfold : ∀ x, foldedSetIterable iter X.env x = pure x) (rd : tDcN X.w X.K wi g tt tk tv (own.map (·.2)) σ H Q)
    (fin : ∀ D C s' m H', Inv X pins σ H' s' → Q (.ref D) H' → s'.heap.Ns C m → FpOk X pins H' C → compPost (model X.prog X.w) X.A X.xe use Qf (.ref D) C (.ok .next) s') :
    wpAny (model X.prog X.w) X.A (comprehension (.DictComp kx vx [⟨tg, iter, ifs, 0⟩] scope pos) scope X.env pos' newDict false (eval iter X.env) use) Qf X.xe s := by
  have fr : ∀ y ∈ scope.names, y.2 = .free → ∃ c, X.env.cells.lookup y.1 = some c := fun y hy e => (hown.free y hy e).elim (fun z => I.ok.has _ (.inl z)) fun z => I.ok.has _ (.inr z)
  refine wpAny_comprehension_free (use := use) rfl hfold (closure_ok fr) hown.kind (fun y hy e => by rw [hown.uniq y hy, e]) (thn (hit.run pins s σ H _ I rd) fun xv s1 q1 => thn q1 fun itv s2 q2 => ?_)
  obtain ⟨it, fp, tn, J, HA, rfl, IA, T, stA, fpA, rest⟩ := q2
  refine wpAny_newObj_type (newEnv_comp ?_)
  generalize eD : s2.heap.objs.size = D
  have D0 : HA D = none := IA.hok.fresh (Nat.le_of_eq eD)
  obtain ⟨W, ⟨m0, w0⟩, turn⟩ := rest D D0
  generalize eB : ({ s2 with heap := s2.heap.push { cls := .type "dict", data := .dict #[] } } : Shared) = sB
  have hB : sB.heap = s2.heap.push { cls := .type "dict", data := .dict #[] } := by rw [← eB]
  have IB : Inv X pins σ (upd HA D (NDo X.w D [])) sB := by
    subst eD
    rw [← eB]
    exact IA.laid (t' := s2.toks) (fun c o e => Heap.get?_push_of_some _ e) (Nat.le_refl _) (ndo_ok (ndat_new X.w s2.heap IA.big))
  have fpB : ∀ c ∈ fp, FpOk X pins (upd HA D (NDo X.w D [])) c ∧ c < sB.heap.objs.size := fun c hc => by
    obtain ⟨o, e, _⟩ := T.obj _ _ stA c hc
    have lt := Heap.lt_size e
    refine ⟨⟨?_, (fpA c hc).2⟩, by rw [hB, Heap.size_push]; exact Nat.lt_succ_of_lt lt⟩
    rw [upd_ne (by rw [← eD]; exact Nat.ne_of_lt lt)]
    exact (fpA c hc).1
  have stB : tn 0 sB.heap := T.keep _ _ _ stA fun c _ o e => by rw [hB]; exact Heap.get?_push_of_some _ e
  have IC := block_start IB hown nd fpB
  have qG := pG sB (upd HA D (NDo X.w D [])) sB.heap.objs.size (cellsFrom (sB.heap.objs.size + 1) scope.names (cloFrom X.env.cells scope.names [])) fp
  have qT := pT sB (upd HA D (NDo X.w D [])) sB.heap.objs.size (cellsFrom (sB.heap.objs.size + 1) scope.names (cloFrom X.env.cells scope.names [])) fp
  have qK := pK sB (upd HA D (NDo X.w D [])) sB.heap.objs.size (cellsFrom (sB.heap.objs.size + 1) scope.names (cloFrom X.env.cells scope.names [])) fp
  have qV := pV sB (upd HA D (NDo X.w D [])) sB.heap.objs.size (cellsFrom (sB.heap.objs.size + 1) scope.names (cloFrom X.env.cells scope.names [])) fp
  have fp0 : ∀ c ∈ fp, (upd HA D (NDo X.w D [])) c = none := fun c hc => (fpB c hc).1.1
  generalize eE : compEnvC scope (cellsFrom (sB.heap.objs.size + 1) scope.names (cloFrom X.env.cells scope.names [])) sB.heap.objs.size X.env = env' at IC qG qT qK qV
  have hL : env'.locals = sB.heap.objs.size := by subst eE; rfl
  generalize eH : upd HA D (NDo X.w D []) = HB at IB IC qG qT qK qV w0 fp0 fpB
  generalize eC : ({ sB with heap := pushCells (sB.heap.push { cls := .type "dict", data := .dict #[] }) scope.names } : Shared) = sC at IC
  have stC : tn 0 sC.heap := T.keep _ _ _ stB fun c _ o e => by rw [← eC]; exact pushCells_keeps _ _ _ _ (Heap.get?_push_of_some _ e)
  have own' : ∀ {σ' : St} {H' : Hp} {s' : Shared}, Inv (X.blk sB HB scope env' fp) [] σ' H' s' → (∀ c ∈ fp, H' c = none) → ∀ c ∈ fp, FpOk (X.blk sB HB scope env' fp) [] H' c := fun {σ' H' s'} I' z c hc =>
    ⟨z c hc, (I'.ok.exf c hc).1, I'.ok.exfs c hc, .inl hc, fun x c' e => (I'.ok.exf c hc).2 x c' e, fun p hp => absurd (show p ∈ ([] : List (Addr × Obj)) ++ [] from hp) (by simp)⟩
  have core : codeAny (model X.prog X.w) X.A (.compLoop (.DictComp kx vx [⟨tg, iter, ifs, 0⟩] scope pos) 0 (.ref it) (.ref D) env') (compPost (model X.prog X.w) X.A X.xe use Qf (.ref D) sB.heap.objs.size) sC := by
    refine compLoop_anyD (fun n s' => ∃ i H', Inv (X.blk sB HB scope env' fp) [] (wipe σ (own.map (·.2))) H' s' ∧ tn i s'.heap ∧ (∀ c ∈ fp, H' c = none) ∧ W i n H') ?_ m0 ⟨0, HB, IC, stC, fp0, w0⟩
    rintro n s5 ⟨i, H5, I5, st5, n5, w5⟩
    rcases turn i n H5 w5 with ⟨stop, qq⟩ | ⟨go, Nx, hNx, step⟩
    · refine thnF (T.done (X.blk sB HB scope env' fp) rfl rfl rfl hcalm i [] s5 _ H5 (fun _ _ => False) I5 (own' I5 n5) st5 stop) fun r s6 ⟨hr, I6⟩ => ?_
      subst hr
      have I7 : Inv X pins σ H5 s6 := IB.call' (ch := fp) I6.os I6.base I6.hok I6.bare fun c hc => by
        obtain ⟨⟨a0, a1, a2, a3, a4, a5⟩, _⟩ := fpB c hc
        exact ⟨a3, a1, a4, a5⟩
      have nC : H5 sB.heap.objs.size = none := by rw [← hL]; exact I6.free
      obtain ⟨m, hn, _⟩ := I6.loc
      have hn : s6.heap.Ns env'.locals m := hn
      rw [hL] at hn
      exact fin D _ s6 m H5 I7 qq hn (IB.fpOk (Nat.le_refl _) nC)
    · refine thnF (T.item (X.blk sB HB scope env' fp) rfl rfl rfl hcalm i [] s5 _ H5 (fun _ _ => False) I5 (own' I5 n5) st5 go) fun r s6 ⟨u, hr, h6⟩ => ?_
      subst hr
      refine thnF h6 fun _ s7 ⟨x, H7, I7, r7, y7, st7, n7⟩ => ?_
      have P7 := I7.pinned (own' I7 n7) (T.obj _ _ st7)
      refine thnF (qG.run _ s7 _ H7 x u _ P7 r7 (step x H7 y7)) fun _ s8 ⟨σ8, H8, I8, w8, q8⟩ => ?_
      refine thnF (qT.run _ s8 σ8 H8 _ I8 q8) fun b s9 ⟨H9, I9, q9⟩ => ?_
      have close : ∀ {s' : Shared} {H' : Hp}, Inv (X.blk sB HB scope env' fp) ([] ++ pinsAt fp s7.heap) σ8 H' s' → Nx H' → ∃ m, m < n ∧ ∃ i H', Inv (X.blk sB HB scope env' fp) [] (wipe σ (own.map (·.2))) H' s' ∧ tn i s'.heap ∧ (∀ c ∈ fp, H' c = none) ∧ W i m H' := fun {s' H'} I' nx => by
        obtain ⟨m', lt, w'⟩ := hNx H' nx
        have pin : ∀ c ∈ fp, ∀ o, s7.heap.get? c = some o → s'.heap.get? c = some o ∧ H' c = none := fun c hc o e => by
          have z := I'.pin (c, o) (List.mem_append_right _ (List.mem_append_right _ (mem_pinsAt hc e)))
          exact ⟨z.1, z.2.1⟩
        refine ⟨m', lt, i + 1, H', (I'.unpinned (pins := [])).weak (by rw [← w8, wipe_length]) (fun j v e => ?_), T.keep _ _ _ st7 fun c hc o e => (pin c hc o e).1, fun c hc => ?_, w'⟩
        · rw [← w8] at e
          exact (wipe_some e).1
        · obtain ⟨o, e, _⟩ := T.obj _ _ st7 c hc
          exact (pin c hc o e).2
      cases b with
      | false =>
        simp only [Bool.false_eq_true, if_false] at q9 ⊢
        exact close I9 q9
      | true =>
        simp only [if_true] at q9 ⊢
        refine thnF (qK.run _ s9 σ8 H9 _ I9 q9) fun z s10 ⟨yk, H10, I10, r10, q10⟩ => ?_
        refine thnF (qV.run _ s10 σ8 H10 _ I10 q10) fun z2 s11 ⟨yv, H11, I11, r11, kvs, k, bb, ek, hD11, hK11, hB11, hd11, hz11, nx⟩ => ?_
        subst ek
        obtain rfl : z = Value.ref bb := r10
        exact nd_dictSet (X := X.blk sB HB scope env' fp) hu I11 hD11 hK11 hB11 hd11 hz11 r11 fun s12 I12 => close I12 nx
  show codeAny _ _ (.compStart (.DictComp kx vx [⟨tg, iter, ifs, 0⟩] scope pos) 0 (.ref it) (.ref D) (compEnvC scope (cellsFrom (sB.heap.objs.size + 1) scope.names (cloFrom X.env.cells scope.names [])) sB.heap.objs.size X.env)) _ sC
  rw [eE]
  exact codeAny_compStart_dict core (T.self X.A 0 _ _ _ stC core)
theorem pe_dcN (hu : X.A.units + 10 < cLine) (hcalm : X.calm = true) (nd : X.N.Nodup) (hit : PI X tg iter wi) (hown : BlkOk X.N X.env.scope scope own)
    (pG : ∀ (s : Shared) (H : Hp) (C : Addr) (cl : List (Str × Addr)) (fp : List Addr), PG (X.blk s H scope (compEnvC scope cl C X.env) fp) tg g) (pT : ∀ (s : Shared) (H : Hp) (C : Addr) (cl : List (Str × Addr)) (fp : List Addr), PTs (X.blk s H scope (compEnvC scope cl C X.env) fp) ifs tt)
    (pK : ∀ (s : Shared) (H : Hp) (C : Addr) (cl : List (Str × Addr)) (fp : List Addr), PE (X.blk s H scope (compEnvC scope cl C X.env) fp) kx tk) (pV : ∀ (s : Shared) (H : Hp) (C : Addr) (cl : List (Str × Addr)) (fp : List Addr), PE (X.blk s H scope (compEnvC scope cl C X.env) fp) vx tv)
    (hfold : ∀ x, foldedSetIterable iter X.env x = pure x := by intro _; rfl) : PE X (.DictComp kx vx [⟨tg, iter, ifs, 0⟩] scope pos) (tDcN X.w X.K wi g tt tk tv (own.map (·.2))) := by
  refine ⟨fun pins s σ H Q I rd => ?_⟩
  rw [arm_eval_DictComp]
  refine dcN_core (use := none) (Qf := EP X pins σ Q) hu hcalm nd I hit hown pG pT pK pV hfold rd fun D C s' m H' I' q hn f => ⟨m, hn, fun h'' sb => ?_⟩
  obtain ⟨a0, a1, a2, a3, a4, a5⟩ := f
  exact ⟨.ref D, H', I'.turned (t' := s'.toks) (fun c o hc e => (sb.2 c hc).trans e) a0 a1 a3 a4 a5, rfl, q⟩
theorem swD_true {gs : List Comprehension} {py : Pos} {y : Str} {l : Nat} {env : Env} (hk : env.scope.kind = .function) (hy : env.scope.names.lookup y = some .local) (hl : (py.line == pos.line) = true)
    (ha : (scope.names.any fun (n, k) => n == y && (k == .local || k == .cell)) = false) : swapsWith (.DictComp kx vx gs scope pos) (some (.Name y py)) l env = pure true := by
  have ky : env.kindOf y = some .local := hy
  have hb : env.blockKind = .function := by unfold Env.blockKind; rw [hk]; rfl
  unfold swapsWith
  simp only [hb, ky, ha, Expr.pos, hl]
  rfl
/-- y = {..} on one line, y a local -/
theorem ps_setDcN {i : Nat} {y : Str} {py spos : Pos} (hu : X.A.units + 10 < cLine) (hcalm : X.calm = true) (nd : X.N.Nodup) (hy : X.N[i]? = some y) (hyl : X.env.scope.names.lookup y = some .local)
    (hsw : swapsWith (.DictComp kx vx [⟨tg, iter, ifs, 0⟩] scope pos) (some (.Name y py)) spos.line X.env = pure true) (hit : PI X tg iter wi) (hown : BlkOk X.N X.env.scope scope own)
    (pG : ∀ (s : Shared) (H : Hp) (C : Addr) (cl : List (Str × Addr)) (fp : List Addr), PG (X.blk s H scope (compEnvC scope cl C X.env) fp) tg g) (pT : ∀ (s : Shared) (H : Hp) (C : Addr) (cl : List (Str × Addr)) (fp : List Addr), PTs (X.blk s H scope (compEnvC scope cl C X.env) fp) ifs tt)
    (pK : ∀ (s : Shared) (H : Hp) (C : Addr) (cl : List (Str × Addr)) (fp : List Addr), PE (X.blk s H scope (compEnvC scope cl C X.env) fp) kx tk) (pV : ∀ (s : Shared) (H : Hp) (C : Addr) (cl : List (Str × Addr)) (fp : List Addr), PE (X.blk s H scope (compEnvC scope cl C X.env) fp) vx tv)
    (hfold : ∀ x, foldedSetIterable iter X.env x = pure x := by intro _; rfl) : PS X (.Assign [.Name y py] (.DictComp kx vx [⟨tg, iter, ifs, 0⟩] scope pos) spos) (tAsg (tDcN X.w X.K wi g tt tk tv (own.map (·.2))) (gName i)) := by
  refine ⟨fun pins s σ H D I h => ?_⟩
  rw [exec_Assign_Name_used _ _ _ _ hsw]
  refine wpAny_bind (wpAny_standAt (wpAny_bind ?_))
  show wpAny _ X.A (do let _ ← comprehension (.DictComp kx vx [⟨tg, iter, ifs, 0⟩] scope pos) scope X.env (firstIterPos [⟨tg, iter, ifs, 0⟩] pos) newDict false (eval iter X.env) (some (assign (.Name y py) X.env))) _ _ s
  have h : tDcN X.w X.K wi g tt tk tv (own.map (·.2)) σ H (fun x H1 => gName i x σ H1 D.nx) := h
  refine wpAny_bind (thn (dcN_core (use := some (assign (.Name y py) X.env)) (Qf := fun _ s' => SP X pins D .next s') hu hcalm nd I hit hown pG pT pK pV hfold h fun L C s' m H' I' q hn f => ?_) fun _ s' hq => wpAny_pure (wpAny_pure hq))
  show wpAny _ _ (assign (.Name y py) X.env (.ref L)) _ _ _
  refine wpAny_assign_Name (store_ok2 (v := V.ref L) I' nd hy (.inl hyl) rfl (fun s2 I2 ⟨a, sb, ha⟩ => ?_) (.inr hyl))
  obtain ⟨f0, f1, f2, f3, f4, f5⟩ := f
  have haC : C ≠ a := by
    rcases ha with z | z
    · rw [z]; exact f1
    · exact fun e => f4 y a z e.symm
  refine ⟨m, hn.sameBut sb haC, fun h3 sb3 => ?_⟩
  exact ⟨_, H', I2.turned (t' := s2.toks) (fun b o hb e => (sb3.2 b hb).trans e) f0 f1 f3 f4 f5, q⟩
end
end L2
/-! LN: values as data (D), frozen data and numbered mutable objects, over the hand layer. -/
namespace LN
open PySem L2 PySem.Spec PyProof.Rows

/-- a value as data; loc f i: the i-th mutable object of the f-th frame -/
inductive D where
  | non | bl (b : Bool) | int (i : Int) | str (x : Str) | ty (n : String) | cls (n : Str)
  | tup (xs : List D) | lst (xs : List D)
  | dk (ks : List L2.Key) (xs : List D)
  | dt (ks : List L2.NK) (xs : List D)
  | loc (f i : Nat)
  | scr (xs : List Int)
  deriving Inhabited

mutual
def D.lt (n : Nat) : D → Bool
  | .tup xs => D.lts n xs
  | .lst xs => D.lts n xs
  | .dk _ xs => D.lts n xs
  | .dt _ xs => D.lts n xs
  | .loc f _ => decide (f < n)
  | _ => true
def D.lts (n : Nat) : List D → Bool
  | [] => true
  | x :: xs => D.lt n x && D.lts n xs
end
theorem D.lts_iff {n : Nat} : ∀ {xs : List D}, D.lts n xs = true ↔ ∀ d ∈ xs, D.lt n d = true
  | [] => by simp [D.lts]
  | x :: xs => by simp [D.lts, D.lts_iff (xs := xs)]

/-- a tuple that is tracked, or an object of the module -/
def SqTk (K : PySem.W.Frag) (cs : List (List V)) (G : Hp) (a : Addr) (xs : List V) : Prop :=
  G a = some (.tup xs) ∨ xs ∈ cs ∧ ∃ (o : Obj) (its : Array Value) (n : Nat), K.lookup a = some o ∧ o.cls = .type "tuple" ∧ o.data = .seq its n ∧ its.size ≤ sizeLine ∧ Vals xs its.toList
structure Ct where
  K : PySem.W.Frag
  cs : List (List V)
  Γ : Str → Addr
  w : World
  T : List (Addr × Str) := []
structure Wd where
  G : Hp
  L : Hp
  ι : Nat → Nat → Option Addr

/-! keys of any depth -/
mutual
def NVk (K : PySem.W.Frag) (cs : List (List V)) (G : Hp) : NK → V → Prop
  | .none, v => v = .non
  | .num i, v => v = .int i
  | .text x, v => v = .str x
  | .tup ks, v => ∃ a vs, v = .ref a ∧ SqTk K cs G a vs ∧ NVks K cs G ks vs
def NVks (K : PySem.W.Frag) (cs : List (List V)) (G : Hp) : List NK → List V → Prop
  | [], vs => vs = []
  | k :: ks, vs => ∃ v r, vs = v :: r ∧ NVk K cs G k v ∧ NVks K cs G ks r
end
/-- the keys' objects -/
def KB (c : Ct) (G : Hp) : List NK → List Addr → Prop
  | [], bs => bs = []
  | k :: ks, bs => ∃ b r, bs = b :: r ∧ NVk c.K c.cs G k (.ref b) ∧ k.depth ≤ 8 ∧ KB c G ks r
def nz : List NK → List Addr → List V → List NE
  | k :: ks, b :: bs, v :: vs => (k, b, v) :: nz ks bs vs
  | _, _, _ => []
mutual
def Rp (c : Ct) (W : Wd) : D → V → Prop
  | .non, v => v = .non
  | .bl b, v => v = .bl b
  | .int i, v => v = .int i
  | .str x, v => v = .str x
  | .ty n, v => v = .ty n
  | .cls n, v => v = .ref (c.Γ n)
  | .tup xs, v => ∃ a vs, v = .ref a ∧ SqTk c.K c.cs W.G a vs ∧ Rps c W xs vs
  | .lst xs, v => ∃ a vs, v = .ref a ∧ W.G a = some (.lst vs) ∧ Rps c W xs vs
  | .dk ks xs, v => ∃ a vs, v = .ref a ∧ W.G a = some (.dK (ks.zip vs)) ∧ ks.length = vs.length ∧ Rps c W xs vs
  | .dt ks xs, v => ∃ a bs vs, v = .ref a ∧ W.G a = some (NDo c.w a (nz ks bs vs)) ∧ KB c W.G ks bs ∧ ks.length = vs.length ∧ Rps c W xs vs
  | .loc f i, v => ∃ a, v = .ref a ∧ W.ι f i = some a
  | .scr xs, v => ∃ a, v = .ref a ∧ SqL c.K W.G a (xs.map V.int)
def Rps (c : Ct) (W : Wd) : List D → List V → Prop
  | [], vs => vs = []
  | x :: xs, vs => ∃ v r, vs = v :: r ∧ Rp c W x v ∧ Rps c W xs r
end

structure le (W W' : Wd) : Prop where
  g : ∀ a o, W.G a = some o → W'.G a = some o
  l : ∀ a o, W.L a = some o → W'.L a = some o
  i : ∀ f i a, W.ι f i = some a → W'.ι f i = some a
theorem le.refl (W : Wd) : le W W := ⟨fun _ _ h => h, fun _ _ h => h, fun _ _ _ h => h⟩
theorem le.trans {A B C : Wd} (a : le A B) (b : le B C) : le A C := ⟨fun x o h => b.g x o (a.g x o h), fun x o h => b.l x o (a.l x o h), fun f i x h => b.i f i x (a.i f i x h)⟩

theorem SqTk.mono {K : PySem.W.Frag} {cs : List (List V)} {G H : Hp} {a : Addr} {vs : List V} (k : ∀ a o, G a = some o → H a = some o) (h : SqTk K cs G a vs) : SqTk K cs H a vs := by
  rcases h with h | h
  · exact .inl (k _ _ h)
  · exact .inr h
theorem SqTk.sq {K : PySem.W.Frag} {cs : List (List V)} {G : Hp} {a : Addr} {vs : List V} (h : SqTk K cs G a vs) : SqT K G a vs := by
  rcases h with h | ⟨_, h⟩
  · exact .inl (.inl h)
  · exact .inr h
theorem SqTk.trk {K : PySem.W.Frag} {cs : List (List V)} {G : Hp} {a : Addr} {vs : List V} (h : SqTk K cs G a vs) (n : vs ∉ cs) : G a = some (.tup vs) := by
  rcases h with h | ⟨z, h⟩
  · exact h
  · exact absurd z n
theorem SqL.mono {K : PySem.W.Frag} {G H : Hp} {a : Addr} {vs : List V} (k : ∀ a o, G a = some o → H a = some o) (h : SqL K G a vs) : SqL K H a vs := by
  rcases h with (h | ⟨o, h⟩) | h
  · exact .inl (.inl (k _ _ h))
  · exact .inl (.inr ⟨o, k _ _ h⟩)
  · exact .inr h

mutual
theorem NVk.mono {K : PySem.W.Frag} {cs : List (List V)} {G G' : Hp} (k : ∀ a o, G a = some o → G' a = some o) : ∀ (x : NK) {v : V}, NVk K cs G x v → NVk K cs G' x v
  | .none, _, h => h
  | .num _, _, h => h
  | .text _, _, h => h
  | .tup ks, _, h => by
    simp only [NVk] at h ⊢
    obtain ⟨a, vs, e, q, r⟩ := h
    exact ⟨a, vs, e, SqTk.mono k q, NVks.mono k ks r⟩
theorem NVks.mono {K : PySem.W.Frag} {cs : List (List V)} {G G' : Hp} (k : ∀ a o, G a = some o → G' a = some o) : ∀ (xs : List NK) {vs : List V}, NVks K cs G xs vs → NVks K cs G' xs vs
  | [], _, h => h
  | x :: xs, _, h => by
    simp only [NVks] at h ⊢
    obtain ⟨v, r, e, p, q⟩ := h
    exact ⟨v, r, e, NVk.mono k x p, NVks.mono k xs q⟩
end
theorem KB.mono {c : Ct} {G G' : Hp} (k : ∀ a o, G a = some o → G' a = some o) : ∀ {ks : List NK} {bs : List Addr}, KB c G ks bs → KB c G' ks bs
  | [], _, h => h
  | x :: xs, _, h => by
    simp only [KB] at h ⊢
    obtain ⟨b, r, e, p, d, q⟩ := h
    exact ⟨b, r, e, NVk.mono k x p, d, KB.mono k q⟩
theorem KB.len {c : Ct} {G : Hp} : ∀ {ks : List NK} {bs : List Addr}, KB c G ks bs → ks.length = bs.length
  | [], _, h => by simp only [KB] at h; subst h; rfl
  | x :: xs, _, h => by
    simp only [KB] at h
    obtain ⟨b, r, rfl, p, d, q⟩ := h
    simp [KB.len q]
mutual
theorem NVk.nv {K : PySem.W.Frag} {cs : List (List V)} {G H : Hp} (k : ∀ a o, G a = some o → H a = some o) : ∀ (x : NK) {v : V}, NVk K cs G x v → NV K H x v
  | .none, _, h => h
  | .num _, _, h => h
  | .text _, _, h => h
  | .tup ks, _, h => by
    simp only [NVk, NV] at h ⊢
    obtain ⟨a, vs, e, q, r⟩ := h
    exact ⟨a, vs, e, (SqTk.mono k q).sq, NVks.nv k ks r⟩
theorem NVks.nv {K : PySem.W.Frag} {cs : List (List V)} {G H : Hp} (k : ∀ a o, G a = some o → H a = some o) : ∀ (xs : List NK) {vs : List V}, NVks K cs G xs vs → NVs K H xs vs
  | [], _, h => h
  | x :: xs, _, h => by
    simp only [NVks, NVs] at h ⊢
    obtain ⟨v, r, e, p, q⟩ := h
    exact ⟨v, r, e, NVk.nv k x p, NVks.nv k xs q⟩
end
theorem KB.nks {c : Ct} {G H : Hp} (k : ∀ a o, G a = some o → H a = some o) : ∀ {ks : List NK} {bs : List Addr} {vs : List V}, KB c G ks bs → NKs c.K H (nz ks bs vs)
  | [], _, _, h => by intro p hp; simp [nz] at hp
  | x :: xs, _, [], h => by
    simp only [KB] at h
    obtain ⟨b, r, rfl, p, d, q⟩ := h
    intro p hp; simp [nz] at hp
  | x :: xs, _, v :: vs, h => by
    simp only [KB] at h
    obtain ⟨b, r, rfl, p, d, q⟩ := h
    intro y hy
    simp only [nz, List.mem_cons] at hy
    rcases hy with rfl | hy
    · exact ⟨NVk.nv k x p, d⟩
    · exact KB.nks k q y hy
mutual
theorem Rp.mono {c : Ct} {W W' : Wd} (k : le W W') : ∀ (d : D) {v : V}, Rp c W d v → Rp c W' d v
  | .non, _, h => h
  | .bl _, _, h => h
  | .int _, _, h => h
  | .str _, _, h => h
  | .ty _, _, h => h
  | .cls _, _, h => h
  | .tup xs, _, h => by
    simp only [Rp] at h ⊢
    obtain ⟨a, vs, e, q, r⟩ := h
    exact ⟨a, vs, e, SqTk.mono k.g q, Rps.mono k xs r⟩
  | .lst xs, _, h => by
    simp only [Rp] at h ⊢
    obtain ⟨a, vs, e, q, r⟩ := h
    exact ⟨a, vs, e, k.g _ _ q, Rps.mono k xs r⟩
  | .dk ks xs, _, h => by
    simp only [Rp] at h ⊢
    obtain ⟨a, vs, e, q, l, r⟩ := h
    exact ⟨a, vs, e, k.g _ _ q, l, Rps.mono k xs r⟩
  | .dt ks xs, _, h => by
    simp only [Rp] at h ⊢
    obtain ⟨a, bs, vs, e, q, b, l, r⟩ := h
    exact ⟨a, bs, vs, e, k.g _ _ q, b.mono k.g, l, Rps.mono k xs r⟩
  | .loc f i, _, h => by
    simp only [Rp] at h ⊢
    obtain ⟨a, e, q⟩ := h
    exact ⟨a, e, k.i _ _ _ q⟩
  | .scr xs, _, h => by
    simp only [Rp] at h ⊢
    obtain ⟨a, e, q⟩ := h
    exact ⟨a, e, SqL.mono k.g q⟩
theorem Rps.mono {c : Ct} {W W' : Wd} (k : le W W') : ∀ (xs : List D) {vs : List V}, Rps c W xs vs → Rps c W' xs vs
  | [], _, h => h
  | x :: xs, _, h => by
    simp only [Rps] at h ⊢
    obtain ⟨v, r, e, p, q⟩ := h
    exact ⟨v, r, e, Rp.mono k x p, Rps.mono k xs q⟩
end
/-- forgetting the frames from n on -/
def Wd.cut (W : Wd) (n : Nat) : Wd := { W with ι := fun f i => if f < n then W.ι f i else none }
mutual
theorem Rp.cut {c : Ct} {W : Wd} {n : Nat} : ∀ (d : D) {v : V}, D.lt n d = true → Rp c W d v → Rp c (W.cut n) d v
  | .non, _, _, h => h
  | .bl _, _, _, h => h
  | .int _, _, _, h => h
  | .str _, _, _, h => h
  | .ty _, _, _, h => h
  | .cls _, _, _, h => h
  | .tup xs, _, l, h => by
    simp only [Rp, D.lt] at h l ⊢
    obtain ⟨a, vs, e, q, r⟩ := h
    exact ⟨a, vs, e, q, Rps.cut xs l r⟩
  | .lst xs, _, l, h => by
    simp only [Rp, D.lt] at h l ⊢
    obtain ⟨a, vs, e, q, r⟩ := h
    exact ⟨a, vs, e, q, Rps.cut xs l r⟩
  | .dk ks xs, _, l, h => by
    simp only [Rp, D.lt] at h l ⊢
    obtain ⟨a, vs, e, q, z, r⟩ := h
    exact ⟨a, vs, e, q, z, Rps.cut xs l r⟩
  | .dt ks xs, _, l, h => by
    simp only [Rp, D.lt] at h l ⊢
    obtain ⟨a, bs, vs, e, q, b, z, r⟩ := h
    exact ⟨a, bs, vs, e, q, b, z, Rps.cut xs l r⟩
  | .loc f i, _, l, h => by
    simp only [Rp, D.lt, decide_eq_true_eq] at h l ⊢
    obtain ⟨a, e, q⟩ := h
    exact ⟨a, e, by simp [Wd.cut, l, q]⟩
  | .scr _, _, _, h => by
    simpa only [Rp, Wd.cut] using h
theorem Rps.cut {c : Ct} {W : Wd} {n : Nat} : ∀ (xs : List D) {vs : List V}, D.lts n xs = true → Rps c W xs vs → Rps c (W.cut n) xs vs
  | [], _, _, h => h
  | x :: xs, _, l, h => by
    simp only [Rps, D.lts, Bool.and_eq_true] at h l ⊢
    obtain ⟨v, r, e, p, q⟩ := h
    exact ⟨v, r, e, Rp.cut x l.1 p, Rps.cut xs l.2 q⟩
end
section
variable {c : Ct} {W : Wd}
theorem Rps.length : ∀ {xs : List D} {vs : List V}, Rps c W xs vs → xs.length = vs.length
  | [], _, h => by simp only [Rps] at h; subst h; rfl
  | x :: xs, _, h => by
    simp only [Rps] at h
    obtain ⟨v, r, rfl, p, q⟩ := h
    simp [Rps.length q]
theorem Rps.get : ∀ {xs : List D} {vs : List V} {i : Nat} {d : D}, Rps c W xs vs → xs[i]? = some d → ∃ v, vs[i]? = some v ∧ Rp c W d v
  | [], _, _, _, _, h => by simp at h
  | x :: xs, _, i, d, h, e => by
    simp only [Rps] at h
    obtain ⟨v, r, rfl, p, q⟩ := h
    cases i with
    | zero => simp at e; subst e; exact ⟨v, by simp, p⟩
    | succ i => exact Rps.get (i := i) q (by simpa using e) |>.imp fun u hu => ⟨by simpa using hu.1, hu.2⟩
theorem Rps.of : ∀ {xs : List D} {vs : List V}, xs.length = vs.length → (∀ (i : Nat) (d : D) (v : V), xs[i]? = some d → vs[i]? = some v → Rp c W d v) → Rps c W xs vs
  | [], [], _, _ => by simp [Rps]
  | x :: xs, v :: vs, l, h => by
    simp only [Rps]
    exact ⟨v, vs, rfl, h 0 x v rfl rfl, Rps.of (by simpa using l) fun i d u h1 h2 => h (i + 1) d u (by simpa using h1) (by simpa using h2)⟩
theorem Rps.at {xs : List D} {vs : List V} (h : Rps c W xs vs) {i : Nat} {d : D} {v : V} (e : xs[i]? = some d) (e' : vs[i]? = some v) : Rp c W d v := by
  obtain ⟨u, h1, h2⟩ := h.get e
  rw [e'] at h1; cases h1; exact h2
theorem Rps.append {xs ys : List D} {vs us : List V} (h : Rps c W xs vs) (k : Rps c W ys us) : Rps c W (xs ++ ys) (vs ++ us) := by
  have l1 := h.length
  have l2 := k.length
  refine Rps.of (by simp [l1, l2]) fun i d v h1 h2 => ?_
  by_cases hi : i < xs.length
  · rw [List.getElem?_append_left hi] at h1
    rw [List.getElem?_append_left (by omega)] at h2
    exact h.at h1 h2
  · rw [List.getElem?_append_right (by omega)] at h1
    rw [List.getElem?_append_right (by omega), ← l1] at h2
    exact k.at h1 h2
theorem Rps.take {xs : List D} {vs : List V} (h : Rps c W xs vs) (n : Nat) : Rps c W (xs.take n) (vs.take n) := by
  have l := h.length
  refine Rps.of (by simp [l]) fun i d v h1 h2 => ?_
  rw [List.getElem?_take] at h1 h2
  by_cases hi : i < n
  · rw [if_pos hi] at h1 h2; exact h.at h1 h2
  · rw [if_neg hi] at h1; cases h1
theorem Rps.drop {xs : List D} {vs : List V} (h : Rps c W xs vs) (n : Nat) : Rps c W (xs.drop n) (vs.drop n) := by
  have l := h.length
  refine Rps.of (by simp [l]) fun i d v h1 h2 => ?_
  rw [List.getElem?_drop] at h1 h2
  exact h.at h1 h2
theorem Rps.reverse {xs : List D} {vs : List V} (h : Rps c W xs vs) : Rps c W xs.reverse vs.reverse := by
  have l := h.length
  refine Rps.of (by simp [l]) fun i d v h1 h2 => ?_
  have hi : i < xs.length := by
    have := (List.getElem?_eq_some_iff.mp h1).1
    simpa using this
  rw [List.getElem?_reverse hi] at h1
  rw [List.getElem?_reverse (by omega)] at h2
  rw [← l] at h2
  exact h.at h1 h2
theorem Rps.set {xs : List D} {vs : List V} (h : Rps c W xs vs) {d : D} {v : V} (r : Rp c W d v) (n : Nat) : Rps c W (xs.set n d) (vs.set n v) := by
  have l := h.length
  refine Rps.of (by simp [l]) fun i e u h1 h2 => ?_
  rw [List.getElem?_set] at h1 h2
  by_cases hi : n = i
  · rw [if_pos hi] at h1 h2
    split at h1
    · split at h2
      · cases h1; cases h2; exact r
      · cases h2
    · cases h1
  · rw [if_neg hi] at h1 h2; exact h.at h1 h2
theorem Rps.cons {x : D} {xs : List D} {v : V} {vs : List V} (a : Rp c W x v) (b : Rps c W xs vs) : Rps c W (x :: xs) (v :: vs) := by
  simp only [Rps]; exact ⟨v, vs, rfl, a, b⟩
theorem Rps.nil : Rps c W [] [] := by simp [Rps]
theorem Rps.one {x : D} {v : V} (a : Rp c W x v) : Rps c W [x] [v] := Rps.cons a Rps.nil
end
end LN
namespace LN
open PySem L2 PySem.Spec PyProof.Rows

mutual
theorem D.lt_mono {n m : Nat} : ∀ {d : D}, D.lt n d = true → n ≤ m → D.lt m d = true
  | .non, _, _ => rfl
  | .bl _, _, _ => rfl
  | .int _, _, _ => rfl
  | .str _, _, _ => rfl
  | .ty _, _, _ => rfl
  | .cls _, _, _ => rfl
  | .tup xs, h, k => by simp only [D.lt] at h ⊢; exact D.lts_mono h k
  | .lst xs, h, k => by simp only [D.lt] at h ⊢; exact D.lts_mono h k
  | .dk _ xs, h, k => by simp only [D.lt] at h ⊢; exact D.lts_mono h k
  | .dt _ xs, h, k => by simp only [D.lt] at h ⊢; exact D.lts_mono h k
  | .loc f i, h, k => by simp only [D.lt, decide_eq_true_eq] at h ⊢; omega
  | .scr _, _, _ => rfl
theorem D.lts_mono {n m : Nat} : ∀ {xs : List D}, D.lts n xs = true → n ≤ m → D.lts m xs = true
  | [], _, _ => rfl
  | x :: xs, h, k => by simp only [D.lts, Bool.and_eq_true] at h ⊢; exact ⟨D.lt_mono h.1 k, D.lts_mono h.2 k⟩
end
/-- what is pinned does not matter to data -/
theorem Rps_LL {c : Ct} {G L L' : Hp} {ι : Nat → Nat → Option Addr} : ∀ (n : Nat), (∀ (d : D) (v : V), sizeOf d < n → Rp c ⟨G, L, ι⟩ d v → Rp c ⟨G, L', ι⟩ d v) := by
  intro n
  induction n with
  | zero => intro d v h; omega
  | succ n ih =>
    have al : ∀ (xs : List D) (vs : List V), sizeOf xs < n + 1 → Rps c ⟨G, L, ι⟩ xs vs → Rps c ⟨G, L', ι⟩ xs vs := by
      intro xs
      induction xs with
      | nil => intro vs _ h; exact h
      | cons x xs ihx =>
        intro vs hs h
        simp only [Rps] at h ⊢
        obtain ⟨v, r, e, p, q⟩ := h
        simp only [List.cons.sizeOf_spec] at hs
        exact ⟨v, r, e, ih x v (by omega) p, ihx r (by omega) q⟩
    intro d v hd h
    cases d with
    | non => exact h
    | bl _ => exact h
    | int _ => exact h
    | str _ => exact h
    | ty _ => exact h
    | cls _ => exact h
    | tup xs =>
      simp only [Rp] at h ⊢
      obtain ⟨a, vs, e, q, r⟩ := h
      exact ⟨a, vs, e, q, al xs vs (by simp at hd; omega) r⟩
    | lst xs =>
      simp only [Rp] at h ⊢
      obtain ⟨a, vs, e, q, r⟩ := h
      exact ⟨a, vs, e, q, al xs vs (by simp at hd; omega) r⟩
    | dk ks xs =>
      simp only [Rp] at h ⊢
      obtain ⟨a, vs, e, q, l, r⟩ := h
      exact ⟨a, vs, e, q, l, al xs vs (by simp at hd; omega) r⟩
    | dt ks xs =>
      simp only [Rp] at h ⊢
      obtain ⟨a, bs, vs, e, q, b, l, r⟩ := h
      exact ⟨a, bs, vs, e, q, b, l, al xs vs (by simp at hd; omega) r⟩
    | loc f i => simpa only [Rp] using h
    | scr xs => simpa only [Rp] using h
theorem Rp_L {c : Ct} {G L L' : Hp} {ι : Nat → Nat → Option Addr} (d : D) {v : V} : Rp c ⟨G, L, ι⟩ d v ↔ Rp c ⟨G, L', ι⟩ d v :=
  ⟨Rps_LL _ d v (Nat.lt_succ_self _), Rps_LL _ d v (Nat.lt_succ_self _)⟩
theorem Rps_L {c : Ct} {G L L' : Hp} {ι : Nat → Nat → Option Addr} (xs : List D) {vs : List V} : Rps c ⟨G, L, ι⟩ xs vs ↔ Rps c ⟨G, L', ι⟩ xs vs :=
  ⟨fun h => Rps.of h.length fun i d v h1 h2 => (Rp_L d).mp (h.at h1 h2), fun h => Rps.of h.length fun i d v h1 h2 => (Rp_L d).mp (h.at h1 h2)⟩

/-! ### memory -/
inductive MO where
  | lst (xs : List D)
  | dk (ks : List L2.Key) (xs : List D)
  | dt (ks : List L2.NK) (xs : List D)
  | fk (ks : List L2.Key) (xs : List D)
  | ft (ks : List L2.NK) (xs : List D)
  | dead
  deriving Inhabited
def MO.lt (n : Nat) : MO → Bool
  | .lst xs => D.lts n xs
  | .dk _ xs => D.lts n xs
  | .dt _ xs => D.lts n xs
  | .fk _ xs => D.lts n xs
  | .ft _ xs => D.lts n xs
  | .dead => true
abbrev Mem := List (List MO)
def Mem.get (m : Mem) (f i : Nat) : Option MO := (m[f]?).bind fun fr => fr[i]?
def Mem.put (m : Mem) (f i : Nat) (o : MO) : Mem := m.modify f fun fr => fr.set i o
/-- a new object in the top frame -/
def Mem.new (m : Mem) (o : MO) : Mem := m.modify (m.length - 1) fun fr => fr ++ [o]
def Mem.nx (m : Mem) : D := .loc (m.length - 1) ((m[m.length - 1]?).getD []).length

def MoR (c : Ct) (W : Wd) (H : Hp) (a : Addr) : MO → Prop
  | .lst xs => ∃ vs, H a = some (.lst vs) ∧ Rps c W xs vs
  | .dk ks xs => ∃ vs, H a = some (.dK (ks.zip vs)) ∧ ks.length = vs.length ∧ Rps c W xs vs
  | .dt ks xs => ∃ vs bs, H a = some (NDo c.w a (nz ks bs vs)) ∧ ks.length = vs.length ∧ KB c W.G ks bs ∧ Rps c W xs vs
  | .fk ks xs => ∃ ob vs, H a = some (.frz ob (.dK (ks.zip vs))) ∧ ks.length = vs.length ∧ Rps c W xs vs
  | .ft ks xs => ∃ ob vs bs, H a = some (.frz ob (NDo c.w a (nz ks bs vs))) ∧ ks.length = vs.length ∧ KB c W.G ks bs ∧ Rps c W xs vs
  | .dead => True
theorem MoR.mono {c : Ct} {W W' : Wd} {H H' : Hp} {a : Addr} (k : le W W') (e : ∀ o, H a = some o → H' a = some o) : ∀ {o : MO}, MoR c W H a o → MoR c W' H' a o
  | .lst xs, ⟨vs, q, r⟩ => ⟨vs, e _ q, Rps.mono k xs r⟩
  | .dk ks xs, ⟨vs, q, l, r⟩ => ⟨vs, e _ q, l, Rps.mono k xs r⟩
  | .dt ks xs, ⟨vs, bs, q, l, b, r⟩ => ⟨vs, bs, e _ q, l, b.mono k.g, Rps.mono k xs r⟩
  | .fk ks xs, ⟨ob, vs, q, l, r⟩ => ⟨ob, vs, e _ q, l, Rps.mono k xs r⟩
  | .ft ks xs, ⟨ob, vs, bs, q, l, b, r⟩ => ⟨ob, vs, bs, e _ q, l, b.mono k.g, Rps.mono k xs r⟩
  | .dead, _ => trivial
theorem MoR.cut {c : Ct} {W : Wd} {H : Hp} {a : Addr} {n : Nat} : ∀ {o : MO}, o.lt n = true → MoR c W H a o → MoR c (W.cut n) H a o
  | .lst xs, l, ⟨vs, q, r⟩ => ⟨vs, q, Rps.cut xs l r⟩
  | .dk ks xs, l, ⟨vs, q, z, r⟩ => ⟨vs, q, z, Rps.cut xs l r⟩
  | .dt ks xs, l, ⟨vs, bs, q, z, b, r⟩ => ⟨vs, bs, q, z, b, Rps.cut xs l r⟩
  | .fk ks xs, l, ⟨ob, vs, q, z, r⟩ => ⟨ob, vs, q, z, Rps.cut xs l r⟩
  | .ft ks xs, l, ⟨ob, vs, bs, q, z, b, r⟩ => ⟨ob, vs, bs, q, z, b, Rps.cut xs l r⟩
  | .dead, _, _ => trivial
def MO.alive : MO → Bool
  | .dead => false
  | _ => true
def MO.lkd : MO → Bool
  | .fk _ _ => true
  | .ft _ _ => true
  | _ => false
def Lkd (L : Hp) (a : Addr) (o : MO) : Prop := if o.lkd = true then ∃ ob u, L a = some (.frz ob u) else L a = none
theorem Lkd.un {L : Hp} {a : Addr} {o : MO} (h : Lkd L a o) (u : o.lkd = false) : L a = none := by unfold Lkd at h; rw [if_neg (by rw [u]; exact Bool.false_ne_true)] at h; exact h
theorem Lkd.lk {L : Hp} {a : Addr} {o : MO} (h : Lkd L a o) (u : o.lkd = true) : ∃ ob u, L a = some (.frz ob u) := by unfold Lkd at h; rw [if_pos u] at h; exact h
theorem Lkd.of {L : Hp} {a : Addr} {o : MO} (h : L a = none) (u : o.lkd = false) : Lkd L a o := by unfold Lkd; rw [if_neg (by rw [u]; exact Bool.false_ne_true)]; exact h
theorem Lkd.eq {L L' : Hp} {a : Addr} {o : MO} (h : Lkd L a o) (e : L' a = L a) : Lkd L' a o := by unfold Lkd at *; rw [e]; exact h
theorem MoR.some {c : Ct} {W : Wd} {H : Hp} {a : Addr} : ∀ {o : MO}, o.alive = true → MoR c W H a o → ∃ u, H a = some u
  | .lst xs, _, ⟨vs, q, r⟩ => ⟨_, q⟩
  | .dk ks xs, _, ⟨vs, q, l, r⟩ => ⟨_, q⟩
  | .dt ks xs, _, ⟨vs, bs, q, l, r⟩ => ⟨_, q⟩
  | .fk ks xs, _, ⟨ob, vs, q, l, r⟩ => ⟨_, q⟩
  | .ft ks xs, _, ⟨ob, vs, bs, q, l, r⟩ => ⟨_, q⟩

/-- no table, no code object of a table -/
def Dat (o : HO) : Prop := (∀ ps, o ≠ .tbl ps) ∧ ∀ a q, o ≠ LamX.CodeO a q
theorem dat_lst {xs : List V} : Dat (.lst xs) := ⟨fun _ h => (by cases h), fun _ _ h => (by unfold LamX.CodeO at h; cases h)⟩
theorem dat_tup {xs : List V} : Dat (.tup xs) := ⟨fun _ h => (by cases h), fun _ _ h => (by unfold LamX.CodeO at h; cases h)⟩
theorem dat_dK {xs : List (L2.Key × V)} : Dat (.dK xs) := ⟨fun _ h => (by cases h), fun _ _ h => (by unfold LamX.CodeO at h; cases h)⟩
/-- a heap with a code object at a, and no dict -/
theorem push_cases {h : Heap} {o u : Obj} {c : Addr} (e : (h.push o).get? c = some u) : h.get? c = some u ∨ u = o := by
  unfold Heap.get? Heap.push at e
  unfold Heap.get?
  dsimp only at e ⊢
  rw [Array.getElem?_push] at e
  by_cases hc : c = h.objs.size
  · rw [if_pos hc] at e
    right
    split at e
    · cases e
    · exact (Option.some.inj e).symm
  · rw [if_neg hc] at e
    exact .inl e
theorem code_heap (a : Addr) (q : Str) : ∃ h : Heap, h.get? a = some { cls := .none, data := .fields #[.none, .str q 0] } ∧ ∀ c o, h.get? c = some o → ∃ vs, o.data = .fields vs := by
  have big : ∀ n : Nat, ∃ h : Heap, h.objs.size = n ∧ ∀ c o, h.get? c = some o → ∃ vs, o.data = .fields vs := fun n => by
    induction n with
    | zero => exact ⟨⟨#[], {}⟩, rfl, fun c o e => by simp [Heap.get?] at e⟩
    | succ n ih =>
      obtain ⟨h, e, p⟩ := ih
      refine ⟨h.push { cls := .none, data := .fields #[] }, by rw [Heap.size_push, e], fun c o z => ?_⟩
      rcases push_cases z with z | rfl
      · exact p c o z
      · exact ⟨_, rfl⟩
  obtain ⟨h, e, p⟩ := big a
  refine ⟨h.push { cls := .none, data := .fields #[.none, .str q 0] }, ?_, fun c o z => ?_⟩
  · have := Heap.get?_push_size h (o := { cls := .none, data := .fields #[.none, .str q 0] }) rfl
    rw [e] at this
    exact this
  · rcases push_cases z with z | rfl
    · exact p c o z
    · exact ⟨_, rfl⟩
theorem dat_ND {w : World} {a : Addr} {kvs : List NE} : Dat (NDo w a kvs) := ⟨fun _ h => (by unfold NDo at h; cases h), fun b q h => by
  unfold NDo LamX.CodeO at h
  injection h with h
  obtain ⟨hh, e, p⟩ := code_heap b q
  have e2 := congrFun h hh
  have : NDat w hh a kvs := by
    rw [e2]
    exact ⟨_, _, 0, e, rfl, rfl⟩
  obtain ⟨_, _, xs, _, o, es, ep, e3, e4, e5, _⟩ := this
  obtain ⟨vs, e6⟩ := p _ _ e3
  rw [e5] at e6
  cases e6⟩
theorem dat_dT {xs : List (List L2.Key × V)} : Dat (.dT xs) := ⟨fun _ h => (by cases h), fun _ _ h => (by unfold LamX.CodeO at h; cases h)⟩
theorem dat_frz {o : Obj} {u : HO} : Dat (.frz o u) := ⟨fun _ h => (by cases h), fun _ _ h => (by unfold LamX.CodeO at h; cases h)⟩
/-- a dict under way -/
def Pd (c : Ct) (a : Addr) (o : HO) : Prop := (∃ kvs, o = .dK kvs) ∨ ∃ kvs, o = NDo c.w a kvs
theorem tabs_at {T : List (Addr × Str)} {H H' : Hp} (t : LamX.Tabs T H) (k : ∀ b o, H b = some o → ¬ Dat o → H' b = some o) : LamX.Tabs T H' := fun p hp => by
  obtain ⟨ps, h1, h2, h3⟩ := t p hp
  refine ⟨ps, k _ _ h1 fun d => d.1 ps rfl, h2, fun pos cv hc => ?_⟩
  obtain ⟨c, e1, e2⟩ := h3 pos cv hc
  exact ⟨c, e1, k _ _ e2 fun d => d.2 _ _ rfl⟩
theorem tabs_upd {T : List (Addr × Str)} {H : Hp} {p : Addr} {u : HO} (t : LamX.Tabs T H) (h : ∀ o, H p = some o → Dat o) : LamX.Tabs T (upd H p u) := tabs_at t fun b o e n => by
  by_cases e2 : b = p
  · subst e2; exact absurd (h o e) n
  · rw [upd_ne e2]; exact e
theorem tabs_new {T : List (Addr × Str)} {H : Hp} {p : Addr} {u : HO} (t : LamX.Tabs T H) (h : H p = none) : LamX.Tabs T (upd H p u) := tabs_upd t fun o e => by rw [h] at e; cases e
theorem MoR.dat {c : Ct} {W : Wd} {H : Hp} {a : Addr} : ∀ {o : MO}, o.alive = true → MoR c W H a o → ∃ u, H a = Option.some u ∧ Dat u
  | .lst xs, _, ⟨vs, q, r⟩ => ⟨_, q, dat_lst⟩
  | .dk ks xs, _, ⟨vs, q, l, r⟩ => ⟨_, q, dat_dK⟩
  | .dt ks xs, _, ⟨vs, bs, q, l, r⟩ => ⟨_, q, dat_ND⟩
  | .fk ks xs, _, ⟨ob, vs, q, l, r⟩ => ⟨_, q, dat_frz⟩
  | .ft ks xs, _, ⟨ob, vs, bs, q, l, r⟩ => ⟨_, q, dat_frz⟩
theorem MoR.datAt {c : Ct} {W : Wd} {H : Hp} {a : Addr} {o : MO} (h1 : o.alive = true) (h2 : MoR c W H a o) : ∀ u, H a = Option.some u → Dat u := fun u e => by
  obtain ⟨v, e2, d⟩ := h2.dat h1
  rw [e] at e2; cases e2; exact d
theorem nt_upd {G : Hp} {p : Addr} {u : HO} (n : ∀ a ps, G a ≠ some (.tbl ps)) (h : ∀ ps, u ≠ .tbl ps) : ∀ a ps, upd G p u a ≠ some (.tbl ps) := fun a ps e => by
  by_cases e2 : a = p
  · subst e2; rw [upd_same] at e; cases e; exact h ps rfl
  · rw [upd_ne e2] at e; exact n a ps e
structure Ok (c : Ct) (W : Wd) (m : Mem) (H : Hp) : Prop where
  g : ∀ a o, W.G a = some o → H a = some o
  l : ∀ a o, W.L a = some o → H a = some o
  gl : ∀ a o, W.L a = some o → W.G a = none
  i : ∀ f i o, m.get f i = some o → o.alive = true → ∃ a, W.ι f i = some a ∧ MoR c W H a o ∧ W.G a = none ∧ Lkd W.L a o
  inj : ∀ f i f' i' o o' a, m.get f i = some o → o.alive = true → m.get f' i' = some o' → o'.alive = true → W.ι f i = some a → W.ι f' i' = some a → f = f' ∧ i = i'
  rng : ∀ f i a, W.ι f i = some a → ∃ o, m.get f i = some o
  lt : ∀ f i o, m.get f i = some o → o.lt (f + 1) = true
  ll : ∀ a o, W.L a = some o → (∃ xs, o = .lst xs) ∨ (∃ ob u, o = .frz ob u) ∨ Pd c a o
  tb : LamX.Tabs c.T H
  nt : ∀ a ps, W.G a ≠ some (.tbl ps)

section
variable {c : Ct} {W : Wd} {m : Mem} {H : Hp}
/-- a new frozen object -/
theorem Ok.froz (k : Ok c W m H) {p : Addr} {o : HO} (hp : H p = none) (no : ∀ ps, o ≠ .tbl ps := by intro _ h; cases h) : le W { W with G := upd W.G p o } ∧ Ok c { W with G := upd W.G p o } m (upd H p o) := by
  have gn : W.G p = none := by
    cases e : W.G p with
    | none => rfl
    | some u => rw [k.g _ _ e] at hp; cases hp
  have ln : W.L p = none := by
    cases e : W.L p with
    | none => rfl
    | some u => rw [k.l _ _ e] at hp; cases hp
  have L : le W { W with G := upd W.G p o } := ⟨fun a u h => by show upd W.G p o a = _; rw [upd_ne (ne_of_none h gn)]; exact h, fun _ _ h => h, fun _ _ _ h => h⟩
  refine ⟨L, ?_⟩
  have ne : ∀ {f i a o'}, m.get f i = some o' → o'.alive = true → W.ι f i = some a → a ≠ p := fun {f i a o'} h1 h2 h3 => by
    obtain ⟨b, e1, e2, _⟩ := k.i f i o' h1 h2
    rw [h3] at e1; cases e1
    obtain ⟨u, e⟩ := e2.some h2
    exact ne_of_none e hp
  refine ⟨fun a u h => ?_, fun a u h => ?_, fun a u h => ?_, fun f i o' h1 h2 => ?_, k.inj, k.rng, k.lt, k.ll, tabs_new k.tb hp, nt_upd k.nt no⟩
  · by_cases e : a = p
    · subst e; rw [upd_same]; exact (upd_same ▸ h : some o = some u) ▸ rfl
    · rw [upd_ne e]; exact k.g _ _ (by simpa [upd_ne e] using h)
  · have := k.l a u h
    rw [upd_ne (ne_of_none this hp)]; exact this
  · show upd W.G p o a = none
    rw [upd_ne (ne_of_none h ln)]; exact k.gl a u h
  · obtain ⟨a, e1, e2, e3, e4⟩ := k.i f i o' h1 h2
    have na := ne h1 h2 e1
    exact ⟨a, e1, e2.mono L fun u h => by rw [upd_ne na]; exact h, by show upd W.G p o a = none; rw [upd_ne na]; exact e3, e4⟩
theorem Mem.get_put {m : Mem} {f i : Nat} {o o0 : MO} (h : m.get f i = some o0) (f' i' : Nat) : (m.put f i o).get f' i' = if f' = f ∧ i' = i then some o else m.get f' i' := by
  unfold Mem.get Mem.put at *
  rw [List.getElem?_modify]
  by_cases hf : f = f'
  · subst hf
    simp only [if_true]
    cases e : m[f]? with
    | none => rw [e] at h; cases h
    | some fr =>
      rw [e] at h
      have h : fr[i]? = some o0 := h
      show (fr.set i o)[i']? = _
      rw [List.getElem?_set]
      by_cases hi : i = i'
      · subst hi
        have := (List.getElem?_eq_some_iff.mp h).1
        simp [this]
      · have hi' : ¬ i' = i := fun e => hi e.symm
        simp [hi, hi']
  · have hf' : ¬ f' = f := fun e => hf e.symm
    simp [hf, hf']
theorem Mem.get_new {m : Mem} {o : MO} (hm : m ≠ []) (f' i' : Nat) : (m.new o).get f' i' = if f' = m.length - 1 ∧ i' = ((m[m.length - 1]?).getD []).length then some o else m.get f' i' := by
  unfold Mem.get Mem.new
  rw [List.getElem?_modify]
  have hl : m.length - 1 < m.length := by
    cases m with
    | nil => exact absurd rfl hm
    | cons a r => simp
  by_cases hf : m.length - 1 = f'
  · subst hf
    simp only [if_true]
    have e : m[m.length - 1]? = some m[m.length - 1] := List.getElem?_eq_getElem hl
    rw [e]
    show (m[m.length - 1] ++ [o])[i']? = _
    rw [List.getElem?_append]
    simp only [Option.getD_some, Option.bind_some, true_and]
    by_cases h1 : i' < m[m.length - 1].length
    · rw [if_pos h1, if_neg (by omega)]
    · rw [if_neg h1]
      by_cases h2 : i' = m[m.length - 1].length
      · rw [if_pos h2, h2]; simp
      · rw [if_neg h2, List.getElem?_eq_none (by simp; omega), List.getElem?_eq_none (by omega)]
  · have hf' : ¬ f' = m.length - 1 := fun e => hf e.symm
    simp [hf, hf']
/-- a new mutable object -/
theorem Ok.alloc (k : Ok c W m H) {p : Addr} {u : HO} {o : MO} (hm : m ≠ []) (hp : H p = none) (ol : o.lt m.length = true)
    (r : MoR c W (upd H p u) p o) (ou : o.lkd = false := by rfl) : ∃ W', le W W' ∧ Ok c W' (m.new o) (upd H p u) ∧ Rp c W' m.nx (.ref p) := by
  have gn : W.G p = none := by
    cases e : W.G p with
    | none => rfl
    | some u => rw [k.g _ _ e] at hp; cases hp
  have ln : W.L p = none := by
    cases e : W.L p with
    | none => rfl
    | some u => rw [k.l _ _ e] at hp; cases hp
  generalize hF : m.length - 1 = F
  generalize hI : ((m[m.length - 1]?).getD []).length = I
  have hn : ∀ a, W.ι F I ≠ some a := fun a e => by
    obtain ⟨o', h⟩ := k.rng _ _ _ e
    unfold Mem.get at h
    rw [← hF] at h
    cases e2 : m[m.length - 1]? with
    | none => rw [e2] at h; cases h
    | some fr =>
      rw [e2] at h hI
      have h : fr[I]? = some o' := h
      simp only [Option.getD_some] at hI
      rw [← hI] at h
      simp at h
  have L : le W { W with ι := fun f i => if f = F ∧ i = I then some p else W.ι f i } := ⟨fun _ _ h => h, fun _ _ h => h, fun f i a h => by
    show (if f = F ∧ i = I then some p else W.ι f i) = some a
    by_cases e : f = F ∧ i = I
    · rw [e.1, e.2] at h; exact absurd h (hn a)
    · rw [if_neg e]; exact h⟩
  have ne : ∀ {f i a o'}, m.get f i = some o' → o'.alive = true → W.ι f i = some a → a ≠ p := fun {f i a o'} h1 h2 h3 => by
    obtain ⟨b, e1, e2, _⟩ := k.i f i o' h1 h2
    rw [h3] at e1; cases e1
    obtain ⟨u, e⟩ := e2.some h2
    exact ne_of_none e hp
  have gnew := fun f i => Mem.get_new (m := m) (o := o) hm f i
  rw [hF] at hI
  rw [hF, hI] at gnew
  refine ⟨_, L, ⟨fun a v h => ?_, fun a v h => ?_, k.gl, fun f i o' h1 h2 => ?_, fun f i f' i' o1 o2 a h1 a1 h2 a2 e1 e2 => ?_, fun f i a h => ?_, fun f i o' h => ?_, k.ll, tabs_new k.tb hp, k.nt⟩, ?_⟩
  · have := k.g a v h
    rw [upd_ne (ne_of_none this hp)]; exact this
  · have := k.l a v h
    rw [upd_ne (ne_of_none this hp)]; exact this
  · rw [gnew] at h1
    by_cases e : f = F ∧ i = I
    · rw [if_pos e] at h1
      cases h1
      exact ⟨p, if_pos e, r.mono L fun _ h => h, gn, .of ln ou⟩
    · rw [if_neg e] at h1
      obtain ⟨a, e1, e2, e3, e4⟩ := k.i f i o' h1 h2
      have na := ne h1 h2 e1
      exact ⟨a, L.i _ _ _ e1, e2.mono L fun v h => by rw [upd_ne na]; exact h, e3, e4⟩
  · rw [gnew] at h1 h2
    by_cases c1 : f = F ∧ i = I
    · by_cases c2 : f' = F ∧ i' = I
      · exact ⟨c1.1.trans c2.1.symm, c1.2.trans c2.2.symm⟩
      · rw [if_neg c2] at h2
        have e1 : (if f = F ∧ i = I then some p else W.ι f i) = some a := e1
        have e2 : (if f' = F ∧ i' = I then some p else W.ι f' i') = some a := e2
        rw [if_pos c1] at e1; rw [if_neg c2] at e2
        cases e1
        exact absurd rfl (ne h2 a2 e2)
    · rw [if_neg c1] at h1
      have e1 : (if f = F ∧ i = I then some p else W.ι f i) = some a := e1
      have e2 : (if f' = F ∧ i' = I then some p else W.ι f' i') = some a := e2
      rw [if_neg c1] at e1
      by_cases c2 : f' = F ∧ i' = I
      · rw [if_pos c2] at e2
        cases e2
        exact absurd rfl (ne h1 a1 e1)
      · rw [if_neg c2] at h2 e2
        exact k.inj _ _ _ _ _ _ _ h1 a1 h2 a2 e1 e2
  · rw [gnew]
    have h : (if f = F ∧ i = I then some p else W.ι f i) = some a := h
    by_cases e : f = F ∧ i = I
    · rw [if_pos e]; exact ⟨_, rfl⟩
    · rw [if_neg e] at h ⊢; exact k.rng _ _ _ h
  · rw [gnew] at h
    by_cases e : f = F ∧ i = I
    · rw [if_pos e] at h
      cases h
      have : f + 1 = m.length := by
        cases m with
        | nil => exact absurd rfl hm
        | cons x r => have := e.1; simp at hF; simp; omega
      rw [this]; exact ol
    · rw [if_neg e] at h; exact k.lt _ _ _ h
  · show Rp c _ m.nx (.ref p)
    unfold Mem.nx
    rw [hF, hI]
    simp only [Rp]
    exact ⟨p, rfl, by simp⟩
/-- a mutable object is written -/
theorem Ok.write (k : Ok c W m H) {f i : Nat} {a : Addr} {u : HO} {o o0 : MO} (h0 : m.get f i = some o0) (a0 : o0.alive = true) (ha : W.ι f i = some a) (al : o.alive = true) (ol : o.lt (f + 1) = true)
    (r : MoR c W (upd H a u) a o) (u0 : o0.lkd = false := by rfl) (ou : o.lkd = false := by rfl) : Ok c W (m.put f i o) (upd H a u) := by
  obtain ⟨b, e1, e2, e3, e4⟩ := k.i f i o0 h0 a0
  rw [ha] at e1; cases e1
  have gp := fun f' i' => Mem.get_put (o := o) h0 f' i'
  refine ⟨fun b v h => ?_, fun b v h => ?_, k.gl, fun f' i' o' h1 h2 => ?_, fun f1 i1 f2 i2 o1 o2 b h1 a1 h2 a2 q1 q2 => ?_, fun f' i' b h => ?_, fun f' i' o' h => ?_, k.ll, tabs_upd k.tb (e2.datAt a0), k.nt⟩
  · rw [upd_ne (ne_of_none h e3)]; exact k.g b v h
  · rw [upd_ne (ne_of_none h (e4.un u0))]; exact k.l b v h
  · rw [gp] at h1
    by_cases e : f' = f ∧ i' = i
    · rw [if_pos e] at h1; cases h1
      exact ⟨a, by rw [e.1, e.2]; exact ha, r, e3, .of (e4.un u0) ou⟩
    · rw [if_neg e] at h1
      obtain ⟨b, q1, q2, q3, q4⟩ := k.i f' i' o' h1 h2
      refine ⟨b, q1, q2.mono (le.refl W) fun v h => ?_, q3, q4⟩
      rw [upd_ne ?_]; exact h
      rintro rfl
      exact e (k.inj _ _ _ _ _ _ _ h1 h2 h0 a0 q1 ha)
  · rw [gp] at h1 h2
    by_cases c1 : f1 = f ∧ i1 = i
    · by_cases c2 : f2 = f ∧ i2 = i
      · exact ⟨c1.1.trans c2.1.symm, c1.2.trans c2.2.symm⟩
      · rw [if_neg c2] at h2
        rw [c1.1, c1.2] at q1 ⊢
        exact k.inj _ _ _ _ _ _ _ h0 a0 h2 a2 q1 q2
    · rw [if_neg c1] at h1
      by_cases c2 : f2 = f ∧ i2 = i
      · rw [c2.1, c2.2] at q2 ⊢
        exact k.inj _ _ _ _ _ _ _ h1 a1 h0 a0 q1 q2
      · rw [if_neg c2] at h2
        exact k.inj _ _ _ _ _ _ _ h1 a1 h2 a2 q1 q2
  · rw [gp]
    by_cases e : f' = f ∧ i' = i
    · rw [if_pos e]; exact ⟨_, rfl⟩
    · rw [if_neg e]; exact k.rng _ _ _ h
  · rw [gp] at h
    by_cases e : f' = f ∧ i' = i
    · rw [if_pos e] at h; cases h; rw [e.1]; exact ol
    · rw [if_neg e] at h; exact k.lt _ _ _ h
/-- a mutable object is frozen: it goes over to G, its entry dies -/
theorem Ok.freeze (k : Ok c W m H) {f i : Nat} {a : Addr} {u : HO} {o0 : MO} (h0 : m.get f i = some o0) (a0 : o0.alive = true) (ha : W.ι f i = some a) (hu : H a = some u) (u0 : o0.lkd = false := by rfl) :
    le W { W with G := upd W.G a u } ∧ Ok c { W with G := upd W.G a u } (m.put f i .dead) H := by
  obtain ⟨b, e1, e2, e3, e4⟩ := k.i f i o0 h0 a0
  rw [ha] at e1; cases e1
  have L : le W { W with G := upd W.G a u } := ⟨fun b v h => by show upd W.G a u b = _; rw [upd_ne (ne_of_none h e3)]; exact h, fun _ _ h => h, fun _ _ _ h => h⟩
  have gp := fun f' i' => Mem.get_put (o := .dead) h0 f' i'
  refine ⟨L, fun b v h => ?_, k.l, fun b v h => ?_, fun f' i' o' h1 h2 => ?_, fun f1 i1 f2 i2 o1 o2 b h1 a1 h2 a2 q1 q2 => ?_, fun f' i' b h => ?_, fun f' i' o' h => ?_, k.ll, k.tb, nt_upd k.nt (e2.datAt a0 u hu).1⟩
  · by_cases e : b = a
    · subst e
      have h : upd W.G b u b = some v := h
      rw [upd_same] at h; cases h; exact hu
    · have h : upd W.G a u b = some v := h
      rw [upd_ne e] at h; exact k.g b v h
  · show upd W.G a u b = none
    rw [upd_ne (ne_of_none h (e4.un u0))]; exact k.gl b v h
  · rw [gp] at h1
    by_cases e : f' = f ∧ i' = i
    · rw [if_pos e] at h1; cases h1; cases h2
    · rw [if_neg e] at h1
      obtain ⟨b, q1, q2, q3, q4⟩ := k.i f' i' o' h1 h2
      have nb : b ≠ a := by
        rintro rfl
        exact e (k.inj _ _ _ _ _ _ _ h1 h2 h0 a0 q1 ha)
      exact ⟨b, q1, q2.mono L fun v h => h, by show upd W.G a u b = none; rw [upd_ne nb]; exact q3, q4⟩
  · rw [gp] at h1 h2
    by_cases c1 : f1 = f ∧ i1 = i
    · rw [if_pos c1] at h1; cases h1; cases a1
    · by_cases c2 : f2 = f ∧ i2 = i
      · rw [if_pos c2] at h2; cases h2; cases a2
      · rw [if_neg c1] at h1; rw [if_neg c2] at h2
        exact k.inj _ _ _ _ _ _ _ h1 a1 h2 a2 q1 q2
  · rw [gp]
    by_cases e : f' = f ∧ i' = i
    · rw [if_pos e]; exact ⟨_, rfl⟩
    · rw [if_neg e]; exact k.rng _ _ _ h
  · rw [gp] at h
    by_cases e : f' = f ∧ i' = i
    · rw [if_pos e] at h; cases h; rfl
    · rw [if_neg e] at h; exact k.lt _ _ _ h
/-- a call's own frame goes -/
theorem Mem.get_take {m : Mem} {n f i : Nat} : Mem.get (m.take n) f i = if f < n then m.get f i else none := by
  unfold Mem.get
  rw [List.getElem?_take]
  split <;> rfl
theorem Ok.leave (k : Ok c W m H) (n : Nat) : Ok c (W.cut n) (m.take n) H := by
  refine ⟨k.g, k.l, k.gl, fun f i o h a => ?_, fun f i f' i' o o' a h1 a1 h2 a2 e1 e2 => ?_, fun f i a h => ?_, fun f i o h => ?_, k.ll, k.tb, k.nt⟩
  · rw [Mem.get_take] at h
    split at h
    · rename_i hf
      obtain ⟨b, q1, q2, q3, q4⟩ := k.i f i o h a
      refine ⟨b, by simp [Wd.cut, hf, q1], q2.cut ?_, q3, q4⟩
      have := k.lt f i o h
      cases o with
      | lst xs => simp only [MO.lt, D.lts_iff] at this ⊢; exact fun d hd => D.lt_mono (this d hd) hf
      | dk ks xs => simp only [MO.lt, D.lts_iff] at this ⊢; exact fun d hd => D.lt_mono (this d hd) hf
      | dt ks xs => simp only [MO.lt, D.lts_iff] at this ⊢; exact fun d hd => D.lt_mono (this d hd) hf
      | fk ks xs => simp only [MO.lt, D.lts_iff] at this ⊢; exact fun d hd => D.lt_mono (this d hd) hf
      | ft ks xs => simp only [MO.lt, D.lts_iff] at this ⊢; exact fun d hd => D.lt_mono (this d hd) hf
      | dead => rfl
    · cases h
  · rw [Mem.get_take] at h1 h2
    split at h1
    · split at h2
      · rename_i q1 q2
        simp only [Wd.cut, q1, q2, if_true] at e1 e2
        exact k.inj _ _ _ _ _ _ _ h1 a1 h2 a2 e1 e2
      · cases h2
    · cases h1
  · rw [Mem.get_take]
    by_cases q : f < n
    · simp only [Wd.cut, q, if_true] at h ⊢
      exact k.rng _ _ _ h
    · simp [Wd.cut, q] at h
  · rw [Mem.get_take] at h
    split at h
    · exact k.lt _ _ _ h
    · cases h
theorem Ok.enter (k : Ok c W m H) : Ok c W (m ++ [[]]) H := by
  have g : ∀ f i, (m ++ [[]] : Mem).get f i = m.get f i := fun f i => by
    unfold Mem.get
    by_cases hf : f < m.length
    · rw [List.getElem?_append_left hf]
    · rw [List.getElem?_append_right (by omega), List.getElem?_eq_none (by omega : m.length ≤ f)]
      by_cases e : f - m.length = 0
      · rw [e]; rfl
      · rw [List.getElem?_eq_none (by simp; omega)]
  exact ⟨k.g, k.l, k.gl, fun f i o h => k.i f i o (by rw [← g]; exact h), fun f i f' i' o o' a h1 a1 h2 => k.inj f i f' i' o o' a (by rw [← g]; exact h1) a1 (by rw [← g]; exact h2), fun f i a h => by rw [g]; exact k.rng f i a h, fun f i o h => k.lt f i o (by rw [← g]; exact h), k.ll, k.tb, k.nt⟩
/-- a pinned object is laid, changed -/
theorem Ok.pin (k : Ok c W m H) {p : Addr} {ys : List V} (hp : H p = none) : Ok c { W with L := upd W.L p (.lst ys) } m (upd H p (.lst ys)) := by
  generalize hu : HO.lst ys = u
  have gn : W.G p = none := by
    cases e : W.G p with
    | none => rfl
    | some u => rw [k.g _ _ e] at hp; cases hp
  have ne : ∀ {f i a o'}, m.get f i = some o' → o'.alive = true → W.ι f i = some a → a ≠ p := fun {f i a o'} h1 h2 h3 => by
    obtain ⟨b, e1, e2, _⟩ := k.i f i o' h1 h2
    rw [h3] at e1; cases e1
    obtain ⟨u, e⟩ := e2.some h2
    exact ne_of_none e hp
  refine ⟨fun a v h => ?_, fun a v h => ?_, fun a v h => ?_, fun f i o h1 h2 => ?_, k.inj, k.rng, k.lt, fun a v h => ?_, tabs_new k.tb hp, k.nt⟩
  · have := k.g a v h
    rw [upd_ne (ne_of_none this hp)]; exact this
  · have h : upd W.L p u a = some v := h
    by_cases e : a = p
    · subst e; rw [upd_same] at h ⊢; exact h
    · rw [upd_ne e] at h ⊢; exact k.l a v h
  · have h : upd W.L p u a = some v := h
    by_cases e : a = p
    · rw [e]; exact gn
    · rw [upd_ne e] at h; exact k.gl a v h
  · obtain ⟨a, e1, e2, e3, e4⟩ := k.i f i o h1 h2
    have na := ne h1 h2 e1
    exact ⟨a, e1, (by
      cases o with
      | lst xs => obtain ⟨vs, q, r⟩ := e2; exact ⟨vs, by rw [upd_ne na]; exact q, (Rps_L xs).mp r⟩
      | dk ks xs => obtain ⟨vs, q, l, r⟩ := e2; exact ⟨vs, by rw [upd_ne na]; exact q, l, (Rps_L xs).mp r⟩
      | dt ks xs => obtain ⟨vs, bs, q, l, b, r⟩ := e2; exact ⟨vs, bs, by rw [upd_ne na]; exact q, l, b, (Rps_L xs).mp r⟩
      | fk ks xs => obtain ⟨ob, vs, q, l, r⟩ := e2; exact ⟨ob, vs, by rw [upd_ne na]; exact q, l, (Rps_L xs).mp r⟩
      | ft ks xs => obtain ⟨ob, vs, bs, q, l, b, r⟩ := e2; exact ⟨ob, vs, bs, by rw [upd_ne na]; exact q, l, b, (Rps_L xs).mp r⟩
      | dead => trivial), e3, e4.eq (by show upd W.L p u a = W.L a; rw [upd_ne na])⟩
  · have h : upd W.L p u a = some v := h
    by_cases e : a = p
    · subst e; rw [upd_same] at h; cases h; exact .inl ⟨_, hu.symm⟩
    · rw [upd_ne e] at h; exact k.ll a v h
end
end LN
namespace LN
open PySem L2 PySem.Spec PyProof.Rows

/-! ### results -/
structure Exn where
  n : Str
  fs : List (Str × D)
inductive Rs (α : Type) where
  | stuck
  | ok (a : α) (m : Mem)
  | err (e : Exn) (m : Mem)
def Rs.bind {α β : Type} (r : Rs α) (k : α → Mem → Rs β) : Rs β :=
  match r with
  | .stuck => .stuck
  | .ok a m => k a m
  | .err e m => .err e m
@[simp] theorem Rs.bind_ok {α β : Type} (a : α) (m : Mem) (k : α → Mem → Rs β) : (Rs.ok a m).bind k = k a m := rfl
@[simp] theorem Rs.bind_err {α β : Type} (e : Exn) (m : Mem) (k : α → Mem → Rs β) : (Rs.err e m : Rs α).bind k = .err e m := rfl
@[simp] theorem Rs.bind_stuck {α β : Type} (k : α → Mem → Rs β) : (Rs.stuck : Rs α).bind k = .stuck := rfl

abbrev Lc := List (Option D)
abbrev EvG (α : Type) := Lc → Mem → Rs α
abbrev Ev := EvG D
abbrev Fn := List D → Mem → Rs D

/-- how an exception of ours lies: its class, its own dict -/
def RX (c : Ct) (W : Wd) (H : Hp) (e : Exn) (cl : Value) (dx : Option Addr) : Prop :=
  cl = .ref (c.Γ e.n) ∧ ∃ d vs, dx = some d ∧ H d = some (.xd ((e.fs.map (·.1)).zip vs)) ∧ Rps c W (e.fs.map (·.2)) vs

section
variable (c : Ct) (E : XK)
def Pst {α β : Type} (RA : Wd → α → β → Prop) (R : Rs α) (W : Wd) (Q : β → Hp → Prop) : Prop :=
  match R with
  | .stuck => False
  | .ok a m' => ∀ W' H' v, le W W' → Ok c W' m' H' → RA W' a v → Q v H'
  | .err e m' => ∀ W' H' cl dx, le W W' → Ok c W' m' H' → RX c W' H' e cl dx → E cl dx H'
/-- slots -/
def Sl (W : Wd) (ρ : Lc) (σ : L2.St) : Prop := ρ.length = σ.length ∧ ∀ (i : Nat) (d : D), ρ[i]? = some (some d) → ∃ v, σ[i]? = some (some v) ∧ Rp c W d v
def tG {α β : Type} (RA : Wd → α → β → Prop) (f : EvG α) : L2.St → Hp → (β → Hp → Prop) → Prop :=
  fun σ H Q => ∃ W ρ m, Ok c W m H ∧ Sl c W ρ σ ∧ Pst c E RA (f ρ m) W Q
abbrev tD (f : Ev) : TE := tG c E (Rp c) f
abbrev tDs (f : EvG (List D)) : TA := tG c E (Rps c) f
def Rb (_ : Wd) (a b : Bool) : Prop := a = b
abbrev tT (f : EvG Bool) : TT := tG c E Rb f
end
section
variable {c : Ct} {E : XK} {α β γ δ : Type} {RA : Wd → α → β → Prop} {RB : Wd → γ → δ → Prop}
theorem Pst.mono {R : Rs α} {W W' : Wd} {Q : β → Hp → Prop} (k : le W W') (h : Pst c E RA R W Q) : Pst c E RA R W' Q := by
  cases R with
  | stuck => exact h
  | ok a m => exact fun W2 H v l => h W2 H v (k.trans l)
  | err e m => exact fun W2 H cl dx l => h W2 H cl dx (k.trans l)
theorem Pst.imp {R : Rs α} {W : Wd} {Q Q' : β → Hp → Prop} (h : Pst c E RA R W Q) (k : ∀ v H, Q v H → Q' v H) : Pst c E RA R W Q' := by
  cases R with
  | stuck => exact h
  | ok a m => exact fun W2 H v l o r => k _ _ (h W2 H v l o r)
  | err e m => exact h
theorem Pst.bind {R : Rs α} {k : α → Mem → Rs γ} {W : Wd} {Q : δ → Hp → Prop} (h : Pst c E RB (R.bind k) W Q) :
    Pst c E RA R W fun x H1 => ∃ W1 a m1, le W W1 ∧ Ok c W1 m1 H1 ∧ RA W1 a x ∧ Pst c E RB (k a m1) W1 Q := by
  cases R with
  | stuck => exact h
  | ok a m => exact fun W1 H1 x l o r => ⟨W1, a, m, l, o, r, Pst.mono l h⟩
  | err e m => exact h
theorem Pst.bind2 {R : Rs α} {k : α → Mem → Rs γ} {W W3 : Wd} {Q : δ → Hp → Prop} (h : Pst c E RB (R.bind k) W Q) (l3 : le W W3) :
    Pst c E RA R W3 fun x H1 => ∃ W1 a m1, le W3 W1 ∧ Ok c W1 m1 H1 ∧ RA W1 a x ∧ Pst c E RB (k a m1) W Q := by
  cases R with
  | stuck => exact h
  | ok a m => exact fun W1 H1 x l o r => ⟨W1, a, m, l, o, r, h⟩
  | err e m => exact fun W1 H1 x dx l => h W1 H1 x dx (l3.trans l)
theorem Sl.mono {W W' : Wd} {ρ : Lc} {σ : L2.St} (k : le W W') (s : Sl c W ρ σ) : Sl c W' ρ σ :=
  ⟨s.1, fun i d e => let ⟨v, h, r⟩ := s.2 i d e; ⟨v, h, r.mono k d⟩⟩
/-- from a state to a reading -/
theorem tG.of {f : EvG α} {σ : L2.St} {H : Hp} {Q : β → Hp → Prop} {W : Wd} {ρ : Lc} {m : Mem} (o : Ok c W m H) (s : Sl c W ρ σ) (p : Pst c E RA (f ρ m) W Q) : tG c E RA f σ H Q := ⟨W, ρ, m, o, s, p⟩
end
theorem PE.weak {X : Cx} {e : Expr} {t t' : TE} (h : PE X e t) (k : ∀ σ H Q, t' σ H Q → t σ H Q) : PE X e t' := ⟨fun pins s σ H Q I q => h.run pins s σ H Q I (k _ _ _ q)⟩
theorem PT.weak {X : Cx} {e : Expr} {t t' : TT} (h : PT X e t) (k : ∀ σ H Q, t' σ H Q → t σ H Q) : PT X e t' := ⟨fun pins s σ H Q I q => h.run pins s σ H Q I (k _ _ _ q)⟩
theorem PW.weak {X : Cx} {e : Expr} {t t' : TT} (h : PW X e t) (k : ∀ σ H Q, t' σ H Q → t σ H Q) : PW X e t' := ⟨fun wh pins s σ H Q I q => h.run wh pins s σ H Q I (k _ _ _ q)⟩
theorem PA.weak {X : Cx} {e : List Expr} {t t' : TA} (h : PA X e t) (k : ∀ σ H Q, t' σ H Q → t σ H Q) : PA X e t' := ⟨fun pos pins s σ H Q I q => h.run pos pins s σ H Q I (k _ _ _ q)⟩
theorem PK.weak {X : Cx} {e : List Keyword} {t t' : TA} (h : PK X e t) (k : ∀ σ H Q, t' σ H Q → t σ H Q) : PK X e t' := ⟨fun pos pins s σ H Q I q => h.run pos pins s σ H Q I (k _ _ _ q)⟩
theorem PS.weak {X : Cx} {e : Stmt} {t t' : TS} (h : PS X e t) (k : ∀ D σ H, t' D σ H → t D σ H) : PS X e t' := ⟨fun pins s σ H D I q => h.run pins s σ H D I (k _ _ _ q)⟩
theorem PSs.weak {X : Cx} {e : List Stmt} {t t' : TS} (h : PSs X e t) (k : ∀ D σ H, t' D σ H → t D σ H) : PSs X e t' := ⟨fun pins s σ H D I q => h.run pins s σ H D I (k _ _ _ q)⟩

/-! ### expressions -/
section
variable {X : Cx} {c : Ct} {E : XK} {pos : Pos}
def dV (i : Nat) : Ev := fun ρ m => match ρ[i]? with
  | some (some d) => .ok d m
  | _ => .stuck
def dK (d : D) : Ev := fun _ m => .ok d m
theorem pd_var (i : Nat) {x : Str} {pos : Pos} (hN : X.N[i]? = some x := by rfl) (hv : Vis X.env.scope x := by first | exact Or.inl rfl | exact Or.inr (Or.inl rfl) | exact Or.inr (Or.inr rfl)) (hd : (x == ("__debug__" : Str)) = false := by decide)
    (hcd : (x == ("__classdict__" : Str)) = false := by decide) : PE X (.Name x pos) (tD c E (dV i)) :=
  PE.weak (pe_var hN hv hd hcd) fun σ H Q ⟨W, ρ, m, o, s, p⟩ => by
    unfold dV at p
    split at p
    · rename_i d e
      obtain ⟨v, h, r⟩ := s.2 i d e
      exact ⟨v, h, p W H v (le.refl W) o r⟩
    · exact p.elim
theorem tK {d : D} {v : V} (h : ∀ W, Rp c W d v) : ∀ (σ : L2.St) (H : Hp) (Q : VK), tD c E (dK d) σ H Q → Q v H := fun σ H Q ⟨W, ρ, m, o, s, p⟩ => p W H v (le.refl W) o (h W)
theorem pd_int {i : Int} {j} {pos : Pos} : PE X (.Constant (.int i) j pos) (tD c E (dK (.int i))) := PE.weak pe_int (tK (d := .int i) fun W => by simp [Rp])
theorem pd_str {i : Str} {j} {pos : Pos} : PE X (.Constant (.str i) j pos) (tD c E (dK (.str i))) := PE.weak pe_str (tK (d := .str i) fun W => by simp [Rp])
theorem pd_bl {i : Bool} {j} {pos : Pos} : PE X (.Constant (.bool i) j pos) (tD c E (dK (.bl i))) := PE.weak pe_bl (tK (d := .bl i) fun W => by simp [Rp])
theorem pd_non {j} {pos : Pos} : PE X (.Constant .none j pos) (tD c E (dK .non)) := PE.weak pe_non (tK (d := .non) fun W => by simp [Rp])
/-- a constant of the module -/
theorem pd_glob {x : Str} {v : V} {u : Value} {d : D} {pos : Pos} (hg : Gl X x) (hm : X.mg x = some u) (r : RelV v u) (h : ∀ W, Rp c W d v) (hd : (x == ("__debug__" : Str)) = false := by decide) : PE X (.Name x pos) (tD c E (dK d)) :=
  PE.weak (pe_glob hg hm r hd) (tK h)
/-- a built-in class as a value -/
theorem pd_ty {x : Str} {n : String} {pos : Pos} (hg : Gl X x) (hm : X.mg x = none) (hv : bootBuiltins x = some (.type n)) (hn : x ≠ "__name__" := by decide) (hd : (x == ("__debug__" : Str)) = false := by decide) : PE X (.Name x pos) (tD c E (dK (.ty n))) :=
  PE.weak (pe_bltn hg hm hv (v := .ty n) rfl hn hd) (tK (d := .ty n) fun W => by simp [Rp])

/-- an operator by values -/
def OpS (c : Ct) (E : XK) (r : R2) (g : D → D → Mem → Rs D) : Prop := ∀ (W : Wd) (m : Mem) (H : Hp) (x y : V) (dx dy : D) (Q : VK), Ok c W m H → Rp c W dx x → Rp c W dy y → Pst c E (Rp c) (g dx dy m) W Q → r x y H Q
def dOp (g : D → D → Mem → Rs D) (fa fb : Ev) : Ev := fun ρ m => (fa ρ m).bind fun da m1 => (fb ρ m1).bind fun db m2 => g da db m2
variable {a b e : Expr} {es : List Expr} {fa fb fe : Ev} {g : D → D → Mem → Rs D} {r : R2}
theorem tOp_of (hs : OpS c E r g) : ∀ (σ : L2.St) (H : Hp) (Q : VK), tD c E (dOp g fa fb) σ H Q → tOp r (tD c E fa) (tD c E fb) σ H Q := fun σ H Q ⟨W, ρ, m, o, s, p⟩ => by
  refine ⟨W, ρ, m, o, s, Pst.imp (Pst.bind p) fun x H1 ⟨W1, da, m1, l1, o1, r1, p1⟩ => ?_⟩
  refine ⟨W1, ρ, m1, o1, s.mono l1, Pst.imp (Pst.bind p1) fun y H2 ⟨W2, db, m2, l2, o2, r2, p2⟩ => ?_⟩
  exact hs W2 m2 H2 x y da db Q o2 (r1.mono l2 da) r2 p2
theorem pd_op {op : Operator} (ho : OpR X (binaryOp op) r) (hs : OpS c E r g) (ha : PE X a (tD c E fa)) (hb : PE X b (tD c E fb)) : PE X (.BinOp a op b pos) (tD c E (dOp g fa fb)) :=
  PE.weak (pe_op ho ha hb) (tOp_of hs)
theorem pd_cmp {op : CmpOp} (ho : OpR X (compareOp op) r) (hs : OpS c E r g) (ha : PE X a (tD c E fa)) (hb : PE X b (tD c E fb)) (hm : behindInMarks op b = false) : PE X (.Compare a [op] [b] pos) (tD c E (dOp g fa fb)) :=
  PE.weak (pe_cmpR ho ha hb hm) (tOp_of hs)
/-- as a test -/
def dTst (f : Ev) : EvG Bool := fun ρ m => (f ρ m).bind fun d m1 => match d with
  | .bl b => .ok b m1
  | _ => .stuck
theorem tTest_of {f : Ev} {t : TE} (h : ∀ σ H Q, tD c E f σ H Q → t σ H Q) : ∀ (σ : L2.St) (H : Hp) (Q : Bool → Hp → Prop), tT c E (dTst f) σ H Q → tTest t σ H Q := fun σ H Q ⟨W, ρ, m, o, s, p⟩ => by
  refine h σ H _ ⟨W, ρ, m, o, s, Pst.imp (Pst.bind p) fun x H1 ⟨W1, d, m1, l1, o1, r1, p1⟩ => ?_⟩
  cases d with
  | bl b =>
    simp only [Rp] at r1
    exact ⟨b, r1, p1 W1 H1 b (le.refl _) o1 rfl⟩
  | _ => exact p1.elim
theorem ptd_cmp {op : CmpOp} (ho : OpR X (compareOp op) r) (hs : OpS c E r g) (ha : PE X a (tD c E fa)) (hb : PE X b (tD c E fb)) (hm : behindInMarks op b = false) : PT X (.Compare a [op] [b] pos) (tT c E (dTst (dOp g fa fb))) :=
  PT.weak (pt_cmpR ho ha hb hm) (tTest_of (tOp_of hs))
/-- a chain of two comparisons -/
def dChain (g g' : D → D → Mem → Rs D) (fa fb fc : Ev) : Ev := fun ρ m => (fa ρ m).bind fun da m1 => (fb ρ m1).bind fun db m2 => (g da db m2).bind fun d m3 => match d with
  | .bl true => (fc ρ m3).bind fun dc m4 => g' db dc m4
  | .bl false => .ok (.bl false) m3
  | _ => .stuck
variable {fc : Ev} {cc : Expr} {g' : D → D → Mem → Rs D} {r' : R2}
theorem tChain_of (hs : OpS c E r g) (hs' : OpS c E r' g') : ∀ (σ : L2.St) (H : Hp) (Q : VK), tD c E (dChain g g' fa fb fc) σ H Q → tChain r r' (tD c E fa) (tD c E fb) (tD c E fc) σ H Q := fun σ H Q ⟨W, ρ, m, o, s, p⟩ => by
  refine ⟨W, ρ, m, o, s, Pst.imp (Pst.bind p) fun x H1 ⟨W1, da, m1, l1, o1, r1, p1⟩ => ?_⟩
  refine ⟨W1, ρ, m1, o1, s.mono l1, Pst.imp (Pst.bind p1) fun y H2 ⟨W2, db, m2, l2, o2, r2, p2⟩ => ?_⟩
  refine hs W2 m2 H2 x y da db _ o2 (r1.mono l2 da) r2 (Pst.imp (Pst.bind p2) fun z H3 ⟨W3, dz, m3, l3, o3, r3, p3⟩ => ?_)
  cases dz with
  | bl k =>
    simp only [Rp] at r3
    refine ⟨k, r3, ?_⟩
    cases k with
    | true =>
      rw [if_pos rfl]
      refine ⟨W3, ρ, m3, o3, (s.mono (l1.trans l2)).mono l3, Pst.imp (Pst.bind p3) fun w H4 ⟨W4, dc, m4, l4, o4, r4, p4⟩ => ?_⟩
      exact hs' W4 m4 H4 y w db dc Q o4 ((r2.mono l3 db).mono l4 db) r4 p4
    | false =>
      rw [if_neg Bool.false_ne_true]
      exact p3 W3 H3 _ (le.refl _) o3 (by simp [Rp])
  | _ => exact p3.elim
theorem pd_chain {op op' : CmpOp} (ho : OpR X (compareOp op) r) (hs : OpS c E r g) (ho' : OpR X (compareOp op') r') (hs' : OpS c E r' g') (ha : PE X a (tD c E fa)) (hb : PE X b (tD c E fb)) (hc : PE X cc (tD c E fc))
    (hm : lastMarks [op, op'] [b, cc] = false := by rfl) : PE X (.Compare a [op, op'] [b, cc] pos) (tD c E (dChain g g' fa fb fc)) := PE.weak (pe_chain ho ho' ha hb hc hm) (tChain_of hs hs')
theorem ptd_chain {op op' : CmpOp} (ho : OpR X (compareOp op) r) (hs : OpS c E r g) (ho' : OpR X (compareOp op') r') (hs' : OpS c E r' g') (ha : PE X a (tD c E fa)) (hb : PE X b (tD c E fb)) (hc : PE X cc (tD c E fc))
    (hm : lastMarks [op, op'] [b, cc] = false := by rfl) : PT X (.Compare a [op, op'] [b, cc] pos) (tT c E (dTst (dChain g g' fa fb fc))) := PT.weak (pt_chain ho ho' ha hb hc hm) (tTest_of (tChain_of hs hs'))

/-! and, or, not, if -/
def dAnd (t u : EvG Bool) : EvG Bool := fun ρ m => (t ρ m).bind fun b m1 => if b = true then u ρ m1 else .ok false m1
def dOr (t u : EvG Bool) : EvG Bool := fun ρ m => (t ρ m).bind fun b m1 => if b = true then .ok true m1 else u ρ m1
def dNot (t : EvG Bool) : EvG Bool := fun ρ m => (t ρ m).bind fun b m1 => .ok (!b) m1
variable {t u : EvG Bool} {rest : List Expr}
theorem pw_dand1 (ha : PT X a (tT c E t)) : PW X (.BoolOp .And [a] pos) (tT c E t) := pw_and1 ha
theorem pw_dor1 (ha : PT X a (tT c E t)) : PW X (.BoolOp .Or [a] pos) (tT c E t) := pw_or1 ha
theorem pw_dand (ha : PT X a (tT c E t)) (hb : PW X (.BoolOp .And (b :: rest) pos) (tT c E u)) : PW X (.BoolOp .And (a :: b :: rest) pos) (tT c E (dAnd t u)) :=
  PW.weak (pw_and ha hb) fun σ H Q ⟨W, ρ, m, o, s, p⟩ => by
    refine ⟨W, ρ, m, o, s, Pst.imp (Pst.bind p) fun x H1 ⟨W1, d, m1, l1, o1, r1, p1⟩ => ?_⟩
    have e : d = x := r1
    subst e
    cases d with
    | true => rw [if_pos rfl] at p1 ⊢; exact ⟨W1, ρ, m1, o1, s.mono l1, p1⟩
    | false => rw [if_neg Bool.false_ne_true] at p1 ⊢; exact p1 W1 H1 false (le.refl _) o1 rfl
theorem pw_dor (ha : PT X a (tT c E t)) (hb : PW X (.BoolOp .Or (b :: rest) pos) (tT c E u)) : PW X (.BoolOp .Or (a :: b :: rest) pos) (tT c E (dOr t u)) :=
  PW.weak (pw_or ha hb) fun σ H Q ⟨W, ρ, m, o, s, p⟩ => by
    refine ⟨W, ρ, m, o, s, Pst.imp (Pst.bind p) fun x H1 ⟨W1, d, m1, l1, o1, r1, p1⟩ => ?_⟩
    have e : d = x := r1
    subst e
    cases d with
    | false => rw [if_neg Bool.false_ne_true] at p1 ⊢; exact ⟨W1, ρ, m1, o1, s.mono l1, p1⟩
    | true => rw [if_pos rfl] at p1 ⊢; exact p1 W1 H1 true (le.refl _) o1 rfl
theorem ptd_not (ha : PT X a (tT c E t)) : PT X (.UnaryOp .Not a pos) (tT c E (dNot t)) :=
  PT.weak (pt_not ha) fun σ H Q ⟨W, ρ, m, o, s, p⟩ => by
    refine ⟨W, ρ, m, o, s, Pst.imp (Pst.bind p) fun x H1 ⟨W1, d, m1, l1, o1, r1, p1⟩ => ?_⟩
    have e : d = x := r1
    subst e
    exact p1 W1 H1 _ (le.refl _) o1 rfl
/-- a and b, a or b, not a as values that are bools -/
def dAndV (fa fb : Ev) : Ev := fun ρ m => (fa ρ m).bind fun d m1 => match d with
  | .bl true => fb ρ m1
  | .bl false => .ok (.bl false) m1
  | _ => .stuck
def dOrV (fa fb : Ev) : Ev := fun ρ m => (fa ρ m).bind fun d m1 => match d with
  | .bl false => fb ρ m1
  | .bl true => .ok (.bl true) m1
  | _ => .stuck
def dNotV (fa : Ev) : Ev := fun ρ m => (fa ρ m).bind fun d m1 => match d with
  | .bl b => .ok (.bl (!b)) m1
  | _ => .stuck
theorem pd_one {op} (h : PE X a (tD c E fa)) : PE X (.BoolOp op [a] pos) (tD c E fa) := pe_one h
theorem pd_and (ha : PE X a (tD c E fa)) (hb : PE X (.BoolOp .And (b :: rest) pos) (tD c E fb)) : PE X (.BoolOp .And (a :: b :: rest) pos) (tD c E (dAndV fa fb)) :=
  PE.weak (pe_and ha hb) fun σ H Q ⟨W, ρ, m, o, s, p⟩ => by
    refine ⟨W, ρ, m, o, s, Pst.imp (Pst.bind p) fun x H1 ⟨W1, d, m1, l1, o1, r1, p1⟩ => ?_⟩
    cases d with
    | bl k =>
      simp only [Rp] at r1
      refine ⟨k, r1, ?_⟩
      cases k with
      | true => rw [if_pos rfl]; exact ⟨W1, ρ, m1, o1, s.mono l1, p1⟩
      | false => rw [if_neg Bool.false_ne_true]; exact p1 W1 H1 _ (le.refl _) o1 (by simp [Rp])
    | _ => exact p1.elim
theorem pd_or (ha : PE X a (tD c E fa)) (hb : PE X (.BoolOp .Or (b :: rest) pos) (tD c E fb)) : PE X (.BoolOp .Or (a :: b :: rest) pos) (tD c E (dOrV fa fb)) :=
  PE.weak (pe_or ha hb) fun σ H Q ⟨W, ρ, m, o, s, p⟩ => by
    refine ⟨W, ρ, m, o, s, Pst.imp (Pst.bind p) fun x H1 ⟨W1, d, m1, l1, o1, r1, p1⟩ => ?_⟩
    cases d with
    | bl k =>
      simp only [Rp] at r1
      refine ⟨k, r1, ?_⟩
      cases k with
      | false => rw [if_neg Bool.false_ne_true]; exact ⟨W1, ρ, m1, o1, s.mono l1, p1⟩
      | true => rw [if_pos rfl]; exact p1 W1 H1 _ (le.refl _) o1 (by simp [Rp])
    | _ => exact p1.elim
theorem pd_not (ha : PE X a (tD c E fa)) : PE X (.UnaryOp .Not a pos) (tD c E (dNotV fa)) :=
  PE.weak (pe_not ha) fun σ H Q ⟨W, ρ, m, o, s, p⟩ => by
    refine ⟨W, ρ, m, o, s, Pst.imp (Pst.bind p) fun x H1 ⟨W1, d, m1, l1, o1, r1, p1⟩ => ?_⟩
    cases d with
    | bl k =>
      simp only [Rp] at r1
      exact ⟨k, r1, p1 W1 H1 _ (le.refl _) o1 (by simp [Rp])⟩
    | _ => exact p1.elim
def dIf (t : EvG Bool) (fa fb : Ev) : Ev := fun ρ m => (t ρ m).bind fun b m1 => if b = true then fa ρ m1 else fb ρ m1
theorem pd_if {cnd : Expr} (hc : PT X cnd (tT c E t)) (ha : PE X a (tD c E fa)) (hb : PE X b (tD c E fb)) : PE X (.IfExp cnd a b pos) (tD c E (dIf t fa fb)) :=
  PE.weak (pe_ifExp hc ha hb) fun σ H Q ⟨W, ρ, m, o, s, p⟩ => by
    refine ⟨W, ρ, m, o, s, Pst.imp (Pst.bind p) fun x H1 ⟨W1, d, m1, l1, o1, r1, p1⟩ => ?_⟩
    have e : d = x := r1
    subst e
    cases d with
    | true => rw [if_pos rfl] at p1 ⊢; exact ⟨W1, ρ, m1, o1, s.mono l1, p1⟩
    | false => rw [if_neg Bool.false_ne_true] at p1 ⊢; exact ⟨W1, ρ, m1, o1, s.mono l1, p1⟩

/-! argument lists, displays -/
def dNil : EvG (List D) := fun _ m => .ok [] m
def dCons (f : Ev) (fs : EvG (List D)) : EvG (List D) := fun ρ m => (f ρ m).bind fun d m1 => (fs ρ m1).bind fun ds m2 => .ok (d :: ds) m2
variable {fs : EvG (List D)}
theorem pad_nil : PA X [] (tDs c E dNil) := PA.weak pa_nil fun σ H Q ⟨W, ρ, m, o, s, p⟩ => p W H [] (le.refl _) o Rps.nil
theorem tCons_of : ∀ (σ : L2.St) (H : Hp) (Q : List V → Hp → Prop), tDs c E (dCons fa fs) σ H Q → tCons (tD c E fa) (tDs c E fs) σ H Q := fun σ H Q ⟨W, ρ, m, o, s, p⟩ => by
  refine ⟨W, ρ, m, o, s, Pst.imp (Pst.bind p) fun x H1 ⟨W1, d, m1, l1, o1, r1, p1⟩ => ?_⟩
  refine ⟨W1, ρ, m1, o1, s.mono l1, Pst.imp (Pst.bind p1) fun xs H2 ⟨W2, ds, m2, l2, o2, r2, p2⟩ => ?_⟩
  exact p2 W2 H2 _ (le.refl _) o2 (Rps.cons (r1.mono l2 d) r2)
theorem pad_cons (ha : PE X e (tD c E fa)) (hr : PA X es (tDs c E fs)) (hs : starEach (e :: es) X.env = (false, eval e X.env) :: starEach es X.env := by rfl) : PA X (e :: es) (tDs c E (dCons fa fs)) :=
  PA.weak (pa_cons ha hr hs) tCons_of
theorem pkd_nil : PK X [] (tDs c E dNil) := PK.weak pk_nil fun σ H Q ⟨W, ρ, m, o, s, p⟩ => p W H [] (le.refl _) o Rps.nil
theorem pkd_cons {nm : Option Str} {kpos : Pos} {kws : List Keyword} (ha : PE X e (tD c E fa)) (hr : PK X kws (tDs c E fs)) : PK X (⟨nm, e, kpos⟩ :: kws) (tDs c E (dCons fa fs)) := PK.weak (pk_cons ha hr) tCons_of
def lineOk (n : Nat) : Bool := decide (n ≤ 16777216)
theorem lineOk_le {n : Nat} (h : lineOk n = true) : n ≤ sizeLine := by
  unfold lineOk at h
  rw [sizeLine_eq]
  exact of_decide_eq_true h
def dTup (fs : EvG (List D)) : Ev := fun ρ m => (fs ρ m).bind fun ds m1 => if lineOk ds.length = true then .ok (.tup ds) m1 else .stuck
def dLst (fs : EvG (List D)) : Ev := fun ρ m => (fs ρ m).bind fun ds m1 => if lineOk ds.length = true then .ok (.lst ds) m1 else .stuck
/-- a new frozen tuple, list -/
theorem Pst.tup {ds : List D} {xs : List V} {m : Mem} {W : Wd} {H : Hp} {Q : VK} (o : Ok c W m H) (r : Rps c W ds xs) (p : Pst c E (Rp c) (.ok (.tup ds) m) W Q) : ∀ p, H p = none → Q (.ref p) (upd H p (.tup xs)) := fun a ha => by
  obtain ⟨l, o'⟩ := o.froz (o := .tup xs) ha
  refine p _ _ _ l o' ?_
  simp only [Rp]
  exact ⟨a, xs, rfl, .inl upd_same, r.mono l ds⟩
theorem Pst.lst {ds : List D} {xs : List V} {m : Mem} {W : Wd} {H : Hp} {Q : VK} (o : Ok c W m H) (r : Rps c W ds xs) (p : Pst c E (Rp c) (.ok (.lst ds) m) W Q) : ∀ p, H p = none → Q (.ref p) (upd H p (.lst xs)) := fun a ha => by
  obtain ⟨l, o'⟩ := o.froz (o := .lst xs) ha
  refine p _ _ _ l o' ?_
  simp only [Rp]
  exact ⟨a, xs, rfl, upd_same, r.mono l ds⟩
theorem pd_tup {k} (h : PA X es (tDs c E fs)) : PE X (.Tuple es k pos) (tD c E (dTup fs)) :=
  PE.weak (pe_tup h) fun σ H Q ⟨W, ρ, m, o, s, p⟩ => by
    refine ⟨W, ρ, m, o, s, Pst.imp (Pst.bind p) fun x H1 ⟨W1, ds, m1, l1, o1, r1, p1⟩ => ?_⟩
    split at p1
    · rename_i hl
      exact ⟨by rw [← r1.length]; exact lineOk_le hl, Pst.tup o1 r1 p1⟩
    · exact p1.elim
theorem pd_lst (h : PA X es (tDs c E fs)) : PE X (.List es pos) (tD c E (dLst fs)) :=
  PE.weak (pe_lst h) fun σ H Q ⟨W, ρ, m, o, s, p⟩ => by
    refine ⟨W, ρ, m, o, s, Pst.imp (Pst.bind p) fun x H1 ⟨W1, ds, m1, l1, o1, r1, p1⟩ => ?_⟩
    split at p1
    · rename_i hl
      exact ⟨by rw [← r1.length]; exact lineOk_le hl, Pst.lst o1 r1 p1⟩
    · exact p1.elim
/-- a new list that will be changed -/
def newObj (o : MO) (m : Mem) : Rs D := if m.length ≠ 0 ∧ o.lt m.length = true then .ok m.nx (m.new o) else .stuck
theorem Pst.newLst {ds : List D} {xs : List V} {m : Mem} {W : Wd} {H : Hp} {Q : VK} (o : Ok c W m H) (r : Rps c W ds xs) (p : Pst c E (Rp c) (newObj (.lst ds) m) W Q) : ∀ p, H p = none → Q (.ref p) (upd H p (.lst xs)) := fun a ha => by
  unfold newObj at p
  split at p
  · rename_i h
    obtain ⟨W', l, o', r'⟩ := o.alloc (o := .lst ds) (u := .lst xs) (fun z => h.1 (by rw [z]; rfl)) ha h.2 ⟨xs, upd_same, r⟩
    exact p _ _ _ l o' r'
  · exact p.elim
def dLstM (fs : EvG (List D)) : Ev := fun ρ m => (fs ρ m).bind fun ds m1 => if lineOk ds.length = true then newObj (.lst ds) m1 else .stuck
theorem pd_lstM (h : PA X es (tDs c E fs)) : PE X (.List es pos) (tD c E (dLstM fs)) :=
  PE.weak (pe_lst h) fun σ H Q ⟨W, ρ, m, o, s, p⟩ => by
    refine ⟨W, ρ, m, o, s, Pst.imp (Pst.bind p) fun x H1 ⟨W1, ds, m1, l1, o1, r1, p1⟩ => ?_⟩
    split at p1
    · rename_i hl
      exact ⟨by rw [← r1.length]; exact lineOk_le hl, Pst.newLst o1 r1 p1⟩
    · exact p1.elim
end
end LN
namespace LN
open PySem L2 PySem.Spec PyProof.Rows

/-! ### statements -/
inductive Fl where
  | nx (ρ : Lc) | rt (d : D) | bk (ρ : Lc) | ct (ρ : Lc)
abbrev Bd := EvG Fl
section
variable (c : Ct) (E : XK)
def PstS (R : Rs Fl) (W : Wd) (Dn : Ends) : Prop :=
  match R with
  | .stuck => False
  | .err e m' => ∀ W' H' cl dx, le W W' → Ok c W' m' H' → RX c W' H' e cl dx → E cl dx H'
  | .ok (.nx ρ) m' => ∀ W' H' σ, le W W' → Ok c W' m' H' → Sl c W' ρ σ → Dn.nx σ H'
  | .ok (.bk ρ) m' => ∀ W' H' σ, le W W' → Ok c W' m' H' → Sl c W' ρ σ → Dn.bk σ H'
  | .ok (.ct ρ) m' => ∀ W' H' σ, le W W' → Ok c W' m' H' → Sl c W' ρ σ → Dn.ct σ H'
  | .ok (.rt d) m' => ∀ W' H' v, le W W' → Ok c W' m' H' → Rp c W' d v → Dn.rt v H'
def tS (b : Bd) : TS := fun Dn σ H => ∃ W ρ m, Ok c W m H ∧ Sl c W ρ σ ∧ PstS c E (b ρ m) W Dn
end
section
variable {c : Ct} {E : XK} {α β γ δ : Type} {RA : Wd → α → β → Prop}
theorem PstS.mono {R : Rs Fl} {W W' : Wd} {Dn : Ends} (k : le W W') (h : PstS c E R W Dn) : PstS c E R W' Dn := by
  cases R with
  | stuck => exact h
  | err e m => exact fun W2 H cl dx l => h W2 H cl dx (k.trans l)
  | ok f m =>
    cases f with
    | nx ρ => exact fun W2 H v l => h W2 H v (k.trans l)
    | bk ρ => exact fun W2 H v l => h W2 H v (k.trans l)
    | ct ρ => exact fun W2 H v l => h W2 H v (k.trans l)
    | rt d => exact fun W2 H v l => h W2 H v (k.trans l)
theorem PstS.bind {R : Rs α} {k : α → Mem → Rs Fl} {W : Wd} {Dn : Ends} (h : PstS c E (R.bind k) W Dn) :
    Pst c E RA R W fun x H1 => ∃ W1 a m1, le W W1 ∧ Ok c W1 m1 H1 ∧ RA W1 a x ∧ PstS c E (k a m1) W1 Dn := by
  cases R with
  | stuck => exact h
  | ok a m => exact fun W1 H1 x l o r => ⟨W1, a, m, l, o, r, PstS.mono l h⟩
  | err e m => exact h
end

def sNil : Bd := fun ρ m => .ok (.nx ρ) m
def sSeq (b1 b2 : Bd) : Bd := fun ρ m => match b1 ρ m with
  | .ok (.nx ρ') m' => b2 ρ' m'
  | r => r
def sRet (f : Ev) : Bd := fun ρ m => (f ρ m).bind fun d m1 => .ok (.rt d) m1
def sRetN : Bd := fun _ m => .ok (.rt .non) m
def sExpr (f : Ev) : Bd := fun ρ m => (f ρ m).bind fun _ m1 => .ok (.nx ρ) m1
def sIf (t : EvG Bool) (b1 b2 : Bd) : Bd := fun ρ m => (t ρ m).bind fun k m1 => if k = true then b1 ρ m1 else b2 ρ m1
def sBrk : Bd := fun ρ m => .ok (.bk ρ) m
def sCnt : Bd := fun ρ m => .ok (.ct ρ) m
def sNever : Bd := fun _ _ => .stuck
def sGhost (g : Lc → Mem → Option (Lc × Mem)) (b : Bd) : Bd := fun ρ m => match g ρ m with
  | some (ρ', m') => b ρ' m'
  | none => .stuck

section
variable {X : Cx} {c : Ct} {E : XK} {pos : Pos} {st : Stmt} {rest : List Stmt} {b1 b2 : Bd} {e : Expr} {f : Ev}
theorem psd_nil : PSs X [] (tS c E sNil) := PSs.weak pss_nil fun D σ H ⟨W, ρ, m, o, s, p⟩ => p W H σ (le.refl _) o s
theorem psd_cons (h1 : PS X st (tS c E b1)) (h2 : PSs X rest (tS c E b2)) : PSs X (st :: rest) (tS c E (sSeq b1 b2)) :=
  PSs.weak (pss_cons h1 h2) fun Dn σ H ⟨W, ρ, m, o, s, p⟩ => by
    refine ⟨W, ρ, m, o, s, ?_⟩
    unfold sSeq at p
    cases h : b1 ρ m with
    | stuck => rw [h] at p; exact p
    | err e m' => rw [h] at p; exact p
    | ok fl m' =>
      rw [h] at p
      cases fl with
      | nx ρ' => exact fun W' H' σ' l o' s' => ⟨W', ρ', m', o', s', PstS.mono l p⟩
      | rt d => exact p
      | bk ρ' => exact p
      | ct ρ' => exact p
theorem psd_one (h1 : PS X st (tS c E b1)) : PSs X [st] (tS c E b1) := pss_one h1
theorem psd_ret (h : PE X e (tD c E f)) : PS X (.Return (some e) pos) (tS c E (sRet f)) :=
  PS.weak (ps_ret h) fun Dn σ H ⟨W, ρ, m, o, s, p⟩ => by
    refine ⟨W, ρ, m, o, s, Pst.imp (PstS.bind p) fun x H1 ⟨W1, d, m1, l1, o1, r1, p1⟩ => ?_⟩
    exact p1 W1 H1 x (le.refl _) o1 r1
theorem psd_retN : PS X (.Return none pos) (tS c E sRetN) :=
  PS.weak ps_retN fun Dn σ H ⟨W, ρ, m, o, s, p⟩ => p W H .non (le.refl _) o (by simp [Rp])
theorem psd_expr (h : PE X e (tD c E f)) (hs : swapsWith e none pos.line X.env = pure false := by rfl) : PS X (.Expr e pos) (tS c E (sExpr f)) :=
  PS.weak (ps_expr h hs) fun Dn σ H ⟨W, ρ, m, o, s, p⟩ => by
    refine ⟨W, ρ, m, o, s, Pst.imp (PstS.bind p) fun x H1 ⟨W1, d, m1, l1, o1, r1, p1⟩ => ?_⟩
    exact p1 W1 H1 σ (le.refl _) o1 (s.mono l1)
theorem psd_if {t : EvG Bool} {tst : Expr} {ba bb : List Stmt} (hc : PT X tst (tT c E t)) (ha : PSs X ba (tS c E b1)) (hb : PSs X bb (tS c E b2)) : PS X (.If tst ba bb pos) (tS c E (sIf t b1 b2)) :=
  PS.weak (ps_if hc ha hb) fun Dn σ H ⟨W, ρ, m, o, s, p⟩ => by
    refine ⟨W, ρ, m, o, s, Pst.imp (PstS.bind p) fun x H1 ⟨W1, d, m1, l1, o1, r1, p1⟩ => ?_⟩
    have e : d = x := r1
    subst e
    cases d with
    | true => rw [if_pos rfl] at p1 ⊢; exact ⟨W1, ρ, m1, o1, s.mono l1, p1⟩
    | false => rw [if_neg Bool.false_ne_true] at p1 ⊢; exact ⟨W1, ρ, m1, o1, s.mono l1, p1⟩
theorem psd_pass : PS X (.Pass pos) (tS c E sNil) := PS.weak ps_pass fun D σ H ⟨W, ρ, m, o, s, p⟩ => p W H σ (le.refl _) o s
theorem psd_brk : PS X (.Break pos) (tS c E sBrk) := PS.weak ps_break fun D σ H ⟨W, ρ, m, o, s, p⟩ => p W H σ (le.refl _) o s
theorem psd_cnt : PS X (.Continue pos) (tS c E sCnt) := PS.weak ps_continue fun D σ H ⟨W, ρ, m, o, s, p⟩ => p W H σ (le.refl _) o s
theorem psd_never : PS X st (tS c E sNever) := PS.weak ps_never fun D σ H ⟨W, ρ, m, o, s, p⟩ => p.elim
/-- a step of the proof alone -/
theorem psd_ghost {g : Lc → Mem → Option (Lc × Mem)} (hg : ∀ W ρ m σ H, Ok c W m H → Sl c W ρ σ → ∀ ρ' m', g ρ m = some (ρ', m') → ∃ W', le W W' ∧ Ok c W' m' H ∧ Sl c W' ρ' σ) (h : PSs X rest (tS c E b1)) :
    PSs X rest (tS c E (sGhost g b1)) :=
  PSs.weak h fun Dn σ H ⟨W, ρ, m, o, s, p⟩ => by
    unfold sGhost at p
    cases e : g ρ m with
    | none => rw [e] at p; exact p.elim
    | some q =>
      rw [e] at p
      obtain ⟨W', l, o', s'⟩ := hg W ρ m σ H o s q.1 q.2 e
      exact ⟨W', q.1, q.2, o', s', PstS.mono l p⟩
end

/-! ### targets -/
abbrev Tg := D → Lc → Mem → Rs Lc
abbrev Tgs := List D → Lc → Mem → Rs Lc
/-- σ' differs from σ at is alone -/
def Dif (is : List Nat) (σ σ' : L2.St) : Prop := σ'.length = σ.length ∧ ∀ j, j ∉ is → σ'[j]? = σ[j]?
def tTg (c : Ct) (E : XK) (is : List Nat) (g : Tg) : TG := fun v σ H Q => ∃ W ρ m d, Ok c W m H ∧ Sl c W ρ σ ∧ Rp c W d v ∧
  Pst c E (fun W' ρ' σ' => Sl c W' ρ' σ' ∧ Dif is σ σ') (g d ρ m) W Q
def tTgs (c : Ct) (E : XK) (is : List Nat) (g : Tgs) : TGs := fun vs σ H Q => ∃ W ρ m ds, Ok c W m H ∧ Sl c W ρ σ ∧ Rps c W ds vs ∧
  Pst c E (fun W' ρ' σ' => Sl c W' ρ' σ' ∧ Dif is σ σ') (g ds ρ m) W Q
theorem PG.weak {X : Cx} {e : Expr} {t t' : TG} (h : PG X e t) (k : ∀ v σ H Q, t' v σ H Q → t v σ H Q) : PG X e t' := ⟨fun pins s σ H v u Q I r q => h.run pins s σ H v u Q I r (k _ _ _ _ q)⟩
theorem PGs.weak {X : Cx} {e : List Expr} {t t' : TGs} (h : PGs X e t) (k : ∀ v σ H Q, t' v σ H Q → t v σ H Q) : PGs X e t' := ⟨fun pins s σ H v u Q I r q => h.run pins s σ H v u Q I r (k _ _ _ _ q)⟩
theorem Sl.set {c : Ct} {W : Wd} {ρ : Lc} {σ : L2.St} {i : Nat} {d : D} {v : V} (s : Sl c W ρ σ) (r : Rp c W d v) : Sl c W (ρ.set i (some d)) (σ.set i (some v)) := by
  refine ⟨by simp [s.1], fun j d' h => ?_⟩
  rw [List.getElem?_set] at h ⊢
  by_cases e : i = j
  · rw [if_pos e] at h ⊢
    split at h
    · rename_i hl
      cases h
      rw [if_pos (by rw [← s.1]; exact hl)]
      exact ⟨v, rfl, r⟩
    · cases h
  · rw [if_neg e] at h ⊢
    exact s.2 j d' h
theorem Dif.set {σ : L2.St} {i : Nat} {v : Option V} : Dif [i] σ (σ.set i v) := ⟨by simp, fun j hj => by
  rw [List.getElem?_set_ne (by simpa using fun e => hj (by simp [e]))]⟩
def gN (i : Nat) : Tg := fun d ρ m => .ok (ρ.set i (some d)) m
def gsNil : Tgs := fun ds ρ m => match ds with
  | [] => .ok ρ m
  | _ => .stuck
def gsCons (g : Tg) (gs : Tgs) : Tgs := fun ds ρ m => match ds with
  | d :: r => (g d ρ m).bind fun ρ1 m1 => gs r ρ1 m1
  | [] => .stuck
def gT (gs : Tgs) : Tg := fun d ρ m => match d with
  | .tup ds => gs ds ρ m
  | _ => .stuck
section
variable {X : Cx} {c : Ct} {E : XK} {pos : Pos} {is is' : List Nat} {g : Tg} {gs : Tgs} {e : Expr} {es : List Expr}
theorem pgd_name (i : Nat) {x : Str} (hN : X.N.Nodup) (hi : X.N[i]? = some x := by rfl) (hx : Loc X.env.scope x := by first | exact Or.inl rfl | exact Or.inr rfl) (hf : X.fn x = true ∨ X.env.scope.names.lookup x = some .local := by first | exact .inl rfl | exact .inr rfl | assumption) :
    PG X (.Name x pos) (tTg c E [i] (gN i)) :=
  PG.weak (pg_name hN hi hx hf) fun v σ H Q ⟨W, ρ, m, d, o, s, r, p⟩ => p W H _ (le.refl _) o ⟨s.set r, Dif.set⟩
theorem pgsd_nil : PGs X [] (tTgs c E [] gsNil) :=
  PGs.weak pgs_nil fun vs σ H Q ⟨W, ρ, m, ds, o, s, r, p⟩ => by
    cases ds with
    | nil => simp only [Rps] at r; exact ⟨r, p W H σ (le.refl _) o ⟨s, rfl, fun _ _ => rfl⟩⟩
    | cons d r => exact p.elim
theorem pgsd_cons (h1 : PG X e (tTg c E is g)) (h2 : PGs X es (tTgs c E is' gs)) (hs : (assignEach (e :: es) X.env).map (·.2) = assign e X.env :: (assignEach es X.env).map (·.2) := by rfl) :
    PGs X (e :: es) (tTgs c E (is ++ is') (gsCons g gs)) :=
  PGs.weak (pgs_cons h1 h2 hs) fun vs σ H Q ⟨W, ρ, m, ds, o, s, r, p⟩ => by
    cases ds with
    | nil => exact p.elim
    | cons d ds =>
      simp only [Rps] at r
      obtain ⟨v, vr, e, r1, r2⟩ := r
      refine ⟨v, vr, e, W, ρ, m, d, o, s, r1, Pst.imp (Pst.bind p) fun σ1 H1 ⟨W1, ρ1, m1, l1, o1, ⟨s1, d1⟩, p1⟩ => ?_⟩
      refine ⟨W1, ρ1, m1, ds, o1, s1, r2.mono l1 ds, ?_⟩
      have p1 : Pst c E (fun W' ρ' σ' => Sl c W' ρ' σ' ∧ Dif (is ++ is') σ σ') (gs ds ρ1 m1) W1 Q := p1
      cases h : gs ds ρ1 m1 with
      | stuck => rw [h] at p1; exact p1
      | err e m => rw [h] at p1; exact p1
      | ok ρ2 m2 =>
        rw [h] at p1
        exact fun W' H' σ' l o' r' => p1 W' H' σ' l o' ⟨r'.1, r'.2.1.trans d1.1, fun j hj => by
          simp only [List.mem_append, not_or] at hj
          exact (r'.2.2 j hj.2).trans (d1.2 j hj.1)⟩
theorem gT_len {gs : Tgs} : True := trivial
/-- how many targets -/
def Tgs.len (gs : Tgs) (n : Nat) : Prop := ∀ ds ρ m, ds.length ≠ n → gs ds ρ m = .stuck
theorem gsNil_len : Tgs.len gsNil 0 := fun ds ρ m h => by
  cases ds with
  | nil => exact absurd rfl h
  | cons => rfl
theorem gsCons_len {g : Tg} {gs : Tgs} {n : Nat} (hp : ∀ d ρ m, (∃ ρ' m', g d ρ m = .ok ρ' m') ∨ g d ρ m = .stuck) (h : Tgs.len gs n) : Tgs.len (gsCons g gs) (n + 1) := fun ds ρ m hl => by
  cases ds with
  | nil => rfl
  | cons d r =>
    show (g d ρ m).bind _ = _
    rcases hp d ρ m with ⟨ρ', m', e⟩ | e
    · rw [e]; exact h r ρ' m' (by simpa using hl)
    · rw [e]; rfl
theorem gN_pure (i : Nat) : ∀ d ρ m, (∃ ρ' m', gN i d ρ m = .ok ρ' m') ∨ gN i d ρ m = .stuck := fun d ρ m => .inl ⟨_, _, rfl⟩
theorem gT_pure {gs : Tgs} (h : ∀ ds ρ m, (∃ ρ' m', gs ds ρ m = .ok ρ' m') ∨ gs ds ρ m = .stuck) : ∀ d ρ m, (∃ ρ' m', gT gs d ρ m = .ok ρ' m') ∨ gT gs d ρ m = .stuck := fun d ρ m => by
  cases d <;> first | exact .inr rfl | exact h _ ρ m
theorem gsNil_pure : ∀ ds ρ m, (∃ ρ' m', gsNil ds ρ m = .ok ρ' m') ∨ gsNil ds ρ m = .stuck := fun ds ρ m => by
  cases ds with
  | nil => exact .inl ⟨_, _, rfl⟩
  | cons => exact .inr rfl
theorem gsCons_pure {g : Tg} {gs : Tgs} (hp : ∀ d ρ m, (∃ ρ' m', g d ρ m = .ok ρ' m') ∨ g d ρ m = .stuck) (h : ∀ ds ρ m, (∃ ρ' m', gs ds ρ m = .ok ρ' m') ∨ gs ds ρ m = .stuck) :
    ∀ ds ρ m, (∃ ρ' m', gsCons g gs ds ρ m = .ok ρ' m') ∨ gsCons g gs ds ρ m = .stuck := fun ds ρ m => by
  cases ds with
  | nil => exact .inr rfl
  | cons d r =>
    rcases hp d ρ m with ⟨ρ', m', e⟩ | e
    · have : gsCons g gs (d :: r) ρ m = gs r ρ' m' := by show (g d ρ m).bind _ = _; rw [e]; rfl
      rw [this]; exact h r ρ' m'
    · right; show (g d ρ m).bind _ = _; rw [e]; rfl
theorem pgd_tup {k} {n : Nat} (hc : X.calm = true) (h : PGs X es (tTgs c E is gs)) (hl : Tgs.len gs n) (hn : (assignEach es X.env).length = n := by rfl) (hst : (assignEach es X.env).findIdx? (·.1) = none := by rfl) (hK : c.K = X.K := by rfl) :
    PG X (.Tuple es k pos) (tTg c E is (gT gs)) :=
  PG.weak (pg_tup hc h hn hst) fun v σ H Q ⟨W, ρ, m, d, o, s, r, p⟩ => by
    cases d with
    | tup ds =>
      simp only [Rp] at r
      obtain ⟨a, vs, e, q, r⟩ := r
      have hd : ds.length = n := Decidable.byContradiction fun z => by
        have p : Pst c E _ (gs ds ρ m) W Q := p
        rw [hl ds ρ m z] at p; exact p
      exact ⟨a, vs, e, hK ▸ (q.mono o.g).sq, by rw [← r.length]; exact hd, W, ρ, m, ds, o, s, r, p⟩
    | _ => exact p.elim
end

/-! ### assignment -/
def sAsg (f : Ev) (g : Tg) : Bd := fun ρ m => (f ρ m).bind fun d m1 => (g d ρ m1).bind fun ρ' m2 => .ok (.nx ρ') m2
section
variable {X : Cx} {c : Ct} {E : XK} {pos : Pos} {is : List Nat} {g : Tg} {e tg : Expr} {f : Ev}
theorem tAsg_of : ∀ (Dn : Ends) (σ : L2.St) (H : Hp), tS c E (sAsg f g) Dn σ H → tAsg (tD c E f) (tTg c E is g) Dn σ H := fun Dn σ H ⟨W, ρ, m, o, s, p⟩ => by
  refine ⟨W, ρ, m, o, s, Pst.imp (PstS.bind p) fun x H1 ⟨W1, d, m1, l1, o1, r1, p1⟩ => ?_⟩
  refine ⟨W1, ρ, m1, d, o1, s.mono l1, r1, Pst.imp (PstS.bind p1) fun σ2 H2 ⟨W2, ρ2, m2, l2, o2, ⟨s2, _⟩, p2⟩ => ?_⟩
  exact p2 W2 H2 σ2 (le.refl _) o2 s2
theorem psd_asg (he : PE X e (tD c E f)) (hg : PG X tg (tTg c E is g)) (hs : swapsWithSole [tg] e pos.line X.env = pure false := by rfl) (hw : swappedStores [tg] e X.env = pure none := by rfl)
    (h1 : (assignEach [tg] X.env).map (·.2) = [assign tg X.env] := by rfl) : PS X (.Assign [tg] e pos) (tS c E (sAsg f g)) := PS.weak (ps_asg he hg hs hw h1) tAsg_of
/-- a, b = x, y -/
def sPar (i j : Nat) (fs : EvG (List D)) : Bd := fun ρ m => (fs ρ m).bind fun ds m1 => match ds with
  | [d1, d2] => .ok (.nx ((ρ.set i (some d1)).set j (some d2))) m1
  | _ => .stuck
theorem psd_par (i j : Nat) {x y : Str} {a b : Expr} {fs : EvG (List D)} {px py pt : Pos} {kt k2 pt2} (hc : X.calm = true) (hN : X.N.Nodup) (ha : PA X [a, b] (tDs c E fs)) (hi : X.N[i]? = some x := by rfl) (hj : X.N[j]? = some y := by rfl) (hij : i ≠ j := by decide)
    (hx : X.env.scope.names.lookup x = some .local := by rfl) (hy : X.env.scope.names.lookup y = some .local := by rfl)
    (hw : swappedStores [.Tuple [.Name x px, .Name y py] kt pt] (.Tuple [a, b] k2 pt2) X.env = pure (some [x, y]) := by rfl)
    (hs : swapsWithSole [.Tuple [.Name x px, .Name y py] kt pt] (.Tuple [a, b] k2 pt2) pos.line X.env = pure false := by rfl) :
    PS X (.Assign [.Tuple [.Name x px, .Name y py] kt pt] (.Tuple [a, b] k2 pt2) pos) (tS c E (sPar i j fs)) :=
  PS.weak (ps_par hc hN hi hj hij hx hy ha hw hs) fun Dn σ H ⟨W, ρ, m, o, s, p⟩ => by
    refine ⟨W, ρ, m, o, s, Pst.imp (PstS.bind p) fun xs H1 ⟨W1, ds, m1, l1, o1, r1, p1⟩ => ?_⟩
    match ds, r1, p1 with
    | [d1, d2], r1, p1 =>
      simp only [Rps] at r1
      obtain ⟨v1, r, rfl, q1, v2, r', rfl, q2, rfl⟩ := r1
      exact ⟨v1, v2, rfl, p1 W1 H1 _ (le.refl _) o1 (((s.mono l1).set q1).set q2)⟩
    | [], _, p1 => exact p1.elim
    | [_], _, p1 => exact p1.elim
    | _ :: _ :: _ :: _, _, p1 => exact p1.elim
/-- x op= e -/
def sAug (i : Nat) (f : Ev) (g : D → D → Mem → Rs D) : Bd := fun ρ m => match ρ[i]? with
  | some (some d0) => (f ρ m).bind fun d m1 => (g d0 d m1).bind fun d2 m2 => .ok (.nx (ρ.set i (some d2))) m2
  | _ => .stuck
theorem psd_aug (i : Nat) {x : Str} {op : Operator} {r : R2} {g : D → D → Mem → Rs D} {pos' : Pos} (hN : X.N.Nodup) (he : PE X e (tD c E f)) (ho : OpR X (inplaceOp op) r) (hs : OpS c E r g) (hi : X.N[i]? = some x := by rfl) (hx : Loc X.env.scope x := by first | exact Or.inl rfl | exact Or.inr rfl)
    (hf : X.fn x = true ∨ X.env.scope.names.lookup x = some .local := by first | exact .inl rfl | exact .inr rfl | assumption) : PS X (.AugAssign (.Name x pos') op e pos) (tS c E (sAug i f g)) :=
  PS.weak (ps_aug (ti := r) hN hi hx he ho hf) fun Dn σ H ⟨W, ρ, m, o, s, p⟩ => by
    unfold sAug at p
    split at p
    · rename_i d0 e0
      obtain ⟨v0, h0, r0⟩ := s.2 i d0 e0
      refine ⟨v0, h0, W, ρ, m, o, s, Pst.imp (PstS.bind p) fun y H1 ⟨W1, d, m1, l1, o1, r1, p1⟩ => ?_⟩
      refine hs W1 m1 H1 v0 y d0 d _ o1 (r0.mono l1 d0) r1 (Pst.imp (PstS.bind p1) fun z H2 ⟨W2, d2, m2, l2, o2, r2, p2⟩ => ?_)
      exact p2 W2 H2 _ (le.refl _) o2 (((s.mono l1).mono l2).set r2)
    · exact p.elim
/-- o[i] = e, by values -/
def SetS (c : Ct) (E : XK) (r : TSet) (g : D → D → D → Mem → Rs Unit) : Prop := ∀ (W : Wd) (m : Mem) (H : Hp) (x y z : V) (dx dy dz : D) (Q : Hp → Prop), Ok c W m H → Rp c W dx x → Rp c W dy y → Rp c W dz z →
  Pst c E (fun _ (_ : Unit) (_ : Unit) => True) (g dx dy dz m) W (fun _ H' => Q H') → r x y z H Q
def gSub' (fo fi : Ev) (g : D → D → D → Mem → Rs Unit) : Tg := fun d ρ m => (fo ρ m).bind fun d0 m1 => (fi ρ m1).bind fun di m2 => (g d0 di d m2).bind fun _ m3 => .ok ρ m3
theorem pgd_sub {o i : Expr} {fo fi : Ev} {r : TSet} {gg : D → D → D → Mem → Rs Unit} (ho : PE X o (tD c E fo)) (hi : PE X i (tD c E fi)) (hr : PSet X r) (hs : SetS c E r gg)
    (ha : ∀ v, assign (.Subscript o i pos) X.env v = (do
      let ov ← holding [v] (eval o X.env)
      let iv ← holding [v, ov] (eval i X.env)
      standAt pos
      holding [v, ov, iv] (setItem ov iv v)
      release [v, ov, iv] []) := by intro _; rfl) : PG X (.Subscript o i pos) (tTg c E [] (gSub' fo fi gg)) :=
  PG.weak (pg_sub ho hi hr ha) fun v σ H Q ⟨W, ρ, m, d, o, s, r, p⟩ => by
    refine ⟨W, ρ, m, o, s, Pst.imp (Pst.bind p) fun x H1 ⟨W1, d0, m1, l1, o1, r1, p1⟩ => ?_⟩
    refine ⟨W1, ρ, m1, o1, s.mono l1, Pst.imp (Pst.bind p1) fun y H2 ⟨W2, d2, m2, l2, o2, r2, p2⟩ => ?_⟩
    refine hs W2 m2 H2 x y v d0 d2 d _ o2 (r1.mono l2 d0) r2 ((r.mono l1 d).mono l2 d) (Pst.imp (Pst.bind p2) fun _ H3 ⟨W3, _, m3, l3, o3, _, p3⟩ => ?_)
    exact p3 W3 H3 σ (le.refl _) o3 ⟨((s.mono l1).mono l2).mono l3, rfl, fun _ _ => rfl⟩
end

/-! ### loops -/
/-- what is walked: the items, and what must stand at each turn -/
structure Wk where
  ds : List D
  ck : Mem → Prop
def Wk.of (ds : List D) : Wk := ⟨ds, fun _ => True⟩
/-- J walks the data -/
def Yld (c : Ct) (W : Wd) (wk : Wk) (J : It) : Prop := ∀ (W1 : Wd) (m1 : Mem) (H1 : Hp) (i : Nat), le W W1 → Ok c W1 m1 H1 → wk.ck m1 →
  (∀ d, wk.ds[i]? = some d → J.go i H1 ∧ ∀ x H2, J.yld i H1 x H2 → ∃ W2, le W1 W2 ∧ Ok c W2 m1 H2 ∧ Rp c W2 d x) ∧ (wk.ds.length = i → J.stop i H1)
abbrev tI (c : Ct) (E : XK) (f : EvG Wk) : TI := tG c E (Yld c) f
theorem PI.weak {X : Cx} {tg e : Expr} {t t' : TI} (h : PI X tg e t) (k : ∀ σ H Q, t' σ H Q → t σ H Q) : PI X tg e t' := ⟨fun pins s σ H R I q => h.run pins s σ H R I (k _ _ _ q)⟩
open Classical in
noncomputable def forD (ck : Mem → Prop) (g : Tg) (b : Bd) : List D → Bd
  | [], ρ, m => if ck m then .ok (.nx ρ) m else .stuck
  | d :: ds, ρ, m => if ck m then (g d ρ m).bind fun ρ1 m1 => match b ρ1 m1 with
    | .ok (.nx ρ2) m2 => forD ck g b ds ρ2 m2
    | .ok (.ct ρ2) m2 => forD ck g b ds ρ2 m2
    | .ok (.bk ρ2) m2 => .ok (.nx ρ2) m2
    | r => r else .stuck
noncomputable def sFor (fi : EvG Wk) (g : Tg) (b : Bd) : Bd := fun ρ m => (fi ρ m).bind fun wk m1 => forD wk.ck g b wk.ds ρ m1
def whileD (t : EvG Bool) (b : Bd) : Nat → Bd
  | 0, _, _ => .stuck
  | n + 1, ρ, m => (t ρ m).bind fun k m1 => if k = true then (match b ρ m1 with
      | .ok (.nx ρ2) m2 => whileD t b n ρ2 m2
      | .ok (.ct ρ2) m2 => whileD t b n ρ2 m2
      | .ok (.bk ρ2) m2 => .ok (.nx ρ2) m2
      | r => r) else .ok (.nx ρ) m1
theorem whileD_up {t : EvG Bool} {b : Bd} : ∀ (n : Nat) (ρ : Lc) (m : Mem), whileD t b n ρ m ≠ .stuck → whileD t b (n + 1) ρ m = whileD t b n ρ m
  | 0, _, _, h => absurd rfl h
  | n + 1, ρ, m, h => by
    rw [whileD] at h
    rw [whileD, whileD]
    cases ht : t ρ m with
    | stuck => rfl
    | err e m1 => rfl
    | ok k m1 =>
      rw [ht] at h
      simp only [Rs.bind_ok] at h ⊢
      cases k with
      | false => rfl
      | true =>
        simp only [if_true] at h ⊢
        cases hb : b ρ m1 with
        | stuck => rfl
        | err e m2 => rfl
        | ok fl m2 =>
          rw [hb] at h
          cases fl with
          | nx ρ2 => exact whileD_up n ρ2 m2 h
          | ct ρ2 => exact whileD_up n ρ2 m2 h
          | bk ρ2 => rfl
          | rt d => rfl
theorem whileD_le {t : EvG Bool} {b : Bd} {n k : Nat} {ρ : Lc} {m : Mem} (h : whileD t b n ρ m ≠ .stuck) (hk : n ≤ k) : whileD t b k ρ m = whileD t b n ρ m := by
  induction hk with
  | refl => rfl
  | step _ ih => rw [whileD_up _ _ _ (by rw [ih]; exact h), ih]
open Classical in
noncomputable def sWhile (t : EvG Bool) (b : Bd) : Bd := fun ρ m => if h : ∃ n, whileD t b n ρ m ≠ .stuck then whileD t b (Classical.choose h) ρ m else .stuck
theorem sWhile_of {t : EvG Bool} {b : Bd} {ρ : Lc} {m : Mem} (n : Nat) (h : whileD t b n ρ m ≠ .stuck) : sWhile t b ρ m = whileD t b n ρ m := by
  have hx : ∃ n, whileD t b n ρ m ≠ .stuck := ⟨n, h⟩
  unfold sWhile
  rw [dif_pos hx]
  have hc := Classical.choose_spec hx
  rcases Nat.le_total n (Classical.choose hx) with q | q
  · exact whileD_le h q
  · exact (whileD_le hc q).symm
section
variable {X : Cx} {c : Ct} {E : XK} {pos : Pos} {is : List Nat} {g : Tg} {b : Bd} {tg iter : Expr} {body : List Stmt} {fi : EvG Wk} {t : EvG Bool}
theorem psd_for (hp : PassesOwn (model X.prog X.w) X.A X.env X.xe) (hc : X.calm = true) (hi : PI X tg iter (tI c E fi)) (hg : PG X tg (tTg c E is g)) (hb : PSs X body (tS c E b))
    (hs : ∀ x, foldedSetIterable iter X.env x = pure x := by intro _; rfl) : PS X (.For tg iter body [] pos) (tS c E (sFor fi g b)) :=
  PS.weak (ps_for hp hc hi hg hb hs) fun Dn σ H ⟨W, ρ, m, o, s, p⟩ => by
    refine ⟨W, ρ, m, o, s, Pst.imp (PstS.bind (RA := Yld c) p) fun J H1 ⟨W1, wk, m1, l1, o1, y1, p1⟩ => ?_⟩
    obtain ⟨ds, ck⟩ := wk
    dsimp only at p1
    refine ⟨fun i n σ H => n = ds.length - i ∧ i ≤ ds.length ∧ ∃ W2 ρ2 m2, le W1 W2 ∧ Ok c W2 m2 H ∧ Sl c W2 ρ2 σ ∧ PstS c E (forD ck g b (ds.drop i) ρ2 m2) W2 Dn,
      ⟨_, rfl, Nat.zero_le _, W1, ρ, m1, le.refl _, o1, s.mono l1, by simpa using p1⟩, ?_⟩
    rintro i n σ2 H2 ⟨rfl, hi, W2, ρ2, m2, l2, o2, s2, p2⟩
    have hck : ck m2 := by
      refine Classical.byContradiction fun z => ?_
      cases e : ds.drop i with
      | nil => rw [e] at p2; rw [forD, if_neg z] at p2; exact p2
      | cons d r => rw [e] at p2; rw [forD, if_neg z] at p2; exact p2
    obtain ⟨hgo, hstop⟩ := y1 W2 m2 H2 i l2 o2 hck
    by_cases hlt : i < ds.length
    · have hd : ds[i]? = some ds[i] := List.getElem?_eq_getElem hlt
      obtain ⟨go, hy⟩ := hgo _ hd
      refine .inr ⟨go, fun σ' H' => i + 1 ≤ ds.length ∧ ∃ W3 ρ3 m3, le W1 W3 ∧ Ok c W3 m3 H' ∧ Sl c W3 ρ3 σ' ∧ PstS c E (forD ck g b (ds.drop (i + 1)) ρ3 m3) W3 Dn, fun σ' H' ⟨h1, h2⟩ => ⟨ds.length - (i + 1), by omega, rfl, h1, h2⟩, fun x H3 hx => ?_⟩
      obtain ⟨W3, l3, o3, r3⟩ := hy x H3 hx
      rw [List.drop_eq_getElem_cons hlt] at p2
      rw [forD, if_pos hck] at p2
      refine ⟨W3, ρ2, m2, ds[i], o3, s2.mono l3, r3, Pst.imp (PstS.bind (PstS.mono l3 p2)) fun σ4 H4 ⟨W4, ρ4, m4, l4, o4, ⟨s4, _⟩, p4⟩ => ?_⟩
      refine ⟨W4, ρ4, m4, o4, s4, ?_⟩
      have L4 : le W1 W4 := (l2.trans l3).trans l4
      cases hb : b ρ4 m4 with
      | stuck => rw [hb] at p4; exact p4
      | err e m5 => rw [hb] at p4; exact p4
      | ok fl m5 =>
        rw [hb] at p4
        cases fl with
        | nx ρ5 => exact fun W5 H5 σ5 l5 o5 s5 => ⟨hlt, W5, ρ5, m5, L4.trans l5, o5, s5, PstS.mono l5 p4⟩
        | ct ρ5 => exact fun W5 H5 σ5 l5 o5 s5 => ⟨hlt, W5, ρ5, m5, L4.trans l5, o5, s5, PstS.mono l5 p4⟩
        | bk ρ5 => exact p4
        | rt d => exact p4
    · have e : i = ds.length := by omega
      refine .inl ⟨hstop (by show ds.length = i; omega), ?_⟩
      rw [List.drop_eq_nil_of_le (by omega), forD, if_pos hck] at p2
      exact p2 W2 H2 σ2 (le.refl _) o2 s2
theorem psd_while {tst : Expr} (hp : PassesOwn (model X.prog X.w) X.A X.env X.xe) (hc : PT X tst (tT c E t)) (hb : PSs X body (tS c E b)) : PS X (.While tst body [] pos) (tS c E (sWhile t b)) :=
  PS.weak (ps_while hp hc hb) fun Dn σ H ⟨W, ρ, m, o, s, p⟩ => by
    have p : ∃ n, PstS c E (whileD t b n ρ m) W Dn := by
      unfold sWhile at p
      split at p
      · exact ⟨_, p⟩
      · exact p.elim
    obtain ⟨n0, p⟩ := p
    refine ⟨fun n σ H => ∃ W2 ρ2 m2, Ok c W2 m2 H ∧ Sl c W2 ρ2 σ ∧ PstS c E (whileD t b n ρ2 m2) W2 Dn, ⟨n0, W, ρ, m, o, s, p⟩, ?_⟩
    rintro n σ2 H2 ⟨W2, ρ2, m2, o2, s2, p2⟩
    cases n with
    | zero => exact p2.elim
    | succ n =>
      have p2 : PstS c E ((t ρ2 m2).bind _) W2 Dn := p2
      refine ⟨W2, ρ2, m2, o2, s2, Pst.imp (PstS.bind (RA := Rb) p2) fun k H3 ⟨W3, d, m3, l3, o3, r3, p3⟩ => ?_⟩
      have e : d = k := r3
      subst e
      cases d with
      | true =>
        rw [if_pos rfl] at p3 ⊢
        refine ⟨fun σ' H' => ∃ W2 ρ2 m2, Ok c W2 m2 H' ∧ Sl c W2 ρ2 σ' ∧ PstS c E (whileD t b n ρ2 m2) W2 Dn, fun σ' H' h => ⟨n, Nat.lt_succ_self _, h⟩, W3, ρ2, m3, o3, s2.mono l3, ?_⟩
        cases hb : b ρ2 m3 with
        | stuck => rw [hb] at p3; exact p3
        | err e m5 => rw [hb] at p3; exact p3
        | ok fl m5 =>
          rw [hb] at p3
          cases fl with
          | nx ρ5 => exact fun W5 H5 σ5 l5 o5 s5 => ⟨W5, ρ5, m5, o5, s5, PstS.mono l5 p3⟩
          | ct ρ5 => exact fun W5 H5 σ5 l5 o5 s5 => ⟨W5, ρ5, m5, o5, s5, PstS.mono l5 p3⟩
          | bk ρ5 => exact p3
          | rt d => exact p3
      | false =>
        rw [if_neg Bool.false_ne_true] at p3 ⊢
        exact p3 W3 H3 σ2 (le.refl _) o3 (s2.mono l3)
end
end LN
namespace LN
open PySem L2 PySem.Spec PyProof.Rows

/-! ### comprehensions -/
def Rs.nox {α : Type} (r : Rs α) : Rs α := match r with
  | .err _ _ => .stuck
  | r => r
theorem Rs.bind_assoc {α β γ : Type} (r : Rs α) (k : α → Mem → Rs β) (k' : β → Mem → Rs γ) : (r.bind k).bind k' = r.bind fun a m => (k a m).bind k' := by cases r <;> rfl
theorem Pst.nox {c : Ct} {E E' : XK} {α β : Type} {RA : Wd → α → β → Prop} {R : Rs α} {W : Wd} {Q : β → Hp → Prop} (h : Pst c E RA R.nox W Q) : Pst c E' RA R W Q := by
  cases R with
  | stuck => exact h
  | ok a m => exact h
  | err e m => exact h.elim
def wipeD (ρ : Lc) : List Nat → Lc
  | [] => ρ
  | v :: vs => (wipeD ρ vs).set v none
theorem Sl.wipe {c : Ct} {W : Wd} {ρ : Lc} {σ : L2.St} (s : Sl c W ρ σ) : ∀ vs : List Nat, Sl c W (wipeD ρ vs) (wipe σ vs)
  | [] => s
  | v :: vs => by
    have ih := Sl.wipe s vs
    refine ⟨by simp [wipeD, L2.wipe, ih.1], fun i d h => ?_⟩
    simp only [wipeD] at h
    simp only [L2.wipe]
    rw [List.getElem?_set] at h ⊢
    by_cases e : v = i
    · rw [if_pos e] at h
      split at h <;> cases h
    · rw [if_neg e] at h ⊢
      exact ih.2 i d h
theorem wipe_get (σ : L2.St) (j : Nat) : ∀ vs : List Nat, (wipe σ vs)[j]? = if j ∈ vs ∧ j < σ.length then some none else σ[j]?
  | [] => by simp [L2.wipe]
  | v :: vs => by
    simp only [L2.wipe]
    rw [List.getElem?_set, wipe_get σ j vs, wipe_length]
    by_cases e : v = j
    · subst e
      rw [if_pos rfl]
      by_cases hl : v < σ.length
      · rw [if_pos hl, if_pos ⟨by simp, hl⟩]
      · rw [if_neg hl, if_neg (fun z => hl z.2)]
        exact (List.getElem?_eq_none (by omega)).symm
    · rw [if_neg e]
      have : (j ∈ v :: vs) ↔ j ∈ vs := by simp [Ne.symm e]
      simp only [this]
theorem Dif.wipe {σ0 σ σ' : L2.St} {is vs : List Nat} (h : Dif is σ σ') (hs : ∀ i ∈ is, i ∈ vs) (h0 : σ = wipe σ0 vs) : wipe σ' vs = wipe σ0 vs := by
  apply List.ext_getElem?
  intro j
  rw [wipe_get, wipe_get]
  have hl0 : σ.length = σ0.length := by rw [h0, wipe_length]
  by_cases hj : j ∈ vs ∧ j < σ0.length
  · rw [if_pos ⟨hj.1, by rw [h.1]; omega⟩, if_pos hj]
  · rw [if_neg (by rw [h.1, hl0]; exact hj), if_neg hj]
    by_cases hv : j ∈ vs
    · have : ¬ j < σ0.length := fun z => hj ⟨hv, z⟩
      rw [List.getElem?_eq_none (by rw [h.1]; omega), List.getElem?_eq_none (by omega)]
    · rw [h.2 j fun z => hv (hs j z), h0, wipe_get, if_neg (fun z => hv z.1)]
def tAll : EvG Bool := fun _ m => .ok true m
open Classical in
noncomputable def lcD (ck : Mem → Prop) (g : Tg) (t : EvG Bool) (f : Ev) : List D → Lc → Mem → Rs (List D)
  | [], _, m => if ck m then .ok [] m else .stuck
  | d :: ds, ρ, m => if ck m then (g d ρ m).nox.bind fun ρ1 m1 => (t ρ1 m1).nox.bind fun k m2 =>
      if k = true then (f ρ1 m2).nox.bind fun y m3 => (lcD ck g t f ds ρ m3).bind fun ys m4 => .ok (y :: ys) m4 else lcD ck g t f ds ρ m2 else .stuck
def finF (ys : List D) (m : Mem) : Rs D := if lineOk ys.length = true then .ok (.lst ys) m else .stuck
def finM (ys : List D) (m : Mem) : Rs D := if lineOk ys.length = true then newObj (.lst ys) m else .stuck
noncomputable def dLc (fin : List D → Mem → Rs D) (fi : EvG Wk) (vs : List Nat) (g : Tg) (t : EvG Bool) (f : Ev) : Ev := fun ρ m => (fi ρ m).bind fun wk m1 => (lcD wk.ck g t f wk.ds (wipeD ρ vs) m1).bind fun ys m2 => fin ys m2
def rm (L : Hp) (D : Addr) : Hp := fun b => if b = D then none else L b
theorem rm_ne {L : Hp} {D a : Addr} (h : a ≠ D) : rm L D a = L a := by unfold rm; rw [if_neg h]
theorem rm_same {L : Hp} {D : Addr} : rm L D D = none := by unfold rm; rw [if_pos rfl]
theorem rm_some {L : Hp} {D a : Addr} {v : HO} (h : rm L D a = some v) : a ≠ D ∧ L a = some v := by
  unfold rm at h
  by_cases e : a = D
  · rw [if_pos e] at h; cases h
  · rw [if_neg e] at h; exact ⟨e, h⟩
theorem tabs_rm {T : List (Addr × Str)} {H : Hp} {p : Addr} (t : LamX.Tabs T H) (h : ∀ o, H p = some o → Dat o) : LamX.Tabs T (rm H p) := tabs_at t fun b o e n => by
  by_cases e2 : b = p
  · subst e2; exact absurd (h o e) n
  · rw [rm_ne e2]; exact e
theorem MoR.L {c : Ct} {G L L' H : Hp} {ι : Nat → Nat → Option Addr} {a : Addr} : ∀ {o : MO}, MoR c ⟨G, L, ι⟩ H a o → MoR c ⟨G, L', ι⟩ H a o
  | .lst xs, ⟨vs, q, r⟩ => ⟨vs, q, (Rps_L xs).mp r⟩
  | .dk ks xs, ⟨vs, q, l, r⟩ => ⟨vs, q, l, (Rps_L xs).mp r⟩
  | .dt ks xs, ⟨vs, bs, q, l, b, r⟩ => ⟨vs, bs, q, l, b, (Rps_L xs).mp r⟩
  | .fk ks xs, ⟨ob, vs, q, l, r⟩ => ⟨ob, vs, q, l, (Rps_L xs).mp r⟩
  | .ft ks xs, ⟨ob, vs, bs, q, l, b, r⟩ => ⟨ob, vs, bs, q, l, b, (Rps_L xs).mp r⟩
  | .dead, _ => trivial
section
variable {c : Ct} {W : Wd} {m : Mem} {H : Hp} {D : Addr} {u u' : HO}
theorem Ok.ne_pin (k : Ok c W m H) (hD : W.L D = some u) (hu : ∃ xs, u = .lst xs) : ∀ {f i a o'}, m.get f i = some o' → o'.alive = true → W.ι f i = some a → a ≠ D := fun {f i a o'} h1 h2 h3 => by
  obtain ⟨b, e1, e2, e3, e4⟩ := k.i f i o' h1 h2
  rw [h3] at e1; cases e1
  rintro rfl
  obtain ⟨xs, rfl⟩ := hu
  have hd := k.l _ _ hD
  cases o' with
  | fk ks xs => obtain ⟨ob, vs, q, r⟩ := e2; rw [hd] at q; cases q
  | ft ks xs => obtain ⟨ob, vs, bs, q, r⟩ := e2; rw [hd] at q; cases q
  | lst xs => rw [e4.un rfl] at hD; cases hD
  | dk ks xs => rw [e4.un rfl] at hD; cases hD
  | dt ks xs => rw [e4.un rfl] at hD; cases hD
  | dead => cases h2
/-- the pinned object goes over to the frozen ones -/
theorem Ok.unpin (k : Ok c W m H) (hD : W.L D = some u) (hl : ∃ xs, u = .lst xs) : Ok c { G := upd W.G D u, L := rm W.L D, ι := W.ι } m H := by
  have hG := k.gl D u hD
  refine ⟨fun a v h => ?_, fun a v h => k.l a v (rm_some h).2, fun a v h => ?_, fun f i o h1 h2 => ?_, k.inj, k.rng, k.lt, fun a v h => k.ll a v (rm_some h).2, k.tb, nt_upd k.nt (by obtain ⟨xs, rfl⟩ := hl; exact dat_lst.1)⟩
  · have h : upd W.G D u a = some v := h
    by_cases e : a = D
    · subst e; rw [upd_same] at h; cases h; exact k.l _ _ hD
    · rw [upd_ne e] at h; exact k.g a v h
  · obtain ⟨e, h⟩ := rm_some h
    show upd W.G D u a = none
    rw [upd_ne e]
    exact k.gl a v h
  · obtain ⟨a, e1, e2, e3, e4⟩ := k.i f i o h1 h2
    have na := k.ne_pin hD hl h1 h2 e1
    refine ⟨a, e1, ?_, by show upd W.G D u a = none; rw [upd_ne na]; exact e3, e4.eq (by show rm W.L D a = W.L a; rw [rm_ne na])⟩
    have e2' : MoR c ⟨W.G, rm W.L D, W.ι⟩ H a o := e2.L
    have l2 : le ⟨W.G, rm W.L D, W.ι⟩ { G := upd W.G D u, L := rm W.L D, ι := W.ι } := ⟨fun b v h => by show upd W.G D u b = _; rw [upd_ne (ne_of_none h hG)]; exact h, fun _ _ h => h, fun _ _ _ h => h⟩
    exact e2'.mono l2 fun _ h => h
/-- the pinned object is changed -/
theorem Ok.repin {ys : List V} (k : Ok c W m H) (hD : W.L D = some u) (hl : ∃ xs, u = .lst xs) : Ok c { W with L := upd W.L D (.lst ys) } m (upd H D (.lst ys)) := by
  generalize hu : HO.lst ys = u'
  have hG := k.gl D u hD
  refine ⟨fun a v h => ?_, fun a v h => ?_, fun a v h => ?_, fun f i o h1 h2 => ?_, k.inj, k.rng, k.lt, fun a v h => ?_, tabs_upd k.tb (by intro o e; rw [k.l _ _ hD] at e; cases e; obtain ⟨xs, rfl⟩ := hl; exact dat_lst), k.nt⟩
  · rw [upd_ne (ne_of_none h hG)]; exact k.g a v h
  · have h : upd W.L D u' a = some v := h
    by_cases e : a = D
    · subst e; rw [upd_same] at h ⊢; exact h
    · rw [upd_ne e] at h ⊢; exact k.l a v h
  · have h : upd W.L D u' a = some v := h
    by_cases e : a = D
    · rw [e]; exact hG
    · rw [upd_ne e] at h; exact k.gl a v h
  · obtain ⟨a, e1, e2, e3, e4⟩ := k.i f i o h1 h2
    have na := k.ne_pin hD hl h1 h2 e1
    refine ⟨a, e1, ?_, e3, e4.eq (by show upd W.L D u' a = W.L a; rw [upd_ne na])⟩
    have e2' : MoR c { W with L := upd W.L D u' } H a o := e2.L
    exact e2'.mono (le.refl _) fun v h => by rw [upd_ne na]; exact h
  · have h : upd W.L D u' a = some v := h
    by_cases e : a = D
    · subst e; rw [upd_same] at h; cases h; exact .inl ⟨_, hu.symm⟩
    · rw [upd_ne e] at h; exact k.ll a v h
/-- the pinned object is looked away from -/
theorem Ok.drop (k : Ok c W m H) (hD : W.L D = some u) (hl : ∃ xs, u = .lst xs) : Ok c { W with L := rm W.L D } m (rm H D) := by
  have hG := k.gl D u hD
  refine ⟨fun a v h => ?_, fun a v h => ?_, fun a v h => k.gl a v (rm_some h).2, fun f i o h1 h2 => ?_, k.inj, k.rng, k.lt, fun a v h => k.ll a v (rm_some h).2, tabs_rm k.tb (by intro o e; rw [k.l _ _ hD] at e; cases e; obtain ⟨xs, rfl⟩ := hl; exact dat_lst), k.nt⟩
  · rw [rm_ne (ne_of_none h hG)]; exact k.g a v h
  · obtain ⟨e, h⟩ := rm_some h
    rw [rm_ne e]; exact k.l a v h
  · obtain ⟨a, e1, e2, e3, e4⟩ := k.i f i o h1 h2
    have na := k.ne_pin hD hl h1 h2 e1
    refine ⟨a, e1, ?_, e3, e4.eq (by show rm W.L D a = W.L a; rw [rm_ne na])⟩
    have e2' : MoR c { W with L := rm W.L D } H a o := e2.L
    exact e2'.mono (le.refl _) fun v h => by rw [rm_ne na]; exact h
end
/-- what is made of the list at the end -/
structure FinS (fin : List D → Mem → Rs D) : Prop where
  line : ∀ ys m, lineOk ys.length = false → fin ys m = .stuck
  fin : ∀ {c : Ct} {E : XK} {W1 W : Wd} {m : Mem} {H : Hp} {D : Addr} {ys : List LN.D} {xs : List V} {Q : VK}, Ok c W m H → W.L D = some (.lst xs) → W1.L D = none → le W1 W → Rps c W ys xs → Pst c E (Rp c) (fin ys m) W1 Q → Q (.ref D) H
theorem le.rm {W1 W : Wd} {D : Addr} (l : le W1 W) (h : W1.L D = none) : le W1 { W with L := rm W.L D } :=
  ⟨l.g, fun a o q => by show LN.rm W.L D a = _; rw [rm_ne (ne_of_none q h)]; exact l.l a o q, l.i⟩
theorem fin_F : FinS finF where
  line := fun ys m h => by unfold finF; rw [h]; rfl
  fin := fun {c E W1 W m H D ys xs Q} o hD h0 l r p => by
    unfold finF at p
    split at p
    · have o' := o.unpin hD ⟨_, rfl⟩
      have hG := o.gl D _ hD
      have l2 : le { W with L := rm W.L D } { G := upd W.G D (.lst xs), L := rm W.L D, ι := W.ι } := ⟨fun b v h => by show upd W.G D _ b = _; rw [upd_ne (ne_of_none h hG)]; exact h, fun _ _ h => h, fun _ _ _ h => h⟩
      refine p _ H (.ref D) ((l.rm h0).trans l2) o' ?_
      simp only [Rp]
      exact ⟨D, xs, rfl, upd_same, ((Rps_L ys).mp r : Rps c { W with L := rm W.L D } ys xs).mono l2 ys⟩
    · exact p.elim
theorem fin_M : FinS finM where
  line := fun ys m h => by unfold finM; rw [h]; rfl
  fin := fun {c E W1 W m H D ys xs Q} o hD h0 l r p => by
    unfold finM at p
    split at p
    · unfold newObj at p
      split at p
      · rename_i h
        have o' := o.drop hD ⟨_, rfl⟩
        have r' : Rps c { W with L := rm W.L D } ys xs := (Rps_L ys).mp r
        obtain ⟨W', l2, o2, r2⟩ := o'.alloc (o := .lst ys) (p := D) (u := .lst xs) (fun z => h.1 (by rw [z]; rfl)) rm_same h.2 ⟨xs, upd_same, r'⟩
        have eH : upd (rm H D) D (.lst xs) = H := by
          funext b
          by_cases e : b = D
          · subst e; rw [upd_same, o.l _ _ hD]
          · rw [upd_ne e, rm_ne e]
        rw [eH] at o2
        exact p W' H (.ref D) ((l.rm h0).trans l2) o2 r2
      · exact p.elim
    · exact p.elim
theorem lcD_len {g : Tg} {t : EvG Bool} {f : Ev} : True := trivial
section
variable {X : Cx} {c : Ct} {E : XK} {pos : Pos} {is : List Nat} {g : Tg} {fi : EvG Wk} {t : EvG Bool} {f : Ev} {fin : List D → Mem → Rs D}
/-- the rest cannot shrink what is made -/
theorem Pst.line {R : Rs (List D)} {ys : List D} {W : Wd} {Q : VK} (F : FinS fin) (h : Pst c E (Rp c) (R.bind fun zs m => fin (ys ++ zs) m) W Q) (hR : ∀ e m, R ≠ .err e m) : lineOk ys.length = true := by
  cases R with
  | stuck => exact h.elim
  | err e m => exact absurd rfl (hR e m)
  | ok zs m =>
    have h : Pst c E (Rp c) (fin (ys ++ zs) m) W Q := h
    cases q : lineOk (ys ++ zs).length with
    | false => rw [F.line _ _ q] at h; exact h.elim
    | true =>
      unfold lineOk at q ⊢
      have := of_decide_eq_true q
      simp only [List.length_append] at this
      exact decide_eq_true (by omega)
theorem nox_noerr {α : Type} {r : Rs α} {e : Exn} {m : Mem} : r.nox ≠ .err e m := by
  cases r <;> intro h <;> cases h
theorem lcD_noerr {ck : Mem → Prop} : ∀ (ds : List D) (ρ : Lc) (m : Mem) (e : Exn) (m' : Mem), lcD ck g t f ds ρ m ≠ .err e m'
  | [], _, m, _, _, h => by
    rw [lcD] at h
    split at h <;> cases h
  | d :: ds, ρ, m, e, m', h => by
    rw [lcD] at h
    split at h
    case isFalse => cases h
    cases h1 : (g d ρ m).nox with
    | stuck => rw [h1] at h; cases h
    | err e m => exact nox_noerr h1
    | ok ρ1 m1 =>
      rw [h1] at h
      have h : ((t ρ1 m1).nox.bind _) = _ := h
      cases h2 : (t ρ1 m1).nox with
      | stuck => rw [h2] at h; cases h
      | err e m => exact nox_noerr h2
      | ok k m2 =>
        rw [h2] at h
        have h : (if k = true then _ else _) = _ := h
        cases k with
        | false => rw [if_neg Bool.false_ne_true] at h; exact lcD_noerr ds ρ m2 e m' h
        | true =>
          rw [if_pos rfl] at h
          cases h3 : (f ρ1 m2).nox with
          | stuck => rw [h3] at h; cases h
          | err e m => exact nox_noerr h3
          | ok y m3 =>
            rw [h3] at h
            have h : ((lcD ck g t f ds ρ m3).bind _) = _ := h
            cases h4 : lcD ck g t f ds ρ m3 with
            | stuck => rw [h4] at h; cases h
            | err e m => exact lcD_noerr ds ρ m3 e m h4
            | ok ys m4 => rw [h4] at h; cases h
theorem tLc_of (F : FinS fin) {vs : List Nat} (hs : ∀ i ∈ is, i ∈ vs) : ∀ (σ : L2.St) (H : Hp) (Q : VK), tD c E (dLc fin fi vs g t f) σ H Q → tLc (tI c E fi) (tTg c E0 is g) (tT c E0 t) (tD c E0 f) vs σ H Q := fun σ H Q ⟨W, ρ, m, o, s, p⟩ => by
  refine ⟨W, ρ, m, o, s, Pst.imp (Pst.bind (RA := Yld c) p) fun J H1 ⟨W1, wk, m1, l1, o1, y1, p1⟩ => ?_⟩
  obtain ⟨ds, ck⟩ := wk
  dsimp only at p1
  intro D hD
  have L0 : W1.L D = none := by
    cases e : W1.L D with
    | none => rfl
    | some u => rw [o1.l _ _ e] at hD; cases hD
  have s1 : Sl c W1 (wipeD ρ vs) (wipe σ vs) := (s.mono l1).wipe vs
  have lp : le W1 { W1 with L := upd W1.L D (.lst []) } := ⟨fun _ _ h => h, fun a v h => by show upd W1.L D _ a = _; rw [upd_ne (ne_of_none h L0)]; exact h, fun _ _ _ h => h⟩
  refine ⟨fun i n H => n = ds.length - i ∧ i ≤ ds.length ∧ ∃ W2 m2 ys xs, le W1 W2 ∧ W2.L D = some (.lst xs) ∧ Ok c W2 m2 H ∧ Rps c W2 ys xs ∧
      Pst c E (Rp c) ((lcD ck g t f (ds.drop i) (wipeD ρ vs) m2).bind fun zs m => fin (ys ++ zs) m) W1 Q,
    ⟨_, rfl, Nat.zero_le _, { W1 with L := upd W1.L D (.lst []) }, m1, [], [], lp, upd_same, o1.pin hD, Rps.nil, by simpa using p1⟩, ?_⟩
  rintro i n H2 ⟨rfl, hi, W2, m2, ys, xs, l2, hL, o2, r2, p2⟩
  have hck : ck m2 := by
    refine Classical.byContradiction fun z => ?_
    cases e : ds.drop i with
    | nil => rw [e] at p2; rw [lcD, if_neg z] at p2; exact p2
    | cons d r => rw [e] at p2; rw [lcD, if_neg z] at p2; exact p2
  obtain ⟨hgo, hstop⟩ := y1 W2 m2 H2 i l2 o2 hck
  by_cases hlt : i < ds.length
  · have hd : ds[i]? = some ds[i] := List.getElem?_eq_getElem hlt
    obtain ⟨go, hy⟩ := hgo _ hd
    refine .inr ⟨go, fun H' => i + 1 ≤ ds.length ∧ ∃ W2 m2 ys xs, le W1 W2 ∧ W2.L D = some (.lst xs) ∧ Ok c W2 m2 H' ∧ Rps c W2 ys xs ∧
      Pst c E (Rp c) ((lcD ck g t f (ds.drop (i + 1)) (wipeD ρ vs) m2).bind fun zs m => fin (ys ++ zs) m) W1 Q, fun H' ⟨h1, h2⟩ => ⟨ds.length - (i + 1), by omega, rfl, h1, h2⟩, fun x H3 hx => ?_⟩
    obtain ⟨W3, l3, o3, r3⟩ := hy x H3 hx
    have hL3 := l3.l _ _ hL
    rw [List.drop_eq_getElem_cons hlt, lcD, if_pos hck] at p2
    have L3 := l2.trans l3
    have p2 : Pst c E (Rp c) (((g ds[i] (wipeD ρ vs) m2).nox.bind _).bind _) W1 Q := p2
    rw [Rs.bind_assoc] at p2
    refine ⟨W3, wipeD ρ vs, m2, ds[i], o3, s1.mono L3, r3, Pst.imp (Pst.nox (Pst.bind2 p2 L3)) fun σ4 H4 ⟨W4, ρ4, m4, l4, o4, ⟨s4, d4⟩, p4⟩ => ?_⟩
    have L4 := L3.trans l4
    refine ⟨d4.wipe hs rfl, ?_⟩
    have p4 : Pst c E (Rp c) (((t ρ4 m4).nox.bind _).bind _) W1 Q := p4
    rw [Rs.bind_assoc] at p4
    refine ⟨W4, ρ4, m4, o4, s4, Pst.imp (Pst.nox (Pst.bind2 p4 L4)) fun k H5 ⟨W5, d5, m5, l5, o5, r5, p5⟩ => ?_⟩
    have e5 : d5 = k := r5
    subst e5
    have L5 := L4.trans l5
    cases d5 with
    | false =>
      rw [if_neg Bool.false_ne_true] at p5 ⊢
      exact ⟨hlt, W5, m5, ys, xs, L5, l5.l _ _ (l4.l _ _ hL3), o5, (((r2.mono l3).mono l4).mono l5), p5⟩
    | true =>
      rw [if_pos rfl] at p5 ⊢
      rw [Rs.bind_assoc] at p5
      refine ⟨W5, ρ4, m5, o5, s4.mono l5, Pst.imp (Pst.nox (Pst.bind2 p5 L5)) fun y H6 ⟨W6, d6, m6, l6, o6, r6, p6⟩ => ?_⟩
      have hL6 := l6.l _ _ (l5.l _ _ (l4.l _ _ hL3))
      have L6 := L5.trans l6
      rw [Rs.bind_assoc] at p6
      have p6 : Pst c E (Rp c) ((lcD ck g t f (ds.drop (i + 1)) (wipeD ρ vs) m6).bind fun zs m => fin ((ys ++ [d6]) ++ zs) m) W1 Q := by simpa using p6
      have hl := lineOk_le (Pst.line F p6 fun e m => lcD_noerr _ _ _ _ _)
      rw [List.length_append, r2.length] at hl
      refine ⟨xs, o6.l _ _ hL6, hl, hlt, { W6 with L := upd W6.L D (.lst (xs ++ [y])) }, m6, ys ++ [d6], xs ++ [y], ?_, upd_same, o6.repin hL6 ⟨_, rfl⟩, ?_, p6⟩
      · exact ⟨L6.g, fun a v h => by show upd W6.L D _ a = _; rw [upd_ne (ne_of_none h L0)]; exact L6.l a v h, L6.i⟩
      · exact (Rps_L _).mp (Rps.append (((((r2.mono l3).mono l4).mono l5).mono l6 : Rps c W6 ys xs)) (Rps.one r6) : Rps c ⟨W6.G, W6.L, W6.ι⟩ (ys ++ [d6]) (xs ++ [y]))
  · have e : i = ds.length := by omega
    refine .inl ⟨hstop (by show ds.length = i; omega), ?_⟩
    rw [List.drop_eq_nil_of_le (by omega), lcD, if_pos hck] at p2
    have p2 : Pst c E (Rp c) (fin (ys ++ []) m2) W1 Q := p2
    rw [List.append_nil] at p2
    exact F.fin o2 hL L0 l2 r2 p2
end
end LN
namespace LN
open PySem L2 PySem.Spec PyProof.Rows

/-! ### comprehensions as rules -/
section
variable {X : Cx} {c : Ct} {E : XK} {pos : Pos} {is : List Nat} {g : Tg} {fi : EvG Wk} {t : EvG Bool} {f : Ev} {fin : List D → Mem → Rs D}
theorem ptsd_nil : PTs X [] (tT c E tAll) := ⟨fun pins s σ H Q I ⟨W, ρ, m, o, sl, p⟩ => pts_nil.run pins s σ H Q I (p W H true (le.refl _) o rfl)⟩
theorem ptsd_one {e : Expr} (h : PT X e (tT c E t)) : PTs X [e] (tT c E t) := pts_one h
theorem pd_lc {elt tg iter : Expr} {ifs : List Expr} {scope : Scope} {own : List (Str × Nat)} (F : FinS fin) (hc : X.calm = true) (hN : X.N.Nodup) (hi : PI X tg iter (tI c E fi)) (ok : blkC X.N X.env.scope scope own = true)
    (hg : ∀ (s : Shared) (H : Hp) (C : Addr) (cl : List (Str × Addr)) (fp : List Addr), PG (X.blk s H scope (compEnvC scope cl C X.env) fp) tg (tTg c E0 is g)) (ht : ∀ (s : Shared) (H : Hp) (C : Addr) (cl : List (Str × Addr)) (fp : List Addr), PTs (X.blk s H scope (compEnvC scope cl C X.env) fp) ifs (tT c E0 t))
    (he : ∀ (s : Shared) (H : Hp) (C : Addr) (cl : List (Str × Addr)) (fp : List Addr), PE (X.blk s H scope (compEnvC scope cl C X.env) fp) elt (tD c E0 f)) (his : ∀ i ∈ is, i ∈ own.map (·.2) := by decide) (hs : ∀ x, foldedSetIterable iter X.env x = pure x := by intro _; rfl) :
    PE X (.ListComp elt [⟨tg, iter, ifs, 0⟩] scope pos) (tD c E (dLc fin fi (own.map (·.2)) g t f)) :=
  PE.weak (pe_lc hc hN hi (blkOk_by ok) hg ht he hs) (tLc_of F his)
theorem psd_setLc {i : Nat} {y : Str} {py spos : Pos} {elt tg iter : Expr} {ifs : List Expr} {scope : Scope} {own : List (Str × Nat)} (F : FinS fin) (hc : X.calm = true) (hN : X.N.Nodup) (hi : PI X tg iter (tI c E fi)) (ok : blkC X.N X.env.scope scope own = true)
    (hg : ∀ (s : Shared) (H : Hp) (C : Addr) (cl : List (Str × Addr)) (fp : List Addr), PG (X.blk s H scope (compEnvC scope cl C X.env) fp) tg (tTg c E0 is g)) (ht : ∀ (s : Shared) (H : Hp) (C : Addr) (cl : List (Str × Addr)) (fp : List Addr), PTs (X.blk s H scope (compEnvC scope cl C X.env) fp) ifs (tT c E0 t))
    (he : ∀ (s : Shared) (H : Hp) (C : Addr) (cl : List (Str × Addr)) (fp : List Addr), PE (X.blk s H scope (compEnvC scope cl C X.env) fp) elt (tD c E0 f)) (hsw : swapsWith (.ListComp elt [⟨tg, iter, ifs, 0⟩] scope pos) (some (.Name y py)) spos.line X.env = pure true)
    (hy : X.N[i]? = some y := by rfl) (hyl : X.env.scope.names.lookup y = some .local := by rfl) (his : ∀ i ∈ is, i ∈ own.map (·.2) := by decide) (hs : ∀ x, foldedSetIterable iter X.env x = pure x := by intro _; rfl) :
    PS X (.Assign [.Name y py] (.ListComp elt [⟨tg, iter, ifs, 0⟩] scope pos) spos) (tS c E (sAsg (dLc fin fi (own.map (·.2)) g t f) (gN i))) :=
  PS.weak (ps_setLc hc hN hy hyl hsw hi (blkOk_by ok) hg ht he hs) fun Dn σ H ⟨W, ρ, m, o, s, p⟩ => by
    have q : tD c E (dLc fin fi (own.map (·.2)) g t f) σ H (fun x H1 => gName i x σ H1 Dn.nx) :=
      ⟨W, ρ, m, o, s, Pst.imp (PstS.bind p) fun x H1 ⟨W1, d, m1, l1, o1, r1, p1⟩ => p1 W1 H1 _ (le.refl _) o1 ((s.mono l1).set r1)⟩
    exact tLc_of F his σ H _ q
end

/-! ### what a def gives -/
/-- own objects of the frame n are read -/
def fz : Nat → Nat → Mem → D → D
  | 0, _, _, d => d
  | k + 1, n, m, d => match d with
    | .loc f i => if f = n then (match m.get f i with
      | some (.lst xs) => .lst (xs.map (fz k n m))
      | some (.dk ks xs) => .dk ks (xs.map (fz k n m))
      | some (.dt ks xs) => .dt ks (xs.map (fz k n m))
      | _ => d) else d
    | .tup xs => .tup (xs.map (fz k n m))
    | .lst xs => .lst (xs.map (fz k n m))
    | .dk ks xs => .dk ks (xs.map (fz k n m))
    | .dt ks xs => .dt ks (xs.map (fz k n m))
    | d => d
def fzl (n : Nat) (m : Mem) (d : D) : D := if D.lt n d = true then d else fz 8 n m d
def lv (n : Nat) (R : Rs Fl) : Rs D := match R with
  | .ok (.rt d) m => if D.lt n (fzl n m d) = true then .ok (fzl n m d) (m.take n) else .stuck
  | .ok (.nx _) m => .ok .non (m.take n)
  | .err e m => if D.lts n (e.fs.map (·.2)) = true then .err e (m.take n) else .stuck
  | _ => .stuck
def fnD (np nl : Nat) (b : Bd) : Fn := fun ds m => if ds.length = np then lv m.length (b (ds.map some ++ List.replicate (nl - np) none) (m ++ [[]])) else .stuck
def spD (c : Ct) (fn : Fn) : Sp := fun vs H Q E => ∃ W ds m, Ok c W m H ∧ Rps c W ds vs ∧ Pst c E (Rp c) (fn ds m) W Q
open Classical in
/-- the frozen part with the objects of the frame n -/
noncomputable def gz (W : Wd) (m : Mem) (H : Hp) (n : Nat) : Hp := fun a => match W.G a with
  | some o => some o
  | none => if ∃ i o, m.get n i = some o ∧ (o.alive = true ∧ o.lkd = false) ∧ W.ι n i = some a then H a else none
section
variable {c : Ct} {W : Wd} {m : Mem} {H : Hp} {n : Nat}
theorem gz_old {a : Addr} {o : HO} (h : W.G a = some o) : gz W m H n a = some o := by unfold gz; rw [h]
theorem gz_new {a : Addr} {i : Nat} {o : MO} (h : W.G a = none) (h1 : m.get n i = some o) (h2 : o.alive = true ∧ o.lkd = false) (h3 : W.ι n i = some a) : gz W m H n a = H a := by
  unfold gz; rw [h]; exact if_pos ⟨i, o, h1, h2, h3⟩
theorem gz_cases {a : Addr} {o : HO} (h : gz W m H n a = some o) : W.G a = some o ∨ H a = some o := by
  unfold gz at h
  cases e : W.G a with
  | some u => rw [e] at h; exact .inl h
  | none =>
    rw [e] at h
    dsimp only at h
    split at h
    · exact .inr h
    · cases h
theorem gz_none {a : Addr} (h : W.G a = none) (h2 : ¬ ∃ i o, m.get n i = some o ∧ (o.alive = true ∧ o.lkd = false) ∧ W.ι n i = some a) : gz W m H n a = none := by
  unfold gz; rw [h]; exact if_neg h2
theorem le_gz : le W { W with G := gz W m H n } := ⟨fun _ _ h => gz_old h, fun _ _ h => h, fun _ _ _ h => h⟩
theorem Rps.map {W' : Wd} {h : D → D} (k : ∀ d v, Rp c W d v → Rp c W' (h d) v) : ∀ {xs : List D} {vs : List V}, Rps c W xs vs → Rps c W' (xs.map h) vs := fun {xs vs} r =>
  Rps.of (by simp [r.length]) fun i d v h1 h2 => by
    rw [List.getElem?_map] at h1
    cases e : xs[i]? with
    | none => rw [e] at h1; cases h1
    | some x =>
      rw [e] at h1; cases h1
      exact k _ _ (r.at e h2)
theorem Rp.fz (o : Ok c W m H) : ∀ (k : Nat) (d : D) (v : V), Rp c W d v → Rp c { W with G := gz W m H n } (fz k n m d) v
  | 0, d, v, r => r.mono le_gz d
  | k + 1, d, v, r => by
    have ih := fun d v => Rp.fz o k d v
    unfold LN.fz
    cases d with
    | loc f i =>
      dsimp only
      by_cases hf : f = n
      · rw [if_pos hf]
        subst hf
        simp only [Rp] at r
        obtain ⟨a, rfl, hi⟩ := r
        split
        · rename_i xs hg
          obtain ⟨a', e1, ⟨vs, q, r'⟩, e3, e4⟩ := o.i _ _ _ hg rfl
          rw [hi] at e1; cases e1
          simp only [Rp]
          exact ⟨a, vs, rfl, (gz_new e3 hg ⟨rfl, rfl⟩ hi).trans q, Rps.map ih r'⟩
        · rename_i ks xs hg
          obtain ⟨a', e1, ⟨vs, q, l, r'⟩, e3, e4⟩ := o.i _ _ _ hg rfl
          rw [hi] at e1; cases e1
          simp only [Rp]
          exact ⟨a, vs, rfl, (gz_new e3 hg ⟨rfl, rfl⟩ hi).trans q, l, Rps.map ih r'⟩
        · rename_i ks xs hg
          obtain ⟨a', e1, ⟨vs, bs, q, l, b, r'⟩, e3, e4⟩ := o.i _ _ _ hg rfl
          rw [hi] at e1; cases e1
          simp only [Rp]
          exact ⟨a, bs, vs, rfl, (gz_new e3 hg ⟨rfl, rfl⟩ hi).trans q, b.mono fun _ _ h => gz_old h, l, Rps.map ih r'⟩
        · simp only [Rp]; exact ⟨a, rfl, hi⟩
      · rw [if_neg hf]; exact r.mono le_gz _
    | tup xs =>
      simp only [Rp] at r ⊢
      obtain ⟨a, vs, e, q, r⟩ := r
      exact ⟨a, vs, e, q.mono fun _ _ h => gz_old h, Rps.map ih r⟩
    | lst xs =>
      simp only [Rp] at r ⊢
      obtain ⟨a, vs, e, q, r⟩ := r
      exact ⟨a, vs, e, gz_old q, Rps.map ih r⟩
    | dk ks xs =>
      simp only [Rp] at r ⊢
      obtain ⟨a, vs, e, q, l, r⟩ := r
      exact ⟨a, vs, e, gz_old q, l, Rps.map ih r⟩
    | dt ks xs =>
      simp only [Rp] at r ⊢
      obtain ⟨a, bs, vs, e, q, b, l, r⟩ := r
      exact ⟨a, bs, vs, e, gz_old q, b.mono fun _ _ h => gz_old h, l, Rps.map ih r⟩
    | _ => exact r.mono le_gz _
theorem Rp.fzl (o : Ok c W m H) (d : D) {v : V} (r : Rp c W d v) : Rp c { W with G := gz W m H n } (fzl n m d) v := by
  unfold LN.fzl
  split
  · exact r.mono le_gz d
  · exact Rp.fz o _ _ _ r
/-- the frame n goes, its objects are frozen -/
theorem Ok.leaveZ (k : Ok c W m H) (n : Nat) : Ok c (Wd.cut { W with G := gz W m H n } n) (m.take n) H := by
  refine ⟨fun a o h => ?_, k.l, fun a o h => ?_, fun f i o h a => ?_, (k.leave n).inj, (k.leave n).rng, (k.leave n).lt, k.ll, k.tb, fun a ps h => ?_⟩
  · rcases gz_cases h with h | h
    · exact k.g _ _ h
    · exact h
  · refine gz_none (k.gl a o h) ?_
    rintro ⟨i, o', h1, h2, h3⟩
    obtain ⟨b, e1, e2, e3, e4⟩ := k.i n i o' h1 h2.1
    rw [h3] at e1; cases e1
    have h : W.L a = some o := h
    have e4 := e4.un h2.2
    rw [h] at e4; cases e4
  · obtain ⟨b, q1, q2, q3, q4⟩ := (k.leave n).i f i o h a
    have hf : f < n := by
      rw [Mem.get_take] at h
      split at h
      · assumption
      · cases h
    have hb : gz W m H n b = none := by
      refine gz_none q3 ?_
      rintro ⟨i', o', h1, h2, h3⟩
      have q1' : W.ι f i = some b := by simpa [Wd.cut, hf] using q1
      rw [Mem.get_take, if_pos hf] at h
      have := (k.inj _ _ _ _ _ _ _ h a h1 h2.1 q1' h3).1
      omega
    have l2 : le (W.cut n) (Wd.cut { W with G := gz W m H n } n) := ⟨fun _ _ h => gz_old h, fun _ _ h => h, fun _ _ _ h => h⟩
    exact ⟨b, q1, q2.mono l2 fun _ h => h, hb, q4⟩
  · have h : gz W m H n a = some (.tbl ps) := h
    unfold gz at h
    cases e : W.G a with
    | some u => rw [e] at h; exact k.nt a ps (e.trans h)
    | none =>
      rw [e] at h
      dsimp only at h
      split at h
      · rename_i q
        obtain ⟨i, o, h1, h2, h3⟩ := q
        obtain ⟨b, q1, q2, q3, q4⟩ := k.i _ _ _ h1 h2.1
        rw [h3] at q1; cases q1
        exact (q2.datAt h2.1 _ h).1 ps rfl
      · cases h
end
theorem Sl.start {c : Ct} {W : Wd} {ds : List D} {vs : List V} {N : List Str} {np nl : Nat} (r : Rps c W ds vs) (h1 : ds.length = np) (h2 : N.length = nl) : Sl c W (ds.map some ++ List.replicate (nl - np) none) (L2.start N vs) := by
  have hl := r.length
  unfold L2.start
  refine ⟨by simp; omega, fun i d h => ?_⟩
  by_cases hi : i < ds.length
  · rw [List.getElem?_append_left (by simpa using hi), List.getElem?_map] at h
    rw [List.getElem?_append_left (by simp; omega), List.getElem?_map]
    cases e : ds[i]? with
    | none => rw [e] at h; cases h
    | some d' =>
      rw [e] at h; cases h
      obtain ⟨v, h3, h4⟩ := r.get e
      exact ⟨v, by rw [h3]; rfl, h4⟩
  · rw [List.getElem?_append_right (by simp; omega), List.getElem?_replicate] at h
    split at h <;> cases h
section
variable {c : Ct} {P : Program} {w : World} {mg : Str → Option Value} {base : Heap}
theorem spD_len {np nl : Nat} {b : Bd} {n : Nat} (hn : n = np) : ∀ vs H Q E, spD c (fnD np nl b) vs H Q E → vs.length = n := fun vs H Q E ⟨W, ds, m, o, r, p⟩ => by
  unfold fnD at p
  split at p
  · rw [← r.length, hn]; assumption
  · exact p.elim
/-- a body at its entry -/
theorem body_at {np nl : Nat} {b : Bd} {N : List Str} (hnl : N.length = nl) {vs : List V} {H : Hp} {Q : VK} {E : XK} (h : spD c (fnD np nl b) vs H Q E) : tS c E b { nx := fun _ H' => Q .non H', rt := Q } (L2.start N vs) H := by
  obtain ⟨W, ds, m, o, r, p⟩ := h
  unfold fnD at p
  split at p
  · rename_i hd
    refine ⟨W, _, m ++ [[]], o.enter, Sl.start r hd hnl, ?_⟩
    have lcut : ∀ {W' : Wd}, le W W' → le W (W'.cut m.length) := fun {W'} l => ⟨l.g, l.l, fun f i a h => by
      have hf : f < m.length := by
        obtain ⟨u, hu⟩ := o.rng f i a h
        unfold Mem.get at hu
        cases e : m[f]? with
        | none => rw [e] at hu; cases hu
        | some fr => exact (List.getElem?_eq_some_iff.mp e).1
      simp only [Wd.cut, hf, if_true]
      exact l.i f i a h⟩
    cases hb : b (ds.map some ++ List.replicate (nl - np) none) (m ++ [[]]) with
    | stuck => rw [hb] at p; exact p.elim
    | err e m' =>
      rw [hb] at p
      unfold lv at p
      dsimp only at p
      split at p
      · rename_i hl
        exact fun W' H' cl dx l o' ⟨x1, dd, xs, x2, x3, x4⟩ => p (W'.cut m.length) H' cl dx (lcut l) (o'.leave _) ⟨x1, dd, xs, x2, x3, Rps.cut _ hl x4⟩
      · exact p.elim
    | ok fl m' =>
      rw [hb] at p
      cases fl with
      | nx ρ =>
        exact fun W' H' σ l o' s' => p (W'.cut m.length) H' .non (lcut l) (o'.leave _) (by simp [Rp])
      | bk ρ => exact p.elim
      | ct ρ => exact p.elim
      | rt d =>
        unfold lv at p
        dsimp only at p
        split at p
        · rename_i hl
          exact fun W' H' v l o' r' => p (Wd.cut { W' with G := gz W' m' H' m.length } m.length) H' v (lcut (l.trans le_gz)) (o'.leaveZ _) (Rp.cut _ hl (Rp.fzl o' d r'))
        · exact p.elim
  · exact p.elim
/-- THE RULE for a def -/
theorem fnOk {x qual : Str} {st : Stmt} {f : Addr} {fd : FuncData} {N ps : List Str} {k np nl : Nat} {b : Bd} (F : Fun c.K x qual st f fd) (S : FnScope N ps (defScope st)) (hnp : ps.length = np) (hnl : N.length = nl)
    (hbody : ∀ (cdv : Value) (A : Around) (outer : List Env) (s : Shared) (H : Hp) (E : XK), Room k (A.deeper (envOfC qual (defScope st) s.heap.objs.size f cdv)) →
      PSs (cxOf (L2.CX P w) P w c.K mg base N qual (defScope st) f cdv A outer s H E) (defBody st) (tS c E b)) : FnOk P w c.K mg base (L2.CX P w) (k + 1) f fd ps (spD c (fnD np nl b)) :=
  F.okX S (spD_len hnp) fun cdv A outer s H vs Q E hr h => ⟨_, hbody cdv A outer s H E hr, body_at hnl h⟩
/-- a def that is never called -/
theorem fnOk0 {f : Addr} {fd : FuncData} {ps : List Str} {k : Nat} : FnOk P w c.K mg base (L2.CX P w) k f fd ps (spD c fun _ _ => .stuck) :=
  ⟨fun vs H Q E ⟨_, _, _, _, _, p⟩ => p.elim, fun _ _ _ _ _ _ _ _ _ _ _ _ _ ⟨_, _, _, _, _, p⟩ => p.elim⟩
end

/-! ### calls -/
def dCall (fn : Fn) (dd : List D) (fs : EvG (List D)) : Ev := fun ρ m => (fs ρ m).bind fun ds m1 => fn (ds ++ dd) m1
def dCallK (fn : Fn) (h : List D → List D → List D) (fs ks : EvG (List D)) : Ev := fun ρ m => (fs ρ m).bind fun ds m1 => (ks ρ m1).bind fun ws m2 => fn (h ds ws) m2
section
variable {X : Cx} {c : Ct} {E : XK} {pos p : Pos} {CX : CXT} {k : Nat} {f : Addr} {fd : FuncData} {ps : List Str} {fn : Fn} {dvs : List V} {dd : List D} {ds : List Value} {x : Str} {e : Expr} {es : List Expr} {fs : EvG (List D)}
theorem pd_call (F : FnOk X.prog X.w X.K X.mg X.base CX k f fd ps (spD c fn)) (hr : Room k X.A) (hm : X.mg x = some (.ref f)) (hk : PySem.W.keepIn X.K (.ref f) = true) (hb : Binds X.K fd ps ds) (hd : Vals dvs ds) (hdd : ∀ W, Rps c W dd dvs) (hx : Passes CX X E)
    (ha : PA X (e :: es) (tDs c E fs)) (hg : Gl X x := by rfl) (hdb : (x == ("__debug__" : Str)) = false := by decide) (he : starEach (e :: es) X.env = (false, eval e X.env) :: starEach es X.env := by rfl) (hpl : (backTo pos (starEach es X.env)).any (·.1) = false := by rfl) :
    PE X (.Call (.Name x p) (e :: es) [] pos) (tD c E (dCall fn dd fs)) :=
  PE.weak (pe_call F hr hg hm hk hb hd hx ha hdb he hpl) fun σ H Q ⟨W, ρ, m, o, s, q⟩ => by
    refine ⟨W, ρ, m, o, s, Pst.imp (Pst.bind q) fun xs H1 ⟨W1, ds, m1, l1, o1, r1, p1⟩ => ?_⟩
    exact ⟨W1, ds ++ dd, m1, o1, r1.append (hdd W1), p1⟩
theorem pd_call0 (F : FnOk X.prog X.w X.K X.mg X.base CX k f fd ps (spD c fn)) (hr : Room k X.A) (hm : X.mg x = some (.ref f)) (hk : PySem.W.keepIn X.K (.ref f) = true) (hb : Binds X.K fd ps ds) (hd : Vals dvs ds) (hdd : ∀ W, Rps c W dd dvs) (hx : Passes CX X E)
    (hg : Gl X x := by rfl) (hdb : (x == ("__debug__" : Str)) = false := by decide) : PE X (.Call (.Name x p) [] [] pos) (tD c E (dCall fn dd dNil)) :=
  PE.weak (pe_call0 F hr hg hm hk hb hd hx hdb) fun σ H Q ⟨W, ρ, m, o, s, q⟩ => by
    exact ⟨W, [] ++ dd, m, o, Rps.nil.append (hdd W), q⟩
end
end LN
namespace LN
open PySem L2 PySem.Spec PyProof.Rows

/-! ### data as Python data -/
mutual
def py : D → Option PyData
  | .non => some .none
  | .bl b => some (.bool b)
  | .int i => some (.int i)
  | .str x => some (.str x)
  | .tup xs => match pys xs with
    | some ys => some (.tuple ys)
    | none => none
  | .lst xs => match pys xs with
    | some ys => some (.list ys)
    | none => none
  | _ => none
def pys : List D → Option (List PyData)
  | [] => some []
  | x :: xs => match py x, pys xs with
    | some y, some ys => some (y :: ys)
    | _, _ => none
end
def toPy (m : Mem) (d : D) : Option PyData := match d with
  | .loc f i => match m.get f i with
    | some (.lst xs) => match pys xs with
      | some ys => some (.list ys)
      | none => none
    | _ => none
  | d => py d
mutual
theorem py_dp {c : Ct} {W : Wd} {m : Mem} {H : Hp} (o : Ok c W m H) : ∀ (d : D) {e : PyData} {v : V}, py d = some e → Rp c W d v → Dp c.K H v e
  | .non, _, _, h, r => by simp only [py, Option.some.injEq, Rp] at h r; subst h; subst r; exact .non
  | .bl _, _, _, h, r => by simp only [py, Option.some.injEq, Rp] at h r; subst h; subst r; exact .bl _
  | .int _, _, _, h, r => by simp only [py, Option.some.injEq, Rp] at h r; subst h; subst r; exact .int _
  | .str _, _, _, h, r => by simp only [py, Option.some.injEq, Rp] at h r; subst h; subst r; exact .str _
  | .ty _, _, _, h, _ => by simp [py] at h
  | .cls _, _, _, h, _ => by simp [py] at h
  | .dk _ _, _, _, h, _ => by simp [py] at h
  | .dt _ _, _, _, h, _ => by simp [py] at h
  | .loc _ _, _, _, h, _ => by simp [py] at h
  | .scr _, _, _, h, _ => by simp [py] at h
  | .tup xs, e, v, h, r => by
    simp only [py] at h
    split at h
    · rename_i ys hy
      cases h
      simp only [Rp] at r
      obtain ⟨a, vs, rfl, q, r⟩ := r
      exact .tup (q.mono o.g).sq (pys_dp o xs hy r)
    · cases h
  | .lst xs, e, v, h, r => by
    simp only [py] at h
    split at h
    · rename_i ys hy
      cases h
      simp only [Rp] at r
      obtain ⟨a, vs, rfl, q, r⟩ := r
      exact .lst (SqL.of (o.g _ _ q)) (pys_dp o xs hy r)
    · cases h
theorem pys_dp {c : Ct} {W : Wd} {m : Mem} {H : Hp} (o : Ok c W m H) : ∀ (xs : List D) {es : List PyData} {vs : List V}, pys xs = some es → Rps c W xs vs → DpAll c.K H vs es
  | [], _, _, h, r => by simp only [pys, Option.some.injEq, Rps] at h r; subst h; subst r; exact .nil
  | x :: xs, es, vs, h, r => by
    simp only [pys] at h
    split at h
    · rename_i y ys h1 h2
      cases h
      simp only [Rps] at r
      obtain ⟨v, r', rfl, r1, r2⟩ := r
      exact .cons (py_dp o x h1 r1) (pys_dp o xs h2 r2)
    · cases h
end
theorem toPy_dp {c : Ct} {W : Wd} {m : Mem} {H : Hp} (o : Ok c W m H) {d : D} {e : PyData} {v : V} (h : toPy m d = some e) (r : Rp c W d v) : Dp c.K H v e := by
  unfold toPy at h
  split at h
  · rename_i f i
    split at h
    · rename_i xs hg
      split at h
      · rename_i ys hy
        cases h
        simp only [Rp] at r
        obtain ⟨a, rfl, q⟩ := r
        obtain ⟨b, e1, ⟨vs, e2, e3⟩, _⟩ := o.i _ _ _ hg rfl
        rw [q] at e1; cases e1
        exact .lst (SqL.of e2) (pys_dp o xs hy e3)
      · cases h
    · cases h
  · exact py_dp o d h r

/-! ### views -/
/-- a list's items -/
def vwL (m : Mem) : D → Option (List D)
  | .lst xs => some xs
  | .loc f i => match m.get f i with
    | some (.lst xs) => some xs
    | _ => none
  | _ => none
theorem vwL_ok {c : Ct} {W : Wd} {m : Mem} {H : Hp} (o : Ok c W m H) {d : D} {v : V} {xs : List D} (h : vwL m d = some xs) (r : Rp c W d v) : ∃ a vs, v = .ref a ∧ H a = some (.lst vs) ∧ Rps c W xs vs := by
  cases d with
  | lst ys =>
    simp only [vwL, Option.some.injEq] at h; subst h
    simp only [Rp] at r
    obtain ⟨a, vs, e, q, r⟩ := r
    exact ⟨a, vs, e, o.g _ _ q, r⟩
  | loc f i =>
    simp only [vwL] at h
    split at h
    · rename_i ys hg
      cases h
      simp only [Rp] at r
      obtain ⟨a, e, q⟩ := r
      obtain ⟨b, e1, ⟨vs, e2, e3⟩, _⟩ := o.i _ _ _ hg rfl
      rw [q] at e1; cases e1
      exact ⟨a, vs, e, e2, e3⟩
    · cases h
  | _ => cases h
/-- the items of what is walked: a list, a tuple, the script, a text's signs -/
def vwS (m : Mem) : D → Option (List D)
  | .tup xs => some xs
  | .scr xs => some (xs.map .int)
  | d => vwL m d
/-- a list or tuple in the heap -/
theorem vwS_ok {c : Ct} {W : Wd} {m : Mem} {H : Hp} (o : Ok c W m H) {d : D} {v : V} {xs : List D} (h : vwS m d = some xs) (r : Rp c W d v) : ∃ a vs, v = .ref a ∧ (SqL c.K H a vs ∨ SqT c.K H a vs) ∧ Rps c W xs vs := by
  cases d with
  | tup ys =>
    simp only [vwS, Option.some.injEq] at h; subst h
    simp only [Rp] at r
    obtain ⟨a, vs, e, q, r⟩ := r
    exact ⟨a, vs, e, .inr (q.mono o.g).sq, r⟩
  | scr ys =>
    simp only [vwS, Option.some.injEq] at h; subst h
    simp only [Rp] at r
    obtain ⟨a, e, q⟩ := r
    refine ⟨a, ys.map V.int, e, .inl (SqL.mono o.g q), Rps.of (by simp) fun i d v h1 h2 => ?_⟩
    rw [List.getElem?_map] at h1 h2
    cases e : ys[i]? with
    | none => rw [e] at h1; cases h1
    | some x => rw [e] at h1 h2; cases h1; cases h2; simp [Rp]
  | lst ys => obtain ⟨a, vs, e, q, r⟩ := vwL_ok o (d := .lst ys) h r; exact ⟨a, vs, e, .inl (SqL.of q), r⟩
  | loc f i => obtain ⟨a, vs, e, q, r⟩ := vwL_ok o (d := .loc f i) h r; exact ⟨a, vs, e, .inl (SqL.of q), r⟩
  | _ => cases h

/-! ### operators -/
def mulOk (i j : Int) : Bool := decide (i.natAbs.log2 + j.natAbs.log2 < 1000000)
def divOk (j : Int) : Bool := decide (j ≠ 0 ∧ j.natAbs.log2 < 9000)
def powOk (i j : Int) : Bool := decide (0 ≤ j ∧ (i.natAbs.log2 + 1) * j.toNat ≤ 100000000)
theorem intBits_le (x : Int) : Builtin.Int.intBits x ≤ x.natAbs.log2 + 1 := by
  unfold Builtin.Int.intBits
  split <;> omega
theorem mulOk_ok {i j : Int} (h : mulOk i j = true) : IntMulOk i j := by
  have h : i.natAbs.log2 + j.natAbs.log2 < 1000000 := of_decide_eq_true h
  exact CMulW.ok h

def gAdd (fin : List D → Mem → Rs D) : D → D → Mem → Rs D
  | .int i, .int j, m => .ok (.int (i + j)) m
  | .str x, .str y, m => if lineOk (x.length + y.length) = true then .ok (.str (x ++ y)) m else .stuck
  | .tup xs, .tup ys, m => if lineOk (xs.length + ys.length) = true then .ok (.tup (xs ++ ys)) m else .stuck
  | x, y, m => match vwL m x, vwL m y with
    | some xs, some ys => fin (xs ++ ys) m
    | _, _ => .stuck
def gSub : D → D → Mem → Rs D
  | .int i, .int j, m => .ok (.int (i - j)) m
  | _, _, _ => .stuck
def gMul : D → D → Mem → Rs D
  | .int i, .int j, m => if mulOk i j = true then .ok (.int (i * j)) m else .stuck
  | _, _, _ => .stuck
def gFdiv : D → D → Mem → Rs D
  | .int i, .int j, m => if divOk j = true then .ok (.int (i.fdiv j)) m else .stuck
  | _, _, _ => .stuck
def gMod : D → D → Mem → Rs D
  | .int i, .int j, m => if j ≠ 0 then .ok (.int (i.fmod j)) m else .stuck
  | _, _, _ => .stuck
def gPow : D → D → Mem → Rs D
  | .int i, .int j, m => if powOk i j = true then .ok (.int (i ^ j.toNat)) m else .stuck
  | _, _, _ => .stuck
def gCmp (p : Int → Int → Bool) : D → D → Mem → Rs D
  | .int i, .int j, m => .ok (.bl (p i j)) m
  | _, _, _ => .stuck
def gEq (neg : Bool) (x y : D) (m : Mem) : Rs D := match toPy m x, toPy m y with
  | some d, some e => if SeqAt.shaped d = true ∧ SeqAt.shaped e = true then .ok (.bl (neg ^^ PyData.eqv d e)) m else .stuck
  | _, _ => .stuck
def gIsN (neg : Bool) (x y : D) (m : Mem) : Rs D := match x, y with
  | .non, .non => .ok (.bl (!neg)) m
  | .cls _, _ => .stuck
  | _, .non => .ok (.bl neg) m
  | _, _ => .stuck
def gIn (neg : Bool) (x y : D) (m : Mem) : Rs D := match toPy m x, toPy m y with
  | some d, some (.list ds) => if SeqAt.shaped d = true ∧ SeqAt.shaped (.list ds) = true then .ok (.bl (neg ^^ ds.any fun z => PyData.eqv z d)) m else .stuck
  | _, _ => .stuck
section
variable {X : Cx} {c : Ct} {E : XK} {fin : List D → Mem → Rs D}
def rAddAll (K : PySem.W.Frag) : R2 := fun x y H Q => (∃ i j, x = .int i ∧ y = .int j ∧ Q (.int (i + j)) H) ∨ (∃ i j, x = .str i ∧ y = .str j ∧ i.length + j.length ≤ sizeLine ∧ Q (.str (i ++ j)) H) ∨ rCatA K x y H Q ∨ rCat x y H Q
theorem op_addAll : OpR X (binaryOp .Add) (rAddAll X.K) := OpR.or op_add (OpR.or op_add_str (OpR.or op_catA op_cat))
/-- how a new list at p is made of what was made -/
structure FinN (fin : List D → Mem → Rs D) : Prop where
  len : ∀ ys m, lineOk ys.length = false → fin ys m = .stuck
  mak : ∀ {c : Ct} {E : XK} {ds : List D} {xs : List V} {m : Mem} {W : Wd} {H : Hp} {Q : VK}, Ok c W m H → Rps c W ds xs → Pst c E (Rp c) (fin ds m) W Q → ∀ p, H p = none → Q (.ref p) (upd H p (.lst xs))
theorem finN_F : FinN finF := ⟨fin_F.line, fun o r p => by
  unfold finF at p
  split at p
  · exact Pst.lst o r p
  · exact p.elim⟩
theorem finN_M : FinN finM := ⟨fin_M.line, fun o r p => by
  unfold finM at p
  split at p
  · exact Pst.newLst o r p
  · exact p.elim⟩
theorem FinN.le {fin : List D → Mem → Rs D} (F : FinN fin) {c : Ct} {E : XK} {ds : List D} {m : Mem} {W : Wd} {Q : VK} (p : Pst c E (Rp c) (fin ds m) W Q) : ds.length ≤ sizeLine := by
  cases h : lineOk ds.length with
  | true => exact lineOk_le h
  | false => rw [F.len _ _ h] at p; exact p.elim
theorem os_add (F : FinN fin) (hK : c.K = X.K := by rfl) : OpS c E (rAddAll X.K) (gAdd fin) := fun W m H x y dx dy Q o rx ry p => by
  unfold gAdd at p
  split at p
  · simp only [Rp] at rx ry; subst rx; subst ry
    exact .inl ⟨_, _, rfl, rfl, p W H _ (le.refl _) o (by simp [Rp])⟩
  · simp only [Rp] at rx ry; subst rx; subst ry
    split at p
    · rename_i h
      exact .inr (.inl ⟨_, _, rfl, rfl, lineOk_le h, p W H _ (le.refl _) o (by simp [Rp])⟩)
    · exact p.elim
  · rename_i _ xs ys
    split at p
    · rename_i h
      simp only [Rp] at rx ry
      obtain ⟨a, vs, rfl, q1, r1⟩ := rx
      obtain ⟨b, us, rfl, q2, r2⟩ := ry
      have hl := lineOk_le h
      refine .inr (.inr (.inl ⟨a, b, vs, us, rfl, rfl, hK ▸ (q1.mono o.g).sq, hK ▸ (q2.mono o.g).sq, by rw [← r1.length, ← r2.length]; exact hl, fun e => ?_, fun _ e => ?_, fun _ _ => Pst.tup o (r1.append r2) p⟩))
      · subst e
        have : xs = [] := List.eq_nil_of_length_eq_zero (by rw [r1.length]; rfl)
        subst this
        exact p W H _ (le.refl _) o (by simp only [Rp, List.nil_append]; exact ⟨b, us, rfl, q2, r2⟩)
      · subst e
        have : ys = [] := List.eq_nil_of_length_eq_zero (by rw [r2.length]; rfl)
        subst this
        exact p W H _ (le.refl _) o (by simp only [Rp, List.append_nil]; exact ⟨a, vs, rfl, q1, r1⟩)
    · exact p.elim
  · split at p
    · rename_i xs ys h1 h2
      obtain ⟨a, vs, rfl, q1, r1⟩ := vwL_ok o h1 rx
      obtain ⟨b, us, rfl, q2, r2⟩ := vwL_ok o h2 ry
      have hl := F.le p
      rw [List.length_append, r1.length, r2.length] at hl
      exact .inr (.inr (.inr ⟨a, b, vs, us, rfl, rfl, q1, q2, hl, F.mak o (r1.append r2) p⟩))
    · exact p.elim
theorem os_sub : OpS c E (rI0 fun i j => .int (i - j)) gSub := fun W m H x y dx dy Q o rx ry p => by
  unfold gSub at p
  split at p
  · simp only [Rp] at rx ry; subst rx; subst ry
    exact ⟨_, _, rfl, rfl, p W H _ (le.refl _) o (by simp [Rp])⟩
  · exact p.elim
theorem op_mulA : OpR X (binaryOp .Mult) (rI (fun i j => mulOk i j = true) fun i j => .int (i * j)) := opI fun _ _ _ _ _ _ _ hc q => mul_int q (mulOk_ok hc)
theorem op_fdivA : OpR X (binaryOp .FloorDiv) (rI (fun _ j => divOk j = true) fun i j => .int (i.fdiv j)) := opI fun i j _ _ _ _ _ hc q => by
  have h := of_decide_eq_true hc
  exact floordiv_int h.1 q (.inl (PyProof.noPylong_of_log2 h.2))
theorem op_powA : OpR X (binaryOp .Pow) (rI (fun i j => powOk i j = true) fun i j => .int (i ^ j.toNat)) := opI fun i j _ _ _ _ _ hc q => by
  have h := of_decide_eq_true hc
  refine pow_int h.1 ?_ q
  have h1 : Builtin.Int.intBits i * j.toNat ≤ (i.natAbs.log2 + 1) * j.toNat := Nat.mul_le_mul_right _ (intBits_le i)
  have h2 : Builtin.Int.intBits i * j.toNat ≤ 100000000 := Nat.le_trans h1 h.2
  have h3 : (j.toNat : Int) = j := Int.toNat_of_nonneg h.1
  have h4 : ((Builtin.Int.intBits i * j.toNat : Nat) : Int) ≤ ((100000000 : Nat) : Int) := Int.ofNat_le.mpr h2
  rw [Int.natCast_mul, h3] at h4
  refine Int.le_trans h4 ?_
  decide
theorem os_mul : OpS c E (rI (fun i j => mulOk i j = true) fun i j => .int (i * j)) gMul := fun W m H x y dx dy Q o rx ry p => by
  unfold gMul at p
  split at p
  · simp only [Rp] at rx ry; subst rx; subst ry
    split at p
    · rename_i h
      exact ⟨_, _, rfl, rfl, h, p W H _ (le.refl _) o (by simp [Rp])⟩
    · exact p.elim
  · exact p.elim
theorem os_fdiv : OpS c E (rI (fun _ j => divOk j = true) fun i j => .int (i.fdiv j)) gFdiv := fun W m H x y dx dy Q o rx ry p => by
  unfold gFdiv at p
  split at p
  · simp only [Rp] at rx ry; subst rx; subst ry
    split at p
    · rename_i h
      exact ⟨_, _, rfl, rfl, h, p W H _ (le.refl _) o (by simp [Rp])⟩
    · exact p.elim
  · exact p.elim
theorem os_mod : OpS c E (rI (fun _ j => j ≠ 0) fun i j => .int (i.fmod j)) gMod := fun W m H x y dx dy Q o rx ry p => by
  unfold gMod at p
  split at p
  · simp only [Rp] at rx ry; subst rx; subst ry
    split at p
    · rename_i h
      exact ⟨_, _, rfl, rfl, h, p W H _ (le.refl _) o (by simp [Rp])⟩
    · exact p.elim
  · exact p.elim
theorem os_pow : OpS c E (rI (fun i j => powOk i j = true) fun i j => .int (i ^ j.toNat)) gPow := fun W m H x y dx dy Q o rx ry p => by
  unfold gPow at p
  split at p
  · simp only [Rp] at rx ry; subst rx; subst ry
    split at p
    · rename_i h
      exact ⟨_, _, rfl, rfl, h, p W H _ (le.refl _) o (by simp [Rp])⟩
    · exact p.elim
  · exact p.elim
theorem os_cmp {q : Int → Int → Bool} : OpS c E (rI0 fun i j => .bl (q i j)) (gCmp q) := fun W m H x y dx dy Q o rx ry p => by
  unfold gCmp at p
  split at p
  · simp only [Rp] at rx ry; subst rx; subst ry
    exact ⟨_, _, rfl, rfl, p W H _ (le.refl _) o (by simp [Rp])⟩
  · exact p.elim
theorem os_eq (hK : c.K = X.K := by rfl) : OpS c E (rEqD X.K) (gEq false) := fun W m H x y dx dy Q o rx ry p => by
  unfold gEq at p
  split at p
  · rename_i d e h1 h2
    split at p
    · rename_i h
      exact ⟨d, e, hK ▸ toPy_dp o h1 rx, hK ▸ toPy_dp o h2 ry, h.1, h.2, p W H _ (le.refl _) o (by simp [Rp])⟩
    · exact p.elim
  · exact p.elim
theorem os_ne (hK : c.K = X.K := by rfl) : OpS c E (rNeD X.K) (gEq true) := fun W m H x y dx dy Q o rx ry p => by
  unfold gEq at p
  split at p
  · rename_i d e h1 h2
    split at p
    · rename_i h
      exact ⟨d, e, hK ▸ toPy_dp o h1 rx, hK ▸ toPy_dp o h2 ry, h.1, h.2, p W H _ (le.refl _) o (by simp [Rp])⟩
    · exact p.elim
  · exact p.elim
def isNon : D → Bool
  | .non => true
  | _ => false
theorem Rp_non {W : Wd} {d : D} {v : V} (r : Rp c W d v) (h : ∀ n, d ≠ .cls n) : decide (v = .non) = isNon d := by
  cases d <;> simp only [Rp] at r <;> first | (subst r; rfl) | (obtain ⟨a, _, _, rfl, _⟩ := r; rfl) | (obtain ⟨a, _, rfl, _⟩ := r; rfl) | (obtain ⟨a, rfl, _⟩ := r; rfl) | exact absurd rfl (h _)
theorem os_isN : OpS c E (fun x y H Q => y = .non ∧ Q (.bl (decide (x = .non))) H) (gIsN false) := fun W m H x y dx dy Q o rx ry p => by
  unfold gIsN at p
  split at p
  · simp only [Rp] at rx ry; subst rx; subst ry
    exact ⟨rfl, p W H _ (le.refl _) o (by simp [Rp])⟩
  · exact p.elim
  · rename_i d h1 h2
    have e := Rp_non rx h2
    simp only [Rp] at ry; subst ry
    refine ⟨rfl, ?_⟩
    rw [e]
    have : isNon dx = false := by
      cases dx <;> first | rfl | exact absurd rfl h1
    rw [this]
    exact p W H _ (le.refl _) o (by simp [Rp])
  · exact p.elim
theorem os_notN : OpS c E (fun x y H Q => y = .non ∧ Q (.bl (!decide (x = .non))) H) (gIsN true) := fun W m H x y dx dy Q o rx ry p => by
  unfold gIsN at p
  split at p
  · simp only [Rp] at rx ry; subst rx; subst ry
    exact ⟨rfl, p W H _ (le.refl _) o (by simp [Rp])⟩
  · exact p.elim
  · rename_i d h1 h2
    have e := Rp_non rx h2
    simp only [Rp] at ry; subst ry
    refine ⟨rfl, ?_⟩
    rw [e]
    have : isNon dx = false := by
      cases dx <;> first | rfl | exact absurd rfl h1
    rw [this]
    exact p W H _ (le.refl _) o (by simp [Rp])
  · exact p.elim
theorem os_in (hK : c.K = X.K := by rfl) : OpS c E (rInD X.K) (gIn false) := fun W m H x y dx dy Q o rx ry p => by
  unfold gIn at p
  split at p
  · rename_i d ds h1 h2
    split at p
    · rename_i h
      exact ⟨d, ds, hK ▸ toPy_dp o h1 rx, hK ▸ toPy_dp o h2 ry, h.1, h.2, p W H _ (le.refl _) o (by simp [Rp])⟩
    · exact p.elim
  · exact p.elim
theorem os_notIn (hK : c.K = X.K := by rfl) : OpS c E (rNotInD X.K) (gIn true) := fun W m H x y dx dy Q o rx ry p => by
  unfold gIn at p
  split at p
  · rename_i d ds h1 h2
    split at p
    · rename_i h
      exact ⟨d, ds, hK ▸ toPy_dp o h1 rx, hK ▸ toPy_dp o h2 ry, h.1, h.2, p W H _ (le.refl _) o (by simp [Rp])⟩
    · exact p.elim
  · exact p.elim
end

/-! ### unary, calls of built-ins, methods, subscripts, slices -/
def dUn (g : D → Mem → Rs D) (f : Ev) : Ev := fun ρ m => (f ρ m).bind fun d m1 => g d m1
def UnS (c : Ct) (E : XK) (r : V → Hp → VK → Prop) (g : D → Mem → Rs D) : Prop := ∀ (W : Wd) (m : Mem) (H : Hp) (x : V) (dx : D) (Q : VK), Ok c W m H → Rp c W dx x → Pst c E (Rp c) (g dx m) W Q → r x H Q
def gNeg : D → Mem → Rs D
  | .int i, m => .ok (.int (-i)) m
  | _, _ => .stuck
def CallS (c : Ct) (E : XK) (r : List V → Hp → VK → Prop) (g : List D → Mem → Rs D) : Prop := ∀ (W : Wd) (m : Mem) (H : Hp) (xs : List V) (ds : List D) (Q : VK), Ok c W m H → Rps c W ds xs → Pst c E (Rp c) (g ds m) W Q → r xs H Q
def dB (g : List D → Mem → Rs D) (fs : EvG (List D)) : Ev := fun ρ m => (fs ρ m).bind fun ds m1 => g ds m1
section
variable {X : Cx} {c : Ct} {E : XK} {pos p : Pos} {a e : Expr} {es : List Expr} {f : Ev} {fs : EvG (List D)} {g : List D → Mem → Rs D} {r : List V → Hp → VK → Prop} {x : Str}
theorem pd_un {op : UnaryOp} {r : V → Hp → VK → Prop} {g : D → Mem → Rs D} (ho : UnR X (unaryOp op) r) (hs : UnS c E r g) (ha : PE X a (tD c E f)) : PE X (.UnaryOp op a pos) (tD c E (dUn g f)) :=
  PE.weak (pe_un ho ha) fun σ H Q ⟨W, ρ, m, o, s, q⟩ => by
    refine ⟨W, ρ, m, o, s, Pst.imp (Pst.bind q) fun x H1 ⟨W1, d, m1, l1, o1, r1, p1⟩ => ?_⟩
    exact hs W1 m1 H1 x d Q o1 r1 p1
theorem us_neg : UnS c E (rU fun i => .int (-i)) gNeg := fun W m H x dx Q o rx p => by
  unfold gNeg at p
  split at p
  · simp only [Rp] at rx; subst rx
    exact ⟨_, rfl, p W H _ (le.refl _) o (by simp [Rp])⟩
  · exact p.elim
theorem tCB_of (hs : CallS c E r g) : ∀ (σ : L2.St) (H : Hp) (Q : VK), tD c E (dB g fs) σ H Q → tCB r (tDs c E fs) σ H Q := fun σ H Q ⟨W, ρ, m, o, s, q⟩ => by
  refine ⟨W, ρ, m, o, s, Pst.imp (Pst.bind q) fun xs H1 ⟨W1, ds, m1, l1, o1, r1, p1⟩ => ?_⟩
  exact hs W1 m1 H1 xs ds Q o1 r1 p1
theorem pd_blt {id : String} (hc : CallR X (.builtin id) r) (hs : CallS c E r g) (hm : X.mg x = none) (hv : bootBuiltins x = some (.builtin id)) (ha : PA X (e :: es) (tDs c E fs)) (hg : Gl X x := by rfl) (hn : x ≠ "__name__" := by decide) (hdb : (x == ("__debug__" : Str)) = false := by decide)
    (he : starEach (e :: es) X.env = (false, eval e X.env) :: starEach es X.env := by rfl) (hpl : (backTo pos (starEach es X.env)).any (·.1) = false := by rfl) : PE X (.Call (.Name x p) (e :: es) [] pos) (tD c E (dB g fs)) := PE.weak (pe_callB hc hg hm hv ha hn hdb he hpl) (tCB_of hs)
theorem pd_tyc {T : String} (hc : CallR X (.type T) r) (hs : CallS c E r g) (hm : X.mg x = none) (hv : bootBuiltins x = some (.type T)) (ha : PA X (e :: es) (tDs c E fs)) (hg : Gl X x := by rfl) (hn : x ≠ "__name__" := by decide) (hdb : (x == ("__debug__" : Str)) = false := by decide)
    (he : starEach (e :: es) X.env = (false, eval e X.env) :: starEach es X.env := by rfl) (hpl : (backTo pos (starEach es X.env)).any (·.1) = false := by rfl) : PE X (.Call (.Name x p) (e :: es) [] pos) (tD c E (dB g fs)) := PE.weak (pe_callTy hc hg hm hv ha hn hdb he hpl) (tCB_of hs)
/-- a built-in that the module has imported -/
theorem pd_bltM {id : String} (hc : CallR X (.builtin id) r) (hs : CallS c E r g) (hm : X.mg x = some (.builtin id)) (ha : PA X (e :: es) (tDs c E fs)) (hg : Gl X x := by rfl) (hdb : (x == ("__debug__" : Str)) = false := by decide)
    (he : starEach (e :: es) X.env = (false, eval e X.env) :: starEach es X.env := by rfl) (hpl : (backTo pos (starEach es X.env)).any (·.1) = false := by rfl) : PE X (.Call (.Name x p) (e :: es) [] pos) (tD c E (dB g fs)) :=
  PE.weak (t := tCB r (tDs c E fs)) ⟨fun pins s σ H Q I h => wpAny_Call_Name_kw (ld_glob I hg hm (PyProof.Rows.callWith_builtin1 (thn (ha.run pos pins s σ H _ I h) fun us s1 ⟨vs, H1, I1, r1, q1⟩ => hc pins s1 σ H1 vs us Q I1 r1 q1) he hpl) hdb)⟩ (tCB_of hs)
end
end LN
namespace LN
open PySem L2 PySem.Spec PyProof.Rows

/-! ### built-ins -/
def bInt : List D → Mem → Rs D
  | [.int i], m => .ok (.int i) m
  | [.bl b], m => .ok (.int (if b then 1 else 0)) m
  | [.str s], m => match PySem.intText? s with
    | some n => if s.length ≤ 640 then .ok (.int n) m else .stuck
    | none => .stuck
  | _, _ => .stuck
def bAbs : List D → Mem → Rs D
  | [.int i], m => .ok (.int (if i < 0 then -i else i)) m
  | _, _ => .stuck
def bMax2 : List D → Mem → Rs D
  | [.int i, .int j], m => .ok (.int (if j > i then j else i)) m
  | _, _ => .stuck
def bMin2 : List D → Mem → Rs D
  | [.int i, .int j], m => .ok (.int (if j < i then j else i)) m
  | _, _ => .stuck
def bGcd : List D → Mem → Rs D
  | [.int i, .int j], m => .ok (.int ((Nat.gcd i.natAbs j.natAbs : Nat) : Int)) m
  | _, _ => .stuck
def dictLen (m : Mem) : D → Option Nat
  | .dk ks _ => some ks.length
  | .dt ks _ => some ks.length
  | .loc f i => match m.get f i with
    | some (.dk ks _) => some ks.length
    | some (.dt ks _) => some ks.length
    | _ => none
  | _ => none
def bLen : List D → Mem → Rs D
  | [.str s], m => if lineOk s.length = true then .ok (.int s.length) m else .stuck
  | [d], m => match vwS m d with
    | some xs => .ok (.int xs.length) m
    | none => .stuck
  | _, _ => .stuck
def bLst (fin : List D → Mem → Rs D) : List D → Mem → Rs D
  | [d], m => match vwS m d with
    | some xs => fin xs m
    | none => .stuck
  | _, _ => .stuck
def bTup : List D → Mem → Rs D
  | [.tup xs], m => .ok (.tup xs) m
  | [d], m => match vwL m d with
    | some xs => .ok (.tup xs) m
    | none => .stuck
  | _, _ => .stuck
def dInts : List D → Option (List Int)
  | [] => some []
  | .int i :: r => (dInts r).map (i :: ·)
  | _ => none
def dBools : List D → Option (List Bool)
  | [] => some []
  | .bl i :: r => (dBools r).map (i :: ·)
  | _ => none
def bSum : List D → Mem → Rs D
  | [d], m => match vwL m d with
    | some xs => match dInts xs with
      | some ns => .ok (.int ns.sum) m
      | none => .stuck
    | none => .stuck
  | _, _ => .stuck
def bAll : List D → Mem → Rs D
  | [d], m => match vwL m d with
    | some xs => match dBools xs with
      | some bs => .ok (.bl (bs.all id)) m
      | none => .stuck
    | none => .stuck
  | _, _ => .stuck
def bAny : List D → Mem → Rs D
  | [d], m => match vwL m d with
    | some xs => match dBools xs with
      | some bs => .ok (.bl (bs.any id)) m
      | none => .stuck
    | none => .stuck
  | _, _ => .stuck
/-- the built-in class of a value -/
def tyN (m : Mem) : D → Option String
  | .non => some "NoneType"
  | .bl _ => some "bool"
  | .int _ => some "int"
  | .str _ => some "str"
  | .tup _ => some "tuple"
  | .lst _ => some "list"
  | .dk _ _ => some "dict"
  | .loc f i => match m.get f i with
    | some (.lst _) => some "list"
    | some (.dk _ _) => some "dict"
    | _ => none
  | _ => none
def isTy (a b : String) : Bool := a == b || (a == "bool" && b == "int")
def tys : List D → Option (List String)
  | [] => some []
  | .ty n :: r => (tys r).map (n :: ·)
  | _ => none
def known : List String := ["int", "bool", "str", "list", "tuple", "dict"]
def bIsi : List D → Mem → Rs D
  | [x, .ty n], m => match tyN m x with
    | some t => if n ∈ known then .ok (.bl (isTy t n)) m else .stuck
    | none => .stuck
  | [x, .tup cs], m => match tyN m x, tys cs with
    | some t, some ns => if ∀ n ∈ ns, n ∈ known then .ok (.bl (ns.any (isTy t))) m else .stuck
    | _, _ => .stuck
  | _, _ => .stuck
section
variable {X : Cx} {c : Ct} {E : XK}
theorem rps1 {W : Wd} {d : D} {xs : List V} (r : Rps c W [d] xs) : ∃ v, xs = [v] ∧ Rp c W d v := by
  simp only [Rps] at r
  obtain ⟨v, r, rfl, q, rfl⟩ := r
  exact ⟨v, rfl, q⟩
theorem rps2 {W : Wd} {d e : D} {xs : List V} (r : Rps c W [d, e] xs) : ∃ v u, xs = [v, u] ∧ Rp c W d v ∧ Rp c W e u := by
  simp only [Rps] at r
  obtain ⟨v, r, rfl, q, u, r', rfl, q', rfl⟩ := r
  exact ⟨v, u, rfl, q, q'⟩
def rIntAll : List V → Hp → VK → Prop := fun xs H Q => ((∃ i, xs = [.int i] ∧ Q (.int i) H) ∨ ∃ k, xs = [.bl k] ∧ Q (.int (if k then 1 else 0)) H) ∨ (∃ a n, xs = [.str a] ∧ PySem.intText? a = some n ∧ a.length ≤ 640 ∧ Q (.int n) H)
theorem cr_int : CallR X (.type "int") rIntAll := CallR.or call_int1 call_int_str
theorem cs_int : CallS c E rIntAll bInt := fun W m H xs ds Q o r p => by
  unfold bInt at p
  split at p
  · obtain ⟨v, rfl, q⟩ := rps1 r
    simp only [Rp] at q; subst q
    exact .inl (.inl ⟨_, rfl, p W H _ (le.refl _) o (by simp [Rp])⟩)
  · obtain ⟨v, rfl, q⟩ := rps1 r
    simp only [Rp] at q; subst q
    exact .inl (.inr ⟨_, rfl, p W H _ (le.refl _) o (by simp [Rp])⟩)
  · obtain ⟨v, rfl, q⟩ := rps1 r
    simp only [Rp] at q; subst q
    split at p
    · rename_i n hn
      split at p
      · rename_i hl
        exact .inr ⟨_, n, rfl, hn, hl, p W H _ (le.refl _) o (by simp [Rp])⟩
      · exact p.elim
    · exact p.elim
  · exact p.elim
theorem cs_abs : CallS c E (fun xs H Q => ∃ i, xs = [.int i] ∧ Q (.int (if i < 0 then -i else i)) H) bAbs := fun W m H xs ds Q o r p => by
  unfold bAbs at p
  split at p
  · obtain ⟨v, rfl, q⟩ := rps1 r
    simp only [Rp] at q; subst q
    exact ⟨_, rfl, p W H _ (le.refl _) o (by simp [Rp])⟩
  · exact p.elim
theorem cs_max2 : CallS c E (fun xs H Q => ∃ i j, xs = [.int i, .int j] ∧ Q (.int (if j > i then j else i)) H) bMax2 := fun W m H xs ds Q o r p => by
  unfold bMax2 at p
  split at p
  · obtain ⟨v, u, rfl, q, q'⟩ := rps2 r
    simp only [Rp] at q q'; subst q; subst q'
    exact ⟨_, _, rfl, p W H _ (le.refl _) o (by simp [Rp])⟩
  · exact p.elim
theorem cs_min2 : CallS c E (fun xs H Q => ∃ i j, xs = [.int i, .int j] ∧ Q (.int (if j < i then j else i)) H) bMin2 := fun W m H xs ds Q o r p => by
  unfold bMin2 at p
  split at p
  · obtain ⟨v, u, rfl, q, q'⟩ := rps2 r
    simp only [Rp] at q q'; subst q; subst q'
    exact ⟨_, _, rfl, p W H _ (le.refl _) o (by simp [Rp])⟩
  · exact p.elim
theorem cs_gcd : CallS c E rGcd bGcd := fun W m H xs ds Q o r p => by
  unfold bGcd at p
  split at p
  · obtain ⟨v, u, rfl, q, q'⟩ := rps2 r
    simp only [Rp] at q q'; subst q; subst q'
    exact ⟨_, _, rfl, p W H _ (le.refl _) o (by simp [Rp])⟩
  · exact p.elim
def rLenAll (K : PySem.W.Frag) : List V → Hp → VK → Prop := fun xs H Q => (∃ p ys, xs = [.ref p] ∧ (SqL K H p ys ∨ SqT K H p ys) ∧ Q (.int ys.length) H) ∨ (∃ z, xs = [.str z] ∧ z.length ≤ sizeLine ∧ Q (.int z.length) H)
theorem cr_len : CallR X (.builtin "len") (rLenAll X.K) := CallR.or call_len_seq call_len_str
theorem cs_len (hK : c.K = X.K := by rfl) : CallS c E (rLenAll X.K) bLen := fun W m H xs ds Q o r p => by
  unfold bLen at p
  split at p
  · obtain ⟨v, rfl, q⟩ := rps1 r
    simp only [Rp] at q; subst q
    split at p
    · rename_i h
      exact .inr ⟨_, rfl, lineOk_le h, p W H _ (le.refl _) o (by simp [Rp])⟩
    · exact p.elim
  · obtain ⟨v, rfl, q⟩ := rps1 r
    split at p
    · rename_i ys h
      obtain ⟨a, vs, rfl, q2, q3⟩ := vwS_ok o h q
      exact .inl ⟨a, vs, rfl, hK ▸ q2, p W H _ (le.refl _) o (by simp [Rp, q3.length])⟩
    · exact p.elim
  · exact p.elim
theorem cs_lst {fin : List D → Mem → Rs D} (F : FinN fin) (hK : c.K = X.K := by rfl) : CallS c E (fun xs H Q => ∃ p ys, xs = [.ref p] ∧ (SqL X.K H p ys ∨ SqT X.K H p ys) ∧ ∀ l, H l = none → Q (.ref l) (upd H l (.lst ys))) (bLst fin) := fun W m H xs ds Q o r p => by
  unfold bLst at p
  split at p
  · obtain ⟨v, rfl, q⟩ := rps1 r
    split at p
    · rename_i ys h
      obtain ⟨a, vs, rfl, q2, q3⟩ := vwS_ok o h q
      exact ⟨a, vs, rfl, hK ▸ q2, F.mak o q3 p⟩
    · exact p.elim
  · exact p.elim
theorem cs_tup (hK : c.K = X.K := by rfl) : CallS c E (fun xs H Q => ∃ p ys, xs = [.ref p] ∧ ((SqL X.K H p ys ∧ ∀ l, H l = none → Q (.ref l) (upd H l (.tup ys))) ∨ (SqT X.K H p ys ∧ Q (.ref p) H))) bTup := fun W m H xs ds Q o r p => by
  unfold bTup at p
  split at p
  · obtain ⟨v, rfl, q⟩ := rps1 r
    have q' := q
    simp only [Rp] at q
    obtain ⟨a, vs, rfl, q2, q3⟩ := q
    exact ⟨a, vs, rfl, .inr ⟨hK ▸ (q2.mono o.g).sq, p W H _ (le.refl _) o q'⟩⟩
  · obtain ⟨v, rfl, q⟩ := rps1 r
    split at p
    · rename_i ys h
      obtain ⟨a, vs, rfl, q2, q3⟩ := vwL_ok o h q
      exact ⟨a, vs, rfl, .inl ⟨SqL.of q2, Pst.tup o q3 p⟩⟩
    · exact p.elim
  · exact p.elim
theorem ints_ok {W : Wd} : ∀ {xs : List D} {ns : List Int} {vs : List V}, dInts xs = some ns → Rps c W xs vs → vs = ns.map V.int
  | [], ns, vs, h, r => by simp only [dInts, Option.some.injEq, Rps] at h r; subst h; subst r; rfl
  | .int i :: xs, ns, vs, h, r => by
    simp only [dInts, Option.map_eq_some_iff] at h
    obtain ⟨ms, h1, rfl⟩ := h
    simp only [Rps, Rp] at r
    obtain ⟨v, r', rfl, rfl, r2⟩ := r
    rw [ints_ok h1 r2]; rfl
theorem bools_ok {W : Wd} : ∀ {xs : List D} {ns : List Bool} {vs : List V}, dBools xs = some ns → Rps c W xs vs → vs = ns.map V.bl
  | [], ns, vs, h, r => by simp only [dBools, Option.some.injEq, Rps] at h r; subst h; subst r; rfl
  | .bl i :: xs, ns, vs, h, r => by
    simp only [dBools, Option.map_eq_some_iff] at h
    obtain ⟨ms, h1, rfl⟩ := h
    simp only [Rps, Rp] at r
    obtain ⟨v, r', rfl, rfl, r2⟩ := r
    rw [bools_ok h1 r2]; rfl
theorem cs_sum (hK : c.K = X.K := by rfl) : CallS c E (rSum X.K) bSum := fun W m H xs ds Q o r p => by
  unfold bSum at p
  split at p
  · obtain ⟨v, rfl, q⟩ := rps1 r
    split at p
    · rename_i ys h
      obtain ⟨a, vs, rfl, q2, q3⟩ := vwL_ok o h q
      split at p
      · rename_i ns h2
        exact ⟨a, ns, rfl, SqL.of (by rw [q2, ints_ok h2 q3]), p W H _ (le.refl _) o (by simp [Rp])⟩
      · exact p.elim
    · exact p.elim
  · exact p.elim
theorem cs_all (hK : c.K = X.K := by rfl) : CallS c E (rAll X.K) bAll := fun W m H xs ds Q o r p => by
  unfold bAll at p
  split at p
  · obtain ⟨v, rfl, q⟩ := rps1 r
    split at p
    · rename_i ys h
      obtain ⟨a, vs, rfl, q2, q3⟩ := vwL_ok o h q
      split at p
      · rename_i ns h2
        exact ⟨a, ns, rfl, SqL.of (by rw [q2, bools_ok h2 q3]), p W H _ (le.refl _) o (by simp [Rp])⟩
      · exact p.elim
    · exact p.elim
  · exact p.elim
theorem cs_any (hK : c.K = X.K := by rfl) : CallS c E (rAny X.K) bAny := fun W m H xs ds Q o r p => by
  unfold bAny at p
  split at p
  · obtain ⟨v, rfl, q⟩ := rps1 r
    split at p
    · rename_i ys h
      obtain ⟨a, vs, rfl, q2, q3⟩ := vwL_ok o h q
      split at p
      · rename_i ns h2
        exact ⟨a, ns, rfl, SqL.of (by rw [q2, bools_ok h2 q3]), p W H _ (le.refl _) o (by simp [Rp])⟩
      · exact p.elim
    · exact p.elim
  · exact p.elim
theorem tyN_ok {W : Wd} {m : Mem} {H : Hp} (o : Ok c W m H) {d : D} {v : V} {t : String} (h : tyN m d = some t) (r : Rp c W d v) : TyX c.K H v (.type t) := by
  cases d with
  | non => simp only [tyN, Option.some.injEq, Rp] at h r; subst h; subst r; exact .base .non
  | bl b => simp only [tyN, Option.some.injEq, Rp] at h r; subst h; subst r; exact .base (.bl _)
  | int b => simp only [tyN, Option.some.injEq, Rp] at h r; subst h; subst r; exact .base (.int _)
  | str b => simp only [tyN, Option.some.injEq, Rp] at h r; subst h; subst r; exact .base (.str _)
  | tup xs =>
    simp only [tyN, Option.some.injEq, Rp] at h r; subst h
    obtain ⟨a, vs, rfl, q, _⟩ := r
    rcases q with q | ⟨_, o', its, n, q1, q2, _⟩
    · exact .base (.tup (o.g _ _ q))
    · exact .kTuple q1 q2
  | lst xs =>
    simp only [tyN, Option.some.injEq, Rp] at h r; subst h
    obtain ⟨a, vs, rfl, q, _⟩ := r
    exact .base (.lst (o.g _ _ q))
  | dk ks xs =>
    simp only [tyN, Option.some.injEq, Rp] at h r; subst h
    obtain ⟨a, vs, rfl, q, _⟩ := r
    exact .base (.dK (o.g _ _ q))
  | loc f i =>
    simp only [tyN] at h
    simp only [Rp] at r
    obtain ⟨a, rfl, q⟩ := r
    split at h
    · rename_i xs hg
      cases h
      obtain ⟨b, e1, ⟨vs, e2, e3⟩, _⟩ := o.i _ _ _ hg rfl
      rw [q] at e1; cases e1
      exact .base (.lst e2)
    · rename_i ks xs hg
      cases h
      obtain ⟨b, e1, ⟨vs, e2, e3⟩, _⟩ := o.i _ _ _ hg rfl
      rw [q] at e1; cases e1
      exact .base (.dK e2)
    · cases h
  | _ => cases h
theorem tyN_in {m : Mem} {d : D} {t : String} (h : tyN m d = some t) : t ∈ ["NoneType", "bool", "int", "str", "tuple", "list", "dict"] := by
  cases d <;> simp only [tyN, Option.some.injEq] at h <;> first | (subst h; decide) | (split at h <;> first | (cases h; decide) | cases h) | cases h
theorem kit_tab (K : PySem.W.Frag) : ∀ t ∈ ["NoneType", "bool", "int", "str", "tuple", "list", "dict"], ∀ n ∈ known, PySem.W.kitOne K (.type t) (.type n) = some (isTy t n) := by
  intro t ht n hn
  simp only [known, List.mem_cons, List.not_mem_nil, or_false] at ht hn
  rcases ht with rfl | rfl | rfl | rfl | rfl | rfl | rfl <;> rcases hn with rfl | rfl | rfl | rfl | rfl | rfl <;> kernel_rfl
def rIsiAll (K : PySem.W.Frag) : List V → Hp → VK → Prop := fun xs H Q => rIsi K xs H Q ∨ rIsiT K xs H Q ∨ rIsiK K xs H Q
theorem cr_isi : CallR X (.builtin "isinstance") (rIsiAll X.K) := CallR.or call_isi (CallR.or call_isiT call_isiK)
theorem tys_ok {W : Wd} : ∀ {xs : List D} {ns : List String} {vs : List V}, tys xs = some ns → Rps c W xs vs → vs = ns.map V.ty
  | [], ns, vs, h, r => by simp only [tys, Option.some.injEq, Rps] at h r; subst h; subst r; rfl
  | .ty i :: xs, ns, vs, h, r => by
    simp only [tys, Option.map_eq_some_iff] at h
    obtain ⟨ms, h1, rfl⟩ := h
    simp only [Rps, Rp] at r
    obtain ⟨v, r', rfl, rfl, r2⟩ := r
    rw [tys_ok h1 r2]; rfl
theorem kit_any (K : PySem.W.Frag) {t : String} (ht : t ∈ ["NoneType", "bool", "int", "str", "tuple", "list", "dict"]) : ∀ ns : List String, (∀ n ∈ ns, n ∈ known) → PySem.W.kitAny K (.type t) (ns.map Value.type) = some (ns.any (isTy t))
  | [], _ => rfl
  | n :: ns, h => by
    have h1 := kit_tab K t ht n (h n (by simp))
    have h2 := kit_any K ht ns fun k hk => h k (by simp [hk])
    simp only [List.map_cons, PySem.W.kitAny, h1, List.any_cons]
    cases isTy t n with
    | true => rfl
    | false => simpa using h2
theorem clsv_tys : ∀ ns : List String, Paired ClsV (ns.map V.ty) (ns.map Value.type)
  | [] => .nil
  | n :: ns => .cons (.ty n) (clsv_tys ns)
theorem vals_tys : ∀ {ns : List String} {us : List Value}, Vals (ns.map V.ty) us → us = ns.map Value.type
  | [], _, .nil => rfl
  | n :: ns, _, .cons r t => by rw [show _ = Value.type n from r, vals_tys t]; rfl
theorem cs_isi (hK : c.K = X.K := by rfl) : CallS c E (rIsiAll X.K) bIsi := fun W m H xs ds Q o r p => by
  unfold bIsi at p
  split at p
  · rename_i _ x n
    obtain ⟨v, u, rfl, q, q'⟩ := rps2 r
    simp only [Rp] at q'; subst q'
    split at p
    · rename_i t ht
      split at p
      · rename_i hn
        exact .inl ⟨v, .ty n, _, .type n, _, rfl, .ty n, hK ▸ tyN_ok o ht q, kit_tab _ t (tyN_in ht) n hn, p W H _ (le.refl _) o (by simp [Rp])⟩
      · exact p.elim
    · exact p.elim
  · rename_i _ x cs
    obtain ⟨v, u, rfl, q, q'⟩ := rps2 r
    split at p
    · rename_i t ns ht hns
      split at p
      · rename_i hn
        simp only [Rp] at q'
        obtain ⟨a, vs, rfl, q2, q3⟩ := q'
        have e := tys_ok hns q3
        subst e
        have hk := kit_any X.K (tyN_in ht) ns hn
        have fin := p W H (.bl (ns.any (isTy t))) (le.refl _) o (by simp [Rp])
        rcases q2 with q2 | ⟨_, o', its, n, k1, k2, k3, k4, k5⟩
        · exact .inr (.inl ⟨v, a, _, _, _, _, rfl, o.g _ _ q2, clsv_tys ns, hK ▸ tyN_ok o ht q, hk, fin⟩)
        · have e := vals_tys k5
          obtain ⟨oc, od, oda, osl⟩ := o'
          dsimp only at k2 k3
          subst k2; subst k3
          refine .inr (.inr ⟨v, a, od, ns.map Value.type, n, osl, _, _, rfl, ?_, hK ▸ tyN_ok o ht q, hk, fin⟩)
          rw [← hK, k1]
          have e2 : its = (ns.map Value.type).toArray := by rw [← e]
          rw [e2]
      · exact p.elim
    · exact p.elim
  · exact p.elim
end
end LN
namespace LN
open PySem L2 PySem.Spec PyProof.Rows

/-! ### subscripts, slices -/
def gIx (d i : D) (m : Mem) : Rs D := match d, i with
  | .str s, .int k => if lineOk s.length = true then (match atI s.cps.toList k with
    | some ch => .ok (.str ⟨#[ch]⟩) m
    | none => .stuck) else .stuck
  | d, .int k => match vwS m d with
    | some xs => match atI xs k with
      | some x => .ok x m
      | none => .stuck
    | none => .stuck
  | _, _ => .stuck
def cutL {α : Type} (xs : List α) (lo hi : Option Int) : List α := (xs.drop (HT.sIx xs.length 0 lo)).take (HT.sIx xs.length xs.length hi - HT.sIx xs.length 0 lo)
def gSl (fin : List D → Mem → Rs D) (d : D) (lo hi : Option Int) (m : Mem) : Rs D := match d with
  | .str s => if lineOk s.length = true then .ok (.str (cutS s lo hi)) m else .stuck
  | .tup xs => .ok (.tup (cutL xs lo hi)) m
  | .scr xs => fin ((cutL xs lo hi).map .int) m
  | d => match vwL m d with
    | some xs => fin (cutL xs lo hi) m
    | none => .stuck
def dPart (f : Ev) : EvG (Option Int) := fun ρ m => (f ρ m).bind fun d m1 => match d with
  | .int i => .ok (some i) m1
  | _ => .stuck
def dNo : EvG (Option Int) := fun _ m => .ok none m
def dSl (g : D → Option Int → Option Int → Mem → Rs D) (f : Ev) (fl fh : EvG (Option Int)) : Ev := fun ρ m => (f ρ m).bind fun d m1 => (fl ρ m1).bind fun lo m2 => (fh ρ m2).bind fun hi m3 => g d lo hi m3
section
variable {X : Cx} {c : Ct} {E : XK} {pos p2 : Pos} {a b e : Expr} {fa fb : Ev} {fin : List D → Mem → Rs D}
theorem Rps.atI {W : Wd} {xs : List D} {vs : List V} (r : Rps c W xs vs) {k : Int} {d : D} (h : L2.atI xs k = some d) : ∃ v, L2.atI vs k = some v ∧ Rp c W d v := by
  unfold L2.atI at h ⊢
  rw [← r.length]
  cases e : ixN xs.length k with
  | none => rw [e] at h; cases h
  | some j => rw [e] at h; exact r.get h
theorem os_ix (hK : c.K = X.K := by rfl) : OpS c E (rIx X.K) gIx := fun W m H x y dx dy Q o rx ry p => by
  unfold gIx at p
  split at p
  · simp only [Rp] at rx ry; subst rx; subst ry
    split at p
    · rename_i h
      split at p
      · rename_i ch hc
        exact .inr (.inr ⟨_, _, ch, rfl, rfl, lineOk_le h, hc, p W H _ (le.refl _) o (by simp [Rp])⟩)
      · exact p.elim
    · exact p.elim
  · simp only [Rp] at ry; subst ry
    split at p
    · rename_i xs h
      obtain ⟨a, vs, rfl, q1, q2⟩ := vwS_ok o h rx
      split at p
      · rename_i d hd
        obtain ⟨v, h1, h2⟩ := q2.atI hd
        have fin := p W H v (le.refl _) o h2
        rcases q1 with q1 | q1
        · exact .inl ⟨a, vs, _, v, rfl, rfl, hK ▸ q1, h1, fin⟩
        · exact .inr (.inl ⟨a, vs, _, v, rfl, rfl, hK ▸ q1, h1, fin⟩)
      · exact p.elim
    · exact p.elim
  · exact p.elim
theorem pd_ix (hs : OpS c E (rIx X.K) gIx) (ha : PE X a (tD c E fa)) (hb : PE X b (tD c E fb)) (hp : PlainIx b := by exact fun _ _ => rfl) : PE X (.Subscript a b pos) (tD c E (dOp gIx fa fb)) :=
  PE.weak (pe_ix ix_seq ha hb hp) (tOp_of hs)
def Ro (_ : Wd) (a b : Option Int) : Prop := a = b
theorem pod_none : PO X none (tG c E Ro dNo) := ⟨fun pins s σ H Q I ⟨W, ρ, m, o, sl, p⟩ => po_none.run pins s σ H Q I (p W H none (le.refl _) o rfl)⟩
theorem pod_some (h : PE X e (tD c E fa)) : PO X (some e) (tG c E Ro (dPart fa)) := ⟨fun pins s σ H Q I ⟨W, ρ, m, o, sl, p⟩ => (po_some h).run pins s σ H Q I (by
  refine ⟨W, ρ, m, o, sl, Pst.imp (Pst.bind p) fun x H1 ⟨W1, d, m1, l1, o1, r1, p1⟩ => ?_⟩
  split at p1
  · rename_i i
    simp only [Rp] at r1
    exact ⟨i, r1, p1 W1 H1 _ (le.refl _) o1 rfl⟩
  · exact p1.elim)⟩
def SlS (c : Ct) (E : XK) (r : V → Option Int → Option Int → Hp → VK → Prop) (g : D → Option Int → Option Int → Mem → Rs D) : Prop := ∀ (W : Wd) (m : Mem) (H : Hp) (x : V) (dx : D) (lo hi : Option Int) (Q : VK), Ok c W m H → Rp c W dx x → Pst c E (Rp c) (g dx lo hi m) W Q → r x lo hi H Q
theorem pd_sl {lo hi : Option Expr} {fl fh : EvG (Option Int)} {r : V → Option Int → Option Int → Hp → VK → Prop} {g : D → Option Int → Option Int → Mem → Rs D} (hr : SlR X r) (hs : SlS c E r g) (ha : PE X a (tD c E fa)) (hl : PO X lo (tG c E Ro fl)) (hh : PO X hi (tG c E Ro fh)) :
    PE X (.Subscript a (.Slice lo hi none p2) pos) (tD c E (dSl g fa fl fh)) :=
  PE.weak (pe_slice hr ha hl hh) fun σ H Q ⟨W, ρ, m, o, s, q⟩ => by
    refine ⟨W, ρ, m, o, s, Pst.imp (Pst.bind q) fun x H1 ⟨W1, d, m1, l1, o1, r1, p1⟩ => ?_⟩
    refine ⟨W1, ρ, m1, o1, s.mono l1, Pst.imp (Pst.bind p1) fun lo' H2 ⟨W2, lo2, m2, l2, o2, r2, p2⟩ => ?_⟩
    refine ⟨W2, ρ, m2, o2, (s.mono l1).mono l2, Pst.imp (Pst.bind p2) fun hi' H3 ⟨W3, hi2, m3, l3, o3, r3, p3⟩ => ?_⟩
    have e2 : lo2 = lo' := r2
    have e3 : hi2 = hi' := r3
    subst e2; subst e3
    exact hs W3 m3 H3 x d lo2 hi2 Q o3 ((r1.mono l2 d).mono l3 d) p3
def rSlAll (K : PySem.W.Frag) : V → Option Int → Option Int → Hp → VK → Prop := fun x lo hi H Q => rSlL K x lo hi H Q ∨ rSlA K x lo hi H Q ∨ rSlS x lo hi H Q
theorem sl_all : SlR X (rSlAll X.K) := SlR.or sl_list (SlR.or sl_tupA sl_str)
theorem Rps.cutL {W : Wd} {xs : List D} {vs : List V} (r : Rps c W xs vs) (lo hi : Option Int) : Rps c W (LN.cutL xs lo hi) (cutV vs lo hi) := by
  unfold LN.cutL cutV
  rw [← r.length]
  exact (r.drop _).take _
theorem ss_all (F : FinN fin) (hK : c.K = X.K := by rfl) : SlS c E (rSlAll X.K) (gSl fin) := fun W m H x dx lo hi Q o rx p => by
  unfold gSl at p
  split at p
  · simp only [Rp] at rx; subst rx
    split at p
    · rename_i h
      exact .inr (.inr ⟨_, rfl, lineOk_le h, p W H _ (le.refl _) o (by simp [Rp])⟩)
    · exact p.elim
  · rename_i xs
    simp only [Rp] at rx
    obtain ⟨a, vs, rfl, q1, r1⟩ := rx
    refine .inr (.inl ⟨a, vs, rfl, hK ▸ (q1.mono o.g).sq, fun hw => ?_, fun _ => Pst.tup o (r1.cutL lo hi) p⟩)
    refine p W H _ (le.refl _) o ?_
    have e : LN.cutL xs lo hi = xs := by
      unfold LN.cutL
      rw [r1.length, hw.1, hw.2, ← r1.length]
      simp
    rw [e]
    simp only [Rp]
    exact ⟨a, vs, rfl, q1, r1⟩
  · rename_i xs
    obtain ⟨a, vs, rfl, q1, r1⟩ := vwS_ok o (d := .scr xs) rfl rx
    simp only [Rp] at rx
    obtain ⟨a', e, q⟩ := rx
    cases e
    refine .inl ⟨a, xs.map V.int, rfl, hK ▸ (SqL.mono o.g q), ?_⟩
    have r2 : Rps c W (xs.map D.int) (xs.map V.int) := Rps.of (by simp) fun i d v h1 h2 => by
      rw [List.getElem?_map] at h1 h2
      cases e : xs[i]? with
      | none => rw [e] at h1; cases h1
      | some x => rw [e] at h1 h2; cases h1; cases h2; simp [Rp]
    have e2 : (LN.cutL xs lo hi).map D.int = LN.cutL (xs.map D.int) lo hi := by
      unfold LN.cutL
      rw [List.length_map, List.map_take, List.map_drop]
    rw [e2] at p
    exact F.mak o (r2.cutL lo hi) p
  · split at p
    · rename_i xs h
      obtain ⟨a, vs, rfl, q1, r1⟩ := vwL_ok o h rx
      exact .inl ⟨a, vs, rfl, SqL.of q1, F.mak o (r1.cutL lo hi) p⟩
    · exact p.elim

/-! ### truth -/
def truD (m : Mem) : D → Option Bool
  | .non => some false
  | .bl b => some b
  | .int i => some (i != 0)
  | .str s => if lineOk s.length = true then some ((s.length : Int) != 0) else none
  | d => match vwS m d with
    | some xs => some (!xs.isEmpty)
    | none => none
def dTru (f : Ev) : EvG Bool := fun ρ m => (f ρ m).bind fun d m1 => match truD m1 d with
  | some k => .ok k m1
  | none => .stuck
theorem Rps.isEmpty {W : Wd} {xs : List D} {vs : List V} (r : Rps c W xs vs) : xs.isEmpty = vs.isEmpty := by
  have := r.length
  cases xs <;> cases vs <;> simp_all
theorem ptd_tru (ha : PE X a (tD c E fa)) (h : ∀ whole : Sem Value, PySem.isTrue a X.env whole = (do let v ← whole; standAt a.pos; holding [v] (truthy v)) := by intro _; rfl) (hK : c.K = X.K := by rfl) : PT X a (tT c E (dTru fa)) :=
  PT.weak (pt_truth ha h) fun σ H Q ⟨W, ρ, m, o, s, q⟩ => by
    refine ⟨W, ρ, m, o, s, Pst.imp (Pst.bind q) fun x H1 ⟨W1, d, m1, l1, o1, r1, p1⟩ => ?_⟩
    split at p1
    · rename_i k hk
      refine ⟨k, ?_, p1 W1 H1 k (le.refl _) o1 rfl⟩
      unfold truD at hk
      split at hk
      · cases hk; simp only [Rp] at r1; subst r1; rfl
      · cases hk; simp only [Rp] at r1; subst r1; rfl
      · cases hk; simp only [Rp] at r1; subst r1; rfl
      · split at hk
        · rename_i hl
          cases hk; simp only [Rp] at r1; subst r1; exact ⟨lineOk_le hl, rfl⟩
        · cases hk
      · split at hk
        · rename_i xs h
          cases hk
          obtain ⟨a, vs, rfl, q1, q2⟩ := vwS_ok o1 h r1
          rw [q2.isEmpty]
          rcases q1 with q1 | q1
          · exact .inl ⟨vs, hK ▸ q1, rfl⟩
          · exact .inr (.inl ⟨vs, hK ▸ q1, rfl⟩)
        · cases hk
    · exact p1.elim
/-- a value that is a bool, as a test -/
theorem ptd_val (ha : PE X a (tD c E fa)) (h : ∀ whole : Sem Value, PySem.isTrue a X.env whole = (do let v ← whole; standAt a.pos; holding [v] (truthy v)) := by intro _; rfl) : PT X a (tT c E (dTst fa)) :=
  PT.weak (pt_val ha h) fun σ H Q ⟨W, ρ, m, o, s, q⟩ => by
    refine ⟨W, ρ, m, o, s, Pst.imp (Pst.bind q) fun x H1 ⟨W1, d, m1, l1, o1, r1, p1⟩ => ?_⟩
    cases d with
    | bl k => simp only [Rp] at r1; exact ⟨k, r1, p1 W1 H1 _ (le.refl _) o1 rfl⟩
    | _ => exact p1.elim
end

/-! ### what is walked -/
def signs (s : Str) : List D := s.cps.toList.map fun ch => .str ⟨#[ch]⟩
def dWalk (f : Ev) : EvG Wk := fun ρ m => (f ρ m).bind fun d m1 => match d with
  | .str s => .ok (.of (signs s)) m1
  | .loc f i => match m1.get f i with
    | some (.lst xs) => .ok ⟨xs, fun m2 => m2.get f i = some (.lst xs)⟩ m1
    | _ => .stuck
  | d => match vwS m1 d with
    | some xs => .ok (.of xs) m1
    | none => .stuck
def dRng1 (f : Ev) : EvG Wk := fun ρ m => (f ρ m).bind fun d m1 => match d with
  | .int n => if n < 2 ^ 62 ∧ -(2 ^ 62) ≤ n then .ok (.of ((List.range n.toNat).map fun (i : Nat) => D.int (i : Int))) m1 else .stuck
  | _ => .stuck
def dRng2 (f g : Ev) : EvG Wk := fun ρ m => (f ρ m).bind fun d m1 => (g ρ m1).bind fun e m2 => match d, e with
  | .int a, .int b => if (-(2 ^ 62) ≤ a ∧ a < 2 ^ 62) ∧ (-(2 ^ 62) ≤ b ∧ b < 2 ^ 62) then .ok (.of ((List.range (b - a).toNat).map fun (i : Nat) => D.int (a + (i : Int)))) m2 else .stuck
  | _, _ => .stuck
section
variable {X : Cx} {c : Ct} {E : XK} {pos p : Pos} {tg e e2 : Expr} {f g : Ev}
def iAny (K : PySem.W.Frag) (tl : TE) : TI := fun σ H R => tl σ H fun x H1 => (∃ a, x = .ref a ∧ (∃ xs, SqL K H1 a xs) ∧ R (Itl K a) H1) ∨ (∃ a, x = .ref a ∧ (∃ xs, SqT K H1 a xs) ∧ R (Itt K a) H1) ∨ ∃ z, x = .str z ∧ R (Its z) H1
theorem pi_any {l : Expr} {tl : TE} (hl : PE X l tl) : PI X tg l (iAny X.K tl) := by
  refine ⟨fun pins s σ H R I h => ?_⟩
  refine thn (hl.run pins s σ H _ I h) fun v s1 ⟨x, H1, I1, r1, q1⟩ => ?_
  have base : ∀ (w : V) (t : TI), PI X tg l t → True := fun _ _ _ => trivial
  rcases q1 with ⟨a, rfl, hq, q⟩ | ⟨a, rfl, hq, q⟩ | ⟨z, rfl, q⟩
  · obtain ⟨xs, hq⟩ := hq
    cases r1
    obtain ⟨its, rv, p, hz⟩ := I1.list hq
    refine wpAny_pyIter_list p.isList ?_
    refine ⟨s1.heap.objs.size, [s1.heap.objs.size], _, _, H1, rfl, I1.kept (t' := s1.toks) fun b o e => Heap.get?_push_of_some _ e, turn_list a _, ⟨_, Heap.get?_push_size _ rfl, rfl, rfl⟩, fun b hb => ?_, q⟩
    have e : b = s1.heap.objs.size := by simpa using hb
    subst e
    exact I1.fpOk (Nat.le_refl _) (I1.hok.fresh (Nat.le_refl _))
  · obtain ⟨xs, hq⟩ := hq
    cases r1
    obtain ⟨its, rv, p, hz⟩ := I1.tuple hq
    refine wpAny_pyIter_tuple (show s1.heap.IsTuple a its.toArray from p) ?_
    refine ⟨s1.heap.objs.size, [s1.heap.objs.size], _, _, H1, rfl, I1.kept (t' := s1.toks) fun b o e => Heap.get?_push_of_some _ e, turn_tuple a _, ⟨_, Heap.get?_push_size _ rfl, rfl, rfl⟩, fun b hb => ?_, q⟩
    have e : b = s1.heap.objs.size := by simpa using hb
    subst e
    exact I1.fpOk (Nat.le_refl _) (I1.hok.fresh (Nat.le_refl _))
  · obtain ⟨t, rfl⟩ := r1
    cases ha : z.cps.all (· < 128)
    · exact wpAny_pyIter_wide ha (pi_one (tk := s1.toks) I1 _ (turn_str _ z t "str_iterator" (.inr rfl)) ⟨_, Heap.get?_push_size _ rfl, rfl, rfl⟩ q)
    · exact wpAny_pyIter_ascii ha (pi_one (tk := s1.toks) I1 _ (turn_str _ z t "str_ascii_iterator" (.inl rfl)) ⟨_, Heap.get?_push_size _ rfl, rfl, rfl⟩ q)
theorem yldL {W : Wd} {a : Addr} {vs : List V} {xs : List D} (h : ∀ W1 m1 H1, le W W1 → Ok c W1 m1 H1 → SqL c.K H1 a vs) (r : Rps c W xs vs) : Yld c W (.of xs) (Itl c.K a) := fun W1 m1 H1 i l o _ => by
  refine ⟨fun d hd => ?_, fun hi => ⟨vs, h W1 m1 H1 l o, by rw [← r.length]; exact Nat.le_of_eq hi⟩⟩
  have hd : xs[i]? = some d := hd
  obtain ⟨v, hv, rv⟩ := r.get hd
  refine ⟨⟨vs, v, h W1 m1 H1 l o, hv⟩, fun x H2 hx => ?_⟩
  obtain ⟨rfl, hx⟩ := hx
  have e := hx vs (h W1 m1 H2 l o)
  rw [hv] at e; cases e
  exact ⟨W1, le.refl _, o, rv.mono l d⟩
theorem yldT {W : Wd} {a : Addr} {vs : List V} {xs : List D} (h : ∀ W1 m1 H1, le W W1 → Ok c W1 m1 H1 → SqT c.K H1 a vs) (r : Rps c W xs vs) : Yld c W (.of xs) (Itt c.K a) := fun W1 m1 H1 i l o _ => by
  refine ⟨fun d hd => ?_, fun hi => ⟨vs, h W1 m1 H1 l o, by rw [← r.length]; exact Nat.le_of_eq hi⟩⟩
  have hd : xs[i]? = some d := hd
  obtain ⟨v, hv, rv⟩ := r.get hd
  refine ⟨⟨vs, v, h W1 m1 H1 l o, hv⟩, fun x H2 hx => ?_⟩
  obtain ⟨rfl, hx⟩ := hx
  have e := hx vs (h W1 m1 H2 l o)
  rw [hv] at e; cases e
  exact ⟨W1, le.refl _, o, rv.mono l d⟩
theorem yldR {W : Wd} {lo : Int} {n : Nat} : Yld c W (.of ((List.range n).map fun (i : Nat) => D.int (lo + (i : Int)))) (Itr lo n) := fun W1 m1 H1 i l o _ => by
  refine ⟨fun d hd => ?_, fun hi => show n ≤ i from Nat.le_of_eq (by simpa [Wk.of] using hi)⟩
  have hd : ((List.range n).map fun (i : Nat) => D.int (lo + (i : Int)))[i]? = some d := hd
  rw [List.getElem?_map] at hd
  by_cases hi : i < n
  · rw [List.getElem?_range hi] at hd
    cases hd
    refine ⟨hi, fun x H2 hx => ?_⟩
    obtain ⟨rfl, rfl⟩ := hx
    exact ⟨W1, le.refl _, o, by simp [Rp]⟩
  · rw [List.getElem?_eq_none (by simpa using hi)] at hd; cases hd
theorem yldS {W : Wd} {z : Str} : Yld c W (.of (signs z)) (Its z) := fun W1 m1 H1 i l o _ => by
  refine ⟨fun d hd => ?_, fun hi => show z.cps.size ≤ i from Nat.le_of_eq (by simpa [Wk.of, signs] using hi)⟩
  have hd : (signs z)[i]? = some d := hd
  simp only [signs, List.getElem?_map] at hd
  cases e : z.cps.toList[i]? with
  | none => rw [e] at hd; cases hd
  | some ch =>
    rw [e] at hd; cases hd
    have e' : z.cps[i]? = some ch := by simpa using e
    refine ⟨?_, fun x H2 hx => ?_⟩
    · exact (Array.getElem?_eq_some_iff.mp e').1
    obtain ⟨rfl, ch', h1, rfl⟩ := hx
    rw [e'] at h1; cases h1
    exact ⟨W1, le.refl _, o, by simp [Rp]⟩
theorem yldM {W : Wd} {a : Addr} {f i : Nat} {xs : List D} (ha : W.ι f i = some a) : Yld c W ⟨xs, fun m2 => m2.get f i = some (.lst xs)⟩ (Itl c.K a) := fun W1 m1 H1 j l o hck => by
  obtain ⟨b, e1, ⟨vs, e2, e3⟩, _⟩ := o.i _ _ _ hck rfl
  rw [l.i _ _ _ ha] at e1; cases e1
  refine ⟨fun d hd => ?_, fun hi => ⟨vs, SqL.of e2, by rw [← e3.length]; exact Nat.le_of_eq hi⟩⟩
  have hd : xs[j]? = some d := hd
  obtain ⟨v, hv, rv⟩ := e3.get hd
  refine ⟨⟨vs, v, SqL.of e2, hv⟩, fun x H2 hx => ?_⟩
  obtain ⟨rfl, hx⟩ := hx
  have e := hx vs (SqL.of e2)
  rw [hv] at e; cases e
  exact ⟨W1, le.refl _, o, rv⟩
theorem pid_any (he : PE X e (tD c E f)) (hK : c.K = X.K := by rfl) : PI X tg e (tI c E (dWalk f)) :=
  PI.weak (pi_any he) fun σ H R ⟨W, ρ, m, o, s, q⟩ => by
    refine ⟨W, ρ, m, o, s, Pst.imp (Pst.bind (RA := Rp c) q) fun x H1 ⟨W1, d, m1, l1, o1, r1, p1⟩ => ?_⟩
    cases d with
    | str z =>
      simp only [Rp] at r1; subst r1
      exact .inr (.inr ⟨z, rfl, p1 W1 H1 _ (le.refl _) o1 yldS⟩)
    | loc f i =>
      dsimp only at p1
      split at p1
      · rename_i xs hg
        have r0 := r1
        simp only [Rp] at r1
        obtain ⟨a, rfl, ha⟩ := r1
        obtain ⟨b, e1, ⟨vs, e2, e3⟩, _⟩ := o1.i _ _ _ hg rfl
        rw [ha] at e1; cases e1
        refine .inl ⟨a, rfl, ⟨vs, SqL.of e2⟩, hK ▸ p1 W1 H1 (Itl c.K a) (le.refl _) o1 (yldM ha)⟩
      · exact p1.elim
    | tup xs =>
      simp only [Rp] at r1
      obtain ⟨a, vs, rfl, q1, q2⟩ := r1
      refine .inr (.inl ⟨a, rfl, ⟨vs, hK ▸ (q1.mono o1.g).sq⟩, hK ▸ p1 W1 H1 (Itt c.K a) (le.refl _) o1 (yldT (fun W2 m2 H2 l2 o2 => ((q1.mono l2.g).mono o2.g).sq) q2)⟩)
    | lst xs =>
      simp only [Rp] at r1
      obtain ⟨a, vs, rfl, q1, q2⟩ := r1
      refine .inl ⟨a, rfl, ⟨vs, SqL.of (o1.g _ _ q1)⟩, hK ▸ p1 W1 H1 (Itl c.K a) (le.refl _) o1 (yldL (fun W2 m2 H2 l2 o2 => SqL.of (o2.g _ _ (l2.g _ _ q1))) q2)⟩
    | scr xs =>
      simp only [Rp] at r1
      obtain ⟨a, rfl, q1⟩ := r1
      have r2 : Rps c W1 (xs.map D.int) (xs.map V.int) := Rps.of (by simp) fun i d v h1 h2 => by
        rw [List.getElem?_map] at h1 h2
        cases e : xs[i]? with
        | none => rw [e] at h1; cases h1
        | some x => rw [e] at h1 h2; cases h1; cases h2; simp [Rp]
      refine .inl ⟨a, rfl, ⟨xs.map V.int, hK ▸ (SqL.mono o1.g q1)⟩, hK ▸ p1 W1 H1 (Itl c.K a) (le.refl _) o1 (yldL (fun W2 m2 H2 l2 o2 => SqL.mono o2.g (SqL.mono l2.g q1)) r2)⟩
    | _ => exact p1.elim
theorem pid_rng1 (hm : X.mg "range" = none) (he : PE X e (tD c E f)) (hg : Gl X "range" := by rfl) (hs : starEach [e] X.env = [(false, eval e X.env)] := by rfl) : PI X tg (.Call (.Name "range" p) [e] [] pos) (tI c E (dRng1 f)) :=
  PI.weak (pi_range1 hg hm (pad_cons (es := []) he pad_nil hs) hs) fun σ H R ⟨W, ρ, m, o, s, q⟩ => by
    refine ⟨W, ρ, m, o, s, ?_⟩
    have q : Pst c E (Yld c) ((f ρ m).bind fun d m1 => match d with
      | .int n => if n < 2 ^ 62 ∧ -(2 ^ 62) ≤ n then .ok (.of ((List.range n.toNat).map fun (i : Nat) => D.int (i : Int))) m1 else .stuck
      | _ => .stuck) W R := q
    show Pst c E (Rps c) ((f ρ m).bind fun d m1 => (Rs.ok [] m1).bind fun ds m2 => Rs.ok (d :: ds) m2) W _
    cases h : f ρ m with
    | stuck => rw [h] at q; exact q
    | err e m1 => rw [h] at q; exact q
    | ok d m1 =>
      rw [h] at q
      simp only [Rs.bind_ok] at q ⊢
      intro W1 H1 xs l1 o1 r1
      obtain ⟨v, rfl, r2⟩ := rps1 r1
      clear r1
      split at q
      · rename_i _ n
        simp only [Rp] at r2; subst r2
        split at q
        · rename_i hn
          refine ⟨n, rfl, hn.2, hn.1, q W1 H1 (Itr 0 n.toNat) l1 o1 ?_⟩
          have := yldR (c := c) (W := W1) (lo := 0) (n := n.toNat)
          simpa using this
        · exact q.elim
      · exact q.elim
theorem pid_rng2 (hm : X.mg "range" = none) (he : PE X e (tD c E f)) (he2 : PE X e2 (tD c E g)) (hg : Gl X "range" := by rfl) (hs : starEach [e, e2] X.env = [(false, eval e X.env), (false, eval e2 X.env)] := by rfl) (hs2 : starEach [e2] X.env = [(false, eval e2 X.env)] := by rfl) :
    PI X tg (.Call (.Name "range" p) [e, e2] [] pos) (tI c E (dRng2 f g)) :=
  PI.weak (pi_range2 hg hm (pad_cons (es := [e2]) he (pad_cons (es := []) he2 pad_nil hs2) (by rw [hs, hs2])) hs hs2) fun σ H R ⟨W, ρ, m, o, s, q⟩ => by
    refine ⟨W, ρ, m, o, s, ?_⟩
    have q : Pst c E (Yld c) ((f ρ m).bind fun d m1 => (g ρ m1).bind fun e m2 => match d, e with
      | .int a, .int b => if (-(2 ^ 62) ≤ a ∧ a < 2 ^ 62) ∧ (-(2 ^ 62) ≤ b ∧ b < 2 ^ 62) then .ok (.of ((List.range (b - a).toNat).map fun (i : Nat) => D.int (a + (i : Int)))) m2 else .stuck
      | _, _ => .stuck) W R := q
    show Pst c E (Rps c) ((f ρ m).bind fun d m1 => ((g ρ m1).bind fun d2 m3 => (Rs.ok [] m3).bind fun ds m2 => Rs.ok (d2 :: ds) m2).bind fun ds m2 => Rs.ok (d :: ds) m2) W _
    simp only [Rs.bind_ok, Rs.bind_assoc]
    cases h : f ρ m with
    | stuck => rw [h] at q; exact q
    | err e m1 => rw [h] at q; exact q
    | ok d m1 =>
      rw [h] at q
      simp only [Rs.bind_ok] at q ⊢
      cases h2 : g ρ m1 with
      | stuck => rw [h2] at q; exact q
      | err e m1 => rw [h2] at q; exact q
      | ok d2 m2 =>
        rw [h2] at q
        simp only [Rs.bind_ok] at q ⊢
        intro W1 H1 xs l1 o1 r1
        obtain ⟨v, u, rfl, r3, r2⟩ := rps2 r1
        clear r1
        split at q
        · rename_i d1 e1 a b
          simp only [Rp] at r3 r2; subst r3; subst r2
          split at q
          · rename_i hn
            exact ⟨a, b, rfl, ⟨hn.1.1, hn.1.2, hn.2.1, hn.2.2⟩, q W1 H1 (Itr a (b - a).toNat) l1 o1 yldR⟩
          · exact q.elim
        · exact q.elim
end
end LN
namespace LN
open PySem L2 PySem.Spec PyProof.Rows

/-! ### dicts with int and text keys -/
def keyD : D → Option L2.Key
  | .int i => some (.inl i)
  | .str s => some (.inr s)
  | _ => none
def dKey : L2.Key → D
  | .inl i => .int i
  | .inr s => .str s
theorem keyD_ok {c : Ct} {W : Wd} {d : D} {k : L2.Key} {v : V} (h : keyD d = some k) (r : Rp c W d v) : v = kV k := by
  cases d <;> simp only [keyD, Option.some.injEq, reduceCtorEq] at h <;> subst h <;> simp only [Rp] at r <;> subst r <;> rfl
theorem dKey_ok {c : Ct} {W : Wd} (k : L2.Key) : Rp c W (dKey k) (kV k) := by
  cases k <;> simp [dKey, kV, Rp]
def lookD {κ : Type} [DecidableEq κ] : List κ → List D → κ → Option D
  | k :: ks, x :: xs, j => if k = j then some x else lookD ks xs j
  | _, _, _ => none
def putD {κ : Type} [DecidableEq κ] : List κ → List D → κ → D → List κ × List D
  | k :: ks, x :: xs, j, y => if k = j then (k :: ks, y :: xs) else ((k :: (putD ks xs j y).1), (x :: (putD ks xs j y).2))
  | _, _, j, y => ([j], [y])
section
variable {κ : Type} [DecidableEq κ] {c : Ct} {W : Wd}
theorem lookD_ok : ∀ {ks : List κ} {xs : List D} {vs : List V} (k : κ), Rps c W xs vs → ks.length = vs.length →
    (∀ d, lookD ks xs k = some d → ∃ v, valV (ks.zip vs) k = some v ∧ Rp c W d v) ∧ (lookD ks xs k = none → valV (ks.zip vs) k = none)
  | [], [], [], k, r, l => ⟨fun d h => by simp [lookD] at h, fun _ => rfl⟩
  | j :: ks, x :: xs, v :: vs, k, r, l => by
    simp only [Rps] at r
    obtain ⟨v', r', e, r1, r2⟩ := r
    cases e
    have ih := lookD_ok (ks := ks) k r2 (by simpa using l)
    simp only [lookD, List.zip_cons_cons]
    by_cases e : j = k
    · rw [if_pos e, valV_pos (p := (j, v)) e]
      exact ⟨fun d h => by cases h; exact ⟨v, rfl, r1⟩, fun h => by cases h⟩
    · rw [if_neg e, valV_neg (p := (j, v)) e]
      exact ih
  | [], _ :: _, [], _, r, _ => by simp [Rps] at r
  | [], [], _ :: _, _, r, _ => by simp [Rps] at r
  | _ :: _, [], [], _, _, l => by simp at l
  | _ :: _, [], _ :: _, _, r, _ => by simp [Rps] at r
  | _ :: _, _ :: _, [], _, r, _ => by simp [Rps] at r
  | [], _ :: _, _ :: _, _, _, l => by simp at l
theorem putK_cons {p : κ × V} {kvs : List (κ × V)} {k : κ} {v : V} (e : ¬ p.1 = k) : putK (p :: kvs) k v = p :: putK kvs k v := by
  unfold putK
  simp only [List.any_cons, decide_eq_false e, Bool.false_or, List.map_cons, if_neg e]
  split <;> rfl
theorem putK_hit {p : κ × V} {kvs : List (κ × V)} {k : κ} {v : V} (e : p.1 = k) (h : ∀ q ∈ kvs, q.1 ≠ k) : putK (p :: kvs) k v = (p.1, v) :: kvs := by
  unfold putK
  simp only [List.any_cons, decide_eq_true e, Bool.true_or, if_true, List.map_cons, if_pos e]
  congr 1
  calc kvs.map _ = kvs.map id := List.map_congr_left fun q hq => if_neg (h q hq)
    _ = kvs := List.map_id _
theorem putD_ok : ∀ {ks : List κ} {xs : List D} {vs : List V} (k : κ) {y : D} {u : V}, ks.Nodup → Rps c W xs vs → ks.length = vs.length → Rp c W y u →
    ∃ vs', putK (ks.zip vs) k u = (putD ks xs k y).1.zip vs' ∧ (putD ks xs k y).1.length = vs'.length ∧ Rps c W (putD ks xs k y).2 vs'
  | [], [], [], k, y, u, _, r, l, ru => ⟨[u], rfl, rfl, Rps.one ru⟩
  | j :: ks, x :: xs, v :: vs, k, y, u, nd, r, l, ru => by
    simp only [Rps] at r
    obtain ⟨v', r', e, r1, r2⟩ := r
    cases e
    have l' : ks.length = vs.length := by simpa using l
    simp only [putD, List.zip_cons_cons]
    by_cases e : j = k
    · rw [if_pos e]
      refine ⟨u :: vs, ?_, by simpa using l', Rps.cons ru r2⟩
      rw [putK_hit (p := (j, v)) e]
      · rfl
      · intro q hq z
        have := (List.of_mem_zip (show (q.1, q.2) ∈ ks.zip vs from hq)).1
        rw [z, ← e] at this
        exact (List.nodup_cons.mp nd).1 this
    · rw [if_neg e]
      obtain ⟨vs', h1, h2, h3⟩ := putD_ok (ks := ks) k (List.nodup_cons.mp nd).2 r2 l' ru
      exact ⟨v :: vs', by rw [putK_cons (p := (j, v)) e, h1]; rfl, by simpa using h2, Rps.cons r1 h3⟩
  | [], _ :: _, [], _, _, _, _, r, _, _ => by simp [Rps] at r
  | [], [], _ :: _, _, _, _, _, r, _, _ => by simp [Rps] at r
  | _ :: _, [], [], _, _, _, _, _, l, _ => by simp at l
  | _ :: _, [], _ :: _, _, _, _, _, r, _, _ => by simp [Rps] at r
  | _ :: _, _ :: _, [], _, _, _, _, r, _, _ => by simp [Rps] at r
  | [], _ :: _, _ :: _, _, _, _, _, _, l, _ => by simp at l
end
/-- a dict's keys and values -/
def vwK (m : Mem) : D → Option (List L2.Key × List D)
  | .dk ks xs => some (ks, xs)
  | .loc f i => match m.get f i with
    | some (.dk ks xs) => some (ks, xs)
    | _ => none
  | _ => none
theorem vwK_ok {c : Ct} {W : Wd} {m : Mem} {H : Hp} (o : Ok c W m H) {d : D} {v : V} {ks : List L2.Key} {xs : List D} (h : vwK m d = some (ks, xs)) (r : Rp c W d v) : ∃ a vs, v = .ref a ∧ H a = some (.dK (ks.zip vs)) ∧ ks.length = vs.length ∧ Rps c W xs vs := by
  cases d with
  | dk js ys =>
    simp only [vwK, Option.some.injEq, Prod.mk.injEq] at h
    obtain ⟨rfl, rfl⟩ := h
    simp only [Rp] at r
    obtain ⟨a, vs, e, q, l, r⟩ := r
    exact ⟨a, vs, e, o.g _ _ q, l, r⟩
  | loc f i =>
    simp only [vwK] at h
    split at h
    · rename_i js ys hg
      simp only [Option.some.injEq, Prod.mk.injEq] at h
      obtain ⟨rfl, rfl⟩ := h
      simp only [Rp] at r
      obtain ⟨a, e, q⟩ := r
      obtain ⟨b, e1, ⟨vs, e2, e3, e4⟩, _⟩ := o.i _ _ _ hg rfl
      rw [q] at e1; cases e1
      exact ⟨a, vs, e, e2, e3, e4⟩
    · cases h
  | _ => cases h
def dDict : Ev := fun _ m => newObj (.dk [] []) m
def gIxA (d i : D) (m : Mem) : Rs D := match vwK m d with
  | some (ks, xs) => match keyD i with
    | some k => match lookD ks xs k with
      | some x => .ok x m
      | none => .stuck
    | none => .stuck
  | none => gIx d i m
def gInK (neg : Bool) (y d : D) (m : Mem) : Rs D := match vwK m d, keyD y with
  | some (ks, xs), some k => .ok (.bl (neg ^^ (lookD ks xs k).isSome)) m
  | _, _ => .stuck
section
variable {X : Cx} {c : Ct} {E : XK} {pos p2 : Pos} {a b e : Expr} {fa fb : Ev} {fin : List D → Mem → Rs D}
theorem pd_dict : PE X (.Dict [] [] pos) (tD c E dDict) :=
  PE.weak pe_dnewK fun σ H Q ⟨W, ρ, m, o, s, p⟩ => fun a ha => by
    unfold dDict newObj at p
    split at p
    · rename_i h
      obtain ⟨W', l, o', r'⟩ := o.alloc (o := .dk [] []) (u := .dK []) (fun z => h.1 (by rw [z]; rfl)) ha h.2 ⟨[], upd_same, rfl, Rps.nil⟩
      exact p _ _ _ l o' r'
    · exact p.elim
theorem dget_of {W : Wd} {m : Mem} {H : Hp} (o : Ok c W m H) {d i : D} {x y : V} {ks : List L2.Key} {xs : List D} {k : L2.Key} (h : vwK m d = some (ks, xs)) (hk : keyD i = some k) (rx : Rp c W d x) (ry : Rp c W i y) :
    ∃ a, x = .ref a ∧ (∀ z, lookD ks xs k = some z → ∃ v, DGet H a y (some v) ∧ Rp c W z v) ∧ (lookD ks xs k = none → DGet H a y none) := by
  obtain ⟨a, vs, rfl, q, l, r⟩ := vwK_ok o h rx
  have hl := lookD_ok k r l
  refine ⟨a, rfl, fun z hz => ?_, fun hz => .inl ⟨_, k, .inl q, keyD_ok hk ry, (hl.2 hz).symm⟩⟩
  obtain ⟨v, h1, h2⟩ := hl.1 z hz
  exact ⟨v, .inl ⟨_, k, .inl q, keyD_ok hk ry, h1.symm⟩, h2⟩
def rIxD : R2 := fun x y H Q => ∃ a v, x = .ref a ∧ DGet H a y (some v) ∧ Q v H
theorem ix_dict (hu : X.A.units + 1 < cLine) : IxR X rIxD := fun value slice pins s σ H x y v u Q I rx ry ⟨a, v', ex, g, q⟩ hs => by
  subst ex
  obtain rfl : v = Value.ref a := rx
  exact tail_any (dict_typeIs I g) PySem.F.slot_dict_getitem.lookup (d_getItem hu I g ry fun w' s3 I3 rw' => ⟨v', H, I3, rw', q⟩) hs
def rIxAll (K : PySem.W.Frag) : R2 := fun x y H Q => rIxD x y H Q ∨ rIx K x y H Q
theorem ix_all (hu : X.A.units + 1 < cLine) : IxR X (rIxAll X.K) := IxR.or (ix_dict hu) ix_seq
theorem os_ixA (hK : c.K = X.K := by rfl) : OpS c E (rIxAll X.K) gIxA := fun W m H x y dx dy Q o rx ry p => by
  unfold gIxA at p
  split at p
  · rename_i ks xs h
    split at p
    · rename_i k hk
      obtain ⟨a, ex, h1, _⟩ := dget_of o h hk rx ry
      split at p
      · rename_i z hz
        obtain ⟨v, g, rv⟩ := h1 z hz
        exact .inl ⟨a, v, ex, g, p W H v (le.refl _) o rv⟩
      · exact p.elim
    · exact p.elim
  · exact .inr (os_ix (X := X) hK W m H x y dx dy Q o rx ry p)
/-- a[b], over lists, tuples, texts and dicts -/
theorem pd_ixA (hu : X.A.units + 1 < cLine) (ha : PE X a (tD c E fa)) (hb : PE X b (tD c E fb)) (hK : c.K = X.K := by rfl) (hp : PlainIx b := by exact fun _ _ => rfl) : PE X (.Subscript a b pos) (tD c E (dOp gIxA fa fb)) :=
  PE.weak (pe_ix (ix_all hu) ha hb hp) (tOp_of (os_ixA (X := X) hK))
def rInKD (neg : Bool) : R2 := fun y x H Q => ∃ a o, x = .ref a ∧ DGet H a y o ∧ Q (.bl (neg ^^ o.isSome)) H
theorem os_inK {neg : Bool} : OpS c E (rInKD neg) (gInK neg) := fun W m H y x dy dx Q o ry rx p => by
  unfold gInK at p
  split at p
  · rename_i ks xs k h hk
    obtain ⟨a, ex, h1, h2⟩ := dget_of o h hk rx ry
    cases hz : lookD ks xs k with
    | some z =>
      obtain ⟨v, g, rv⟩ := h1 z hz
      rw [hz] at p
      exact ⟨a, _, ex, g, p W H _ (le.refl _) o (by simp [Rp])⟩
    | none =>
      rw [hz] at p
      exact ⟨a, _, ex, h2 hz, p W H _ (le.refl _) o (by simp [Rp])⟩
  · exact p.elim
theorem pd_inK (hu : X.A.units + 1 < cLine) (ha : PE X a (tD c E fa)) (hb : PE X b (tD c E fb)) (hm : behindInMarks .In b = false := by rfl) : PE X (.Compare a [.In] [b] pos) (tD c E (dOp (gInK false) fa fb)) :=
  PE.weak (pe_cmp (pc_din hu ha hb) hm) fun σ H Q h => by
    have := tOp_of (os_inK (c := c) (E := E) (neg := false)) (fa := fa) (fb := fb) σ H Q h
    simpa [tOp, tDIn, rInKD] using this
theorem ptd_inK (hu : X.A.units + 1 < cLine) (ha : PE X a (tD c E fa)) (hb : PE X b (tD c E fb)) (hm : behindInMarks .In b = false := by rfl) : PT X (.Compare a [.In] [b] pos) (tT c E (dTst (dOp (gInK false) fa fb))) :=
  PT.weak (pt_cmp (pc_din hu ha hb) hm) (tTest_of fun σ H Q h => by
    have := tOp_of (os_inK (c := c) (E := E) (neg := false)) (fa := fa) (fb := fb) σ H Q h
    simpa [tOp, tDIn, rInKD] using this)
theorem pd_ninK (hu : X.A.units + 1 < cLine) (ha : PE X a (tD c E fa)) (hb : PE X b (tD c E fb)) (hm : behindInMarks .NotIn b = false := by rfl) : PE X (.Compare a [.NotIn] [b] pos) (tD c E (dOp (gInK true) fa fb)) :=
  PE.weak (pe_cmp (pc_dnotin hu ha hb) hm) fun σ H Q h => by
    have := tOp_of (os_inK (c := c) (E := E) (neg := true)) (fa := fa) (fb := fb) σ H Q h
    simpa [tOp, tDNotIn, rInKD] using this
theorem ptd_ninK (hu : X.A.units + 1 < cLine) (ha : PE X a (tD c E fa)) (hb : PE X b (tD c E fb)) (hm : behindInMarks .NotIn b = false := by rfl) : PT X (.Compare a [.NotIn] [b] pos) (tT c E (dTst (dOp (gInK true) fa fb))) :=
  PT.weak (pt_cmp (pc_dnotin hu ha hb) hm) (tTest_of fun σ H Q h => by
    have := tOp_of (os_inK (c := c) (E := E) (neg := true)) (fa := fa) (fb := fb) σ H Q h
    simpa [tOp, tDNotIn, rInKD] using this)

/-! ### stores by place and key -/
def gSet (d i z : D) (m : Mem) : Rs Unit := match d with
  | .loc f n => if D.lt (f + 1) z = true then (match m.get f n with
    | some (.lst xs) => match i with
      | .int k => match ixN xs.length k with
        | some j => .ok () (m.put f n (.lst (xs.set j z)))
        | none => .stuck
      | _ => .stuck
    | some (.dk ks xs) => match keyD i with
      | some k => if ks.Nodup ∧ ks.length < 16777216 then .ok () (m.put f n (.dk (putD ks xs k z).1 (putD ks xs k z).2)) else .stuck
      | none => .stuck
    | _ => .stuck) else .stuck
  | _ => .stuck
def rSetAll : TSet := fun o i v H Q => rSetL o i v H Q ∨ rSetD o i v H Q
theorem set_all (hu : X.A.units + 1 < cLine) : PSet X rSetAll := fun pins s σ H o i v ov iv u Q I ro ri rv h => by
  rcases h with h | h
  · exact set_list pins s σ H o i v ov iv u Q I ro ri rv h
  · exact set_dict hu pins s σ H o i v ov iv u Q I ro ri rv h
theorem D.lts_set {n : Nat} {xs : List D} {j : Nat} {z : D} (h : D.lts n xs = true) (hz : D.lt n z = true) : D.lts n (xs.set j z) = true := by
  rw [D.lts_iff] at h ⊢
  intro d hd
  rcases List.mem_or_eq_of_mem_set hd with q | q
  · exact h d q
  · rw [q]; exact hz
theorem D.lts_app {n : Nat} {xs ys : List D} (h : D.lts n xs = true) (k : D.lts n ys = true) : D.lts n (xs ++ ys) = true := by
  rw [D.lts_iff] at h k ⊢
  intro d hd
  rcases List.mem_append.mp hd with q | q
  · exact h d q
  · exact k d q
theorem D.lts_put {κ : Type} [DecidableEq κ] {n : Nat} {z : D} (hz : D.lt n z = true) : ∀ {ks : List κ} {xs : List D} {k : κ}, D.lts n xs = true → D.lts n (putD ks xs k z).2 = true
  | [], [], _, _ => by simp [putD, D.lts, hz]
  | [], _ :: _, _, _ => by simp [putD, D.lts, hz]
  | _ :: _, [], _, _ => by simp [putD, D.lts, hz]
  | j :: ks, x :: xs, k, h => by
    simp only [D.lts, Bool.and_eq_true] at h
    simp only [putD]
    by_cases e : j = k
    · rw [if_pos e]; simp [D.lts, hz, h.2]
    · rw [if_neg e]; simp [D.lts, h.1, D.lts_put hz h.2]
theorem ss_set : SetS c E rSetAll gSet := fun W m H x y z dx dy dz Q o rx ry rz p => by
  unfold gSet at p
  split at p
  · rename_i f n
    split at p
    · rename_i hl
      simp only [Rp] at rx
      obtain ⟨a, rfl, ha⟩ := rx
      split at p
      · rename_i xs hg
        split at p
        · rename_i k
          simp only [Rp] at ry; subst ry
          split at p
          · rename_i j hj
            obtain ⟨b, e1, ⟨vs, e2, e3⟩, _⟩ := o.i _ _ _ hg rfl
            rw [ha] at e1; cases e1
            refine .inl ⟨a, vs, k, j, rfl, rfl, e2, by rw [← e3.length]; exact hj, ?_⟩
            exact p W _ () (le.refl _) (o.write (u := .lst (vs.set j z)) hg rfl ha rfl (D.lts_set (o.lt _ _ _ hg) hl) ⟨_, upd_same, e3.set rz j⟩) trivial
          · exact p.elim
        · exact p.elim
      · rename_i ks xs hg
        split at p
        · rename_i k hk
          split at p
          · rename_i hn
            obtain ⟨b, e1, ⟨vs, e2, e3, e4⟩, _⟩ := o.i _ _ _ hg rfl
            rw [ha] at e1; cases e1
            obtain ⟨vs', h1, h2, h3⟩ := putD_ok k hn.1 e4 e3 rz
            refine .inr ⟨a, _, rfl, .inl ⟨_, k, e2, keyD_ok hk ry, ?_, rfl⟩, ?_⟩
            · rw [List.length_zip, ← e3, Nat.min_self]
              have := hn.2
              rw [sizeLine_eq]; omega
            · rw [h1]
              exact p W _ () (le.refl _) (o.write (u := .dK ((putD ks xs k dz).1.zip vs')) hg rfl ha rfl (D.lts_put hl (o.lt _ _ _ hg)) ⟨vs', upd_same, h2, h3⟩) trivial
          · exact p.elim
        · exact p.elim
      · exact p.elim
    · exact p.elim
  · exact p.elim
/-- o[i] op= e over a list -/
def gIxL (d i : D) (m : Mem) : Rs D := match vwL m d, i with
  | some xs, .int k => match atI xs k with
    | some x => .ok x m
    | none => .stuck
  | _, _ => .stuck
theorem os_ixL : OpS c E (rIxL X.K) gIxL := fun W m H x y dx dy Q o rx ry p => by
  unfold gIxL at p
  split at p
  · rename_i xs k h
    simp only [Rp] at ry; subst ry
    obtain ⟨a, vs, rfl, q1, q2⟩ := vwL_ok o h rx
    split at p
    · rename_i d hd
      obtain ⟨v, h1, h2⟩ := q2.atI hd
      exact ⟨a, vs, _, v, rfl, rfl, SqL.of q1, h1, p W H v (le.refl _) o h2⟩
    · exact p.elim
  · exact p.elim
def sAugS (fo fi fe : Ev) (g : D → D → Mem → Rs D) : Bd := fun ρ m => (fo ρ m).bind fun d0 m1 => (fi ρ m1).bind fun di m2 => (gIxL d0 di m2).bind fun x m3 => (fe ρ m3).bind fun y m4 => (g x y m4).bind fun z m5 => (gSet d0 di z m5).bind fun _ m6 => .ok (.nx ρ) m6
theorem get_list : PGet X (rIxL X.K) := fun pins s σ H o i v u Q I rx ry h => by
  obtain ⟨p, xs, i, z, rfl, rfl, hq, he, q⟩ := h
  cases rx
  obtain ⟨t, rfl⟩ := ry
  obtain ⟨its, r, pl, hz⟩ := I.list hq
  obtain ⟨j, h1, h2, h3, h4, h5⟩ := atI_get he
  obtain ⟨w, ew, rw'⟩ := r.get h2
  have hl := r.length
  have hn := line63
  have fin : EP X pins σ Q w s := ⟨z, H, I, rw', q⟩
  by_cases h0 : 0 ≤ i
  · have hj : i.toNat = j := by
      rw [seqIndex_of h0 h5] at h1
      exact Option.some.inj h1
    exact wpAny_getItem_list pl.isList h0 (by omega) (by rw [hj]; simpa using ew) fin
  · have hj : (i + (its.toArray.size : Int)).toNat = j := by
      rw [seqIndex_neg (by omega) h4] at h1
      rw [List.size_toArray, ← hl]
      exact Option.some.inj h1
    exact wpAny_getItem_list_neg pl.isList (by omega) (by rw [List.size_toArray] <;> omega) (by omega) (by rw [hj]; simpa using ew) fin
theorem psd_augS {o i : Expr} {fo fi fe : Ev} {op : Operator} {r : R2} {g : D → D → Mem → Rs D} {tpos : Pos} (hu : X.A.units + 1 < cLine) (ho : PE X o (tD c E fo)) (hi : PE X i (tD c E fi)) (he : PE X e (tD c E fe)) (hop : OpR X (inplaceOp op) r) (hs : OpS c E r g)
    (ha : ∀ ov iv new, augStore i ov iv new = (do holding [new, ov, iv] (setItem ov iv new); release [new, ov, iv] []; pure .next) := by intros; rfl) : PS X (.AugAssign (.Subscript o i tpos) op e pos) (tS c E (sAugS fo fi fe g)) :=
  PS.weak (ps_augS (tip := r) ho hi get_list he hop (set_all hu) ha) fun Dn σ H ⟨W, ρ, m, o, s, p⟩ => by
    refine ⟨W, ρ, m, o, s, Pst.imp (PstS.bind p) fun x H1 ⟨W1, d0, m1, l1, o1, r1, p1⟩ => ?_⟩
    refine ⟨W1, ρ, m1, o1, s.mono l1, Pst.imp (PstS.bind p1) fun y H2 ⟨W2, di, m2, l2, o2, r2, p2⟩ => ?_⟩
    have s2 := (s.mono l1).mono l2
    have r1' := r1.mono l2 d0
    refine os_ixL (X := X) W2 m2 H2 x y d0 di _ o2 r1' r2 (Pst.imp (PstS.bind p2) fun z H3 ⟨W3, d3, m3, l3, o3, r3, p3⟩ => ?_)
    refine ⟨W3, ρ, m3, o3, s2.mono l3, Pst.imp (PstS.bind p3) fun w H4 ⟨W4, d4, m4, l4, o4, r4, p4⟩ => ?_⟩
    refine hs W4 m4 H4 z w d3 d4 _ o4 (r3.mono l4 d3) r4 (Pst.imp (PstS.bind p4) fun v H5 ⟨W5, d5, m5, l5, o5, r5, p5⟩ => ?_)
    refine ss_set W5 m5 H5 x y v d0 di d5 _ o5 (((r1'.mono l3 d0).mono l4 d0).mono l5 d0) (((r2.mono l3 di).mono l4 di).mono l5 di) r5 (Pst.imp (PstS.bind (RA := fun _ (_ : Unit) (_ : Unit) => True) p5) fun _ H6 ⟨W6, _, m6, l6, o6, _, p6⟩ => ?_)
    exact p6 W6 H6 σ (le.refl _) o6 ((((s2.mono l3).mono l4).mono l5).mono l6)

/-! ### methods of lists -/
def isL (m : Mem) (d : D) : Bool := (vwL m d).isSome
def isS (_ : Mem) : D → Bool
  | .str _ => true
  | _ => false
def dM (ck : Mem → D → Bool) (g : D → List D → Mem → Rs D) (fo : Ev) (fs : EvG (List D)) : Ev := fun ρ m => (fo ρ m).bind fun d0 m1 => if ck m1 d0 = true then (fs ρ m1).bind fun ds m2 => g d0 ds m2 else .stuck
def MtS (c : Ct) (E : XK) (r : V → List V → Hp → VK → Prop) (g : D → List D → Mem → Rs D) : Prop := ∀ (W : Wd) (m : Mem) (H : Hp) (x : V) (xs : List V) (dx : D) (ds : List D) (Q : VK), Ok c W m H → Rp c W dx x → Rps c W ds xs → Pst c E (Rp c) (g dx ds m) W Q → r x xs H Q
def TyS (c : Ct) (K : PySem.W.Frag) (T : String) (ck : Mem → D → Bool) : Prop := ∀ (W : Wd) (m : Mem) (H : Hp) (x : V) (d : D), Ok c W m H → Rp c W d x → ck m d = true → tyV K T x H
theorem ty_list {K : PySem.W.Frag} : TyS c K "list" isL := fun W m H x d o r h => by
  obtain ⟨xs, h⟩ := Option.isSome_iff_exists.mp h
  obtain ⟨a, vs, rfl, q, _⟩ := vwL_ok o h r
  exact .inl ⟨rfl, vs, SqL.of q⟩
theorem ty_str {K : PySem.W.Frag} : TyS c K "str" isS := fun W m H x d o r h => by
  cases d with
  | str s => simp only [Rp] at r; subst r; rfl
  | _ => cases h
section
variable {es : List Expr} {fo : Ev} {fs : EvG (List D)} {name : Str} {apos cpos : Pos} {T id : String} {r : V → List V → Hp → VK → Prop} {ck : Mem → D → Bool} {g : D → List D → Mem → Rs D} {o : Expr}
theorem pd_m (ap : PlainAttrs T) (sl : Slot T name id) (ty : typeOf (Value.builtin id) = pure (Value.type "method_descriptor")) (mt : MtR X id r) (tk : TyS c X.K T ck) (ms : MtS c E r g) (ho : PE X o (tD c E fo)) (ha : PA X (e :: es) (tDs c E fs))
    (h1 : attributeBase o name X.env (eval o X.env) = eval o X.env := by rfl)
    (h2 : ((((backTo cpos (starEach (e :: es) X.env)).all fun x => !x.fst) && (backToKw cpos (keywordEach [] X.env)).all fun x => x.fst.isSome) && decide (((e :: es).length + ([] : List Keyword).length + if ([] : List Keyword).isEmpty = true then 0 else 1) < 30)) = true := by rfl)
    (h3 : (apos.endLine == cpos.line) = true := by rfl) (h4 : starEach (e :: es) X.env = (false, eval e X.env) :: starEach es X.env := by rfl) (h5 : ((backTo cpos (starEach es X.env)).any fun x => x.fst) = false := by rfl) :
    PE X (.Call (.Attribute o name apos) (e :: es) [] cpos) (tD c E (dM ck g fo fs)) :=
  PE.weak (pe_bm ap sl ty mt ho ha h1 h2 h3 h4 h5) fun σ H Q ⟨W, ρ, m, o, s, q⟩ => by
    refine ⟨W, ρ, m, o, s, Pst.imp (Pst.bind q) fun x H1 ⟨W1, d, m1, l1, o1, r1, p1⟩ => ?_⟩
    split at p1
    · rename_i hck
      refine ⟨tk W1 m1 H1 x d o1 r1 hck, W1, ρ, m1, o1, s.mono l1, Pst.imp (Pst.bind p1) fun xs H2 ⟨W2, ds, m2, l2, o2, r2, p2⟩ => ?_⟩
      exact ms W2 m2 H2 x xs d ds Q o2 (r1.mono l2 d) r2 p2
    · exact p1.elim
theorem pd_m0 (ap : PlainAttrs T) (sl : Slot T name id) (ty : typeOf (Value.builtin id) = pure (Value.type "method_descriptor")) (mt : MtR X id r) (tk : TyS c X.K T ck) (ms : MtS c E r g) (ho : PE X o (tD c E fo))
    (h1 : attributeBase o name X.env (eval o X.env) = eval o X.env := by rfl) (h3 : (apos.endLine == cpos.line) = true := by rfl) :
    PE X (.Call (.Attribute o name apos) [] [] cpos) (tD c E (dM ck g fo dNil)) :=
  PE.weak (pe_bm0 ap sl ty mt ho h1 h3) fun σ H Q ⟨W, ρ, m, o, s, q⟩ => by
    refine ⟨W, ρ, m, o, s, Pst.imp (Pst.bind q) fun x H1 ⟨W1, d, m1, l1, o1, r1, p1⟩ => ?_⟩
    split at p1
    · rename_i hck
      exact ⟨tk W1 m1 H1 x d o1 r1 hck, ms W1 m1 H1 x [] d [] Q o1 r1 Rps.nil p1⟩
    · exact p1.elim
end
/-- a list that is changed: from its items and the arguments its new items and the answer -/
def gChg (h : List D → List D → Option (List D × D)) (d : D) (ds : List D) (m : Mem) : Rs D := match d with
  | .loc f n => match m.get f n with
    | some (.lst xs) => match h xs ds with
      | some (ys, z) => if D.lts (f + 1) ys = true ∧ lineOk ys.length = true then .ok z (m.put f n (.lst ys)) else .stuck
      | none => .stuck
    | _ => .stuck
  | _ => .stuck
theorem Ok.chg {W : Wd} {m : Mem} {H : Hp} (o : Ok c W m H) {f n : Nat} {xs ys : List D} {us : List V} {a : Addr} (hg : m.get f n = some (.lst xs)) (ha : W.ι f n = some a) (hl : D.lts (f + 1) ys = true) (r : Rps c W ys us) :
    Ok c W (m.put f n (.lst ys)) (upd H a (.lst us)) := o.write hg rfl ha rfl hl ⟨us, upd_same, r⟩
def hApp (xs ds : List D) : Option (List D × D) := match ds with
  | [d] => some (xs ++ [d], .non)
  | _ => none
def hRev (xs ds : List D) : Option (List D × D) := match ds with
  | [] => some (xs.reverse, .non)
  | _ => none
def hClr (_ ds : List D) : Option (List D × D) := match ds with
  | [] => some ([], .non)
  | _ => none
def hPop (xs ds : List D) : Option (List D × D) := match ds with
  | [] => match xs[xs.length - 1]? with
    | some x => some (xs.dropLast, x)
    | none => none
  | [.int i] => match ixN xs.length i with
    | some k => match xs[k]? with
      | some x => some (xs.eraseIdx k, x)
      | none => none
    | none => none
  | _ => none
theorem ms_app : MtS c E rAppend (gChg hApp) := fun W m H x us dx ds Q o rx rs p => by
  unfold gChg at p
  split at p
  · rename_i f n
    split at p
    · rename_i xs hg
      split at p
      · rename_i ys z hh
        split at p
        · rename_i hl
          simp only [Rp] at rx
          obtain ⟨a, rfl, ha⟩ := rx
          obtain ⟨b, e1, ⟨vs, e2, e3⟩, _⟩ := o.i _ _ _ hg rfl
          rw [ha] at e1; cases e1
          unfold hApp at hh
          split at hh
          · rename_i d
            cases hh
            obtain ⟨v, rfl, rv⟩ := rps1 rs
            have hz := lineOk_le hl.2
            rw [List.length_append, e3.length] at hz
            exact ⟨a, vs, v, rfl, rfl, e2, hz, p W _ .non (le.refl _) (o.chg hg ha hl.1 (e3.append (Rps.one rv))) (by simp [Rp])⟩
          · cases hh
        · exact p.elim
      · exact p.elim
    · exact p.elim
  · exact p.elim
theorem ms_rev : MtS c E rReverse (gChg hRev) := fun W m H x us dx ds Q o rx rs p => by
  unfold gChg at p
  split at p
  · rename_i f n
    split at p
    · rename_i xs hg
      split at p
      · rename_i ys z hh
        split at p
        · rename_i hl
          simp only [Rp] at rx
          obtain ⟨a, rfl, ha⟩ := rx
          obtain ⟨b, e1, ⟨vs, e2, e3⟩, _⟩ := o.i _ _ _ hg rfl
          rw [ha] at e1; cases e1
          unfold hRev at hh
          split at hh
          · cases hh
            simp only [Rps] at rs; subst rs
            exact ⟨a, vs, rfl, rfl, e2, p W _ .non (le.refl _) (o.chg hg ha hl.1 e3.reverse) (by simp [Rp])⟩
          · cases hh
        · exact p.elim
      · exact p.elim
    · exact p.elim
  · exact p.elim
theorem ms_clr : MtS c E rClear (gChg hClr) := fun W m H x us dx ds Q o rx rs p => by
  unfold gChg at p
  split at p
  · rename_i f n
    split at p
    · rename_i xs hg
      split at p
      · rename_i ys z hh
        split at p
        · rename_i hl
          simp only [Rp] at rx
          obtain ⟨a, rfl, ha⟩ := rx
          obtain ⟨b, e1, ⟨vs, e2, e3⟩, _⟩ := o.i _ _ _ hg rfl
          rw [ha] at e1; cases e1
          unfold hClr at hh
          split at hh
          · cases hh
            simp only [Rps] at rs; subst rs
            exact ⟨a, vs, rfl, rfl, e2, p W _ .non (le.refl _) (o.chg hg ha hl.1 Rps.nil) (by simp [Rp])⟩
          · cases hh
        · exact p.elim
      · exact p.elim
    · exact p.elim
  · exact p.elim
theorem Rps.dropLast {W : Wd} {xs : List D} {vs : List V} (r : Rps c W xs vs) : Rps c W xs.dropLast vs.dropLast := by
  rw [List.dropLast_eq_take, List.dropLast_eq_take, ← r.length]; exact r.take _
theorem Rps.eraseIdx {W : Wd} {xs : List D} {vs : List V} (r : Rps c W xs vs) (k : Nat) : Rps c W (xs.eraseIdx k) (vs.eraseIdx k) := by
  rw [List.eraseIdx_eq_take_drop_succ, List.eraseIdx_eq_take_drop_succ]; exact (r.take _).append (r.drop _)
def rPopAll : V → List V → Hp → VK → Prop := fun x vs H Q => rPop x vs H Q ∨ rPopAt x vs H Q
theorem mt_popAll : MtR X "list.pop" rPopAll := MtR.or mt_pop mt_popAt
theorem ms_pop : MtS c E rPopAll (gChg hPop) := fun W m H x us dx ds Q o rx rs p => by
  unfold gChg at p
  split at p
  · rename_i f n
    split at p
    · rename_i xs hg
      split at p
      · rename_i ys z hh
        split at p
        · rename_i hl
          simp only [Rp] at rx
          obtain ⟨a, rfl, ha⟩ := rx
          obtain ⟨b, e1, ⟨vs, e2, e3⟩, _⟩ := o.i _ _ _ hg rfl
          rw [ha] at e1; cases e1
          unfold hPop at hh
          split at hh
          · split at hh
            · rename_i y hy
              cases hh
              simp only [Rps] at rs; subst rs
              obtain ⟨v, h1, h2⟩ := e3.get hy
              rw [e3.length] at h1
              exact .inl ⟨a, vs, v, rfl, rfl, e2, h1, p W _ v (le.refl _) (o.chg hg ha hl.1 e3.dropLast) h2⟩
            · cases hh
          · rename_i i
            split at hh
            · rename_i k hk
              split at hh
              · rename_i y hy
                cases hh
                obtain ⟨v0, rfl, rv⟩ := rps1 rs
                simp only [Rp] at rv; subst rv
                obtain ⟨v, h1, h2⟩ := e3.get hy
                obtain ⟨q1, q2, q3, q4⟩ := ixN_seq hk
                have hz : xs.length ≤ sizeLine + 1 := by
                  have := lineOk_le hl.2
                  rw [List.length_eraseIdx] at this
                  split at this <;> omega
                rw [sizeLine_eq] at hz
                rw [e3.length] at q1
                exact .inr ⟨a, vs, i, k, v, rfl, rfl, e2, by omega, by omega, q1, h1, p W _ v (le.refl _) (o.chg hg ha hl.1 (e3.eraseIdx k)) h2⟩
              · cases hh
            · cases hh
          · cases hh
        · exact p.elim
      · exact p.elim
    · exact p.elim
  · exact p.elim
end
end LN
namespace LN
open PySem L2 PySem.Spec PyProof.Rows

/-! ### what a def makes and hands out to be changed -/
section
variable {c : Ct} {W : Wd} {m : Mem} {H : Hp} {n : Nat}
theorem Ok.kill (k : Ok c W m H) {f i : Nat} {o0 : MO} (h0 : m.get f i = some o0) : Ok c W (m.put f i .dead) H := by
  have gp := fun f' i' => Mem.get_put (o := .dead) h0 f' i'
  refine ⟨k.g, k.l, k.gl, fun f' i' o' h1 h2 => ?_, fun f1 i1 f2 i2 o1 o2 b h1 a1 h2 a2 q1 q2 => ?_, fun f' i' b h => ?_, fun f' i' o' h => ?_, k.ll, k.tb, k.nt⟩
  · rw [gp] at h1
    by_cases e : f' = f ∧ i' = i
    · rw [if_pos e] at h1; cases h1; cases h2
    · rw [if_neg e] at h1; exact k.i f' i' o' h1 h2
  · rw [gp] at h1 h2
    by_cases c1 : f1 = f ∧ i1 = i
    · rw [if_pos c1] at h1; cases h1; cases a1
    · by_cases c2 : f2 = f ∧ i2 = i
      · rw [if_pos c2] at h2; cases h2; cases a2
      · rw [if_neg c1] at h1; rw [if_neg c2] at h2
        exact k.inj _ _ _ _ _ _ _ h1 a1 h2 a2 q1 q2
  · rw [gp]
    by_cases e : f' = f ∧ i' = i
    · rw [if_pos e]; exact ⟨_, rfl⟩
    · rw [if_neg e]; exact k.rng _ _ _ h
  · rw [gp] at h
    by_cases e : f' = f ∧ i' = i
    · rw [if_pos e] at h; cases h; rfl
    · rw [if_neg e] at h; exact k.lt _ _ _ h
/-- an untracked place is looked away from -/
theorem Ok.away (k : Ok c W m H) {a : Addr} (hg : W.G a = none) (hl : W.L a = none) (ne : ∀ f i o, m.get f i = some o → o.alive = true → W.ι f i ≠ some a) (nd : ∀ o, H a = some o → Dat o) : Ok c W m (rm H a) := by
  refine ⟨fun b o h => ?_, fun b o h => ?_, k.gl, fun f i o h1 h2 => ?_, k.inj, k.rng, k.lt, k.ll, tabs_rm k.tb nd, k.nt⟩
  · rw [rm_ne (ne_of_none h hg)]; exact k.g b o h
  · rw [rm_ne (ne_of_none h hl)]; exact k.l b o h
  · obtain ⟨b, e1, e2, e3, e4⟩ := k.i f i o h1 h2
    have nb : b ≠ a := by
      rintro rfl
      exact ne f i o h1 h2 e1
    exact ⟨b, e1, e2.mono (le.refl W) fun v h => by rw [rm_ne nb]; exact h, e3, e4⟩
theorem Ok.adopt (k : Ok c W m H) {a : Addr} {o : MO} {u : HO} (hm : m ≠ []) (hu : H a = some u) (hg : W.G a = none) (hl : W.L a = none) (ne : ∀ f i o, m.get f i = some o → o.alive = true → W.ι f i ≠ some a)
    (ol : o.lt m.length = true) (r : MoR c W H a o) (ou : o.lkd = false) (oa : o.alive = true) : ∃ W', le W W' ∧ Ok c W' (m.new o) H ∧ Rp c W' m.nx (.ref a) := by
  have e : upd (rm H a) a u = H := by
    funext b
    by_cases e : b = a
    · subst e; rw [upd_same, hu]
    · rw [upd_ne e, rm_ne e]
  obtain ⟨W', l, o', r'⟩ := (k.away hg hl ne (r.datAt oa)).alloc (p := a) (u := u) (o := o) hm rm_same ol (by rw [e]; exact r) ou
  rw [e] at o'
  exact ⟨W', l, o', r'⟩
end
def MO.map (h : D → D) : MO → MO
  | .lst xs => .lst (xs.map h)
  | .dk ks xs => .dk ks (xs.map h)
  | .dt ks xs => .dt ks (xs.map h)
  | .fk ks xs => .fk ks (xs.map h)
  | .ft ks xs => .ft ks (xs.map h)
  | .dead => .dead
theorem MoR.map {c : Ct} {W W' : Wd} {H : Hp} {a : Addr} {h : D → D} (k : ∀ d v, Rp c W d v → Rp c W' (h d) v) (g' : ∀ {ks bs}, KB c W.G ks bs → KB c W'.G ks bs) : ∀ {o : MO}, MoR c W H a o → MoR c W' H a (o.map h)
  | .lst xs, ⟨vs, q, r⟩ => ⟨vs, q, Rps.map k r⟩
  | .dk ks xs, ⟨vs, q, l, r⟩ => ⟨vs, q, l, Rps.map k r⟩
  | .dt ks xs, ⟨vs, bs, q, l, b, r⟩ => ⟨vs, bs, q, l, g' b, Rps.map k r⟩
  | .fk ks xs, ⟨ob, vs, q, l, r⟩ => ⟨ob, vs, q, l, Rps.map k r⟩
  | .ft ks xs, ⟨ob, vs, bs, q, l, b, r⟩ => ⟨ob, vs, bs, q, l, g' b, Rps.map k r⟩
  | .dead, _ => trivial
theorem MO.map_alive {h : D → D} : ∀ {o : MO}, (o.map h).alive = o.alive
  | .lst _ => rfl
  | .dk _ _ => rfl
  | .dt _ _ => rfl
  | .fk _ _ => rfl
  | .ft _ _ => rfl
  | .dead => rfl
theorem MO.map_lkd {h : D → D} : ∀ {o : MO}, (o.map h).lkd = o.lkd
  | .lst _ => rfl
  | .dk _ _ => rfl
  | .dt _ _ => rfl
  | .fk _ _ => rfl
  | .ft _ _ => rfl
  | .dead => rfl
/-- as lv; an own object that is handed out itself stays one that can be changed -/
def lvM (n : Nat) (R : Rs Fl) : Rs D := match R with
  | .ok (.rt (.loc f i)) m => if f = n then (match m.get f i with
      | some o => if (o.alive = true ∧ o.lkd = false) ∧ n ≠ 0 ∧ n ≤ m.length ∧ (o.map (fzl n (m.put f i .dead))).lt n = true then .ok (Mem.nx (m.take n)) (Mem.new (m.take n) (o.map (fzl n (m.put f i .dead)))) else .stuck
      | none => .stuck) else lv n R
  | R => lv n R
def fnM (np nl : Nat) (b : Bd) : Fn := fun ds m => if ds.length = np then lvM m.length (b (ds.map some ++ List.replicate (nl - np) none) (m ++ [[]])) else .stuck
theorem Mem.take_put {m : Mem} {n f i : Nat} {o : MO} (h : n ≤ f) : (List.take n (m.put f i o) : Mem) = List.take n m := by
  unfold Mem.put
  apply List.ext_getElem?
  intro j
  rw [List.getElem?_take, List.getElem?_take]
  split
  · rw [List.getElem?_modify]
    cases m[j]? with
    | none => rfl
    | some fr => show some (if f = j then _ else fr) = _; rw [if_neg (by omega)]
  · rfl
section
variable {c : Ct} {P : Program} {w : World} {mg : Str → Option Value} {base : Heap}
theorem lvM_ok {W W' : Wd} {m' : Mem} {H' : Hp} {E : XK} {Q : VK} {n f i : Nat} {v : V} {o : MO} (hf : f = n) (hg : m'.get f i = some o) (ha : o.alive = true) (hk : o.lkd = false) (h0 : n ≠ 0) (hn : n ≤ m'.length)
    (hl : (o.map (fzl n (m'.put f i .dead))).lt n = true) (lcut : ∀ {W2 : Wd}, le W W2 → le W (W2.cut n)) (l : le W W') (o' : Ok c W' m' H') (r : Rp c W' (.loc f i) v)
    (p : Pst c E (Rp c) (.ok (Mem.nx (m'.take n)) (Mem.new (m'.take n) (o.map (fzl n (m'.put f i .dead))))) W Q) : Q v H' := by
  subst hf
  simp only [Rp] at r
  obtain ⟨a, rfl, hi⟩ := r
  obtain ⟨b, e1, e2, e3, e4⟩ := o'.i _ _ _ hg ha
  rw [hi] at e1; cases e1
  obtain ⟨u, hu⟩ := e2.some ha
  have k := o'.kill hg
  have gk := fun f' i' => Mem.get_put (o := .dead) hg f' i'
  have na : ∀ (f' i' : Nat) (o1 : MO), (m'.put f i .dead).get f' i' = some o1 → o1.alive = true → W'.ι f' i' ≠ some a := fun f' i' o1 h1 h2 h3 => by
    rw [gk] at h1
    by_cases e : f' = f ∧ i' = i
    · rw [if_pos e] at h1; cases h1; cases h2
    · rw [if_neg e] at h1
      exact e (o'.inj _ _ _ _ _ _ _ h1 h2 hg ha h3 hi)
  have hG : gz W' (m'.put f i .dead) H' f a = none := gz_none e3 fun ⟨j, o1, h1, h2, h3⟩ => na f j o1 h1 h2.1 h3
  have oz := k.leaveZ f
  rw [Mem.take_put (Nat.le_refl f)] at oz
  have rz : MoR c { W' with G := gz W' (m'.put f i .dead) H' f } H' a (o.map (fzl f (m'.put f i .dead))) := e2.map (fun d v r => Rp.fzl k d r) fun b => b.mono fun _ _ h => gz_old h
  have rc := rz.cut hl
  have nz : ∀ (f' i' : Nat) (o1 : MO), Mem.get (m'.take f) f' i' = some o1 → o1.alive = true → (Wd.cut { W' with G := gz W' (m'.put f i .dead) H' f } f).ι f' i' ≠ some a := fun f' i' o1 h1 h2 h3 => by
    rw [Mem.get_take] at h1
    split at h1
    · rename_i hlt
      have h3 : (if f' < f then W'.ι f' i' else none) = some a := h3
      rw [if_pos hlt] at h3
      refine na f' i' o1 ?_ h2 h3
      rw [gk, if_neg (by omega)]; exact h1
    · cases h1
  have hlen : (m'.take f).length = f := by rw [List.length_take]; omega
  obtain ⟨W2, l2, o2, r2⟩ := oz.adopt (a := a) (u := u) (o := o.map (fzl f (m'.put f i .dead))) (by intro z; rw [z] at hlen; exact h0 hlen.symm) hu hG (e4.un hk) nz (by rw [hlen]; exact hl) rc (by rw [MO.map_lkd]; exact hk) (by rw [MO.map_alive]; exact ha)
  exact p W2 H' _ ((lcut (l.trans le_gz)).trans l2) o2 r2
theorem spM_len {np nl : Nat} {b : Bd} {n : Nat} (hn : n = np) : ∀ vs H Q E, spD c (fnM np nl b) vs H Q E → vs.length = n := fun vs H Q E ⟨W, ds, m, o, r, p⟩ => by
  unfold fnM at p
  split at p
  · rw [← r.length, hn]; assumption
  · exact p.elim
theorem bodyM_at {np nl : Nat} {b : Bd} {N : List Str} (hnl : N.length = nl) {vs : List V} {H : Hp} {Q : VK} {E : XK} (h : spD c (fnM np nl b) vs H Q E) : tS c E b { nx := fun _ H' => Q .non H', rt := Q } (L2.start N vs) H := by
  obtain ⟨W, ds, m, o, r, p⟩ := h
  unfold fnM at p
  split at p
  · rename_i hd
    refine ⟨W, _, m ++ [[]], o.enter, Sl.start r hd hnl, ?_⟩
    have lcut : ∀ {W' : Wd}, le W W' → le W (W'.cut m.length) := fun {W'} l => ⟨l.g, l.l, fun f i a h => by
      have hf : f < m.length := by
        obtain ⟨u, hu⟩ := o.rng f i a h
        unfold Mem.get at hu
        cases e : m[f]? with
        | none => rw [e] at hu; cases hu
        | some fr => exact (List.getElem?_eq_some_iff.mp e).1
      simp only [Wd.cut, hf, if_true]
      exact l.i f i a h⟩
    have old : ∀ {R : Rs Fl}, Pst c E (Rp c) (lv m.length R) W Q → PstS c E R W { nx := fun _ H' => Q .non H', rt := Q } := fun {R} p => by
      cases R with
      | stuck => exact p.elim
      | err e m' =>
        unfold lv at p
        dsimp only at p
        split at p
        · rename_i hl
          exact fun W' H' cl dx l o' ⟨x1, dd, xs, x2, x3, x4⟩ => p (W'.cut m.length) H' cl dx (lcut l) (o'.leave _) ⟨x1, dd, xs, x2, x3, Rps.cut _ hl x4⟩
        · exact p.elim
      | ok fl m' =>
        cases fl with
        | nx ρ => exact fun W' H' σ l o' s' => p (W'.cut m.length) H' .non (lcut l) (o'.leave _) (by simp [Rp])
        | bk ρ => exact p.elim
        | ct ρ => exact p.elim
        | rt d =>
          unfold lv at p
          dsimp only at p
          split at p
          · rename_i hl
            exact fun W' H' v l o' r' => p (Wd.cut { W' with G := gz W' m' H' m.length } m.length) H' v (lcut (l.trans le_gz)) (o'.leaveZ _) (Rp.cut _ hl (Rp.fzl o' d r'))
          · exact p.elim
    unfold lvM at p
    split at p
    · rename_i f i m' he
      rw [he]
      split at p
      · rename_i hf
        split at p
        · rename_i o1 hg
          split at p
          · rename_i hc
            exact fun W' H' v l o' r' => lvM_ok hf hg hc.1.1 hc.1.2 hc.2.1 hc.2.2.1 hc.2.2.2 lcut l o' r' p
          · exact p.elim
        · exact p.elim
      · rw [he] at p; exact old p
    · exact old p
  · exact p.elim
theorem fnOkM {x qual : Str} {st : Stmt} {f : Addr} {fd : FuncData} {N ps : List Str} {k np nl : Nat} {b : Bd} (F : Fun c.K x qual st f fd) (S : FnScope N ps (defScope st)) (hnp : ps.length = np) (hnl : N.length = nl)
    (hbody : ∀ (cdv : Value) (A : Around) (outer : List Env) (s : Shared) (H : Hp) (E : XK), Room k (A.deeper (envOfC qual (defScope st) s.heap.objs.size f cdv)) →
      PSs (cxOf (L2.CX P w) P w c.K mg base N qual (defScope st) f cdv A outer s H E) (defBody st) (tS c E b)) : FnOk P w c.K mg base (L2.CX P w) (k + 1) f fd ps (spD c (fnM np nl b)) :=
  F.okX S (spM_len hnp) fun cdv A outer s H vs Q E hr h => ⟨_, hbody cdv A outer s H E hr, bodyM_at hnl h⟩
end
end LN
namespace LN
open PySem L2 PySem.Spec PyProof.Rows

/-! ### dicts, their keys ints and texts or tuples of these -/
section
variable {c : Ct} {W : Wd} {m : Mem} {H : Hp}
/-- a tuple that stands in the heap is seen -/
theorem Ok.see (k : Ok c W m H) {a : Addr} {vs : List V} (h : H a = some (.tup vs)) : ∃ W', le W W' ∧ Ok c W' m H ∧ W'.G a = some (.tup vs) := by
  cases e : W.G a with
  | some o =>
    have := k.g a o e
    rw [h] at this; cases this
    exact ⟨W, le.refl _, k, e⟩
  | none =>
    have hl : W.L a = none := by
      cases e2 : W.L a with
      | none => rfl
      | some o =>
        rcases k.ll a o e2 with ⟨xs, rfl⟩ | ⟨ob, u, rfl⟩ | ⟨kvs, rfl⟩ | ⟨kvs, rfl⟩
        · rw [k.l a _ e2] at h; cases h
        · rw [k.l a _ e2] at h; cases h
        · rw [k.l a _ e2] at h; cases h
        · rw [k.l a _ e2] at h; unfold NDo at h; cases h
    have na : ∀ {f i b o'}, m.get f i = some o' → o'.alive = true → W.ι f i = some b → b ≠ a := fun {f i b o'} h1 h2 h3 => by
      obtain ⟨b', e1, e2, _⟩ := k.i f i o' h1 h2
      rw [h3] at e1; cases e1
      rintro rfl
      cases o' with
      | lst xs => obtain ⟨vs, q, r⟩ := e2; rw [h] at q; cases q
      | dk ks xs => obtain ⟨vs, q, r⟩ := e2; rw [h] at q; cases q
      | dt ks xs => obtain ⟨vs, bs, q, r⟩ := e2; rw [h] at q; cases q
      | fk ks xs => obtain ⟨ob, vs, q, r⟩ := e2; rw [h] at q; cases q
      | ft ks xs => obtain ⟨ob, vs, bs, q, r⟩ := e2; rw [h] at q; cases q
      | dead => cases h2
    have L : le W { W with G := upd W.G a (.tup vs) } := ⟨fun b o q => by show upd W.G a _ b = _; rw [upd_ne (ne_of_none q e)]; exact q, fun _ _ h => h, fun _ _ _ h => h⟩
    refine ⟨_, L, ⟨fun b o q => ?_, k.l, fun b o q => ?_, fun f i o h1 h2 => ?_, k.inj, k.rng, k.lt, k.ll, k.tb, nt_upd k.nt dat_tup.1⟩, upd_same⟩
    · have q : upd W.G a (.tup vs) b = some o := q
      by_cases eb : b = a
      · subst eb; rw [upd_same] at q; cases q; exact h
      · rw [upd_ne eb] at q; exact k.g b o q
    · show upd W.G a _ b = none
      rw [upd_ne (ne_of_none q hl)]; exact k.gl b o q
    · obtain ⟨b, q1, q2, q3, q4⟩ := k.i f i o h1 h2
      refine ⟨b, q1, q2.mono L fun _ h => h, ?_, q4⟩
      show upd W.G a _ b = none
      rw [upd_ne (na h1 h2 q1)]; exact q3
end
mutual
def nkD : D → Option NK
  | .non => some .none
  | .int i => some (.num i)
  | .str x => some (.text x)
  | .tup xs => match nkDs xs with
    | some ks => some (.tup ks)
    | none => none
  | _ => none
def nkDs : List D → Option (List NK)
  | [] => some []
  | d :: r => match nkD d, nkDs r with
    | some k, some ks => some (k :: ks)
    | _, _ => none
end
/-- a tuple as a key -/
def keyT : D → Option NK
  | .tup xs => nkD (.tup xs)
  | _ => none
mutual
def dKeyT : NK → D
  | .none => .non
  | .num i => .int i
  | .text x => .str x
  | .tup ks => .tup (dKeyTs ks)
def dKeyTs : List NK → List D
  | [] => []
  | k :: ks => dKeyT k :: dKeyTs ks
end
section
variable {c : Ct} {W : Wd}
mutual
theorem nkD_ok : ∀ (d : D) {k : NK} {v : V}, nkD d = some k → Rp c W d v → NVk c.K c.cs W.G k v
  | .non, k, v, h, r => by simp only [nkD, Option.some.injEq] at h; subst h; simpa only [NVk, Rp] using r
  | .int i, k, v, h, r => by simp only [nkD, Option.some.injEq] at h; subst h; simpa only [NVk, Rp] using r
  | .str i, k, v, h, r => by simp only [nkD, Option.some.injEq] at h; subst h; simpa only [NVk, Rp] using r
  | .tup xs, k, v, h, r => by
    simp only [nkD] at h
    split at h
    · rename_i ks hk
      cases h
      simp only [Rp, NVk] at r ⊢
      obtain ⟨a, vs, e, q, r⟩ := r
      exact ⟨a, vs, e, q, nkDs_ok xs hk r⟩
    · cases h
  | .bl _, _, _, h, _ => by simp [nkD] at h
  | .ty _, _, _, h, _ => by simp [nkD] at h
  | .cls _, _, _, h, _ => by simp [nkD] at h
  | .lst _, _, _, h, _ => by simp [nkD] at h
  | .dk _ _, _, _, h, _ => by simp [nkD] at h
  | .dt _ _, _, _, h, _ => by simp [nkD] at h
  | .loc _ _, _, _, h, _ => by simp [nkD] at h
  | .scr _, _, _, h, _ => by simp [nkD] at h
theorem nkDs_ok : ∀ (ds : List D) {ks : List NK} {vs : List V}, nkDs ds = some ks → Rps c W ds vs → NVks c.K c.cs W.G ks vs
  | [], ks, vs, h, r => by simp only [nkDs, Option.some.injEq, Rps] at h r; subst h; subst r; simp [NVks]
  | d :: ds, ks, vs, h, r => by
    simp only [nkDs] at h
    split at h
    · rename_i k ks' h1 h2
      cases h
      simp only [Rps, NVks] at r ⊢
      obtain ⟨v, r', e, r1, r2⟩ := r
      exact ⟨v, r', e, nkD_ok d h1 r1, nkDs_ok ds h2 r2⟩
    · cases h
end
mutual
theorem dKeyT_ok : ∀ (k : NK) {v : V}, NVk c.K c.cs W.G k v → Rp c W (dKeyT k) v
  | .none, _, h => by simpa only [dKeyT, Rp, NVk] using h
  | .num _, _, h => by simpa only [dKeyT, Rp, NVk] using h
  | .text _, _, h => by simpa only [dKeyT, Rp, NVk] using h
  | .tup ks, _, h => by
    simp only [dKeyT, Rp, NVk] at h ⊢
    obtain ⟨a, vs, e, q, r⟩ := h
    exact ⟨a, vs, e, q, dKeyTs_ok ks r⟩
theorem dKeyTs_ok : ∀ (ks : List NK) {vs : List V}, NVks c.K c.cs W.G ks vs → Rps c W (dKeyTs ks) vs
  | [], _, h => by simpa only [dKeyTs, Rps, NVks] using h
  | k :: ks, _, h => by
    simp only [dKeyTs, Rps, NVks] at h ⊢
    obtain ⟨v, r, e, p, q⟩ := h
    exact ⟨v, r, e, dKeyT_ok k p, dKeyTs_ok ks q⟩
end
end
/-- such a key may be asked for -/
def CkOk (c : Ct) (ck : NK → Bool) : Prop := ∀ k, ck k = true → k.depth ≤ 8
theorem keyT_ok {c : Ct} {W : Wd} {d : D} {k : NK} {v : V} (h : keyT d = some k) (r : Rp c W d v) : ∃ a, v = .ref a ∧ NVk c.K c.cs W.G k (.ref a) := by
  cases d with
  | tup xs =>
    have q := nkD_ok (.tup xs) h r
    simp only [Rp] at r
    obtain ⟨a, vs, e, _, _⟩ := r
    subst e
    exact ⟨a, rfl, q⟩
  | _ => cases h
/-- a dict's value at a key -/
theorem lookD_nz {c : Ct} {W : Wd} (k : NK) : ∀ {ks : List NK} {bs : List Addr} {xs : List D} {vs : List V}, ks.length = bs.length → ks.length = vs.length → Rps c W xs vs →
    (∀ d, lookD ks xs k = some d → ∃ v, valN (nz ks bs vs) k = some v ∧ Rp c W d v) ∧ (lookD ks xs k = none → valN (nz ks bs vs) k = none)
  | [], bs, xs, vs, l1, l2, r => ⟨fun d h => by simp [lookD] at h, fun _ => rfl⟩
  | j :: ks, [], xs, vs, l1, l2, r => by simp at l1
  | j :: ks, b :: bs, xs, [], l1, l2, r => by simp at l2
  | j :: ks, b :: bs, [], v :: vs, l1, l2, r => by simp [Rps] at r
  | j :: ks, b :: bs, x :: xs, v :: vs, l1, l2, r => by
    simp only [Rps] at r
    obtain ⟨v', r', e, r1, r2⟩ := r
    cases e
    have ih := lookD_nz k (ks := ks) (bs := bs) (by simpa using l1) (by simpa using l2) r2
    simp only [lookD, nz]
    unfold valN at ih ⊢
    rw [List.find?_cons]
    by_cases e : j = k
    · rw [if_pos e, decide_eq_true e]
      exact ⟨fun d h => by cases h; exact ⟨v, rfl, r1⟩, fun h => by cases h⟩
    · rw [if_neg e, decide_eq_false e]
      exact ih
theorem valN_mem {ks : List NK} {bs : List Addr} {vs : List V} (l1 : ks.length = bs.length) (l2 : ks.length = vs.length) {k : NK} : (valN (nz ks bs vs) k).isSome = true ↔ k ∈ ks := by
  induction ks generalizing bs vs with
  | nil => simp [nz, valN]
  | cons j ks ih =>
    cases bs with
    | nil => simp at l1
    | cons b bs =>
      cases vs with
      | nil => simp at l2
      | cons v vs =>
        have := ih (bs := bs) (vs := vs) (by simpa using l1) (by simpa using l2)
        unfold valN at this ⊢
        simp only [nz, List.find?_cons, List.mem_cons]
        by_cases e : j = k
        · rw [decide_eq_true e]; simp [e]
        · rw [decide_eq_false e]
          rw [this]
          exact ⟨fun h => .inr h, fun h => h.elim (fun z => absurd z.symm e) id⟩
theorem nz_append {ks : List NK} {bs : List Addr} {vs : List V} (l1 : ks.length = bs.length) (l2 : ks.length = vs.length) (k : NK) (b : Addr) (v : V) : nz ks bs vs ++ [(k, b, v)] = nz (ks ++ [k]) (bs ++ [b]) (vs ++ [v]) := by
  induction ks generalizing bs vs with
  | nil =>
    cases bs with
    | nil => cases vs with
      | nil => rfl
      | cons => simp at l2
    | cons => simp at l1
  | cons j ks ih =>
    cases bs with
    | nil => simp at l1
    | cons b bs =>
      cases vs with
      | nil => simp at l2
      | cons v vs =>
        simp only [nz, List.cons_append]
        rw [ih (by simpa using l1) (by simpa using l2)]
theorem KB.snoc {c : Ct} {G : Hp} {k : NK} {b : Addr} (hb : NVk c.K c.cs G k (.ref b)) (hd : k.depth ≤ 8) : ∀ {ks : List NK} {bs : List Addr}, KB c G ks bs → KB c G (ks ++ [k]) (bs ++ [b])
  | [], _, h => by
    simp only [KB] at h
    subst h
    simp only [List.nil_append, KB]
    exact ⟨b, [], rfl, hb, hd, rfl⟩
  | x :: xs, _, h => by
    simp only [KB] at h
    obtain ⟨b', r, rfl, p, d, q⟩ := h
    simp only [List.cons_append, KB]
    exact ⟨b', _, rfl, p, d, KB.snoc hb hd q⟩
theorem putD_new {κ : Type} [DecidableEq κ] {k : κ} {y : D} : ∀ {ks : List κ} {xs : List D}, ks.length = xs.length → k ∉ ks → putD ks xs k y = (ks ++ [k], xs ++ [y])
  | [], [], _, _ => rfl
  | j :: ks, x :: xs, l, h => by
    simp only [List.mem_cons, not_or] at h
    simp only [putD, if_neg (Ne.symm h.1), putD_new (ks := ks) (xs := xs) (by simpa using l) h.2, List.cons_append]
  | [], _ :: _, l, _ => by simp at l
  | _ :: _, [], l, _ => by simp at l
/-- d[k] = v in the model's list -/
theorem putD_nz {c : Ct} {W : Wd} {k : NK} {b : Addr} {y : D} {u : V} (hb : NVk c.K c.cs W.G k (.ref b)) (hd : k.depth ≤ 8) (ru : Rp c W y u) : ∀ {ks : List NK} {bs : List Addr} {xs : List D} {vs : List V}, ks.Nodup → KB c W.G ks bs → ks.length = vs.length → Rps c W xs vs →
    ∃ bs' vs', putN (nz ks bs vs) k b u = nz (putD ks xs k y).1 bs' vs' ∧ KB c W.G (putD ks xs k y).1 bs' ∧ (putD ks xs k y).1.length = vs'.length ∧ Rps c W (putD ks xs k y).2 vs' := by
  intro ks bs xs vs nd kb l r
  have lb := kb.len
  by_cases hk : k ∈ ks
  · have hp : putN (nz ks bs vs) k b u = (nz ks bs vs).map (fun x => if x.1 = k then (x.1, x.2.1, u) else x) := if_pos ((valN_mem lb l).mpr hk)
    rw [hp]
    clear hp
    have key : ∀ {ks : List NK} {bs : List Addr} {xs : List D} {vs : List V}, ks.Nodup → k ∈ ks → ks.length = bs.length → ks.length = vs.length → Rps c W xs vs →
        (putD ks xs k y).1 = ks ∧ ∃ vs', (nz ks bs vs).map (fun x => if x.1 = k then (x.1, x.2.1, u) else x) = nz ks bs vs' ∧ ks.length = vs'.length ∧ Rps c W (putD ks xs k y).2 vs' := by
      intro ks
      induction ks with
      | nil => intro bs xs vs _ hk; simp at hk
      | cons j ks ih =>
        intro bs xs vs nd hk lb l r
        cases bs with
        | nil => simp at lb
        | cons b' bs =>
          cases vs with
          | nil => simp at l
          | cons v vs =>
            cases xs with
            | nil => simp [Rps] at r
            | cons x xs =>
              simp only [Rps] at r
              obtain ⟨v', r', e, r1, r2⟩ := r
              cases e
              rw [List.nodup_cons] at nd
              simp only [putD, nz, List.map_cons]
              by_cases e : j = k
              · rw [if_pos e, if_pos e]
                refine ⟨rfl, u :: vs, ?_, by simpa using l, Rps.cons ru r2⟩
                have same : ∀ {ks : List NK} {bs : List Addr} {vs : List V}, k ∉ ks → (nz ks bs vs).map (fun x => if x.1 = k then (x.1, x.2.1, u) else x) = nz ks bs vs := by
                  intro ks
                  induction ks with
                  | nil => intro bs vs _; simp [nz]
                  | cons i ks ih =>
                    intro bs vs h
                    simp only [List.mem_cons, not_or] at h
                    cases bs with
                    | nil => simp [nz]
                    | cons b bs =>
                      cases vs with
                      | nil => simp [nz]
                      | cons v vs => simp only [nz, List.map_cons, if_neg (Ne.symm h.1), ih h.2]
                rw [same (by rw [← e]; exact nd.1)]
                rfl
              · rw [if_neg e, if_neg e]
                have hk' : k ∈ ks := (List.mem_cons.mp hk).elim (fun z => absurd z.symm e) id
                obtain ⟨e1, vs', e2, e3, e4⟩ := ih (bs := bs) (xs := xs) (vs := vs) nd.2 hk' (by simpa using lb) (by simpa using l) r2
                refine ⟨by simp [e1], v :: vs', by rw [e2]; rfl, by simpa using e3, Rps.cons r1 e4⟩
    obtain ⟨e1, vs', e2, e3, e4⟩ := key nd hk lb l r
    exact ⟨bs, vs', by rw [e2, e1], by rw [e1]; exact kb, by rw [e1]; exact e3, e4⟩
  · have hp : putN (nz ks bs vs) k b u = nz ks bs vs ++ [(k, b, u)] := if_neg fun z => hk ((valN_mem lb l).mp z)
    have lx : ks.length = xs.length := by rw [l, r.length]
    rw [hp, putD_new lx hk, nz_append lb l]
    exact ⟨_, _, rfl, KB.snoc hb hd kb, by simp [l], r.append (Rps.one ru)⟩
theorem nz_len {ks : List NK} {bs : List Addr} {vs : List V} (l1 : ks.length = bs.length) (l2 : ks.length = vs.length) : (nz ks bs vs).length = ks.length := by
  induction ks generalizing bs vs with
  | nil => simp [nz]
  | cons j ks ih =>
    cases bs with
    | nil => simp at l1
    | cons b bs =>
      cases vs with
      | nil => simp at l2
      | cons v vs => simp only [nz, List.length_cons]; rw [ih (by simpa using l1) (by simpa using l2)]
def vwKA (m : Mem) : D → Option (List L2.Key × List D)
  | .dk ks xs => some (ks, xs)
  | .loc f i => match m.get f i with
    | some (.dk ks xs) => some (ks, xs)
    | some (.fk ks xs) => some (ks, xs)
    | _ => none
  | _ => none
def vwTA (m : Mem) : D → Option (List NK × List D)
  | .dt ks xs => some (ks, xs)
  | .loc f i => match m.get f i with
    | some (.dt ks xs) => some (ks, xs)
    | some (.ft ks xs) => some (ks, xs)
    | _ => none
  | _ => none
theorem vwKA_ok {c : Ct} {W : Wd} {m : Mem} {H : Hp} (o : Ok c W m H) {d : D} {v : V} {ks : List L2.Key} {xs : List D} (h : vwKA m d = some (ks, xs)) (r : Rp c W d v) : ∃ a vs, v = .ref a ∧ Rd H a (.dK (ks.zip vs)) ∧ ks.length = vs.length ∧ Rps c W xs vs := by
  cases d with
  | dk js ys =>
    simp only [vwKA, Option.some.injEq, Prod.mk.injEq] at h
    obtain ⟨rfl, rfl⟩ := h
    simp only [Rp] at r
    obtain ⟨a, vs, e, q, l, r⟩ := r
    exact ⟨a, vs, e, .inl (o.g _ _ q), l, r⟩
  | loc f i =>
    simp only [vwKA] at h
    simp only [Rp] at r
    obtain ⟨a, e, q⟩ := r
    split at h
    · rename_i js ys hg
      simp only [Option.some.injEq, Prod.mk.injEq] at h
      obtain ⟨rfl, rfl⟩ := h
      obtain ⟨b, e1, ⟨vs, e2, e3, e4⟩, _⟩ := o.i _ _ _ hg rfl
      rw [q] at e1; cases e1
      exact ⟨a, vs, e, .inl e2, e3, e4⟩
    · rename_i js ys hg
      simp only [Option.some.injEq, Prod.mk.injEq] at h
      obtain ⟨rfl, rfl⟩ := h
      obtain ⟨b, e1, ⟨ob, vs, e2, e3, e4⟩, _⟩ := o.i _ _ _ hg rfl
      rw [q] at e1; cases e1
      exact ⟨a, vs, e, .inr ⟨_, e2⟩, e3, e4⟩
    · cases h
  | _ => cases h
theorem vwTA_ok {c : Ct} {W : Wd} {m : Mem} {H : Hp} (o : Ok c W m H) {d : D} {v : V} {ks : List NK} {xs : List D} (h : vwTA m d = some (ks, xs)) (r : Rp c W d v) : ∃ a bs vs, v = .ref a ∧ Rd H a (NDo c.w a (nz ks bs vs)) ∧ KB c W.G ks bs ∧ ks.length = vs.length ∧ Rps c W xs vs := by
  cases d with
  | dt js ys =>
    simp only [vwTA, Option.some.injEq, Prod.mk.injEq] at h
    obtain ⟨rfl, rfl⟩ := h
    simp only [Rp] at r
    obtain ⟨a, bs, vs, e, q, b, l, r⟩ := r
    exact ⟨a, bs, vs, e, .inl (o.g _ _ q), b, l, r⟩
  | loc f i =>
    simp only [vwTA] at h
    simp only [Rp] at r
    obtain ⟨a, e, q⟩ := r
    split at h
    · rename_i js ys hg
      simp only [Option.some.injEq, Prod.mk.injEq] at h
      obtain ⟨rfl, rfl⟩ := h
      obtain ⟨b, e1, ⟨vs, bs, e2, e3, e4, e5⟩, _⟩ := o.i _ _ _ hg rfl
      rw [q] at e1; cases e1
      exact ⟨a, bs, vs, e, .inl e2, e4, e3, e5⟩
    · rename_i js ys hg
      simp only [Option.some.injEq, Prod.mk.injEq] at h
      obtain ⟨rfl, rfl⟩ := h
      obtain ⟨b, e1, ⟨ob, vs, bs, e2, e3, e4, e5⟩, _⟩ := o.i _ _ _ hg rfl
      rw [q] at e1; cases e1
      exact ⟨a, bs, vs, e, .inr ⟨_, e2⟩, e4, e3, e5⟩
    · cases h
  | _ => cases h
/-- what a dict holds at a key: none: no dict, or no such key's kind -/
def dlk (ck : NK → Bool) (m : Mem) (d i : D) : Option (Option D) := match vwKA m d with
  | some (ks, xs) => match keyD i with
    | some k => some (lookD ks xs k)
    | none => none
  | none => match vwTA m d with
    | some (ks, xs) => match keyT i with
      | some k => if ck k = true then some (lookD ks xs k) else none
      | none => none
    | none => none
/-- what the heap holds there -/
def DGN (c : Ct) (H : Hp) (a : Addr) (y : V) (ov : Option V) : Prop := DGet H a y ov ∨ ∃ kvs k b, y = .ref b ∧ Rd H a (NDo c.w a kvs) ∧ NKs c.K H kvs ∧ NV c.K H k (.ref b) ∧ k.depth ≤ 8 ∧ ov = valN kvs k
theorem dlk_ok {c : Ct} {ck : NK → Bool} (hck : CkOk c ck) {W : Wd} {m : Mem} {H : Hp} (o : Ok c W m H) {d i : D} {x y : V} {q : Option D} (h : dlk ck m d i = some q) (rx : Rp c W d x) (ry : Rp c W i y) :
    ∃ a ov, x = .ref a ∧ DGN c H a y ov ∧ ov.isSome = q.isSome ∧ ∀ z, q = some z → ∃ v, ov = some v ∧ Rp c W z v := by
  unfold dlk at h
  split at h
  · rename_i ks xs hv
    split at h
    · rename_i k hk
      cases h
      obtain ⟨a, vs, rfl, q1, l, r⟩ := vwKA_ok o hv rx
      have hl := lookD_ok k r l
      have ey := keyD_ok hk ry
      refine ⟨a, valV (ks.zip vs) k, rfl, .inl (.inl ⟨_, k, q1, ey, rfl⟩), ?_, fun z hz => ?_⟩
      · cases e : lookD ks xs k with
        | none => rw [hl.2 e]; rfl
        | some z => obtain ⟨v, h1, _⟩ := hl.1 z e; rw [h1]; rfl
      · obtain ⟨v, h1, h2⟩ := hl.1 z hz
        exact ⟨v, h1, h2⟩
    · cases h
  · split at h
    · rename_i ks xs hv
      split at h
      · rename_i k hk
        split at h
        · rename_i hc
          cases h
          obtain ⟨a, bs, vs, rfl, q1, kb, l, r⟩ := vwTA_ok o hv rx
          have hl := lookD_nz k kb.len l r
          obtain ⟨b, rfl, hb⟩ := keyT_ok hk ry
          refine ⟨a, valN (nz ks bs vs) k, rfl, .inr ⟨_, k, b, rfl, q1, kb.nks o.g, NVk.nv o.g k hb, hck k hc, rfl⟩, ?_, fun z hz => ?_⟩
          · cases e : lookD ks xs k with
            | none => rw [hl.2 e]; rfl
            | some z => obtain ⟨v, h1, _⟩ := hl.1 z e; rw [h1]; rfl
          · obtain ⟨v, h1, h2⟩ := hl.1 z hz
            exact ⟨v, h1, h2⟩
        · cases h
      · cases h
    · cases h
def gIxT (ck : NK → Bool) (d i : D) (m : Mem) : Rs D := match dlk ck m d i with
  | some (some x) => .ok x m
  | some none => .stuck
  | none => gIx d i m
def gInT (ck : NK → Bool) (neg : Bool) (y d : D) (m : Mem) : Rs D := match dlk ck m d y with
  | some r => .ok (.bl (neg ^^ r.isSome)) m
  | none => .stuck
def isDict (m : Mem) (d : D) : Bool := (vwKA m d).isSome
/-- the same of a dict whose keys are no tuples -/
def dlkA (ck : NK → Bool) (m : Mem) (d i : D) : Option (Option D) := if isDict m d = true then dlk ck m d i else none
/-- d.get(k, x), the keys no tuples -/
def dGet2 (ck : NK → Bool) (fo fi fx : Ev) : Ev := fun ρ m => (fo ρ m).bind fun d m1 => if isDict m1 d = true then (fi ρ m1).bind fun i m2 => (fx ρ m2).bind fun x m3 => match dlkA ck m3 d i with
  | some r => .ok (r.getD x) m3
  | none => .stuck else .stuck
def dDictT : Ev := fun _ m => newObj (.dt [] []) m
theorem isDict_ok {c : Ct} {W : Wd} {m : Mem} {H : Hp} (o : Ok c W m H) {d : D} {v : V} (h : isDict m d = true) (r : Rp c W d v) : ∃ a kvs, v = .ref a ∧ Rd H a (.dK kvs) := by
  unfold isDict at h
  obtain ⟨⟨ks, xs⟩, h⟩ := Option.isSome_iff_exists.mp h
  obtain ⟨a, vs, rfl, q1, _⟩ := vwKA_ok o h r
  exact ⟨a, _, rfl, q1⟩
section
variable {X : Cx} {c : Ct} {E : XK} {pos p2 apos cpos : Pos} {a b e e2 : Expr} {fa fb fx : Ev} {fin : List D → Mem → Rs D} {ck : NK → Bool}
theorem pd_dictT (hw : c.w = X.w := by rfl) : PE X (.Dict [] [] pos) (tD c E dDictT) :=
  PE.weak pe_dnewN fun σ H Q ⟨W, ρ, m, o, s, p⟩ => fun a ha => by
    unfold dDictT newObj at p
    split at p
    · rename_i h
      obtain ⟨W', l, o', r'⟩ := o.alloc (o := .dt [] []) (u := NDo X.w a []) (fun z => h.1 (by rw [z]; rfl)) ha h.2 ⟨[], [], by rw [hw]; exact upd_same, rfl, rfl, Rps.nil⟩
      exact p _ _ _ l o' r'
    · exact p.elim
theorem os_ixT (hck : CkOk c ck) (hK : c.K = X.K := by rfl) (hw : c.w = X.w := by rfl) : OpS c E (fun x y H Q => rIxN X.w X.K x y H Q ∨ rIxAll X.K x y H Q) (gIxT ck) := fun W m H x y dx dy Q o rx ry p => by
  unfold gIxT at p
  split at p
  · rename_i z h
    obtain ⟨a, ov, ex, g, _, h1⟩ := dlk_ok hck o h rx ry
    obtain ⟨v, rfl, rv⟩ := h1 z rfl
    rcases g with g | ⟨kvs, k, b, ey, g1, g2, g3, g4, g5⟩
    · exact .inr (.inl ⟨a, v, ex, g, p W H v (le.refl _) o rv⟩)
    · exact .inl ⟨a, kvs, k, b, v, ex, ey, hw ▸ g1, hK ▸ g2, hK ▸ g3, g4, g5.symm, p W H v (le.refl _) o rv⟩
  · exact p.elim
  · exact .inr (.inr (os_ix (X := X) hK W m H x y dx dy Q o rx ry p))
/-- a[b], over lists, tuples, texts and dicts -/
theorem pd_ixT (hck : CkOk c ck) (hu : X.A.units + 66 < cLine) (ha : PE X a (tD c E fa)) (hb : PE X b (tD c E fb)) (hK : c.K = X.K := by rfl) (hw : c.w = X.w := by rfl) (hp : PlainIx b := by exact fun _ _ => rfl) : PE X (.Subscript a b pos) (tD c E (dOp (gIxT ck) fa fb)) :=
  PE.weak (pe_ix (IxR.or (ix_N (by omega)) (ix_all (by omega))) ha hb hp) (tOp_of (os_ixT (X := X) hck hK hw))
theorem op_inKD (hu : X.A.units + 1 < cLine) : OpR X (compareOp .In) (rInKD false) := fun pins s σ H y x v u Q I ry rx ⟨a, ov, ex, g, q⟩ => by
  subst ex
  obtain rfl : u = Value.ref a := rx
  exact d_in hu I g ry fun s' I' => ⟨.bl _, H, I', rfl, by simpa using q⟩
theorem op_ninKD (hu : X.A.units + 1 < cLine) : OpR X (compareOp .NotIn) (rInKD true) := fun pins s σ H y x v u Q I ry rx ⟨a, ov, ex, g, q⟩ => by
  subst ex
  obtain rfl : u = Value.ref a := rx
  exact d_notIn hu I g ry fun s' I' => ⟨.bl _, H, I', rfl, by simpa using q⟩
theorem os_inT (hck : CkOk c ck) {neg : Bool} (hK : c.K = X.K := by rfl) (hw : c.w = X.w := by rfl) : OpS c E (fun y x H Q => rInN X.w X.K neg y x H Q ∨ rInKD neg y x H Q) (gInT ck neg) := fun W m H y x dy dx Q o ry rx p => by
  unfold gInT at p
  split at p
  · rename_i r h
    obtain ⟨a, ov, ex, g, h0, _⟩ := dlk_ok hck o h rx ry
    rw [← h0] at p
    rcases g with g | ⟨kvs, k, b, ey, g1, g2, g3, g4, g5⟩
    · exact .inr ⟨a, ov, ex, g, p W H _ (le.refl _) o (by simp [Rp])⟩
    · rw [g5] at p
      exact .inl ⟨a, kvs, k, b, ex, ey, hw ▸ g1, hK ▸ g2, hK ▸ g3, g4, p W H _ (le.refl _) o (by simp [Rp])⟩
  · exact p.elim
theorem pd_inT (hck : CkOk c ck) (hu : X.A.units + 66 < cLine) (ha : PE X a (tD c E fa)) (hb : PE X b (tD c E fb)) (hm : behindInMarks .In b = false := by rfl) (hK : c.K = X.K := by rfl) (hw : c.w = X.w := by rfl) : PE X (.Compare a [.In] [b] pos) (tD c E (dOp (gInT ck false) fa fb)) :=
  PE.weak (pe_cmpR (OpR.or (op_inN (by omega)) (op_inKD (by omega))) ha hb hm) (tOp_of (os_inT (X := X) hck hK hw))
theorem ptd_inT (hck : CkOk c ck) (hu : X.A.units + 66 < cLine) (ha : PE X a (tD c E fa)) (hb : PE X b (tD c E fb)) (hm : behindInMarks .In b = false := by rfl) (hK : c.K = X.K := by rfl) (hw : c.w = X.w := by rfl) : PT X (.Compare a [.In] [b] pos) (tT c E (dTst (dOp (gInT ck false) fa fb))) :=
  PT.weak (pt_cmpR (OpR.or (op_inN (by omega)) (op_inKD (by omega))) ha hb hm) (tTest_of (tOp_of (os_inT (X := X) hck hK hw)))
theorem pd_ninT (hck : CkOk c ck) (hu : X.A.units + 66 < cLine) (ha : PE X a (tD c E fa)) (hb : PE X b (tD c E fb)) (hm : behindInMarks .NotIn b = false := by rfl) (hK : c.K = X.K := by rfl) (hw : c.w = X.w := by rfl) : PE X (.Compare a [.NotIn] [b] pos) (tD c E (dOp (gInT ck true) fa fb)) :=
  PE.weak (pe_cmpR (OpR.or (op_ninN (by omega)) (op_ninKD (by omega))) ha hb hm) (tOp_of (os_inT (X := X) hck hK hw))
theorem ptd_ninT (hck : CkOk c ck) (hu : X.A.units + 66 < cLine) (ha : PE X a (tD c E fa)) (hb : PE X b (tD c E fb)) (hm : behindInMarks .NotIn b = false := by rfl) (hK : c.K = X.K := by rfl) (hw : c.w = X.w := by rfl) : PT X (.Compare a [.NotIn] [b] pos) (tT c E (dTst (dOp (gInT ck true) fa fb))) :=
  PT.weak (pt_cmpR (OpR.or (op_ninN (by omega)) (op_ninKD (by omega))) ha hb hm) (tTest_of (tOp_of (os_inT (X := X) hck hK hw)))
theorem pd_get2 (hck : CkOk c ck) (hu : X.A.units + 66 < cLine) (ha : PE X a (tD c E fa)) (hb : PE X e (tD c E fb)) (hx : PE X e2 (tD c E fx)) (m : M2 X a "get" apos e e2 cpos) :
    PE X (.Call (.Attribute a "get" apos) [e, e2] [] cpos) (tD c E (dGet2 ck fa fb fx)) :=
  PE.weak (pe_dget2 (by omega) ha hb hx m) fun σ H Q ⟨W, ρ, m, o, s, q⟩ => by
    refine ⟨W, ρ, m, o, s, Pst.imp (Pst.bind q) fun x H1 ⟨W1, d, m1, l1, o1, r1, p1⟩ => ?_⟩
    split at p1
    · rename_i hd
      obtain ⟨a, kvs, ex, hD⟩ := isDict_ok o1 hd r1
      refine ⟨a, ex, .inl ⟨_, hD⟩, W1, ρ, m1, o1, s.mono l1, Pst.imp (Pst.bind p1) fun y H2 ⟨W2, d2, m2, l2, o2, r2, p2⟩ => ?_⟩
      refine ⟨W2, ρ, m2, o2, (s.mono l1).mono l2, Pst.imp (Pst.bind p2) fun z H3 ⟨W3, d3, m3, l3, o3, r3, p3⟩ => ?_⟩
      split at p3
      · rename_i r h
        unfold dlkA at h
        split at h
        case isFalse => cases h
        rename_i hd3
        have r3' := (r1.mono l2 d).mono l3 d
        obtain ⟨a3, kvs3, ex3, hD3⟩ := isDict_ok o3 hd3 r3'
        obtain ⟨a', ov, ex', g, h0, h1⟩ := dlk_ok hck o3 h r3' (r2.mono l3 d2)
        rw [ex] at ex' ex3; cases ex'; cases ex3
        have g : DGet H3 a y ov := by
          rcases g with g | ⟨kvs, k, b, _, g1, _⟩
          · exact g
          · rcases hD3 with e1 | ⟨o1, e1⟩
            · rcases g1 with e2 | ⟨o2, e2⟩
              · rw [e1] at e2; unfold NDo at e2; cases e2
              · rw [e1] at e2; cases e2
            · rcases g1 with e2 | ⟨o2, e2⟩
              · rw [e1] at e2; unfold NDo at e2; cases e2
              · rw [e1] at e2; unfold NDo at e2; cases e2
        refine ⟨ov, g, p3 W3 H3 _ (le.refl _) o3 ?_⟩
        cases r with
        | none =>
          have : ov = none := by cases ov with
            | none => rfl
            | some _ => cases h0
          subst this
          exact r3
        | some w =>
          obtain ⟨v, rfl, rv⟩ := h1 w rfl
          exact rv
      · exact p3.elim
    · exact p1.elim
end

/-! ### stores -/
def gSetT (ck : NK → Bool) (d i z : D) (m : Mem) : Rs Unit := match d with
  | .loc f n => if D.lt (f + 1) z = true then (match m.get f n with
    | some (.lst xs) => match i with
      | .int k => match ixN xs.length k with
        | some j => .ok () (m.put f n (.lst (xs.set j z)))
        | none => .stuck
      | _ => .stuck
    | some (.dk ks xs) => match keyD i with
      | some k => if ks.Nodup ∧ ks.length < 16777216 then .ok () (m.put f n (.dk (putD ks xs k z).1 (putD ks xs k z).2)) else .stuck
      | none => .stuck
    | some (.dt ks xs) => match keyT i with
      | some k => if (ks.Nodup ∧ ks.length < 16777216) ∧ ck k = true then .ok () (m.put f n (.dt (putD ks xs k z).1 (putD ks xs k z).2)) else .stuck
      | none => .stuck
    | _ => .stuck) else .stuck
  | _ => .stuck
section
variable {X : Cx} {c : Ct} {E : XK} {ck : NK → Bool}
theorem ss_setT (hck : CkOk c ck) (hK : c.K = X.K := by rfl) (hw : c.w = X.w := by rfl) : SetS c E (fun x y v H Q => rSetN X.w X.K x y v H Q ∨ rSetAll x y v H Q) (gSetT ck) := fun W m H x y z dx dy dz Q o rx ry rz p => by
  unfold gSetT at p
  split at p
  · rename_i f n
    split at p
    · rename_i hl
      simp only [Rp] at rx
      obtain ⟨a, rfl, ha⟩ := rx
      split at p
      · rename_i xs hg
        split at p
        · rename_i k
          simp only [Rp] at ry; subst ry
          split at p
          · rename_i j hj
            obtain ⟨b, e1, ⟨vs, e2, e3⟩, _⟩ := o.i _ _ _ hg rfl
            rw [ha] at e1; cases e1
            refine .inr (.inl ⟨a, vs, k, j, rfl, rfl, e2, by rw [← e3.length]; exact hj, ?_⟩)
            exact p W _ () (le.refl _) (o.write (u := .lst (vs.set j z)) hg rfl ha rfl (D.lts_set (o.lt _ _ _ hg) hl) ⟨_, upd_same, e3.set rz j⟩) trivial
          · exact p.elim
        · exact p.elim
      · rename_i ks xs hg
        split at p
        · rename_i k hk
          split at p
          · rename_i hn
            obtain ⟨b, e1, ⟨vs, e2, e3, e4⟩, _⟩ := o.i _ _ _ hg rfl
            rw [ha] at e1; cases e1
            obtain ⟨vs', h1, h2, h3⟩ := putD_ok k hn.1 e4 e3 rz
            refine .inr (.inr ⟨a, _, rfl, .inl ⟨_, k, e2, keyD_ok hk ry, ?_, rfl⟩, ?_⟩)
            · rw [List.length_zip, ← e3, Nat.min_self]
              have := hn.2
              rw [sizeLine_eq]; omega
            · rw [h1]
              exact p W _ () (le.refl _) (o.write (u := .dK ((putD ks xs k dz).1.zip vs')) hg rfl ha rfl (D.lts_put hl (o.lt _ _ _ hg)) ⟨vs', upd_same, h2, h3⟩) trivial
          · exact p.elim
        · exact p.elim
      · rename_i ks xs hg
        split at p
        · rename_i k hk
          split at p
          · rename_i hn
            obtain ⟨b0, e1, ⟨vs, bs, e2, e3, kb, e4⟩, _⟩ := o.i _ _ _ hg rfl
            rw [ha] at e1; cases e1
            obtain ⟨b, rfl, hb⟩ := keyT_ok hk ry
            obtain ⟨bs', vs', h1, h2, h3, h4⟩ := putD_nz hb (hck k hn.2) rz hn.1.1 kb e3 e4
            refine .inl ⟨a, _, k, b, rfl, rfl, hw ▸ e2, hK ▸ kb.nks o.g, hK ▸ NVk.nv o.g k hb, hck k hn.2, ?_, ?_⟩
            · rw [nz_len kb.len e3, sizeLine_eq]
              exact hn.1.2
            · rw [h1, ← hw]
              exact p W _ () (le.refl _) (o.write (u := NDo c.w a (nz (putD ks xs k dz).1 bs' vs')) hg rfl ha rfl (D.lts_put hl (o.lt _ _ _ hg)) ⟨vs', bs', upd_same, h3, h2, h4⟩) trivial
          · exact p.elim
        · exact p.elim
      · exact p.elim
    · exact p.elim
  · exact p.elim
theorem set_allN (hu : X.A.units + 66 < cLine) : PSet X (fun x y v H Q => rSetN X.w X.K x y v H Q ∨ rSetAll x y v H Q) := fun pins s σ H o i v ov iv u Q I ro ri rv h => by
  rcases h with h | h
  · exact set_N (by omega) pins s σ H o i v ov iv u Q I ro ri rv h
  · exact set_all (by omega) pins s σ H o i v ov iv u Q I ro ri rv h
end
end LN
/-! hand rules: the view of a dict's keys -/
namespace L2
open PySem PySem.Spec PyProof.Rows
def keysV (p d : Addr) : HO := .ext fun h => PySem.W.KdlKeysView h p d
theorem keysV_ok {P : Program} {w : World} {H : Hp} {h : Heap} {p d : Addr} (e : h.get? p = some { cls := .type "dict_keys", data := .fields #[.ref d] }) : ObjOk P w H h p (keysV p d) :=
  ⟨⟨_, e, rfl, rfl⟩, ⟨_, e⟩, fun h1 h2 x k => let ⟨o, ho, r⟩ := x; ⟨o, k o ho, r⟩⟩
theorem rawD {P : Program} {w : World} {H : Hp} {h : Heap} {d : Addr} {kvs : List (Key × V)} (hok : HOk P w H h) (hd : Rd H d (.dK kvs)) :
    (d == sysModules) = false ∧ ∃ es ep, h.DictRaw d es ep ∧ es.size = kvs.length ∧ kvs.length ≤ sizeLine ∧ ∀ i (hi : i < es.size) k v, kvs[i]? = some (k, v) → RelV (kV k) es[i].key := by
  obtain ⟨z, hs, vs, kv, dd⟩ := dk_rd hok hd
  obtain ⟨es, ep, hr, hsz, he⟩ := dd.raw
  have hl : kvs.length = vs.length := Paired.length kv
  refine ⟨hs, es, ep, hr, by omega, z, fun i hi k v hk => ?_⟩
  have e1 : (kvs.map (·.1))[i]? = some k := by rw [List.getElem?_map, hk]; rfl
  rw [KV.keys kv, List.getElem?_map] at e1
  cases e2 : vs[i]? with
  | none => rw [e2] at e1; cases e1
  | some p =>
    rw [e2] at e1
    obtain ⟨k', v'⟩ := p
    have e3 : k' = k := Option.some.inj e1
    subst e3
    exact keyIs_rel (he i hi _ _ e2).1
section
variable {X : Cx}
theorem mt_keysV : MtR X "dict.keys" (fun x xs H Q => ∃ a, x = .ref a ∧ xs = [] ∧ IsD H a ∧ ∀ p, H p = none → Q (.ref p) (upd H p (keysV p a))) := by
  intro pins s σ H x xs v us Q I rx rxs h
  obtain ⟨a, rfl, rfl, hd, q⟩ := h
  cases rx
  cases rxs
  have hraw : (a == sysModules) = false ∧ ∃ es ep, s.heap.DictRaw a es ep := by
    rcases hd with ⟨kvs, e⟩ | ⟨kvs, e⟩
    · obtain ⟨hs, es, ep, hr, _⟩ := rawD I.hok e
      exact ⟨hs, es, ep, hr⟩
    · obtain ⟨z, hs, xs, kt, o, es, ep, h1, h2, h3, _⟩ := dt_rd I.hok e
      exact ⟨hs, es, ep, o, h1, h2, h3⟩
  obtain ⟨hs, es, ep, hr⟩ := hraw
  have hf : H s.heap.objs.size = none := I.hok.fresh (Nat.le_refl _)
  exact call_meetsIn PySem.F.slot_dict_keys hr.typeIs PySem.F.entry_dict_keys (PySem.F.args_dict_keys_1 _) (meets_dict_keys_raw a hs) ⟨⟨es, ep, hr⟩,
    ⟨.ref s.heap.objs.size, upd H s.heap.objs.size (keysV s.heap.objs.size a), I.laid (t' := s.toks) (fun b u e => Heap.get?_push_of_some _ e) (Nat.le_refl _) (keysV_ok (Heap.get?_push_size _ rfl)), rfl, q _ hf⟩⟩
def rListKV : List V → Hp → VK → Prop := fun xs H Q => ∃ p d, xs = [.ref p] ∧ H p = some (keysV p d) ∧
  ((∃ kvs, Rd H d (.dK kvs) ∧ ∀ q, H q = none → Q (.ref q) (upd H q (.lst (kvs.map fun kv => kV kv.1)))) ∨
   ∃ kvs, Rd H d (.dT kvs) ∧ ∀ q bs, H q = none → IsKeys H kvs bs → Q (.ref q) (upd H q (.lst (bs.map V.ref))))
theorem call_list_kv (hc : X.calm = true) : CallR X (.type "list") rListKV := by
  intro pins s σ H xs us Q I r h
  obtain ⟨p, d, rfl, hp, h⟩ := h
  obtain ⟨u, rfl, rx⟩ := r.one
  cases rx
  have hv : PySem.W.KdlKeysView s.heap p d := (show ObjOk X.prog X.w H s.heap p (keysV p d) from I.hok p _ hp).1
  rcases h with ⟨kvs, hd, q⟩ | ⟨kvs, hd, q⟩
  · obtain ⟨hs, es, ep, hr, hsz, hz, hk⟩ := rawD I.hok hd
    refine PySem.W.kdl_call (PySem.KdlSrc.rawKeys (r := p) (d := d) (es := es) (ep := ep)) (I.ok.hd hc) ⟨hv, hr⟩ (by omega) fun h' tk acc' c' kp e it => ?_
    refine ⟨.ref s.heap.objs.size, _, I.laid (t' := tk) (o := .lst (kvs.map fun kv => kV kv.1)) kp (Nat.le_refl _) ⟨by rw [List.length_map]; exact hz, acc'.toList, c', ?_, by rw [Array.toArray_toList]; exact e⟩, rfl, q _ (I.hok.fresh (Nat.le_refl _))⟩
    have el : acc'.toList.length = acc'.size := by simp
    refine vals_of_at (by rw [List.length_map, el, it.1, hsz]) fun j x w h1 h2 => ?_
    obtain ⟨hi, hw⟩ := it.2 j w (by rw [← Array.getElem?_toList]; exact h2)
    rw [List.getElem?_map] at h1
    cases ek : kvs[j]? with
    | none => rw [ek] at h1; cases h1
    | some kv =>
      rw [ek] at h1
      cases h1
      rw [hw]
      exact hk j hi kv.1 kv.2 ek
  · obtain ⟨z, hs, ks, pr, o, es, ep, ho, hx, hdt, he, hn⟩ := (show ObjOk X.prog X.w H s.heap d (.dT kvs) from hd.ok I.hok)
    have l1 : es.size = ks.length := size_of_entries he
    have l2 : kvs.length = ks.length := Paired.length pr
    refine PySem.W.kdl_call (PySem.KdlSrc.rawKeys (r := p) (d := d) (es := es) (ep := ep)) (I.ok.hd hc) ⟨hv, ⟨o, ho, hx, hdt⟩⟩ (by omega) fun h' tk acc' c' kp e it => ?_
    have ea : acc'.toList = ks.map fun x => Value.ref x.2.1 := by
      have hl : acc'.toList.length = ks.length := by rw [Array.length_toList, it.1]; exact l1
      apply List.ext_getElem?
      intro j
      rw [List.getElem?_map]
      cases hj : acc'.toList[j]? with
      | none =>
        have h1 := List.getElem?_eq_none_iff.mp hj
        rw [List.getElem?_eq_none (by omega)]
        rfl
      | some v =>
        obtain ⟨hi, hv⟩ := it.2 j v (by rw [← Array.getElem?_toList]; exact hj)
        have qe := entry_at he j
        rw [Array.getElem?_eq_getElem hi] at qe
        cases hb : ks[j]? with
        | none =>
          rw [hb] at qe
          exact nomatch (show some es[j] = none from qe)
        | some b =>
          rw [hb] at qe
          have e2 : es[j] = entryOfKey (tupleKind (mixKind X.prog X.w)) b := Option.some.inj qe
          rw [hv, e2]
          rfl
    have eb : acc'.toList = (ks.map fun x => x.2.1).map Value.ref := by rw [ea, List.map_map]; rfl
    have rv : Vals ((ks.map fun x => x.2.1).map V.ref) acc'.toList := by rw [eb]; exact vals_refs _
    have hz : ((ks.map fun x => x.2.1).map V.ref).length ≤ sizeLine := by rw [List.length_map, List.length_map]; omega
    refine ⟨.ref s.heap.objs.size, _, I.laid (t' := tk) (o := .lst ((ks.map fun x => x.2.1).map V.ref)) kp (Nat.le_refl _) ?_, rfl, q _ _ (I.hok.fresh (Nat.le_refl _)) (isKeys_of pr)⟩
    exact ⟨hz, acc'.toList, c', rv, by rw [Array.toArray_toList]; exact e⟩
end
end L2
/-! hand rules: zip over lists and tuples, mixed (printed by gz.py) -/
namespace L2
open PySem PySem.Spec PyProof.Rows
def Sqk (k : Bool) (K : PySem.W.Frag) (H : Hp) (a : Addr) (xs : List V) : Prop := match k with
  | true => SqL K H a xs
  | false => SqT K H a xs
def Itek (k : Bool) (h : Heap) (it a : Addr) (i : Nat) : Prop := match k with
  | true => h.IsListIter it a i
  | false => h.IsTupleIter it a i
def Seqk (k : Bool) (h : Heap) (a : Addr) (its : Array Value) : Prop := match k with
  | true => h.IsList a its
  | false => h.IsTuple a its
theorem Itek.obj {k : Bool} {h : Heap} {it a : Addr} {i : Nat} (x : Itek k h it a i) : ∃ o, h.get? it = some o ∧ ∀ v, o.data ≠ .cell v := by
  cases k with
  | true => obtain ⟨o, e, _, d⟩ := x; exact ⟨o, e, fun v q => by rw [d] at q; cases q⟩
  | false => obtain ⟨o, e, _, d⟩ := x; exact ⟨o, e, fun v q => by rw [d] at q; cases q⟩
theorem Itek.at {k : Bool} {h h' : Heap} {it a : Addr} {i : Nat} (x : Itek k h it a i) (e : ∀ o, h.get? it = some o → h'.get? it = some o) : Itek k h' it a i := by
  cases k with
  | true => exact Heap.IsListIter.at x e
  | false => exact Heap.IsTupleIter.at x e
def begO (k : Bool) (a : Addr) : Obj := match k with
  | true => { cls := .type "list_iterator", data := .fields #[.ref a, .int 0 0] }
  | false => { cls := .type "tuple_iterator", data := .fields #[.ref a, .int 0 0] }
theorem begk {k : Bool} (a : Addr) (its : Array Value) : Begins (.ref a) (begO k a) fun h => Seqk k h a its := by
  cases k with
  | true => exact begins_list a its
  | false => exact begins_tuple a its
theorem itek_new {k : Bool} {h : Heap} {it a : Addr} (e : h.get? it = some (begO k a)) : Itek k h it a 0 := by
  cases k with
  | true => exact ⟨_, e, rfl, rfl⟩
  | false => exact ⟨_, e, rfl, rfl⟩
theorem sqk_lt {k : Bool} {h : Heap} {a : Addr} {its : Array Value} (p : Seqk k h a its) : a < h.objs.size := by
  cases k with
  | true => obtain ⟨o, e, _⟩ := p; exact Heap.lt_size e
  | false => obtain ⟨o, e, _⟩ := p; exact Heap.lt_size e
theorem drawk {prog : Program} {w : World} {A : Around} {k : Bool} (hh : A.handled = none) {it a : Addr} (hne : a ≠ it) (its : Array Value) :
    Draws prog w A.in1 it [it, a] its.size (fun i v => its[i]? = some v) (fun i h => Itek k h it a i ∧ Seqk k h a its) := by
  cases k with
  | true => exact Draws.list (A := A.in1) (show A.in1.handled = none from hh) it a hne its
  | false => exact Draws.tuple (A := A.in1) (show A.in1.handled = none from hh) it a hne its
section
variable {X : Cx} {pins : List (Addr × Obj)} {σ : St} {H : Hp} {s : Shared}
theorem sqk_at {k : Bool} {a : Addr} {xs : List V} (I : Inv X pins σ H s) (h : Sqk k X.K H a xs) : ∃ its : List Value, Vals xs its ∧ Seqk k s.heap a its.toArray := by
  cases k with
  | true => obtain ⟨its, r, p, _⟩ := I.list h; exact ⟨its, r, p.isList⟩
  | false => obtain ⟨its, r, p, _⟩ := I.tuple h; exact ⟨its, r, show s.heap.IsTuple a its.toArray from p⟩
theorem sqk_inj {k : Bool} {a : Addr} {xs ys : List V} (I : Inv X pins σ H s) (h : Sqk k X.K H a xs) (h' : Sqk k X.K H a ys) : xs = ys := by
  cases k with
  | true => exact I.list_inj h h'
  | false => exact I.tuple_inj h h'
end
theorem lt_of_at {its : List Value} {i : Nat} {u : Value} (h : its[i]? = some u) : i < its.toArray.size := by
  have := (List.getElem?_eq_some_iff.mp h).1
  simpa using this
theorem at_eq {its : List Value} {i : Nat} {u y : Value} (e : its.toArray[i]? = some y) (h : its[i]? = some u) : y = u := by
  have e : its[i]? = some y := by simpa using e
  rw [h] at e; cases e; rfl
theorem vals3' {x y z : V} {us : List Value} (r : Vals [x, y, z] us) : ∃ u1 u2 u3, us = [u1, u2, u3] ∧ RelV x u1 ∧ RelV y u2 ∧ RelV z u3 := by
  cases r with
  | cons a r => cases r with
    | cons b r => cases r with
      | cons c r => cases r; exact ⟨_, _, _, rfl, a, b, c⟩

def Itk2 (K : PySem.W.Frag) (k1 : Bool) (a : Addr) (k2 : Bool) (b : Addr) : It :=
  ⟨fun i H => ∃ (xs1 : List V) (xs2 : List V) (x1 : V) (x2 : V), Sqk k1 K H a xs1 ∧ Sqk k2 K H b xs2 ∧ xs1[i]? = some x1 ∧ xs2[i]? = some x2,
    fun i H v H' => ∃ T x1 x2, v = .ref T ∧ H T = none ∧ H' = upd H T (.tup [x1, x2]) ∧ (∀ xs, Sqk k1 K H a xs → xs[i]? = some x1) ∧ (∀ xs, Sqk k2 K H b xs → xs[i]? = some x2),
    fun i H => ∃ (xs1 : List V) (xs2 : List V), Sqk k1 K H a xs1 ∧ Sqk k2 K H b xs2 ∧ i ≤ xs1.length ∧ i ≤ xs2.length ∧ (i = xs1.length ∨ i = xs2.length)⟩
theorem turn_k2 {P : Program} {w : World} {K : PySem.W.Frag} {elts : List Expr} {kk : Nat} {tpos : Pos} {k1 : Bool} {k2 : Bool} {a b z TI TO i1 i2 : Addr} (S : ZipSep2 z TI TO i1 i2 [i1, a] [i2, b]) (n1 : a ≠ i1) (n2 : b ≠ i2) (t1 : TI ≠ i1) (t2 : TI ≠ i2) :
    Turn P w K (.Tuple elts kk tpos) (Itk2 K k1 a k2 b) [z, TI, TO, i1, i2] z (fun i h => IsZip h z TI TO .none ∧ IsTupOf2 h TI (.ref i1) (.ref i2) ∧ (∃ a1 a2, IsTupOf2 h TO a1 a2) ∧ Itek k1 h i1 a i ∧ Itek k2 h i2 b i) where
  mem := by simp
  obj := fun i h st c hc => by
    obtain ⟨hz, hTI, ⟨a1, a2, hTO⟩, h1, h2⟩ := st
    have e' : c = z ∨ c = TI ∨ c = TO ∨ c = i1 ∨ c = i2 := by simpa using hc
    rcases e' with q | q | q | q | q
    · rw [q]; exact ⟨_, hz, fun v q => nomatch q⟩
    · rw [q]; exact ⟨_, hTI, fun v q => nomatch q⟩
    · rw [q]; exact ⟨_, hTO, fun v q => nomatch q⟩
    · rw [q]; exact h1.obj
    · rw [q]; exact h2.obj
  keep := fun i h h' st k => by
    obtain ⟨hz, hTI, ⟨a1, a2, hTO⟩, h1, h2⟩ := st
    exact ⟨k z (by simp) _ hz, k TI (by simp) _ hTI, ⟨a1, a2, k TO (by simp) _ hTO⟩, h1.at fun o q => k i1 (by simp) o q, h2.at fun o q => k i2 (by simp) o q⟩
  item := by
    intro X hP hw hK hc i pins s σ H E I hf st hg
    subst hP hw hK
    obtain ⟨hz, hTI, ⟨a1, a2, hTO⟩, h1, h2⟩ := st
    obtain ⟨xs1, xs2, x1, x2, hq1, hq2, hx1, hx2⟩ := hg
    obtain ⟨its1, rv1, p1⟩ := sqk_at I hq1
    obtain ⟨u1, hu1, ru1⟩ := rv1.get hx1
    obtain ⟨its2, rv2, p2⟩ := sqk_at I hq2
    obtain ⟨u2, hu2, ru2⟩ := rv2.get hx2
    have hzl : z < s.heap.objs.size := Heap.lt_size hz
    refine wpAny_pyNext_zipD2_item S (drawk (I.ok.hd hc) n1 its1.toArray) (drawk (I.ok.hd hc) n2 its2.toArray) hz hTI hTO ⟨h1, p1⟩ ⟨h2, p2⟩ (lt_of_at hu1) (lt_of_at hu2) fun y1 y2 h' tk e1 e2 z' TO' s1 s2 hT hsz hk => ?_
    have e1 : y1 = u1 := at_eq e1 hu1
    subst e1
    have e2 : y2 = u2 := at_eq e2 hu2
    subst e2
    refine ⟨_, rfl, wpAny_letOwnedTupleGo_zip (s := { s with heap := h', toks := tk }) z' fun h'' z'' sb => ?_⟩
    have hT2 : h''.get? s.heap.objs.size = some { cls := .type "tuple", data := .seq #[y1, y2] } := (sb.2 _ (Nat.ne_of_gt hzl)).trans hT
    have new : ObjOk X.prog X.w (upd H s.heap.objs.size (.tup [x1, x2])) h'' s.heap.objs.size (.tup [x1, x2]) :=
      ⟨by show 2 ≤ sizeLine; decide, [y1, y2], .cons ru1 (.cons ru2 .nil), ⟨_, hT2, rfl, _, rfl⟩⟩
    have I1 : Inv X pins σ (upd H s.heap.objs.size (.tup [x1, x2])) { s with heap := h'', toks := tk } :=
      I.turnedNew (t' := tk) (ch := [z, TI, TO, i1, i2]) (fun c o hb q => (sb.2 c (fun q' => hb (by simp [q']))).trans (hk c o (fun q' => hb (by simp [q'])) (fun q' => hb (by simp [q'])) (fun q' => hb (by simp [q'])) (fun q' => hb (by simp [q'])) q)) hf (Nat.le_refl _) new
    refine ⟨.ref s.heap.objs.size, _, I1, rfl, ⟨_, x1, x2, rfl, I.hok.fresh (Nat.le_refl _), rfl, fun l hl => by rw [sqk_inj I hl hq1]; exact hx1, fun l hl => by rw [sqk_inj I hl hq2]; exact hx2⟩, ⟨z'', ?_, ⟨y1, y2, ?_⟩, ?_, ?_⟩, fun c hcm => ?_⟩
    · exact (sb.2 _ S.TIz).trans (hk _ _ S.TIz S.TITO t1 t2 hTI)
    · exact (sb.2 _ S.TOz).trans TO'
    · exact s1.1.at fun o q => (sb.2 _ S.zi1.symm).trans q
    · exact s2.1.at fun o q => (sb.2 _ S.zi2.symm).trans q
    · have hlt : c < s.heap.objs.size := by
        have e' : c = z ∨ c = TI ∨ c = TO ∨ c = i1 ∨ c = i2 := by simpa using hcm
        rcases e' with q | q | q | q | q
        · rw [q]; exact hzl
        · rw [q]; exact Heap.lt_size hTI
        · rw [q]; exact Heap.lt_size hTO
        · rw [q]; obtain ⟨_, e1, _⟩ := h1.obj; exact Heap.lt_size e1
        · rw [q]; obtain ⟨_, e1, _⟩ := h2.obj; exact Heap.lt_size e1
      rw [upd_ne (Nat.ne_of_lt hlt)]
      exact (hf c hcm).1
  done := by
    intro X hP hw hK hc i pins s σ H E I hf st hg
    subst hP hw hK
    obtain ⟨hz, hTI, ⟨a1, a2, hTO⟩, h1, h2⟩ := st
    obtain ⟨xs1, xs2, hq1, hq2, hl1, hl2, hend⟩ := hg
    obtain ⟨its1, rv1, p1⟩ := sqk_at I hq1
    have l1 : its1.toArray.size = xs1.length := by rw [rv1.length]; simp
    obtain ⟨its2, rv2, p2⟩ := sqk_at I hq2
    have l2 : its2.toArray.size = xs2.length := by rw [rv2.length]; simp
    exact wpAny_pyNext_zipD2_end S (drawk (I.ok.hd hc) n1 its1.toArray) (drawk (I.ok.hd hc) n2 its2.toArray) hz hTI hTO ⟨h1, p1⟩ ⟨h2, p2⟩ (by omega) (by omega) (by omega) fun h' tk hk => ⟨rfl, I.turnedL (t' := tk) (ch := [z, TI, TO, i1, i2]) (fun c o hb q =>
      hk c o (fun q' => hb (by simp [q'])) (fun q' => hb (by simp [q'])) (fun q' => hb (by simp [q'])) (fun q' => hb (by simp [q'])) q) hf⟩
  self := fun A i s Q E st h => wpAny_pyIter_zip st.1 h
def iZipK2 (K : PySem.W.Frag) (ta : TA) : TI := fun σ H R => ta σ H fun vs H1 => ∃ k1 a xs1 k2 b xs2, vs = [.ref a, .ref b] ∧ Sqk k1 K H1 a xs1 ∧ Sqk k2 K H1 b xs2 ∧ R (Itk2 K k1 a k2 b) H1
theorem pi_zipK2 {X : Cx} {e e2 : Expr} {ta : TA} {p pos tpos : Pos} {elts : List Expr} {kk : Nat} (hg : Gl X "zip") (hm : X.mg "zip" = none) (ha : PA X [e, e2] ta)
    (hs : starEach [e, e2] X.env = (false, eval e X.env) :: starEach [e2] X.env := by rfl) (hpl : (backTo pos (starEach [e2] X.env)).any (·.1) = false := by rfl) :
    PI X (.Tuple elts kk tpos) (.Call (.Name "zip" p) [e, e2] [] pos) (iZipK2 X.K ta) := by
  refine ⟨fun pins s σ H R I h => ?_⟩
  refine Call_ (ld_blt I hg hm PyProof.Rows.boot_zip (PyProof.Rows.callWith_type1 (thn (ha.run pos pins s σ H _ I h) fun us s1 ⟨vs, H1, I1, r1, q1⟩ => ?_) hs hpl))
  obtain ⟨k1, a, xs1, k2, b, xs2, ex, hq1, hq2, q⟩ := q1
  subst ex
  obtain ⟨v1, v2, rfl, r1, r2⟩ := vals2 r1
  cases r1
  cases r2
  obtain ⟨its1, rv1, p1⟩ := sqk_at I1 hq1
  obtain ⟨its2, rv2, p2⟩ := sqk_at I1 hq2
  refine zip_begins2 (begk a its1.toArray) (begk b its2.toArray) p1 p2 fun h' hz hTI hTO g1 g2 hsz hk => wpAny_pyIter_zip hz ?_
  have I2 : Inv X pins σ H1 { s1 with heap := h' } := I1.kept (t' := s1.toks) hk
  have fr : ∀ c, c ∈ [s1.heap.objs.size + 4, s1.heap.objs.size + 2, s1.heap.objs.size + 3, s1.heap.objs.size, s1.heap.objs.size + 1] → FpOk X pins H1 c := fun c hcm => by
    have e' : c = s1.heap.objs.size + 4 ∨ c = s1.heap.objs.size + 2 ∨ c = s1.heap.objs.size + 3 ∨ c = s1.heap.objs.size ∨ c = s1.heap.objs.size + 1 := by simpa using hcm
    have hle : s1.heap.objs.size ≤ c := by
      rcases e' with z | z | z | z | z
      all_goals rw [z]
      all_goals first | exact Nat.le_add_right _ _ | exact Nat.le_refl _
    exact I1.fpOk hle (I1.hok.fresh hle)
  exact ⟨s1.heap.objs.size + 4, [s1.heap.objs.size + 4, s1.heap.objs.size + 2, s1.heap.objs.size + 3, s1.heap.objs.size, s1.heap.objs.size + 1], _, _, H1, rfl, I2, turn_k2 (zip_sep2 (fun b hb => by rw [List.mem_singleton.mp hb]; exact sqk_lt p1) (fun b hb => by rw [List.mem_singleton.mp hb]; exact sqk_lt p2)) (Nat.ne_of_lt (sqk_lt p1)) (Nat.ne_of_lt (Nat.lt_of_lt_of_le (sqk_lt p2) (Nat.le_add_right _ _))) (show ((s1.heap.objs.size + 2 : Nat) ≠ s1.heap.objs.size + 0) by omega) (show ((s1.heap.objs.size + 2 : Nat) ≠ s1.heap.objs.size + 1) by omega), ⟨hz, hTI, ⟨_, _, hTO⟩, itek_new g1, itek_new g2⟩, fr, q⟩
def Itk3 (K : PySem.W.Frag) (k1 : Bool) (a : Addr) (k2 : Bool) (b : Addr) (k3 : Bool) (c : Addr) : It :=
  ⟨fun i H => ∃ (xs1 : List V) (xs2 : List V) (xs3 : List V) (x1 : V) (x2 : V) (x3 : V), Sqk k1 K H a xs1 ∧ Sqk k2 K H b xs2 ∧ Sqk k3 K H c xs3 ∧ xs1[i]? = some x1 ∧ xs2[i]? = some x2 ∧ xs3[i]? = some x3,
    fun i H v H' => ∃ T x1 x2 x3, v = .ref T ∧ H T = none ∧ H' = upd H T (.tup [x1, x2, x3]) ∧ (∀ xs, Sqk k1 K H a xs → xs[i]? = some x1) ∧ (∀ xs, Sqk k2 K H b xs → xs[i]? = some x2) ∧ (∀ xs, Sqk k3 K H c xs → xs[i]? = some x3),
    fun i H => ∃ (xs1 : List V) (xs2 : List V) (xs3 : List V), Sqk k1 K H a xs1 ∧ Sqk k2 K H b xs2 ∧ Sqk k3 K H c xs3 ∧ i ≤ xs1.length ∧ i ≤ xs2.length ∧ i ≤ xs3.length ∧ (i = xs1.length ∨ i = xs2.length ∨ i = xs3.length)⟩
theorem turn_k3 {P : Program} {w : World} {K : PySem.W.Frag} {elts : List Expr} {kk : Nat} {tpos : Pos} {k1 : Bool} {k2 : Bool} {k3 : Bool} {a b c z TI TO i1 i2 i3 : Addr} (S : ZipSep3 z TI TO i1 i2 i3 [i1, a] [i2, b] [i3, c]) (n1 : a ≠ i1) (n2 : b ≠ i2) (n3 : c ≠ i3) (t1 : TI ≠ i1) (t2 : TI ≠ i2) (t3 : TI ≠ i3) :
    Turn P w K (.Tuple elts kk tpos) (Itk3 K k1 a k2 b k3 c) [z, TI, TO, i1, i2, i3] z (fun i h => IsZip h z TI TO .none ∧ IsTupOf3 h TI (.ref i1) (.ref i2) (.ref i3) ∧ (∃ a1 a2 a3, IsTupOf3 h TO a1 a2 a3) ∧ Itek k1 h i1 a i ∧ Itek k2 h i2 b i ∧ Itek k3 h i3 c i) where
  mem := by simp
  obj := fun i h st c hc => by
    obtain ⟨hz, hTI, ⟨a1, a2, a3, hTO⟩, h1, h2, h3⟩ := st
    have e' : c = z ∨ c = TI ∨ c = TO ∨ c = i1 ∨ c = i2 ∨ c = i3 := by simpa using hc
    rcases e' with q | q | q | q | q | q
    · rw [q]; exact ⟨_, hz, fun v q => nomatch q⟩
    · rw [q]; exact ⟨_, hTI, fun v q => nomatch q⟩
    · rw [q]; exact ⟨_, hTO, fun v q => nomatch q⟩
    · rw [q]; exact h1.obj
    · rw [q]; exact h2.obj
    · rw [q]; exact h3.obj
  keep := fun i h h' st k => by
    obtain ⟨hz, hTI, ⟨a1, a2, a3, hTO⟩, h1, h2, h3⟩ := st
    exact ⟨k z (by simp) _ hz, k TI (by simp) _ hTI, ⟨a1, a2, a3, k TO (by simp) _ hTO⟩, h1.at fun o q => k i1 (by simp) o q, h2.at fun o q => k i2 (by simp) o q, h3.at fun o q => k i3 (by simp) o q⟩
  item := by
    intro X hP hw hK hc i pins s σ H E I hf st hg
    subst hP hw hK
    obtain ⟨hz, hTI, ⟨a1, a2, a3, hTO⟩, h1, h2, h3⟩ := st
    obtain ⟨xs1, xs2, xs3, x1, x2, x3, hq1, hq2, hq3, hx1, hx2, hx3⟩ := hg
    obtain ⟨its1, rv1, p1⟩ := sqk_at I hq1
    obtain ⟨u1, hu1, ru1⟩ := rv1.get hx1
    obtain ⟨its2, rv2, p2⟩ := sqk_at I hq2
    obtain ⟨u2, hu2, ru2⟩ := rv2.get hx2
    obtain ⟨its3, rv3, p3⟩ := sqk_at I hq3
    obtain ⟨u3, hu3, ru3⟩ := rv3.get hx3
    have hzl : z < s.heap.objs.size := Heap.lt_size hz
    refine wpAny_pyNext_zipD3_item S (drawk (I.ok.hd hc) n1 its1.toArray) (drawk (I.ok.hd hc) n2 its2.toArray) (drawk (I.ok.hd hc) n3 its3.toArray) hz hTI hTO ⟨h1, p1⟩ ⟨h2, p2⟩ ⟨h3, p3⟩ (lt_of_at hu1) (lt_of_at hu2) (lt_of_at hu3) fun y1 y2 y3 h' tk e1 e2 e3 z' TO' s1 s2 s3 hT hsz hk => ?_
    have e1 : y1 = u1 := at_eq e1 hu1
    subst e1
    have e2 : y2 = u2 := at_eq e2 hu2
    subst e2
    have e3 : y3 = u3 := at_eq e3 hu3
    subst e3
    refine ⟨_, rfl, wpAny_letOwnedTupleGo_zip (s := { s with heap := h', toks := tk }) z' fun h'' z'' sb => ?_⟩
    have hT2 : h''.get? s.heap.objs.size = some { cls := .type "tuple", data := .seq #[y1, y2, y3] } := (sb.2 _ (Nat.ne_of_gt hzl)).trans hT
    have new : ObjOk X.prog X.w (upd H s.heap.objs.size (.tup [x1, x2, x3])) h'' s.heap.objs.size (.tup [x1, x2, x3]) :=
      ⟨by show 3 ≤ sizeLine; decide, [y1, y2, y3], .cons ru1 (.cons ru2 (.cons ru3 .nil)), ⟨_, hT2, rfl, _, rfl⟩⟩
    have I1 : Inv X pins σ (upd H s.heap.objs.size (.tup [x1, x2, x3])) { s with heap := h'', toks := tk } :=
      I.turnedNew (t' := tk) (ch := [z, TI, TO, i1, i2, i3]) (fun c o hb q => (sb.2 c (fun q' => hb (by simp [q']))).trans (hk c o (fun q' => hb (by simp [q'])) (fun q' => hb (by simp [q'])) (fun q' => hb (by simp [q'])) (fun q' => hb (by simp [q'])) (fun q' => hb (by simp [q'])) q)) hf (Nat.le_refl _) new
    refine ⟨.ref s.heap.objs.size, _, I1, rfl, ⟨_, x1, x2, x3, rfl, I.hok.fresh (Nat.le_refl _), rfl, fun l hl => by rw [sqk_inj I hl hq1]; exact hx1, fun l hl => by rw [sqk_inj I hl hq2]; exact hx2, fun l hl => by rw [sqk_inj I hl hq3]; exact hx3⟩, ⟨z'', ?_, ⟨y1, y2, y3, ?_⟩, ?_, ?_, ?_⟩, fun c hcm => ?_⟩
    · exact (sb.2 _ S.TIz).trans (hk _ _ S.TIz S.TITO t1 t2 t3 hTI)
    · exact (sb.2 _ S.TOz).trans TO'
    · exact s1.1.at fun o q => (sb.2 _ S.zi1.symm).trans q
    · exact s2.1.at fun o q => (sb.2 _ S.zi2.symm).trans q
    · exact s3.1.at fun o q => (sb.2 _ S.zi3.symm).trans q
    · have hlt : c < s.heap.objs.size := by
        have e' : c = z ∨ c = TI ∨ c = TO ∨ c = i1 ∨ c = i2 ∨ c = i3 := by simpa using hcm
        rcases e' with q | q | q | q | q | q
        · rw [q]; exact hzl
        · rw [q]; exact Heap.lt_size hTI
        · rw [q]; exact Heap.lt_size hTO
        · rw [q]; obtain ⟨_, e1, _⟩ := h1.obj; exact Heap.lt_size e1
        · rw [q]; obtain ⟨_, e1, _⟩ := h2.obj; exact Heap.lt_size e1
        · rw [q]; obtain ⟨_, e1, _⟩ := h3.obj; exact Heap.lt_size e1
      rw [upd_ne (Nat.ne_of_lt hlt)]
      exact (hf c hcm).1
  done := by
    intro X hP hw hK hc i pins s σ H E I hf st hg
    subst hP hw hK
    obtain ⟨hz, hTI, ⟨a1, a2, a3, hTO⟩, h1, h2, h3⟩ := st
    obtain ⟨xs1, xs2, xs3, hq1, hq2, hq3, hl1, hl2, hl3, hend⟩ := hg
    obtain ⟨its1, rv1, p1⟩ := sqk_at I hq1
    have l1 : its1.toArray.size = xs1.length := by rw [rv1.length]; simp
    obtain ⟨its2, rv2, p2⟩ := sqk_at I hq2
    have l2 : its2.toArray.size = xs2.length := by rw [rv2.length]; simp
    obtain ⟨its3, rv3, p3⟩ := sqk_at I hq3
    have l3 : its3.toArray.size = xs3.length := by rw [rv3.length]; simp
    exact wpAny_pyNext_zipD3_end S (drawk (I.ok.hd hc) n1 its1.toArray) (drawk (I.ok.hd hc) n2 its2.toArray) (drawk (I.ok.hd hc) n3 its3.toArray) hz hTI hTO ⟨h1, p1⟩ ⟨h2, p2⟩ ⟨h3, p3⟩ (by omega) (by omega) (by omega) (by omega) fun h' tk hk => ⟨rfl, I.turnedL (t' := tk) (ch := [z, TI, TO, i1, i2, i3]) (fun c o hb q =>
      hk c o (fun q' => hb (by simp [q'])) (fun q' => hb (by simp [q'])) (fun q' => hb (by simp [q'])) (fun q' => hb (by simp [q'])) (fun q' => hb (by simp [q'])) q) hf⟩
  self := fun A i s Q E st h => wpAny_pyIter_zip st.1 h
def iZipK3 (K : PySem.W.Frag) (ta : TA) : TI := fun σ H R => ta σ H fun vs H1 => ∃ k1 a xs1 k2 b xs2 k3 c xs3, vs = [.ref a, .ref b, .ref c] ∧ Sqk k1 K H1 a xs1 ∧ Sqk k2 K H1 b xs2 ∧ Sqk k3 K H1 c xs3 ∧ R (Itk3 K k1 a k2 b k3 c) H1
theorem pi_zipK3 {X : Cx} {e e2 e3 : Expr} {ta : TA} {p pos tpos : Pos} {elts : List Expr} {kk : Nat} (hg : Gl X "zip") (hm : X.mg "zip" = none) (ha : PA X [e, e2, e3] ta)
    (hs : starEach [e, e2, e3] X.env = (false, eval e X.env) :: starEach [e2, e3] X.env := by rfl) (hpl : (backTo pos (starEach [e2, e3] X.env)).any (·.1) = false := by rfl) :
    PI X (.Tuple elts kk tpos) (.Call (.Name "zip" p) [e, e2, e3] [] pos) (iZipK3 X.K ta) := by
  refine ⟨fun pins s σ H R I h => ?_⟩
  refine Call_ (ld_blt I hg hm PyProof.Rows.boot_zip (PyProof.Rows.callWith_type1 (thn (ha.run pos pins s σ H _ I h) fun us s1 ⟨vs, H1, I1, r1, q1⟩ => ?_) hs hpl))
  obtain ⟨k1, a, xs1, k2, b, xs2, k3, c, xs3, ex, hq1, hq2, hq3, q⟩ := q1
  subst ex
  obtain ⟨v1, v2, v3, rfl, r1, r2, r3⟩ := vals3' r1
  cases r1
  cases r2
  cases r3
  obtain ⟨its1, rv1, p1⟩ := sqk_at I1 hq1
  obtain ⟨its2, rv2, p2⟩ := sqk_at I1 hq2
  obtain ⟨its3, rv3, p3⟩ := sqk_at I1 hq3
  refine zip_begins3 (begk a its1.toArray) (begk b its2.toArray) (begk c its3.toArray) p1 p2 p3 fun h' hz hTI hTO g1 g2 g3 hsz hk => wpAny_pyIter_zip hz ?_
  have I2 : Inv X pins σ H1 { s1 with heap := h' } := I1.kept (t' := s1.toks) hk
  have fr : ∀ c, c ∈ [s1.heap.objs.size + 5, s1.heap.objs.size + 3, s1.heap.objs.size + 4, s1.heap.objs.size, s1.heap.objs.size + 1, s1.heap.objs.size + 2] → FpOk X pins H1 c := fun c hcm => by
    have e' : c = s1.heap.objs.size + 5 ∨ c = s1.heap.objs.size + 3 ∨ c = s1.heap.objs.size + 4 ∨ c = s1.heap.objs.size ∨ c = s1.heap.objs.size + 1 ∨ c = s1.heap.objs.size + 2 := by simpa using hcm
    have hle : s1.heap.objs.size ≤ c := by
      rcases e' with z | z | z | z | z | z
      all_goals rw [z]
      all_goals first | exact Nat.le_add_right _ _ | exact Nat.le_refl _
    exact I1.fpOk hle (I1.hok.fresh hle)
  exact ⟨s1.heap.objs.size + 5, [s1.heap.objs.size + 5, s1.heap.objs.size + 3, s1.heap.objs.size + 4, s1.heap.objs.size, s1.heap.objs.size + 1, s1.heap.objs.size + 2], _, _, H1, rfl, I2, turn_k3 (zip_sep3 (fun b hb => by rw [List.mem_singleton.mp hb]; exact sqk_lt p1) (fun b hb => by rw [List.mem_singleton.mp hb]; exact sqk_lt p2) (fun b hb => by rw [List.mem_singleton.mp hb]; exact sqk_lt p3)) (Nat.ne_of_lt (sqk_lt p1)) (Nat.ne_of_lt (Nat.lt_of_lt_of_le (sqk_lt p2) (Nat.le_add_right _ _))) (Nat.ne_of_lt (Nat.lt_of_lt_of_le (sqk_lt p3) (Nat.le_add_right _ _))) (show ((s1.heap.objs.size + 3 : Nat) ≠ s1.heap.objs.size + 0) by omega) (show ((s1.heap.objs.size + 3 : Nat) ≠ s1.heap.objs.size + 1) by omega) (show ((s1.heap.objs.size + 3 : Nat) ≠ s1.heap.objs.size + 2) by omega), ⟨hz, hTI, ⟨_, _, _, hTO⟩, itek_new g1, itek_new g2, itek_new g3⟩, fr, q⟩
end L2
namespace LN
open PySem L2 PySem.Spec PyProof.Rows

/-! ### lists out of dicts -/
section
variable {c : Ct} {W : Wd} {m : Mem} {H : Hp}
/-- a new thing that nothing knows -/
theorem Ok.junk (k : Ok c W m H) {p : Addr} {u : HO} (hp : H p = none) : Ok c W m (upd H p u) := by
  refine ⟨fun b o h => ?_, fun b o h => ?_, k.gl, fun f i o h1 h2 => ?_, k.inj, k.rng, k.lt, k.ll, tabs_new k.tb hp, k.nt⟩
  · rw [upd_ne (ne_of_none (k.g b o h) hp)]; exact k.g b o h
  · rw [upd_ne (ne_of_none (k.l b o h) hp)]; exact k.l b o h
  · obtain ⟨b, e1, e2, e3, e4⟩ := k.i f i o h1 h2
    obtain ⟨u', hu⟩ := e2.some h2
    exact ⟨b, e1, e2.mono (le.refl W) fun v h => by rw [upd_ne (ne_of_none hu hp)]; exact h, e3, e4⟩
theorem kb_rps : ∀ {ks : List NK} {bs : List Addr}, KB c W.G ks bs → Rps c W (ks.map dKeyT) (bs.map V.ref)
  | [], bs, h => by
    simp only [KB] at h
    subst h
    exact Rps.nil
  | k :: ks, bs, h => by
    simp only [KB] at h
    obtain ⟨b, r, rfl, h1, _, h2⟩ := h
    exact Rps.cons (dKeyT_ok k h1) (kb_rps h2)
theorem nz_refs : ∀ {ks : List NK} {bs : List Addr} {vs : List V}, ks.length = bs.length → ks.length = vs.length → nRefs (nz ks bs vs) = bs.map V.ref
  | [], [], [], _, _ => rfl
  | k :: ks, b :: bs, v :: vs, h1, h2 => by
    have := nz_refs (ks := ks) (bs := bs) (vs := vs) (by simpa using h1) (by simpa using h2)
    simp only [nz, nRefs, List.map_cons] at this ⊢
    rw [this]
end
def dkeysD (m : Mem) (d : D) : Option (List D) := match vwKA m d with
  | some (ks, _) => some (ks.map dKey)
  | none => match vwTA m d with
    | some (ks, _) => some (ks.map dKeyT)
    | none => none
theorem zip_keys {κ : Type} {ks : List κ} {vs : List V} (l : ks.length = vs.length) : (ks.zip vs).map (·.1) = ks := by
  rw [List.map_fst_zip (by omega)]
/-- a dict's keys in the heap -/
theorem dkeysD_ok {c : Ct} {W : Wd} {m : Mem} {H : Hp} (o : Ok c W m H) {d : D} {v : V} {xs : List D} (h : dkeysD m d = some xs) (r : Rp c W d v) : ∃ a, v = .ref a ∧
    ((∃ kvs, Rd H a (.dK kvs) ∧ Rps c W xs (kvs.map fun kv => kV kv.1)) ∨ ∃ kvs, Rd H a (NDo c.w a kvs) ∧ Rps c W xs (nRefs kvs)) := by
  unfold dkeysD at h
  split at h
  · rename_i ks ys hv
    cases h
    obtain ⟨a, vs, rfl, q1, l, r⟩ := vwKA_ok o hv r
    refine ⟨a, rfl, .inl ⟨_, q1, ?_⟩⟩
    have e : ((ks.zip vs).map fun kv => kV kv.1) = ks.map kV := by
      have := congrArg (List.map kV) (zip_keys (vs := vs) l)
      rw [List.map_map] at this
      exact this
    rw [e]
    exact Rps.of (by simp) fun i d v h1 h2 => by
      rw [List.getElem?_map] at h1 h2
      cases e : ks[i]? with
      | none => rw [e] at h1; cases h1
      | some x => rw [e] at h1 h2; cases h1; cases h2; exact dKey_ok x
  · split at h
    · rename_i ks ys hv
      cases h
      obtain ⟨a, bs, vs, rfl, q1, kb, l, r⟩ := vwTA_ok o hv r
      refine ⟨a, rfl, .inr ⟨_, q1, ?_⟩⟩
      rw [nz_refs kb.len l]
      exact kb_rps kb
    · cases h
def bLstA (fin : List D → Mem → Rs D) : List D → Mem → Rs D
  | [d], m => match vwS m d with
    | some xs => fin xs m
    | none => match dkeysD m d with
      | some xs => fin xs m
      | none => .stuck
  | _, _ => .stuck
/-- not locked -/
def unlk (m : Mem) : D → Bool
  | .loc f i => match m.get f i with
    | some o => !o.lkd
    | none => false
  | _ => true
/-- list(d.keys()) -/
def dLstK (fin : List D → Mem → Rs D) (f : Ev) : Ev := fun ρ m => (f ρ m).bind fun d m1 => match dkeysD m1 d with
  | some xs => if unlk m1 d = true then fin xs m1 else .stuck
  | none => .stuck
theorem unlk_ok {c : Ct} {W : Wd} {m : Mem} {H : Hp} (o : Ok c W m H) {d : D} {v : V} {xs : List D} (h : dkeysD m d = some xs) (hu : unlk m d = true) (r : Rp c W d v) : ∃ a, v = .ref a ∧ ((∃ kvs, H a = some (.dK kvs)) ∨ ∃ kvs, H a = some (NDo c.w a kvs)) := by
  unfold dkeysD at h
  cases d with
  | dk ks ys =>
    simp only [Rp] at r
    obtain ⟨a, vs, rfl, q, _⟩ := r
    exact ⟨a, rfl, .inl ⟨_, o.g _ _ q⟩⟩
  | dt ks ys =>
    simp only [Rp] at r
    obtain ⟨a, bs, vs, rfl, q, _⟩ := r
    exact ⟨a, rfl, .inr ⟨_, o.g _ _ q⟩⟩
  | loc f i =>
    simp only [Rp] at r
    obtain ⟨a, rfl, q⟩ := r
    cases hg : m.get f i with
    | none => simp [vwKA, vwTA, hg] at h
    | some ob =>
      simp only [unlk, hg] at hu
      cases ob with
      | lst xs => simp [vwKA, vwTA, hg] at h
      | dk ks ys =>
        obtain ⟨b, e1, ⟨vs, e2, _⟩, _⟩ := o.i _ _ _ hg rfl
        rw [q] at e1; cases e1
        exact ⟨a, rfl, .inl ⟨_, e2⟩⟩
      | dt ks ys =>
        obtain ⟨b, e1, ⟨vs, bs, e2, _⟩, _⟩ := o.i _ _ _ hg rfl
        rw [q] at e1; cases e1
        exact ⟨a, rfl, .inr ⟨_, e2⟩⟩
      | fk ks ys => cases hu
      | ft ks ys => cases hu
      | dead => simp [vwKA, vwTA, hg] at h
  | _ => simp [vwKA, vwTA] at h
def rLstAll (K : PySem.W.Frag) (w : World) : List V → Hp → VK → Prop := fun xs H Q =>
  (∃ p ys, xs = [.ref p] ∧ (SqL K H p ys ∨ SqT K H p ys) ∧ ∀ l, H l = none → Q (.ref l) (upd H l (.lst ys))) ∨
  (∃ (a : Addr) (kvs : List (L2.Key × V)), xs = [.ref a] ∧ Rd H a (.dK kvs) ∧ ∀ p, H p = none → Q (.ref p) (upd H p (.lst (kvs.map fun kv => kV kv.1)))) ∨
  (∃ d kvs, xs = [V.ref d] ∧ Rd H d (NDo w d kvs) ∧ ∀ p, H p = none → Q (.ref p) (upd H p (.lst (nRefs kvs))))
section
variable {X : Cx} {c : Ct} {E : XK} {pos p apos cpos : Pos} {a e : Expr} {fa : Ev} {fin : List D → Mem → Rs D}
theorem cr_lstA (hc : X.calm = true) : CallR X (.type "list") (rLstAll X.K X.w) := CallR.or call_list_of (CallR.or (call_listD hc) (call_list_N hc))
theorem cs_lstA (F : FinN fin) (hK : c.K = X.K := by rfl) (hw : c.w = X.w := by rfl) : CallS c E (rLstAll X.K X.w) (bLstA fin) := fun W m H xs ds Q o r q => by
  unfold bLstA at q
  split at q
  · obtain ⟨v, rfl, r1⟩ := rps1 r
    split at q
    · rename_i ys h
      obtain ⟨a, vs, rfl, q2, q3⟩ := vwS_ok o h r1
      exact .inl ⟨a, vs, rfl, hK ▸ q2, F.mak o q3 q⟩
    · split at q
      · rename_i ys h
        obtain ⟨a, rfl, h⟩ := dkeysD_ok o h r1
        rcases h with ⟨kvs, q1, q2⟩ | ⟨kvs, q1, q2⟩
        · exact .inr (.inl ⟨a, kvs, rfl, q1, F.mak o q2 q⟩)
        · exact .inr (.inr ⟨a, kvs, rfl, hw ▸ q1, F.mak o q2 q⟩)
      · exact q.elim
  · exact q.elim
/-- a keys view over either kind of dict -/
def rKv (w : World) : V → List V → Hp → VK → Prop := fun x xs H Q => ∃ a, x = .ref a ∧ xs = [] ∧
  ((∃ kvs, Rd H a (.dK kvs) ∧ ∀ p, H p = none → Q (.ref p) (upd H p (keysV p a))) ∨ ∃ kvs, Rd H a (NDo w a kvs) ∧ ∀ p, H p = none → Q (.ref p) (upd H p (keysW p a)))
theorem mt_kv : MtR X "dict.keys" (rKv X.w) := by
  intro pins s σ H x xs v us Q I rx rxs h
  obtain ⟨a, rfl, rfl, h⟩ := h
  rcases h with ⟨kvs, h1, h2⟩ | ⟨kvs, h1, h2⟩
  · exact mt_keysV pins s σ H _ _ _ _ _ I rx rxs ⟨a, rfl, rfl, .inl ⟨kvs, h1⟩, h2⟩
  · exact mt_keysN pins s σ H _ _ _ _ _ I rx rxs ⟨a, kvs, rfl, rfl, h1, h2⟩
/-- the value is a dict, keyed either way -/
def dictV (w : World) (x : V) (H : Hp) : Prop := ∃ a, x = .ref a ∧ ((∃ kvs, Rd H a (.dK kvs)) ∨ ∃ kvs, Rd H a (NDo w a kvs))
theorem dictV_is {pins : List (Addr × Obj)} {σ : L2.St} {H : Hp} {s : Shared} {x : V} {v : Value} (I : Inv X pins σ H s) (r : RelV x v) (ty : dictV X.w x H) :
    s.TypeIs v "dict" ∧ ∀ a, v = .ref a → ∃ ob, s.heap.get? a = some ob ∧ ob.dict = none := by
  obtain ⟨a, rfl, h⟩ := ty
  cases r
  have z : ∃ o, s.heap.get? a = some o ∧ o.ExactDict := by
    rcases h with ⟨kvs, h⟩ | ⟨kvs, h⟩
    · obtain ⟨_, _, _, _, dd⟩ := dk_rd I.hok h
      obtain ⟨es, ep, ⟨o, e, ex, _⟩, _⟩ := dd.raw
      exact ⟨o, e, ex⟩
    · obtain ⟨_, _, o, es, ep, ho, hx, _⟩ := nd_raw I h
      exact ⟨o, ho, hx⟩
  obtain ⟨o, e, ex⟩ := z
  refine ⟨⟨o, e, ex.1⟩, fun b e2 => ?_⟩
  cases e2
  exact ⟨o, e, ex.2.1⟩
def tBMd (w : World) (r : V → List V → Hp → VK → Prop) (to : TE) : TE := fun σ H Q => to σ H fun x H1 => dictV w x H1 ∧ r x [] H1 Q
theorem pe_bm0d {o : Expr} {to : TE} {name : Str} {id : String} {r : V → List V → Hp → VK → Prop} (slot : Slot "dict" name id) (hty : typeOf (.builtin id) = pure (.type "method_descriptor")) (hm : MtR X id r) (ho : PE X o to)
    (hbase : attributeBase o name X.env (eval o X.env) = eval o X.env := by rfl) (hline : (apos.endLine == cpos.line) = true := by rfl) : PE X (.Call (.Attribute o name apos) [] [] cpos) (tBMd X.w r to) := by
  refine ⟨fun pins s σ H Q I h => ?_⟩
  refine wpAny_Call_method0_late hbase hline (thn (ho.run pins s σ H _ I h) fun v s1 ⟨x, H1, I1, r1, ty, q1⟩ => ?_)
  obtain ⟨h1, h2⟩ := dictV_is I1 r1 ty
  exact ⟨"dict", id, PySem.F.plainAttrs_dict, slot, hty, h1, h2, Calls.callWith_builtin rfl (PySem.evalArgs_none (hm pins s1 σ H1 x [] v [] Q I1 r1 .nil q1))⟩
theorem pd_lstK {nm : Pos} (F : FinN fin) (hc : X.calm = true) (hm : X.mg "list" = none) (ha : PE X a (tD c E fa)) (hg : Gl X "list" := by rfl)
    (hbase : attributeBase a "keys" X.env (eval a X.env) = eval a X.env := by rfl) (hline : (apos.endLine == cpos.line) = true := by rfl) (he : starEach [.Call (.Attribute a "keys" apos) [] [] cpos] X.env = [(false, eval (.Call (.Attribute a "keys" apos) [] [] cpos) X.env)] := by rfl) (hw : c.w = X.w := by rfl) :
    PE X (.Call (.Name "list" nm) [.Call (.Attribute a "keys" apos) [] [] cpos] [] pos) (tD c E (dLstK fin fa)) :=
  PE.weak (pe_callTy (CallR.or (call_list_kv hc) (call_list_kN hc)) hg hm (by decide +kernel) (pa_cons (pe_bm0d PySem.F.slot_dict_keys PySem.F.type_dict_keys mt_kv ha hbase hline) pa_nil he)) fun σ H Q ⟨W, ρ, m, o, s, q⟩ => by
    refine ⟨W, ρ, m, o, s, Pst.imp (Pst.bind q) fun x H1 ⟨W1, d, m1, l1, o1, r1, p1⟩ => ?_⟩
    split at p1
    · rename_i xs h0
      split at p1
      case isFalse => exact p1.elim
      rename_i hu
      obtain ⟨a, ex, h⟩ := dkeysD_ok o1 h0 r1
      obtain ⟨a', ex', hun⟩ := unlk_ok o1 h0 hu r1
      subst ex
      cases ex'
      have np : ∀ {p : Addr} {v u : HO}, H1 p = none → Rd H1 a u → Rd (upd H1 p v) a u := fun {p v u} hp h => by
        rcases h with h | ⟨ob, h⟩
        · exact .inl (by rw [upd_ne (ne_of_none h hp)]; exact h)
        · exact .inr ⟨ob, by rw [upd_ne (ne_of_none h hp)]; exact h⟩
      rcases h with ⟨kvs, q1, q2⟩ | ⟨kvs, q1, q2⟩
      · exact ⟨⟨a, rfl, .inl ⟨kvs, q1⟩⟩, a, rfl, rfl, .inl ⟨kvs, q1, fun p hp => .inl ⟨p, a, rfl, upd_same, .inl ⟨kvs, np hp q1, F.mak (o1.junk hp) q2 p1⟩⟩⟩⟩
      · have q1' := hw ▸ q1
        exact ⟨⟨a, rfl, .inr ⟨kvs, q1'⟩⟩, a, rfl, rfl, .inr ⟨kvs, q1', fun p hp => .inr ⟨p, a, kvs, rfl, upd_same, np hp q1', F.mak (o1.junk hp) q2 p1⟩⟩⟩
    · exact p1.elim
end
end LN
namespace LN
open PySem L2 PySem.Spec PyProof.Rows

/-! ### sorted -/
def lexLe : List Int → List Int → Bool
  | [], _ => true
  | _ :: _, [] => false
  | a :: r, b :: q => if a < b then true else if a = b then lexLe r q else false
theorem lexLe_total : ∀ a b, lexLe a b = true ∨ lexLe b a = true
  | [], _ => .inl rfl
  | _ :: _, [] => .inr rfl
  | a :: r, b :: q => by
    simp only [lexLe]
    by_cases h1 : a < b
    · simp [h1]
    · by_cases h2 : a = b
      · subst h2; simp [lexLe_total r q]
      · have : b < a := by omega
        simp [this]
theorem lexLe_trans : ∀ {a b d}, lexLe a b = true → lexLe b d = true → lexLe a d = true
  | [], _, _, _, _ => rfl
  | _ :: _, [], _, h, _ => by simp [lexLe] at h
  | _ :: _, _ :: _, [], _, h => by simp [lexLe] at h
  | a :: r, b :: q, d :: s, h, k => by
    simp only [lexLe] at h k ⊢
    split at h
    · split at k
      · rw [if_pos (by omega)]
      · split at k
        · rw [if_pos (by omega)]
        · cases k
    · split at h
      · subst_vars
        split at k
        · rw [if_pos (by omega)]
        · split at k
          · subst_vars
            rw [if_neg (by omega), if_pos rfl]
            exact lexLe_trans h k
          · cases k
      · cases h
theorem lexLe_anti : ∀ {a b}, lexLe a b = true → lexLe b a = true → a = b
  | [], [], _, _ => rfl
  | [], _ :: _, _, k => by simp [lexLe] at k
  | _ :: _, [], h, _ => by simp [lexLe] at h
  | a :: r, b :: q, h, k => by
    simp only [lexLe] at h k
    split at h
    · rw [if_neg (by omega), if_neg (by omega)] at k; cases k
    · split at h
      · subst_vars
        rw [if_neg (by omega), if_pos rfl] at k
        rw [lexLe_anti h k]
      · cases h
theorem lexLe_code {B : Int} : ∀ {n m : List Int}, n.length = m.length → TS.Bd B n → TS.Bd B m → TS.code B n ≤ TS.code B m → lexLe n m = true
  | [], _, _, _, _, _ => rfl
  | _ :: _, [], h, _, _, _ => by simp at h
  | a :: r, b :: q, hl, h1, h2, h => by
    have hl' : r.length = q.length := by simpa using hl
    simp only [lexLe]
    by_cases e1 : a < b
    · rw [if_pos e1]
    · rw [if_neg e1]
      by_cases e2 : a = b
      · subst e2
        rw [if_pos rfl]
        refine lexLe_code hl' h1.tail h2.tail ?_
        rcases Int.lt_or_le (TS.code B q) (TS.code B r) with z | z
        · have := (TS.code_same (B := B) (d := a) hl'.symm).mpr z
          omega
        · exact z
      · have z : b < a := by omega
        have := TS.code_lt hl'.symm h2.tail h1.tail z
        omega
/-- a sorted rearrangement is one -/
theorem perm_unique {α : Type} {le : α → α → Prop} (anti : ∀ a b, le a b → le b a → a = b) : ∀ {xs ys : List α}, xs.Perm ys → xs.Pairwise le → ys.Pairwise le → xs = ys
  | [], ys, p, _, _ => (List.nil_perm.mp p).symm
  | x :: xs, [], p, _, _ => absurd p.length_eq (by simp)
  | x :: xs, y :: ys, p, hx, hy => by
    obtain ⟨h1, h2⟩ := List.pairwise_cons.mp hx
    obtain ⟨k1, k2⟩ := List.pairwise_cons.mp hy
    have e : x = y := by
      have mx : x ∈ y :: ys := p.mem_iff.mp (List.mem_cons_self ..)
      have my : y ∈ x :: xs := p.mem_iff.mpr (List.mem_cons_self ..)
      rcases List.mem_cons.mp mx with e | m1
      · exact e
      · rcases List.mem_cons.mp my with e | m2
        · exact e.symm
        · exact anti _ _ (h1 _ m2) (k1 _ m1)
    subst e
    rw [perm_unique anti (List.Perm.cons_inv p) h2 k2]
def sortI (ns : List Int) : List Int := ns.mergeSort fun a b => decide (a ≤ b)
def sortT (ks : List (List Int)) : List (List Int) := ks.mergeSort lexLe
theorem sortI_perm (ns : List Int) : (sortI ns).Perm ns := List.mergeSort_perm _ _
theorem sortT_perm (ns : List (List Int)) : (sortT ns).Perm ns := List.mergeSort_perm _ _
theorem sortI_pw (ns : List Int) : (sortI ns).Pairwise (· ≤ ·) := by
  have := List.pairwise_mergeSort (le := fun a b : Int => decide (a ≤ b)) (by intro a b c h1 h2; simp at *; omega) (by intro a b; simp; omega) ns
  exact this.imp fun h => by simpa using h
theorem sortT_pw (ns : List (List Int)) : (sortT ns).Pairwise (fun a b => lexLe a b = true) :=
  List.pairwise_mergeSort (le := lexLe) (fun a b c h1 h2 => lexLe_trans h1 h2) (fun a b => by rw [Bool.or_eq_true]; exact lexLe_total a b) ns
def tupI (ns : List Int) : D := .tup (ns.map .int)
def dTups : List D → Option (List (List Int))
  | [] => some []
  | .tup xs :: r => match dInts xs, dTups r with
    | some n, some ns => some (n :: ns)
    | _, _ => none
  | _ => none
theorem dInts_eq : ∀ {xs : List D} {ns : List Int}, dInts xs = some ns → xs = ns.map .int
  | [], _, h => by simp only [dInts, Option.some.injEq] at h; subst h; rfl
  | .int i :: r, _, h => by
    simp only [dInts, Option.map_eq_some_iff] at h
    obtain ⟨ms, h1, rfl⟩ := h
    rw [dInts_eq h1]; rfl
theorem dTups_eq : ∀ {xs : List D} {ks : List (List Int)}, dTups xs = some ks → xs = ks.map tupI
  | [], _, h => by simp only [dTups, Option.some.injEq] at h; subst h; rfl
  | .tup ys :: r, _, h => by
    simp only [dTups] at h
    split at h
    · rename_i n ns h1 h2
      cases h
      rw [dTups_eq h2, dInts_eq h1]; rfl
    · cases h
def bdOf (ks : List (List Int)) : Int := ks.foldr (fun n b => n.foldr (fun i b => max b (i + 1)) b) 1
def okT (ks : List (List Int)) : Bool := decide (ks.length < 64) && match ks with
  | [] => true
  | k :: _ => decide (1 ≤ k.length) && ks.all fun n => decide (n.length = k.length) && n.all fun i => decide (0 ≤ i)
def bSort (fin : List D → Mem → Rs D) : List D → Mem → Rs D
  | [d], m => match vwL m d with
    | some xs => match dInts xs with
      | some ns => fin ((sortI ns).map .int) m
      | none => match dTups xs with
        | some ks => if okT ks = true then fin ((sortT ks).map tupI) m else .stuck
        | none => .stuck
    | none => .stuck
  | _, _ => .stuck
theorem Rps.perm {c : Ct} {W : Wd} {α : Type} {g : α → D} {xs : List α} {vs us : List V} (r : Rps c W (xs.map g) vs) (p : us.Perm vs) : ∃ ys : List α, ys.Perm xs ∧ Rps c W (ys.map g) us := by
  induction p generalizing xs with
  | nil =>
    have := r.length
    cases xs with
    | nil => exact ⟨[], .refl _, r⟩
    | cons => simp at this
  | cons v p ih =>
    cases xs with
    | nil => simp [Rps] at r
    | cons x xs =>
      simp only [List.map_cons, Rps] at r
      obtain ⟨v', r', e, r1, r2⟩ := r
      cases e
      obtain ⟨ys, hp, hr⟩ := ih r2
      exact ⟨x :: ys, hp.cons x, Rps.cons r1 hr⟩
  | swap v u l =>
    match xs, r with
    | [], r => simp [Rps] at r
    | [_], r => simp [Rps] at r
    | x :: y :: xs, r =>
      simp only [List.map_cons, Rps] at r
      obtain ⟨v', r', e, r1, w', r'', e2, r2, r3⟩ := r
      cases e; cases e2
      exact ⟨y :: x :: xs, .swap _ _ _, Rps.cons r2 (Rps.cons r1 r3)⟩
  | trans p q ih1 ih2 =>
    obtain ⟨ys, h1, r1⟩ := ih2 r
    obtain ⟨zs, h2, r2⟩ := ih1 r1
    exact ⟨zs, h2.trans h1, r2⟩
theorem bdOf_le : ∀ {ks : List (List Int)} {n : List Int} {i : Int}, n ∈ ks → i ∈ n → i < bdOf ks := by
  have inner : ∀ (n : List Int) (b : Int), b ≤ n.foldr (fun i b => max b (i + 1)) b ∧ ∀ i ∈ n, i < n.foldr (fun i b => max b (i + 1)) b := by
    intro n b
    induction n with
    | nil => exact ⟨Int.le_refl _, by simp⟩
    | cons x n ih =>
      simp only [List.foldr_cons]
      refine ⟨by omega, fun i hi => ?_⟩
      rcases List.mem_cons.mp hi with e | hi
      · subst e; omega
      · have := ih.2 i hi; omega
  intro ks
  induction ks with
  | nil => intro n i h; simp at h
  | cons k ks ih =>
    intro n i hn hi
    simp only [bdOf, List.foldr_cons]
    rcases List.mem_cons.mp hn with e | hn
    · subst e; exact (inner n _).2 i hi
    · exact Int.lt_of_lt_of_le (ih hn hi) (inner k _).1
section
variable {X : Cx} {c : Ct} {E : XK} {fin : List D → Mem → Rs D}
def rSortAll (K : PySem.W.Frag) : List V → Hp → VK → Prop := fun xs H Q => rSortedI K xs H Q ∨ ∃ d B, 1 ≤ d ∧ rSortU K d B xs H Q
theorem cr_sort : CallR X (.builtin "sorted") (rSortAll X.K) := fun pins s σ H xs us Q I r h => by
  rcases h with h | ⟨d, B, hd, h⟩
  · exact cr_sortedI pins s σ H xs us Q I r h
  · exact cr_sortT hd pins s σ H xs us Q I r h
theorem cs_sort (F : FinN fin) (hK : c.K = X.K := by rfl) : CallS c E (rSortAll X.K) (bSort fin) := fun W m H xs ds Q o r q => by
  unfold bSort at q
  split at q
  · obtain ⟨v, rfl, r1⟩ := rps1 r
    split at q
    · rename_i ys h
      obtain ⟨a, vs, rfl, q2, q3⟩ := vwL_ok o h r1
      split at q
      · rename_i ns hn
        have e := ints_ok hn q3
        subst e
        refine .inl ⟨a, ns, rfl, SqL.of q2, fun ns' p hp hs hf => ?_⟩
        have en : ns' = sortI ns := perm_unique (le := (· ≤ ·)) (fun a b h1 h2 => by omega) (hp.trans (sortI_perm ns).symm) hs (sortI_pw ns)
        subst en
        refine F.mak o (ds := (sortI ns).map .int) ?_ q p hf
        exact Rps.of (by simp) fun i d v h1 h2 => by
          rw [List.getElem?_map] at h1 h2
          cases e : (sortI ns)[i]? with
          | none => rw [e] at h1; cases h1
          | some x => rw [e] at h1 h2; cases h1; cases h2; simp [Rp]
      · split at q
        · rename_i ks hk
          have e := dTups_eq hk
          subst e
          split at q
          case isFalse => exact q.elim
          rename_i hok
          unfold okT at hok
          rw [Bool.and_eq_true] at hok
          have h64 : ks.length < 64 := of_decide_eq_true hok.1
          have tupOf : ∀ {H' : Hp} {W' : Wd} {n : List Int} {x : V}, (∀ a o, W'.G a = some o → H' a = some o) → Rp c W' (tupI n) x → TupI X.K H' x n := fun {H' W' n x} hg r => by
            unfold tupI at r
            simp only [Rp] at r
            obtain ⟨t, vs, rfl, q, r⟩ := r
            have e := ints_ok (ns := n) (xs := n.map .int) (by
              clear r
              induction n with
              | nil => rfl
              | cons i n ih => simp [dInts, ih]) r
            subst e
            exact ⟨t, rfl, hK ▸ (q.mono hg).sq⟩
          cases ks with
          | nil =>
            have hv : vs = [] := by simpa [Rps] using q3
            subst hv
            refine .inr ⟨1, 1, Nat.le_refl _, a, [], rfl, SqL.of q2, by decide, by simp, fun ys p hp _ hf => ?_⟩
            have : ys = [] := List.perm_nil.mp hp
            subst this
            have e0 : sortT [] = [] := List.perm_nil.mp (sortT_perm [])
            rw [e0] at q
            exact F.mak o (ds := []) Rps.nil q p hf
          | cons k0 ks0 =>
            have hok2 := hok.2
            simp only [Bool.and_eq_true, List.all_eq_true, decide_eq_true_eq] at hok2
            obtain ⟨hd, hall⟩ := hok2
            have hB : ∀ n ∈ k0 :: ks0, n.length = k0.length ∧ TS.Bd (bdOf (k0 :: ks0)) n := fun n hn => ⟨(hall n hn).1, fun i hi => ⟨(hall n hn).2 i hi, bdOf_le hn hi⟩⟩
            refine .inr ⟨k0.length, bdOf (k0 :: ks0), hd, a, vs, rfl, SqL.of q2, by rw [← q3.length]; simpa using h64, fun x hx => ?_, fun ys p hp hs hf => ?_⟩
            · obtain ⟨i, hi⟩ := List.getElem?_of_mem hx
              have hlt : i < ((k0 :: ks0).map tupI).length := by rw [q3.length]; exact (List.getElem?_eq_some_iff.mp hi).1
              have hk := List.getElem?_eq_getElem hlt
              have rr := q3.at hk hi
              simp only [List.getElem_map] at rr
              have hm : (k0 :: ks0)[i]'(by simpa using hlt) ∈ k0 :: ks0 := List.getElem_mem _
              exact ⟨_, tupOf o.g rr, (hB _ hm).1, (hB _ hm).2⟩
            · obtain ⟨ks', hp', r'⟩ := Rps.perm q3 hp
              have hsrt : ks'.Pairwise (fun a b => lexLe a b = true) := by
                rw [List.pairwise_iff_getElem]
                intro i j hi hj hij
                have hl := r'.length
                rw [List.length_map] at hl
                have e1 : (ks'.map tupI)[i]? = some (tupI ks'[i]) := by rw [List.getElem?_map, List.getElem?_eq_getElem hi]; rfl
                have e2 : (ks'.map tupI)[j]? = some (tupI ks'[j]) := by rw [List.getElem?_map, List.getElem?_eq_getElem hj]; rfl
                have g1 := r'.at e1 (List.getElem?_eq_getElem (by omega : i < ys.length))
                have g2 := r'.at e2 (List.getElem?_eq_getElem (by omega : j < ys.length))
                have m1 := hB _ (hp'.mem_iff.mp (List.getElem_mem hi))
                have m2 := hB _ (hp'.mem_iff.mp (List.getElem_mem hj))
                have := (List.pairwise_iff_getElem.mp hs) i j (by omega) (by omega) hij _ _ (tupOf o.g g1) (tupOf o.g g2)
                exact lexLe_code (m1.1.trans m2.1.symm) m1.2 m2.2 this
              have en : ks' = sortT (k0 :: ks0) := perm_unique (le := fun a b => lexLe a b = true) (fun a b h1 h2 => lexLe_anti h1 h2) (hp'.trans (sortT_perm _).symm) hsrt (sortT_pw _)
              subst en
              exact F.mak o r' q p hf
        · exact q.elim
    · exact q.elim
  · exact q.elim
end

/-! ### dict(pairs) -/
def dPairs : List D → Option (List (L2.Key × D))
  | [] => some []
  | .tup [k, x] :: r => match keyD k, dPairs r with
    | some k, some ps => some ((k, x) :: ps)
    | _, _ => none
  | _ => none
def mergeD (ps : List (L2.Key × D)) (ks : List L2.Key) (xs : List D) : List L2.Key × List D := match ps with
  | [] => (ks, xs)
  | (k, x) :: r => mergeD r (putD ks xs k x).1 (putD ks xs k x).2
/-- how a new dict is made of what was made -/
structure FinK (fin : List L2.Key → List D → Mem → Rs D) : Prop where
  mak : ∀ {c : Ct} {E : XK} {ks : List L2.Key} {ds : List D} {xs : List V} {m : Mem} {W : Wd} {H : Hp} {Q : VK}, Ok c W m H → ks.length = xs.length → Rps c W ds xs → Pst c E (Rp c) (fin ks ds m) W Q → ∀ p, H p = none → Q (.ref p) (upd H p (.dK (ks.zip xs)))
def finKF (ks : List L2.Key) (ds : List D) (m : Mem) : Rs D := .ok (.dk ks ds) m
def finKM (ks : List L2.Key) (ds : List D) (m : Mem) : Rs D := newObj (.dk ks ds) m
theorem finK_F : FinK finKF := ⟨fun {c E ks ds xs m W H Q} o hl r q p hp => by
  obtain ⟨l, o'⟩ := o.froz (o := .dK (ks.zip xs)) hp
  refine q _ _ _ l o' ?_
  simp only [Rp]
  exact ⟨p, xs, rfl, upd_same, hl, r.mono l ds⟩⟩
theorem finK_M : FinK finKM := ⟨fun {c E ks ds xs m W H Q} o hl r q p hp => by
  unfold finKM newObj at q
  split at q
  · rename_i h
    obtain ⟨W', l, o', r'⟩ := o.alloc (o := .dk ks ds) (u := .dK (ks.zip xs)) (fun z => h.1 (by rw [z]; rfl)) hp h.2 ⟨xs, upd_same, hl, r⟩
    exact q _ _ _ l o' r'
  · exact q.elim⟩
theorem putD_nodup {κ : Type} [DecidableEq κ] : ∀ {ks : List κ} {xs : List D} {k : κ} {y : D}, ks.length = xs.length → ks.Nodup → (putD ks xs k y).1.Nodup ∧ (putD ks xs k y).1.length = (putD ks xs k y).2.length ∧ ∀ j, j ∈ (putD ks xs k y).1 ↔ j = k ∨ j ∈ ks
  | [], [], k, y, _, _ => by simp [putD]
  | [], _ :: _, _, _, h, _ => by simp at h
  | _ :: _, [], _, _, h, _ => by simp at h
  | j :: ks, x :: xs, k, y, hl, nd => by
    simp only [putD]
    by_cases e : j = k
    · subst e
      rw [if_pos rfl]
      refine ⟨nd, by simpa using hl, fun i => ?_⟩
      simp only [List.mem_cons]
      constructor
      · intro h; exact .inr h
      · intro h; rcases h with h | h
        · exact .inl h
        · exact h
    · rw [if_neg e]
      obtain ⟨h1, h2, h3⟩ := putD_nodup (ks := ks) (xs := xs) (k := k) (y := y) (by simpa using hl) (List.nodup_cons.mp nd).2
      refine ⟨List.nodup_cons.mpr ⟨fun z => ?_, h1⟩, by simpa using h2, fun i => ?_⟩
      · rcases (h3 j).mp z with z | z
        · exact e z
        · exact (List.nodup_cons.mp nd).1 z
      · simp only [List.mem_cons, h3]
        constructor
        · rintro (h | h | h)
          · exact .inr (.inl h)
          · exact .inl h
          · exact .inr (.inr h)
        · rintro (h | h | h)
          · exact .inr (.inl h)
          · exact .inl h
          · exact .inr (.inr h)
def bDict (fin : List L2.Key → List D → Mem → Rs D) : List D → Mem → Rs D
  | [d], m => match vwL m d with
    | some xs => match dPairs xs with
      | some ps => fin (mergeD ps [] []).1 (mergeD ps [] []).2 m
      | none => .stuck
    | none => .stuck
  | _, _ => .stuck
def rDictP (K : PySem.W.Frag) : List V → Hp → VK → Prop := fun xs H Q => ∃ (a : Addr) (ps : List Addr) (kvs : List (L2.Key × V)), xs = [.ref a] ∧ SqL K H a (ps.map V.ref) ∧ Paired (fun p kv => SqT K H p [kV kv.1, kv.2]) ps kvs ∧
    ∀ p, H p = none → Q (.ref p) (upd H p (.dK (mergeK [] kvs)))
section
variable {X : Cx} {c : Ct} {E : XK} {fin : List L2.Key → List D → Mem → Rs D}
theorem dPairs_ok {W : Wd} {m : Mem} {H : Hp} (o : Ok c W m H) : ∀ {xs : List D} {ps : List (L2.Key × D)} {vs : List V}, dPairs xs = some ps → Rps c W xs vs →
    ∃ (as : List Addr) (us : List V), vs = as.map V.ref ∧ us.length = ps.length ∧ Paired (fun p kv => SqT c.K H p [kV kv.1, kv.2]) as ((ps.map (·.1)).zip us) ∧ Rps c W (ps.map (·.2)) us
  | [], ps, vs, h, r => by
    simp only [dPairs, Option.some.injEq, Rps] at h r
    subst h; subst r
    exact ⟨[], [], rfl, rfl, .nil, Rps.nil⟩
  | x :: xs, ps, vs, h, r => by
    unfold dPairs at h
    split at h
    · cases ‹x :: xs = []›
    · rename_i k y r0 e0
      cases e0
      split at h
      · rename_i k' ps' h1 h2
        cases h
        simp only [Rps, Rp] at r
        obtain ⟨v, r', rfl, ⟨a, vs2, rfl, q, v1, r3, rfl, s1, v2, r4, rfl, s2, rfl⟩, r2⟩ := r
        obtain ⟨as, us, e1, e2, e3, e4⟩ := dPairs_ok o h2 r2
        have ek := keyD_ok h1 s1
        subst ek
        refine ⟨a :: as, v2 :: us, by rw [e1]; rfl, by simpa using e2, .cons (q.mono o.g).sq e3, Rps.cons s2 e4⟩
      · cases h
    · cases h
theorem mergeD_ok {W : Wd} : ∀ {ps : List (L2.Key × D)} {us : List V} {ks : List L2.Key} {xs : List D} {vs : List V}, us.length = ps.length → Rps c W (ps.map (·.2)) us → ks.Nodup → ks.length = vs.length → Rps c W xs vs →
    ∃ vs', mergeK (ks.zip vs) ((ps.map (·.1)).zip us) = (mergeD ps ks xs).1.zip vs' ∧ (mergeD ps ks xs).1.length = vs'.length ∧ Rps c W (mergeD ps ks xs).2 vs'
  | [], us, ks, xs, vs, hl, r, nd, l, rx => by
    have : us = [] := List.eq_nil_of_length_eq_zero (by simpa using hl)
    subst this
    exact ⟨vs, rfl, l, rx⟩
  | (k, x) :: ps, [], ks, xs, vs, hl, _, _, _, _ => by simp at hl
  | (k, x) :: ps, u :: us, ks, xs, vs, hl, r, nd, l, rx => by
    simp only [List.map_cons, Rps] at r
    obtain ⟨v', r', e, r1, r2⟩ := r
    cases e
    obtain ⟨vs1, h1, h2, h3⟩ := putD_ok k nd rx l r1
    have h4 := putD_nodup (ks := ks) (xs := xs) (k := k) (y := x) (l.trans rx.length.symm) nd
    obtain ⟨vs2, g1, g2, g3⟩ := mergeD_ok (ps := ps) (by simpa using hl) r2 h4.1 h2 h3
    refine ⟨vs2, ?_, g2, g3⟩
    show _ = (mergeD ps (putD ks xs k x).1 (putD ks xs k x).2).1.zip vs2
    rw [← g1, ← h1]
    rfl
theorem cs_dict (F : FinK fin) (hK : c.K = X.K := by rfl) : CallS c E (rDictP X.K) (bDict fin) := fun W m H xs ds Q o r q => by
  unfold bDict at q
  split at q
  · obtain ⟨v, rfl, r1⟩ := rps1 r
    split at q
    · rename_i ys h
      obtain ⟨a, vs, rfl, q2, q3⟩ := vwL_ok o h r1
      split at q
      · rename_i ps hp
        obtain ⟨as, us, rfl, e2, e3, e4⟩ := dPairs_ok o hp q3
        obtain ⟨vs', h1, h2, h3⟩ := mergeD_ok (ks := []) (xs := []) (vs := []) e2 e4 List.nodup_nil rfl Rps.nil
        refine ⟨a, as, _, rfl, SqL.of q2, hK ▸ e3, fun p hf => ?_⟩
        have h1 : mergeK [] ((ps.map (·.1)).zip us) = (mergeD ps [] []).1.zip vs' := h1
        rw [h1]
        exact F.mak o h2 h3 q p hf
      · exact q.elim
    · exact q.elim
  · exact q.elim
end
end LN
namespace LN
open PySem L2 PySem.Spec PyProof.Rows

/-! ### a dict is walked: locked -/
theorem Sl_L {c : Ct} {G L L' : Hp} {ι : Nat → Nat → Option Addr} {ρ : Lc} {σ : L2.St} (s : Sl c ⟨G, L, ι⟩ ρ σ) : Sl c ⟨G, L', ι⟩ ρ σ :=
  ⟨s.1, fun i d e => let ⟨v, h, r⟩ := s.2 i d e; ⟨v, h, (Rp_L d).mp r⟩⟩
section
variable {c : Ct} {W : Wd} {m : Mem} {H : Hp}
theorem Ok.lockW (k : Ok c W m H) {f i : Nat} {a : Addr} {od : Obj} {u : HO} {o o0 : MO} (h0 : m.get f i = some o0) (a0 : o0.alive = true) (u0 : o0.lkd = false) (ha : W.ι f i = some a) (hu : H a = some u) (ol : o.lt (f + 1) = true) (ok : o.lkd = true)
    (r : MoR c W (upd H a (.frz od u)) a o) : le W { W with L := upd W.L a (.frz od u) } ∧ Ok c { W with L := upd W.L a (.frz od u) } (m.put f i o) (upd H a (.frz od u)) := by
  obtain ⟨b, e1, e2, e3, e4⟩ := k.i f i o0 h0 a0
  rw [ha] at e1; cases e1
  have e4 := e4.un u0
  have gp := fun f' i' => Mem.get_put (o := o) h0 f' i'
  have L : le W { W with L := upd W.L a (.frz od u) } := ⟨fun _ _ h => h, fun b v h => by show upd W.L a _ b = _; rw [upd_ne (ne_of_none h e4)]; exact h, fun _ _ _ h => h⟩
  have rL : ∀ {o : MO} {H : Hp} {b : Addr}, MoR c W H b o → MoR c { W with L := upd W.L a (.frz od u) } H b o := fun {o H b} r => MoR.L (G := W.G) (L := W.L) (ι := W.ι) r
  refine ⟨L, fun b v h => ?_, fun b v h => ?_, fun b v h => ?_, fun f' i' o' h1 h2 => ?_, fun f1 i1 f2 i2 o1 o2 b h1 a1 h2 a2 q1 q2 => ?_, fun f' i' b h => ?_, fun f' i' o' h => ?_, fun b v h => ?_, tabs_upd k.tb (e2.datAt a0), k.nt⟩
  · rw [upd_ne (ne_of_none h e3)]; exact k.g b v h
  · have h : upd W.L a (.frz od u) b = some v := h
    by_cases e : b = a
    · subst e; rw [upd_same] at h ⊢; exact h
    · rw [upd_ne e] at h ⊢; exact k.l b v h
  · have h : upd W.L a (.frz od u) b = some v := h
    by_cases e : b = a
    · subst e; exact e3
    · rw [upd_ne e] at h; exact k.gl b v h
  · rw [gp] at h1
    by_cases e : f' = f ∧ i' = i
    · rw [if_pos e] at h1; cases h1
      refine ⟨a, by rw [e.1, e.2]; exact ha, rL r, e3, ?_⟩
      unfold Lkd
      rw [if_pos ok]
      exact ⟨od, u, upd_same⟩
    · rw [if_neg e] at h1
      obtain ⟨b, q1, q2, q3, q4⟩ := k.i f' i' o' h1 h2
      have nb : b ≠ a := by
        rintro rfl
        exact e (k.inj _ _ _ _ _ _ _ h1 h2 h0 a0 q1 ha)
      exact ⟨b, q1, rL (q2.mono (le.refl W) fun v h => by rw [upd_ne nb]; exact h), q3, q4.eq (by show upd W.L a _ b = W.L b; rw [upd_ne nb])⟩
  · rw [gp] at h1 h2
    by_cases c1 : f1 = f ∧ i1 = i
    · by_cases c2 : f2 = f ∧ i2 = i
      · exact ⟨c1.1.trans c2.1.symm, c1.2.trans c2.2.symm⟩
      · rw [if_neg c2] at h2
        rw [c1.1, c1.2] at q1 ⊢
        exact k.inj _ _ _ _ _ _ _ h0 a0 h2 a2 q1 q2
    · rw [if_neg c1] at h1
      by_cases c2 : f2 = f ∧ i2 = i
      · rw [c2.1, c2.2] at q2 ⊢
        exact k.inj _ _ _ _ _ _ _ h1 a1 h0 a0 q1 q2
      · rw [if_neg c2] at h2
        exact k.inj _ _ _ _ _ _ _ h1 a1 h2 a2 q1 q2
  · rw [gp]
    by_cases e : f' = f ∧ i' = i
    · rw [if_pos e]; exact ⟨_, rfl⟩
    · rw [if_neg e]; exact k.rng _ _ _ h
  · rw [gp] at h
    by_cases e : f' = f ∧ i' = i
    · rw [if_pos e] at h; cases h; rw [e.1]; exact ol
    · rw [if_neg e] at h; exact k.lt _ _ _ h
  · have h : upd W.L a (.frz od u) b = some v := h
    by_cases e : b = a
    · subst e; rw [upd_same] at h; cases h; exact .inr (.inl ⟨_, _, rfl⟩)
    · rw [upd_ne e] at h; exact k.ll b v h
theorem Ok.unlockW (k : Ok c W m H) {f i : Nat} {a : Addr} {od : Obj} {u : HO} {o o0 : MO} (h0 : m.get f i = some o0) (a0 : o0.alive = true) (ha : W.ι f i = some a) (hL : W.L a = some (.frz od u)) (ol : o.lt (f + 1) = true) (ok : o.lkd = false)
    (r : MoR c W (upd H a u) a o) : Ok c { W with L := rm W.L a } (m.put f i o) (upd H a u) := by
  obtain ⟨b, e1, e2, e3, e4⟩ := k.i f i o0 h0 a0
  rw [ha] at e1; cases e1
  have gp := fun f' i' => Mem.get_put (o := o) h0 f' i'
  have rL : ∀ {o : MO} {H : Hp} {b : Addr}, MoR c W H b o → MoR c { W with L := rm W.L a } H b o := fun {o H b} r => MoR.L (G := W.G) (L := W.L) (ι := W.ι) r
  refine ⟨fun b v h => ?_, fun b v h => ?_, fun b v h => k.gl b v (rm_some h).2, fun f' i' o' h1 h2 => ?_, fun f1 i1 f2 i2 o1 o2 b h1 a1 h2 a2 q1 q2 => ?_, fun f' i' b h => ?_, fun f' i' o' h => ?_, fun b v h => k.ll b v (rm_some h).2, tabs_upd k.tb (e2.datAt a0), k.nt⟩
  · rw [upd_ne (ne_of_none h e3)]; exact k.g b v h
  · obtain ⟨e, h⟩ := rm_some h
    rw [upd_ne e]; exact k.l b v h
  · rw [gp] at h1
    by_cases e : f' = f ∧ i' = i
    · rw [if_pos e] at h1; cases h1
      exact ⟨a, by rw [e.1, e.2]; exact ha, rL r, e3, .of rm_same ok⟩
    · rw [if_neg e] at h1
      obtain ⟨b, q1, q2, q3, q4⟩ := k.i f' i' o' h1 h2
      have nb : b ≠ a := by
        rintro rfl
        exact e (k.inj _ _ _ _ _ _ _ h1 h2 h0 a0 q1 ha)
      exact ⟨b, q1, rL (q2.mono (le.refl W) fun v h => by rw [upd_ne nb]; exact h), q3, q4.eq (by show rm W.L a b = W.L b; rw [rm_ne nb])⟩
  · rw [gp] at h1 h2
    by_cases c1 : f1 = f ∧ i1 = i
    · by_cases c2 : f2 = f ∧ i2 = i
      · exact ⟨c1.1.trans c2.1.symm, c1.2.trans c2.2.symm⟩
      · rw [if_neg c2] at h2
        rw [c1.1, c1.2] at q1 ⊢
        exact k.inj _ _ _ _ _ _ _ h0 a0 h2 a2 q1 q2
    · rw [if_neg c1] at h1
      by_cases c2 : f2 = f ∧ i2 = i
      · rw [c2.1, c2.2] at q2 ⊢
        exact k.inj _ _ _ _ _ _ _ h1 a1 h0 a0 q1 q2
      · rw [if_neg c2] at h2
        exact k.inj _ _ _ _ _ _ _ h1 a1 h2 a2 q1 q2
  · rw [gp]
    by_cases e : f' = f ∧ i' = i
    · rw [if_pos e]; exact ⟨_, rfl⟩
    · rw [if_neg e]; exact k.rng _ _ _ h
  · rw [gp] at h
    by_cases e : f' = f ∧ i' = i
    · rw [if_pos e] at h; cases h; rw [e.1]; exact ol
    · rw [if_neg e] at h; exact k.lt _ _ _ h
end
def MO.lock : MO → Option MO
  | .dk ks xs => some (.fk ks xs)
  | .dt ks xs => some (.ft ks xs)
  | _ => none
theorem MO.lock_ok {o o' : MO} (h : o.lock = some o') : o.alive = true ∧ o.lkd = false ∧ o'.alive = true ∧ o'.lkd = true ∧ (∀ n, o'.lt n = o.lt n) ∧ ∀ {c : Ct} {W : Wd} {H : Hp} {a : Addr}, MoR c W H a o → ∃ u, H a = some u ∧ Mut (some u) ∧ (∀ od, MoR c W (upd H a (.frz od u)) a o') ∧
    ∀ {W2 : Wd} {H2 : Hp} {od : Obj}, MoR c W2 H2 a o' → H2 a = some (.frz od u) → MoR c W2 (upd H2 a u) a o := by
  cases o with
  | dk ks xs =>
    cases h
    refine ⟨rfl, rfl, rfl, rfl, fun _ => rfl, fun {c W H a} ⟨vs, q, l, r⟩ => ⟨_, q, trivial, fun od => ⟨od, vs, upd_same, l, r⟩, fun {W2 H2 od} ⟨ob, vs2, q2, l2, r2⟩ e => ⟨vs2, ?_, l2, r2⟩⟩⟩
    rw [e] at q2
    rw [upd_same]
    injection q2 with q2
    injection q2 with _ q2
    rw [q2]
  | dt ks xs =>
    cases h
    refine ⟨rfl, rfl, rfl, rfl, fun _ => rfl, fun {c W H a} ⟨vs, bs, q, l, kb, r⟩ => ⟨_, q, trivial, fun od => ⟨od, vs, bs, upd_same, l, kb, r⟩, fun {W2 H2 od} ⟨ob, vs2, bs2, q2, l2, kb2, r2⟩ e => ⟨vs2, bs2, ?_, l2, kb2, r2⟩⟩⟩
    rw [e] at q2
    rw [upd_same]
    injection q2 with q2
    injection q2 with _ q2
    rw [q2]
  | _ => cases h
open Classical in
/-- behind a lock: the object stands as it stood -/
noncomputable def unl {α : Type} (f i : Nat) (o o' : MO) : Rs α → Rs α
  | .ok a m => if m.get f i = some o' then .ok a (m.put f i o) else .stuck
  | .err e m => .err e m
  | .stuck => .stuck
noncomputable def lockV {α : Type} (i : Nat) (b : EvG α) : EvG α := fun ρ m => match ρ[i]? with
  | some (some (.loc f n)) => match m.get f n with
    | some o => match o.lock with
      | some o' => unl f n o o' (b ρ (m.put f n o'))
      | none => .stuck
    | none => .stuck
  | _ => .stuck
section
variable {X : Cx} {c : Ct} {E : XK}
theorem le.unlock {W W' : Wd} {a : Addr} {od : Obj} {u : HO} (h0 : W.L a = none) (l : le { W with L := upd W.L a (.frz od u) } W') : le W { W' with L := LN.rm W'.L a } :=
  ⟨l.g, fun b v h => by
    have nb := ne_of_none h h0
    show LN.rm W'.L a b = _
    rw [rm_ne nb]
    exact l.l b v (by show upd W.L a _ b = _; rw [upd_ne nb]; exact h), l.i⟩
theorem psd_lock (i : Nat) {st : Stmt} {b : Bd} (h : PS X st (tS c E b)) : PS X st (tS c E (lockV i b)) :=
  PS.weak (ps_lock h) fun Dn σ H ⟨W, ρ, m, o, s, p⟩ => by
    unfold lockV at p
    split at p
    case h_2 => exact p.elim
    rename_i f n hρ
    split at p
    case h_2 => exact p.elim
    rename_i ob hg
    split at p
    case h_2 => exact p.elim
    rename_i ob' hl
    obtain ⟨a1, a2, a3, a4, a5, a6⟩ := MO.lock_ok hl
    obtain ⟨a, e1, e2, e3, e4⟩ := o.i _ _ _ hg a1
    obtain ⟨u, hu, mu, hlk, hun⟩ := a6 e2
    refine ⟨a, u, hu, mu, fun od => ?_⟩
    obtain ⟨l1, o1⟩ := o.lockW hg a1 a2 e1 hu (by rw [a5]; exact o.lt _ _ _ hg) a4 (hlk od)
    refine ⟨_, ρ, m.put f n ob', o1, s.mono l1, ?_⟩
    have fin : ∀ {W' : Wd} {m' : Mem} {H' : Hp}, le { W with L := upd W.L a (.frz od u) } W' → Ok c W' m' H' → m'.get f n = some ob' → H' a = some (.frz od u) ∧ le W { W' with L := rm W'.L a } ∧ Ok c { W' with L := rm W'.L a } (m'.put f n ob) (upd H' a u) := fun {W' m' H'} l o' hg' => by
      have hL := l.l a _ upd_same
      have hH := o'.l _ _ hL
      obtain ⟨b, q1, q2, _⟩ := o'.i _ _ _ hg' a3
      have hi := l.i _ _ _ e1
      rw [hi] at q1; cases q1
      exact ⟨hH, le.unlock (e4.un a2) l, o'.unlockW hg' a3 hi hL (by rw [← a5]; exact o'.lt _ _ _ hg') a2 (hun q2 hH)⟩
    cases hb : b ρ (m.put f n ob') with
    | stuck => rw [hb] at p; exact p.elim
    | err e m' => rw [hb] at p; exact fun W' H' cl dx l o' r => p W' H' cl dx (l1.trans l) o' r
    | ok fl m' =>
      rw [hb] at p
      unfold unl at p
      dsimp only at p
      split at p
      case isFalse => exact p.elim
      rename_i hgt
      cases fl with
      | nx ρ' => exact fun W' H' σ' l o' s' => let ⟨q1, q2, q3⟩ := fin l o' hgt; ⟨q1, p _ _ σ' q2 q3 (Sl_L (G := W'.G) (L := W'.L) (ι := W'.ι) s')⟩
      | bk ρ' => exact fun W' H' σ' l o' s' => let ⟨q1, q2, q3⟩ := fin l o' hgt; ⟨q1, p _ _ σ' q2 q3 (Sl_L (G := W'.G) (L := W'.L) (ι := W'.ι) s')⟩
      | ct ρ' => exact fun W' H' σ' l o' s' => let ⟨q1, q2, q3⟩ := fin l o' hgt; ⟨q1, p _ _ σ' q2 q3 (Sl_L (G := W'.G) (L := W'.L) (ι := W'.ι) s')⟩
      | rt d => exact fun W' H' v l o' r' => let ⟨q1, q2, q3⟩ := fin l o' hgt; ⟨q1, p _ _ v q2 q3 ((Rp_L (G := W'.G) (L := W'.L) (ι := W'.ι) d).mp r')⟩
theorem pd_lock (i : Nat) {e : Expr} {f : Ev} (h : PE X e (tD c E f)) : PE X e (tD c E (lockV i f)) :=
  PE.weak (pe_lock h) fun σ H Q ⟨W, ρ, m, o, s, p⟩ => by
    unfold lockV at p
    split at p
    case h_2 => exact p.elim
    rename_i g n hρ
    split at p
    case h_2 => exact p.elim
    rename_i ob hg
    split at p
    case h_2 => exact p.elim
    rename_i ob' hl
    obtain ⟨a1, a2, a3, a4, a5, a6⟩ := MO.lock_ok hl
    obtain ⟨a, e1, e2, e3, e4⟩ := o.i _ _ _ hg a1
    obtain ⟨u, hu, mu, hlk, hun⟩ := a6 e2
    refine ⟨a, u, hu, mu, fun od => ?_⟩
    obtain ⟨l1, o1⟩ := o.lockW hg a1 a2 e1 hu (by rw [a5]; exact o.lt _ _ _ hg) a4 (hlk od)
    refine ⟨_, ρ, m.put g n ob', o1, s.mono l1, ?_⟩
    cases hb : f ρ (m.put g n ob') with
    | stuck => rw [hb] at p; exact p.elim
    | err e m' => rw [hb] at p; exact fun W' H' cl dx l o' r => p W' H' cl dx (l1.trans l) o' r
    | ok d m' =>
      rw [hb] at p
      unfold unl at p
      dsimp only at p
      split at p
      case isFalse => exact p.elim
      rename_i hg'
      intro W' H' v l o' r'
      have hL := l.l a _ upd_same
      have hH := o'.l _ _ hL
      obtain ⟨b, q1, q2, _⟩ := o'.i _ _ _ hg' a3
      have hi := l.i _ _ _ e1
      rw [hi] at q1; cases q1
      exact ⟨hH, p _ _ v (le.unlock (e4.un a2) l) (o'.unlockW hg' a3 hi hL (by rw [← a5]; exact o'.lt _ _ _ hg') a2 (hun q2 hH)) ((Rp_L (G := W'.G) (L := W'.L) (ι := W'.ι) d).mp r')⟩

/-! the walks over a locked dict -/
def dKeysW (f : Ev) : EvG Wk := fun ρ m => (f ρ m).bind fun d m1 => match d with
  | .loc g n => match m1.get g n with
    | some (.fk ks xs) => .ok ⟨ks.map dKey, fun m2 => m2.get g n = some (.fk ks xs)⟩ m1
    | some (.ft ks xs) => .ok ⟨ks.map dKeyT, fun m2 => m2.get g n = some (.ft ks xs)⟩ m1
    | _ => .stuck
  | _ => .stuck
def dItemsW (f : Ev) : EvG Wk := fun ρ m => (f ρ m).bind fun d m1 => match d with
  | .loc g n => match m1.get g n with
    | some (.fk ks xs) => .ok ⟨(ks.zip xs).map fun kx => .tup [dKey kx.1, kx.2], fun m2 => m2.get g n = some (.fk ks xs)⟩ m1
    | _ => .stuck
  | _ => .stuck
variable {tg e : Expr} {f : Ev} {apos cpos : Pos}
/-- what stands at a locked dict -/
theorem Ok.fkAt {W : Wd} {m : Mem} {H : Hp} (o : Ok c W m H) {g n : Nat} {a : Addr} {ks : List L2.Key} {xs : List D} (hg : m.get g n = some (.fk ks xs)) (ha : W.ι g n = some a) :
    ∃ ob vs, W.L a = some (.frz ob (.dK (ks.zip vs))) ∧ H a = some (.frz ob (.dK (ks.zip vs))) ∧ ks.length = vs.length ∧ Rps c W xs vs := by
  obtain ⟨b, e1, ⟨ob, vs, e2, e3, e4⟩, _, e5⟩ := o.i _ _ _ hg rfl
  rw [ha] at e1; cases e1
  obtain ⟨ob', u, hL⟩ := e5.lk rfl
  have := o.l _ _ hL
  rw [e2] at this; cases this
  exact ⟨ob, vs, hL, e2, e3, e4⟩
theorem Ok.ftAt {W : Wd} {m : Mem} {H : Hp} (o : Ok c W m H) {g n : Nat} {a : Addr} {ks : List NK} {xs : List D} (hg : m.get g n = some (.ft ks xs)) (ha : W.ι g n = some a) :
    ∃ ob vs bs, W.L a = some (.frz ob (NDo c.w a (nz ks bs vs))) ∧ H a = some (.frz ob (NDo c.w a (nz ks bs vs))) ∧ ks.length = vs.length ∧ KB c W.G ks bs ∧ Rps c W xs vs := by
  obtain ⟨b, e1, ⟨ob, vs, bs, e2, e3, e4, e6⟩, _, e5⟩ := o.i _ _ _ hg rfl
  rw [ha] at e1; cases e1
  obtain ⟨ob', u, hL⟩ := e5.lk rfl
  have := o.l _ _ hL
  rw [e2] at this
  injection this with this
  injection this with h1 h2
  subst h1
  rw [← h2] at hL
  exact ⟨ob, vs, bs, hL, e2, e3, e4, e6⟩
theorem zip_at {κ : Type} {ks : List κ} {vs : List V} {i : Nat} {k : κ} {v : V} (h : (ks.zip vs)[i]? = some (k, v)) : ks[i]? = some k ∧ vs[i]? = some v := by
  rw [List.getElem?_zip_eq_some] at h
  exact h
/-- keys of either kind of a locked dict -/
def iKeysA (w : World) (td : TE) : TI := fun σ H R => td σ H fun x H1 => ∃ d o, x = .ref d ∧ ((∃ kvs, H1 d = some (.frz o (.dK kvs)) ∧ R (Itk d o kvs) H1) ∨ ∃ kvs, H1 d = some (.frz o (NDo w d kvs)) ∧ R (ItN w d o kvs) H1)
theorem pi_keysA {td : TE} (he : PE X e td) : PI X tg e (iKeysA X.w td) := by
  refine ⟨fun pins s σ H R I h => ?_⟩
  refine thn (he.run pins s σ H _ I h) fun u s1 ⟨x, H1, I1, rx, d, o, ex, q⟩ => ?_
  subst ex
  obtain rfl : u = Value.ref d := rx
  rcases q with ⟨kvs, hd, q⟩ | ⟨kvs, hd, q⟩
  · obtain ⟨hs, hgd, hx, es, ep, vs, hdt, hsz, kv, hm⟩ := I1.frzK hd
    refine iter_keys hs hgd hx hdt (pi_one (tk := s1.toks) I1 _ (turn_keys _ hdt) ⟨_, Heap.get?_push_size _ rfl, rfl, ?_⟩ q)
    rw [hsz] <;> rfl
  · obtain ⟨hs, hgd, hx, es, ep, hdt, hsz, ent⟩ := nd_frz I1 hd
    refine iter_keys hs hgd hx hdt (pi_one (tk := s1.toks) I1 _ (turn_N _ hdt) ⟨_, Heap.get?_push_size _ rfl, rfl, ?_⟩ q)
    rw [hsz] <;> rfl
theorem nz_at {ks : List NK} {bs : List Addr} {vs : List V} {i : Nat} {p : NE} (h : (nz ks bs vs)[i]? = some p) : ks[i]? = some p.1 ∧ bs[i]? = some p.2.1 ∧ vs[i]? = some p.2.2 := by
  induction ks generalizing bs vs i with
  | nil => simp [nz] at h
  | cons k ks ih =>
    cases bs with
    | nil => simp [nz] at h
    | cons b bs =>
      cases vs with
      | nil => simp [nz] at h
      | cons v vs =>
        cases i with
        | zero => simp only [nz, List.getElem?_cons_zero] at h ⊢; cases h; exact ⟨rfl, rfl, rfl⟩
        | succ i => simp only [nz, List.getElem?_cons_succ] at h ⊢; exact ih h
theorem KB.at {G : Hp} {ks : List NK} {bs : List Addr} (h : KB c G ks bs) {i : Nat} {k : NK} {b : Addr} (h1 : ks[i]? = some k) (h2 : bs[i]? = some b) : NVk c.K c.cs G k (.ref b) := by
  induction ks generalizing bs i with
  | nil => simp at h1
  | cons k' ks ih =>
    simp only [KB] at h
    obtain ⟨b', r, rfl, p, _, q⟩ := h
    cases i with
    | zero => simp at h1 h2; subst h1; subst h2; exact p
    | succ i => simp only [List.getElem?_cons_succ] at h1 h2; exact ih q h1 h2
theorem pid_keys (he : PE X e (tD c E f)) (hw : c.w = X.w := by rfl) : PI X tg e (tI c E (dKeysW f)) :=
  PI.weak (pi_keysA he) fun σ H R ⟨W, ρ, m, o, s, q⟩ => by
    refine ⟨W, ρ, m, o, s, Pst.imp (Pst.bind (RA := Rp c) q) fun x H1 ⟨W1, d, m1, l1, o1, r1, p1⟩ => ?_⟩
    cases d with
    | loc g n =>
      dsimp only at p1
      simp only [Rp] at r1
      obtain ⟨a, rfl, ha⟩ := r1
      split at p1
      · rename_i ks xs hg
        obtain ⟨ob, vs, hL, hH, hl, hr⟩ := o1.fkAt hg ha
        refine ⟨a, ob, rfl, .inl ⟨_, hH, p1 W1 H1 (Itk a ob (ks.zip vs)) (le.refl _) o1 ?_⟩⟩
        intro W2 m2 H2 i l2 o2 hck
        have h2 := o2.l _ _ (l2.l _ _ hL)
        have hz : (ks.zip vs).length = ks.length := by rw [List.length_zip]; omega
        refine ⟨fun d hd => ?_, fun hi => ⟨h2, by rw [hz]; simpa using Nat.le_of_eq hi⟩⟩
        have hd : (ks.map dKey)[i]? = some d := hd
        rw [List.getElem?_map] at hd
        cases hk : ks[i]? with
        | none => rw [hk] at hd; cases hd
        | some k =>
          rw [hk] at hd; cases hd
          have hlt := (List.getElem?_eq_some_iff.mp hk).1
          refine ⟨⟨h2, by rw [hz]; exact hlt⟩, fun x H3 hx => ?_⟩
          obtain ⟨rfl, k', v', hkv, rfl⟩ := hx
          have := (zip_at hkv).1
          rw [hk] at this; cases this
          exact ⟨W2, le.refl _, o2, dKey_ok k⟩
      · rename_i ks xs hg
        obtain ⟨ob, vs, bs, hL, hH, hl, kb, hr⟩ := o1.ftAt hg ha
        rw [hw] at hL hH
        have hz : (nz ks bs vs).length = ks.length := by rw [nz_len kb.len hl]
        refine ⟨a, ob, rfl, .inr ⟨_, hH, p1 W1 H1 (ItN X.w a ob (nz ks bs vs)) (le.refl _) o1 ?_⟩⟩
        intro W2 m2 H2 i l2 o2 hck
        have h2 := o2.l _ _ (l2.l _ _ hL)
        refine ⟨fun d hd => ?_, fun hi => ⟨h2, by rw [hz]; simpa using Nat.le_of_eq hi⟩⟩
        have hd : (ks.map dKeyT)[i]? = some d := hd
        rw [List.getElem?_map] at hd
        cases hk : ks[i]? with
        | none => rw [hk] at hd; cases hd
        | some k =>
          rw [hk] at hd; cases hd
          have hlt := (List.getElem?_eq_some_iff.mp hk).1
          refine ⟨⟨h2, by rw [hz]; exact hlt⟩, fun x H3 hx => ?_⟩
          obtain ⟨rfl, p, hp, rfl⟩ := hx
          obtain ⟨n1, n2, _⟩ := nz_at hp
          rw [hk] at n1; cases n1
          exact ⟨W2, le.refl _, o2, dKeyT_ok _ (NVk.mono l2.g _ (kb.at hk n2))⟩
      · exact p1.elim
    | _ => exact p1.elim
theorem pid_items {elts : List Expr} {kk : Nat} {tpos : Pos} (he : PE X e (tD c E f)) (hbase : attributeBase e "items" X.env (eval e X.env) = eval e X.env := by rfl) (hline : (apos.endLine == cpos.line) = true := by rfl) :
    PI X (.Tuple elts kk tpos) (.Call (.Attribute e "items" apos) [] [] cpos) (tI c E (dItemsW f)) :=
  PI.weak (pi_items he hbase hline) fun σ H R ⟨W, ρ, m, o, s, q⟩ => by
    refine ⟨W, ρ, m, o, s, Pst.imp (Pst.bind (RA := Rp c) q) fun x H1 ⟨W1, d, m1, l1, o1, r1, p1⟩ => ?_⟩
    cases d with
    | loc g n =>
      dsimp only at p1
      simp only [Rp] at r1
      obtain ⟨a, rfl, ha⟩ := r1
      split at p1
      · rename_i ks xs hg
        obtain ⟨ob, vs, hL, hH, hl, hr⟩ := o1.fkAt hg ha
        refine ⟨a, ob, _, rfl, hH, p1 W1 H1 (Iti a ob (ks.zip vs)) (le.refl _) o1 ?_⟩
        intro W2 m2 H2 i l2 o2 hck
        have h2 := o2.l _ _ (l2.l _ _ hL)
        have hz : (ks.zip vs).length = ks.length := by rw [List.length_zip]; omega
        have hz2 : (ks.zip xs).length = ks.length := by rw [List.length_zip, hr.length]; omega
        refine ⟨fun d hd => ?_, fun hi => ⟨h2, by rw [hz]; have hi : ((ks.zip xs).map _).length = i := hi; rw [List.length_map, hz2] at hi; omega⟩⟩
        have hd : ((ks.zip xs).map fun kx => D.tup [dKey kx.1, kx.2])[i]? = some d := hd
        rw [List.getElem?_map] at hd
        cases hk : (ks.zip xs)[i]? with
        | none => rw [hk] at hd; cases hd
        | some kx =>
          rw [hk] at hd; cases hd
          obtain ⟨k, x0⟩ := kx
          have hkx := List.getElem?_zip_eq_some.mp hk
          have hlt := (List.getElem?_eq_some_iff.mp hkx.1).1
          refine ⟨⟨h2, by rw [hz]; exact hlt⟩, fun x H3 hx => ?_⟩
          obtain ⟨T, k', v', hkv, rfl, hT, rfl⟩ := hx
          obtain ⟨z1, z2⟩ := zip_at hkv
          rw [hkx.1] at z1; cases z1
          have rv := (hr.at hkx.2 z2).mono l2 x0
          obtain ⟨l3, o3⟩ := o2.froz (o := .tup [kV k, v']) hT
          refine ⟨_, l3, o3, ?_⟩
          simp only [Rp]
          exact ⟨T, _, rfl, .inl upd_same, Rps.cons (dKey_ok k) (Rps.one (rv.mono l3 x0))⟩
      · exact p1.elim
    | _ => exact p1.elim
end
end LN
namespace LN
open PySem L2 PySem.Spec PyProof.Rows

/-! ### zip, enumerate -/
/-- what is walked in step: a list (true) or a tuple, its items, what must stand -/
def vwW (m : Mem) : D → Option (Bool × List D × (Mem → Prop))
  | .tup xs => some (false, xs, fun _ => True)
  | .lst xs => some (true, xs, fun _ => True)
  | .scr xs => some (true, xs.map .int, fun _ => True)
  | .loc f i => match m.get f i with
    | some (.lst xs) => some (true, xs, fun m2 => m2.get f i = some (.lst xs))
    | _ => none
  | _ => none
theorem vwW_ok {c : Ct} {W : Wd} {m : Mem} {H : Hp} (o : Ok c W m H) {d : D} {v : V} {k : Bool} {xs : List D} {ck : Mem → Prop} (h : vwW m d = some (k, xs, ck)) (r : Rp c W d v) : ck m ∧ ∃ a, v = .ref a ∧
    ∀ W1 m1 H1, le W W1 → Ok c W1 m1 H1 → ck m1 → ∃ vs, Sqk k c.K H1 a vs ∧ Rps c W1 xs vs := by
  cases d with
  | tup ys =>
    cases h
    simp only [Rp] at r
    obtain ⟨a, vs, rfl, q, r⟩ := r
    exact ⟨trivial, a, rfl, fun W1 m1 H1 l o1 _ => ⟨vs, ((q.mono l.g).mono o1.g).sq, r.mono l _⟩⟩
  | lst ys =>
    cases h
    simp only [Rp] at r
    obtain ⟨a, vs, rfl, q, r⟩ := r
    exact ⟨trivial, a, rfl, fun W1 m1 H1 l o1 _ => ⟨vs, SqL.of (o1.g _ _ (l.g _ _ q)), r.mono l _⟩⟩
  | scr ys =>
    cases h
    simp only [Rp] at r
    obtain ⟨a, rfl, q⟩ := r
    refine ⟨trivial, a, rfl, fun W1 m1 H1 l o1 _ => ⟨ys.map V.int, SqL.mono o1.g (SqL.mono l.g q), Rps.of (by simp) fun i d v h1 h2 => ?_⟩⟩
    rw [List.getElem?_map] at h1 h2
    cases e : ys[i]? with
    | none => rw [e] at h1; cases h1
    | some x => rw [e] at h1 h2; cases h1; cases h2; simp [Rp]
  | loc f i =>
    simp only [vwW] at h
    split at h
    · rename_i ys hg
      cases h
      simp only [Rp] at r
      obtain ⟨a, rfl, ha⟩ := r
      refine ⟨hg, a, rfl, fun W1 m1 H1 l o1 hck => ?_⟩
      obtain ⟨b, e1, ⟨vs, e2, e3⟩, _⟩ := o1.i _ _ _ hck rfl
      rw [l.i _ _ _ ha] at e1; cases e1
      exact ⟨vs, SqL.of e2, e3⟩
    · cases h
  | _ => cases h
def dZip2 (f g : Ev) : EvG Wk := fun ρ m => (f ρ m).bind fun d m1 => (g ρ m1).bind fun e m2 => match vwW m2 d, vwW m2 e with
  | some (_, xs, c1), some (_, ys, c2) => .ok ⟨(xs.zip ys).map fun p => .tup [p.1, p.2], fun m3 => c1 m3 ∧ c2 m3⟩ m2
  | _, _ => .stuck
def dZip3 (f g h : Ev) : EvG Wk := fun ρ m => (f ρ m).bind fun d m1 => (g ρ m1).bind fun e m2 => (h ρ m2).bind fun u m3 => match vwW m3 d, vwW m3 e, vwW m3 u with
  | some (_, xs, c1), some (_, ys, c2), some (_, zs, c3) => .ok ⟨(xs.zip (ys.zip zs)).map fun p => .tup [p.1, p.2.1, p.2.2], fun m4 => c1 m4 ∧ c2 m4 ∧ c3 m4⟩ m3
  | _, _, _ => .stuck
def enumD : Nat → List D → List D
  | _, [] => []
  | i, x :: xs => .tup [.int i, x] :: enumD (i + 1) xs
def dEnum (f : Ev) : EvG Wk := fun ρ m => (f ρ m).bind fun d m1 => match vwW m1 d with
  | some (true, xs, ck) => .ok ⟨enumD 0 xs, ck⟩ m1
  | _ => .stuck
theorem enumD_at : ∀ {xs : List D} {k i : Nat}, (enumD k xs)[i]? = (xs[i]?).map fun x => .tup [.int ((k + i : Nat) : Int), x]
  | [], _, _ => by simp [enumD]
  | x :: xs, k, 0 => by simp [enumD]
  | x :: xs, k, i + 1 => by
    simp only [enumD, List.getElem?_cons_succ]
    rw [enumD_at]
    congr 2
    funext x
    congr 3
    omega
theorem enumD_len : ∀ {xs : List D} {k : Nat}, (enumD k xs).length = xs.length
  | [], _ => rfl
  | x :: xs, k => by simp [enumD, enumD_len (xs := xs)]
section
variable {X : Cx} {c : Ct} {E : XK} {p pos tpos : Pos} {elts : List Expr} {kk : Nat} {e e2 e3 : Expr} {f g h : Ev}
theorem pid_zip2 (hm : X.mg "zip" = none) (h1 : PE X e (tD c E f)) (h2 : PE X e2 (tD c E g)) (hK : c.K = X.K := by rfl) (hg : Gl X "zip" := by rfl)
    (hs : starEach [e, e2] X.env = (false, eval e X.env) :: starEach [e2] X.env := by rfl) (hs2 : starEach [e2] X.env = [(false, eval e2 X.env)] := by rfl) (hpl : (backTo pos (starEach [e2] X.env)).any (·.1) = false := by rfl) :
    PI X (.Tuple elts kk tpos) (.Call (.Name "zip" p) [e, e2] [] pos) (tI c E (dZip2 f g)) :=
  PI.weak (pi_zipK2 hg hm (pad_cons (es := [e2]) h1 (pad_cons (es := []) h2 pad_nil hs2) hs) hs hpl) fun σ H R ⟨W, ρ, m, o, s, q⟩ => by
    refine ⟨W, ρ, m, o, s, ?_⟩
    have q : Pst c E (Yld c) ((f ρ m).bind fun d m1 => (g ρ m1).bind fun e m2 => match vwW m2 d, vwW m2 e with
      | some (_, xs, c1), some (_, ys, c2) => .ok ⟨(xs.zip ys).map fun p => .tup [p.1, p.2], fun m3 => c1 m3 ∧ c2 m3⟩ m2
      | _, _ => .stuck) W R := q
    show Pst c E (Rps c) ((f ρ m).bind fun d m1 => ((g ρ m1).bind fun d2 m3 => (Rs.ok [] m3).bind fun ds m2 => Rs.ok (d2 :: ds) m2).bind fun ds m2 => Rs.ok (d :: ds) m2) W _
    simp only [Rs.bind_ok, Rs.bind_assoc]
    cases hf : f ρ m with
    | stuck => rw [hf] at q; exact q
    | err e m1 => rw [hf] at q; exact q
    | ok d m1 =>
      rw [hf] at q
      simp only [Rs.bind_ok] at q ⊢
      cases hg2 : g ρ m1 with
      | stuck => rw [hg2] at q; exact q
      | err e m1 => rw [hg2] at q; exact q
      | ok d2 m2 =>
        rw [hg2] at q
        simp only [Rs.bind_ok] at q ⊢
        intro W1 H1 xs l1 o1 r1
        obtain ⟨v, u, rfl, r3, r4⟩ := rps2 r1
        split at q
        · rename_i k1 ys1 c1 k2 ys2 c2 q1 q2
          obtain ⟨i1, a, rfl, w1⟩ := vwW_ok o1 q1 r3
          obtain ⟨i2, b, rfl, w2⟩ := vwW_ok o1 q2 r4
          obtain ⟨vs1, s1, t1⟩ := w1 W1 m2 H1 (le.refl _) o1 i1
          obtain ⟨vs2, s2, t2⟩ := w2 W1 m2 H1 (le.refl _) o1 i2
          refine ⟨k1, a, vs1, k2, b, vs2, rfl, hK ▸ s1, hK ▸ s2, q W1 H1 (Itk2 X.K k1 a k2 b) l1 o1 ?_⟩
          intro W2 m3 H2 i l2 o2 hck
          obtain ⟨us1, g1, y1⟩ := w1 W2 m3 H2 l2 o2 hck.1
          obtain ⟨us2, g2, y2⟩ := w2 W2 m3 H2 l2 o2 hck.2
          rw [hK] at g1 g2
          have n1 := y1.length
          have n2 := y2.length
          refine ⟨fun d hd => ?_, fun hi => ?_⟩
          · have hd : ((ys1.zip ys2).map fun p => D.tup [p.1, p.2])[i]? = some d := hd
            rw [List.getElem?_map] at hd
            cases hz : (ys1.zip ys2)[i]? with
            | none => rw [hz] at hd; cases hd
            | some pr =>
              rw [hz] at hd; cases hd
              obtain ⟨x1, x2⟩ := pr
              obtain ⟨z1, z2⟩ := List.getElem?_zip_eq_some.mp hz
              obtain ⟨v1, b1, b2⟩ := y1.get z1
              obtain ⟨v2, b3, b4⟩ := y2.get z2
              refine ⟨⟨us1, us2, v1, v2, g1, g2, b1, b3⟩, fun x H3 hx => ?_⟩
              obtain ⟨T, w1, w2, rfl, hT, rfl, f1, f2⟩ := hx
              have f1 := f1 us1 g1
              have f2 := f2 us2 g2
              rw [b1] at f1; cases f1
              rw [b3] at f2; cases f2
              obtain ⟨l3, o3⟩ := o2.froz (o := .tup [v1, v2]) hT
              refine ⟨_, l3, o3, ?_⟩
              simp only [Rp]
              exact ⟨T, _, rfl, .inl upd_same, Rps.cons (b2.mono l3 x1) (Rps.one (b4.mono l3 x2))⟩
          · have hi : ((ys1.zip ys2).map _).length = i := hi
            rw [List.length_map, List.length_zip] at hi
            exact ⟨us1, us2, g1, g2, by omega, by omega, by omega⟩
        · exact q.elim
theorem pid_zip3 (hm : X.mg "zip" = none) (h1 : PE X e (tD c E f)) (h2 : PE X e2 (tD c E g)) (h3 : PE X e3 (tD c E h)) (hK : c.K = X.K := by rfl) (hg : Gl X "zip" := by rfl)
    (hs : starEach [e, e2, e3] X.env = (false, eval e X.env) :: starEach [e2, e3] X.env := by rfl) (hs2 : starEach [e2, e3] X.env = (false, eval e2 X.env) :: starEach [e3] X.env := by rfl) (hs3 : starEach [e3] X.env = [(false, eval e3 X.env)] := by rfl)
    (hpl : (backTo pos (starEach [e2, e3] X.env)).any (·.1) = false := by rfl) :
    PI X (.Tuple elts kk tpos) (.Call (.Name "zip" p) [e, e2, e3] [] pos) (tI c E (dZip3 f g h)) :=
  PI.weak (pi_zipK3 hg hm (pad_cons (es := [e2, e3]) h1 (pad_cons (es := [e3]) h2 (pad_cons (es := []) h3 pad_nil hs3) hs2) hs) hs hpl) fun σ H R ⟨W, ρ, m, o, s, q⟩ => by
    refine ⟨W, ρ, m, o, s, ?_⟩
    have q : Pst c E (Yld c) ((f ρ m).bind fun d m1 => (g ρ m1).bind fun e m2 => (h ρ m2).bind fun u m3 => match vwW m3 d, vwW m3 e, vwW m3 u with
      | some (_, xs, c1), some (_, ys, c2), some (_, zs, c3) => .ok ⟨(xs.zip (ys.zip zs)).map fun p => .tup [p.1, p.2.1, p.2.2], fun m4 => c1 m4 ∧ c2 m4 ∧ c3 m4⟩ m3
      | _, _, _ => .stuck) W R := q
    show Pst c E (Rps c) ((f ρ m).bind fun d m1 => ((g ρ m1).bind fun d2 m3 => ((h ρ m3).bind fun d3 m4 => (Rs.ok [] m4).bind fun ds m2 => Rs.ok (d3 :: ds) m2).bind fun ds m2 => Rs.ok (d2 :: ds) m2).bind fun ds m2 => Rs.ok (d :: ds) m2) W _
    simp only [Rs.bind_ok, Rs.bind_assoc]
    cases hf : f ρ m with
    | stuck => rw [hf] at q; exact q
    | err e m1 => rw [hf] at q; exact q
    | ok d m1 =>
      rw [hf] at q
      simp only [Rs.bind_ok] at q ⊢
      cases hg2 : g ρ m1 with
      | stuck => rw [hg2] at q; exact q
      | err e m1 => rw [hg2] at q; exact q
      | ok d2 m2 =>
        rw [hg2] at q
        simp only [Rs.bind_ok] at q ⊢
        cases hh2 : h ρ m2 with
        | stuck => rw [hh2] at q; exact q
        | err e m1 => rw [hh2] at q; exact q
        | ok d3 m3 =>
        rw [hh2] at q
        simp only [Rs.bind_ok] at q ⊢
        intro W1 H1 xs l1 o1 r1
        simp only [Rps] at r1
        obtain ⟨v, _, rfl, r3, u, _, rfl, r4, w, _, rfl, r5, rfl⟩ := r1
        split at q
        · rename_i k1 ys1 c1 k2 ys2 c2 k3 ys3 c3 q1 q2 q3
          obtain ⟨i1, a, rfl, w1⟩ := vwW_ok o1 q1 r3
          obtain ⟨i2, b, rfl, w2⟩ := vwW_ok o1 q2 r4
          obtain ⟨i3, b3, rfl, w3⟩ := vwW_ok o1 q3 r5
          obtain ⟨vs1, s1, t1⟩ := w1 W1 m3 H1 (le.refl _) o1 i1
          obtain ⟨vs2, s2, t2⟩ := w2 W1 m3 H1 (le.refl _) o1 i2
          obtain ⟨vs3, s3, t3⟩ := w3 W1 m3 H1 (le.refl _) o1 i3
          refine ⟨k1, a, vs1, k2, b, vs2, k3, b3, vs3, rfl, hK ▸ s1, hK ▸ s2, hK ▸ s3, q W1 H1 (Itk3 X.K k1 a k2 b k3 b3) l1 o1 ?_⟩
          intro W2 m4 H2 i l2 o2 hck
          obtain ⟨us1, g1, y1⟩ := w1 W2 m4 H2 l2 o2 hck.1
          obtain ⟨us2, g2, y2⟩ := w2 W2 m4 H2 l2 o2 hck.2.1
          obtain ⟨us3, g3, y3⟩ := w3 W2 m4 H2 l2 o2 hck.2.2
          rw [hK] at g1 g2 g3
          have n1 := y1.length
          have n2 := y2.length
          have n3 := y3.length
          refine ⟨fun d hd => ?_, fun hi => ?_⟩
          · have hd : ((ys1.zip (ys2.zip ys3)).map fun p => D.tup [p.1, p.2.1, p.2.2])[i]? = some d := hd
            rw [List.getElem?_map] at hd
            cases hz : (ys1.zip (ys2.zip ys3))[i]? with
            | none => rw [hz] at hd; cases hd
            | some pr =>
              rw [hz] at hd; cases hd
              obtain ⟨x1, x2, x3⟩ := pr
              obtain ⟨z1, z23⟩ := List.getElem?_zip_eq_some.mp hz
              obtain ⟨z2, z3⟩ := List.getElem?_zip_eq_some.mp z23
              obtain ⟨v1, b1, b2⟩ := y1.get z1
              obtain ⟨v2, b5, b4⟩ := y2.get z2
              obtain ⟨v3, b6, b7⟩ := y3.get z3
              refine ⟨⟨us1, us2, us3, v1, v2, v3, g1, g2, g3, b1, b5, b6⟩, fun x H3 hx => ?_⟩
              obtain ⟨T, w1, w2, w3, rfl, hT, rfl, f1, f2, f3⟩ := hx
              have f1 := f1 us1 g1
              have f2 := f2 us2 g2
              have f3 := f3 us3 g3
              rw [b1] at f1; cases f1
              rw [b5] at f2; cases f2
              rw [b6] at f3; cases f3
              obtain ⟨l3, o3⟩ := o2.froz (o := .tup [v1, v2, v3]) hT
              refine ⟨_, l3, o3, ?_⟩
              simp only [Rp]
              exact ⟨T, _, rfl, .inl upd_same, Rps.cons (b2.mono l3 x1) (Rps.cons (b4.mono l3 x2) (Rps.one (b7.mono l3 x3)))⟩
          · have hi : ((ys1.zip (ys2.zip ys3)).map _).length = i := hi
            rw [List.length_map, List.length_zip, List.length_zip] at hi
            exact ⟨us1, us2, us3, g1, g2, g3, by omega, by omega, by omega, by omega⟩
        · exact q.elim
theorem pid_enum (hm : X.mg "enumerate" = none) (h1 : PE X e (tD c E f)) (hK : c.K = X.K := by rfl) (hg : Gl X "enumerate" := by rfl) (hs : starEach [e] X.env = [(false, eval e X.env)] := by rfl) :
    PI X (.Tuple elts kk tpos) (.Call (.Name "enumerate" p) [e] [] pos) (tI c E (dEnum f)) :=
  PI.weak (pi_enum hg hm (pad_cons (es := []) h1 pad_nil hs) hs) fun σ H R ⟨W, ρ, m, o, s, q⟩ => by
    refine ⟨W, ρ, m, o, s, ?_⟩
    have q : Pst c E (Yld c) ((f ρ m).bind fun d m1 => match vwW m1 d with
      | some (true, xs, ck) => .ok ⟨enumD 0 xs, ck⟩ m1
      | _ => .stuck) W R := q
    show Pst c E (Rps c) ((f ρ m).bind fun d m1 => (Rs.ok [] m1).bind fun ds m2 => Rs.ok (d :: ds) m2) W _
    cases hf : f ρ m with
    | stuck => rw [hf] at q; exact q
    | err e m1 => rw [hf] at q; exact q
    | ok d m1 =>
      rw [hf] at q
      simp only [Rs.bind_ok] at q ⊢
      intro W1 H1 xs l1 o1 r1
      obtain ⟨v, rfl, r3⟩ := rps1 r1
      split at q
      · rename_i ys c1 q1
        obtain ⟨i1, a, rfl, w1⟩ := vwW_ok o1 q1 r3
        obtain ⟨vs1, s1, t1⟩ := w1 W1 m1 H1 (le.refl _) o1 i1
        refine ⟨a, vs1, rfl, hK ▸ (s1 : SqL c.K H1 a vs1), q W1 H1 (Ite X.K a) l1 o1 ?_⟩
        intro W2 m3 H2 i l2 o2 hck
        obtain ⟨us1, g1, y1⟩ := w1 W2 m3 H2 l2 o2 hck
        rw [hK] at g1
        have g1 : SqL X.K H2 a us1 := g1
        have n1 := y1.length
        refine ⟨fun d hd => ?_, fun hi => ?_⟩
        · have hd : (enumD 0 ys)[i]? = some d := hd
          rw [enumD_at] at hd
          cases hz : ys[i]? with
          | none => rw [hz] at hd; cases hd
          | some x1 =>
            rw [hz] at hd; cases hd
            obtain ⟨v1, b1, b2⟩ := y1.get hz
            refine ⟨⟨us1, v1, g1, b1⟩, fun x H3 hx => ?_⟩
            obtain ⟨T, w1, rfl, hT, rfl, f1⟩ := hx
            have f1 := f1 us1 g1
            rw [b1] at f1; cases f1
            obtain ⟨l3, o3⟩ := o2.froz (o := .tup [.int (i : Nat), v1]) hT
            refine ⟨_, l3, o3, ?_⟩
            simp only [Rp]
            exact ⟨T, _, rfl, .inl upd_same, Rps.cons (by simp [Rp]) (Rps.one (b2.mono l3 x1))⟩
        · have hi : (enumD 0 ys).length = i := hi
          rw [enumD_len] at hi
          exact ⟨us1, g1, by omega⟩
      · exact q.elim
end

/-! ### calls by name -/
section
variable {X : Cx} {c : Ct} {E : XK} {pos p : Pos} {CX : CXT} {k : Nat} {f : Addr} {fd : FuncData} {ps ks : List Str} {fn : Fn} {x : Str} {e : Expr} {es : List Expr} {kws : List Keyword} {fs fk : EvG (List D)} {g : List Value → List Value → List Value} {gV : List V → List V → List V} {gD : List D → List D → List D}
theorem pd_callK (F : FnOk X.prog X.w X.K X.mg X.base CX k f fd ps (spD c fn)) (hr : Room k X.A) (hm : X.mg x = some (.ref f)) (hk : PySem.W.keepIn X.K (.ref f) = true) (hb : KBinds X.K fd ps ks g gV) (hx : Passes CX X E)
    (hD : ∀ (W : Wd) (ds zs : List D) (vs us : List V), Rps c W ds vs → Rps c W zs us → Rps c W (gD ds zs) (gV vs us))
    (ha : PA X (e :: es) (tDs c E fs)) (hkw : PK X kws (tDs c E fk)) (hg : Gl X x := by rfl) (hall : (backToKw pos (keywordEach kws X.env)).all (·.1.isSome) = true := by rfl) (hks : (backToKw pos (keywordEach kws X.env)).filterMap (·.1) = ks := by rfl)
    (hdb : (x == ("__debug__" : Str)) = false := by decide) (he : starEach (e :: es) X.env = (false, eval e X.env) :: starEach es X.env := by rfl)
    (hpl : ((backTo pos (starEach (e :: es) X.env)).any (·.1) || (backToKw pos (keywordEach kws X.env)).any (·.1.isNone)) = false := by rfl) : PE X (.Call (.Name x p) (e :: es) kws pos) (tD c E (dCallK fn gD fs fk)) :=
  PE.weak (pe_callK F hr hg hm hk hb hx ha hkw hall hks hdb he hpl) fun σ H Q ⟨W, ρ, m, o, s, q⟩ => by
    refine ⟨W, ρ, m, o, s, Pst.imp (Pst.bind q) fun xs H1 ⟨W1, ds, m1, l1, o1, r1, p1⟩ => ?_⟩
    refine ⟨W1, ρ, m1, o1, s.mono l1, Pst.imp (Pst.bind p1) fun ys H2 ⟨W2, zs, m2, l2, o2, r2, p2⟩ => ?_⟩
    exact ⟨W2, gD ds zs, m2, o2, hD _ _ _ _ _ (r1.mono l2 ds) r2, p2⟩
theorem pe_callK0 {sp : Sp} {tk : TA} (F : FnOk X.prog X.w X.K X.mg X.base CX k f fd ps sp) (hr : Room k X.A) (hg : Gl X x) (hm : X.mg x = some (.ref f)) (hk : PySem.W.keepIn X.K (.ref f) = true) (hb : KBinds X.K fd ps ks g gV) (hx : Passes CX X E)
    (hkw : PK X kws tk) (hall : (backToKw pos (keywordEach kws X.env)).all (·.1.isSome) = true := by rfl) (hks : (backToKw pos (keywordEach kws X.env)).filterMap (·.1) = ks := by rfl)
    (hdb : (x == ("__debug__" : Str)) = false := by decide) (hpl : ((backTo pos (starEach [] X.env)).any (·.1) || (backToKw pos (keywordEach kws X.env)).any (·.1.isNone)) = false := by rfl) :
    PE X (.Call (.Name x p) [] kws pos) (fun σ H Q => tk σ H fun zs H2 => sp (gV [] zs) H2 Q E) := by
  refine ⟨fun pins s σ H Q I h => ?_⟩
  refine wpAny_Call_Name_kw (ld_glob I hg hm ?_ hdb)
  refine PySem.W.callWith_KW0 (h₀ := X.base) I.ok.mod.kin hk hall (thn (hkw.run pos pins s σ H _ I h) fun ws s2 ⟨zs, H2, I2, rz, q2⟩ => ⟨I2.kIn, ?_⟩) hpl
  rw [hks]
  exact run_fnk (us := []) (vs := []) F hr hb hx I2 .nil rz q2
def dCallK0 (fn : Fn) (h : List D → List D → List D) (ks : EvG (List D)) : Ev := fun ρ m => (ks ρ m).bind fun ws m2 => fn (h [] ws) m2
theorem pd_callK0 (F : FnOk X.prog X.w X.K X.mg X.base CX k f fd ps (spD c fn)) (hr : Room k X.A) (hm : X.mg x = some (.ref f)) (hk : PySem.W.keepIn X.K (.ref f) = true) (hb : KBinds X.K fd ps ks g gV) (hx : Passes CX X E)
    (hD : ∀ (W : Wd) (ds zs : List D) (vs us : List V), Rps c W ds vs → Rps c W zs us → Rps c W (gD ds zs) (gV vs us))
    (hkw : PK X kws (tDs c E fk)) (hg : Gl X x := by rfl) (hall : (backToKw pos (keywordEach kws X.env)).all (·.1.isSome) = true := by rfl) (hks : (backToKw pos (keywordEach kws X.env)).filterMap (·.1) = ks := by rfl)
    (hdb : (x == ("__debug__" : Str)) = false := by decide) (hpl : ((backTo pos (starEach [] X.env)).any (·.1) || (backToKw pos (keywordEach kws X.env)).any (·.1.isNone)) = false := by rfl) : PE X (.Call (.Name x p) [] kws pos) (tD c E (dCallK0 fn gD fk)) :=
  PE.weak (pe_callK0 F hr hg hm hk hb hx hkw hall hks hdb hpl) fun σ H Q ⟨W, ρ, m, o, s, q⟩ => by
    refine ⟨W, ρ, m, o, s, Pst.imp (Pst.bind q) fun ys H2 ⟨W2, zs, m2, l2, o2, r2, p2⟩ => ?_⟩
    exact ⟨W2, gD [] zs, m2, o2, hD _ _ _ _ _ Rps.nil r2, p2⟩
end
end LN
/-! hand rules: == and != of dicts whose values are data -/
namespace L2
open PySem PySem.Spec PyProof.Rows
inductive HitsV (K : PySem.W.Frag) (H : Hp) (ls : List (Key × V)) : List (Key × V) → Bool → Prop
  | nil : HitsV K H ls [] true
  | miss {k : Key} {v : V} {r : List (Key × V)} : valV ls k = none → HitsV K H ls ((k, v) :: r) false
  | hit {k : Key} {v u : V} {d e : PyData} {r : List (Key × V)} {b : Bool} : valV ls k = some u → Dp K H v d → Dp K H u e → SeqAt.shaped d = true → SeqAt.shaped e = true → HitsV K H ls r b → HitsV K H ls ((k, v) :: r) (PyData.eqv d e && b)
section
variable {X : Cx} {pins : List (Addr × Obj)} {σ : St} {H : Hp} {s : Shared}
theorem hitsV_run (I : Inv X pins σ H s) {A : Around} (hu : A.in1.units + 64 < cLine) {ls : List (Key × V)} {vb : List (Key × Value)} (rb : KV ls vb) {ks : List (Key × V)} {r : Bool} (h : HitsV X.K H ls ks r) :
    ∀ {va : List (Key × Value)}, KV ks va → PySem.W.KeqHits A.in1 s vb va r := by
  induction h with
  | nil => intro va ra; cases ra; exact .nil
  | @miss k v r e =>
    intro va ra
    cases ra with
    | @cons p q ps qs h t =>
      obtain ⟨key, w⟩ := q
      have h1 : k = key := h.1
      subst h1
      refine .miss ?_
      have := rb.val k
      rw [e] at this
      cases hv : valueAt vb k with
      | none => rfl
      | some z => rw [hv] at this; exact this.elim
  | @hit k v u d e r b e1 d1 d2 s1 s2 _ ih =>
    intro va ra
    cases ra with
    | @cons p q ps qs h t =>
      obtain ⟨key, w⟩ := q
      have h1 : k = key := h.1
      subst h1
      have rr : RelO (some u) (valueAt vb k) := by rw [← e1]; exact rb.val k
      obtain ⟨y, hy, ry⟩ := rr.some_of
      obtain ⟨as, r1⟩ := Dp.reads I d v w d1 h.2
      obtain ⟨bs, r2⟩ := Dp.reads I e u y d2 ry
      exact .hit hy (PySem.W.keq_at r1 r2 s1 s2 hu) (ih t)
def rEqK (neg : Bool) (K : PySem.W.Frag) : R2 := fun x y H Q => ∃ a b ks ls r, x = .ref a ∧ y = .ref b ∧ Rd H a (.dK ks) ∧ Rd H b (.dK ls) ∧ HitsV K H ls ks r ∧ Q (.bl (neg ^^ (ks.length == ls.length && r))) H
end
section
variable {X : Cx}
theorem op_eqK (hu : X.A.units + 66 < cLine) : OpR X (compareOp .Eq) (rEqK false X.K) := by
  intro pins s σ H x y v u Q I rx ry h
  obtain ⟨a, b, ks, ls, r, rfl, rfl, ha, hb, hh, q⟩ := h
  cases (show v = Value.ref a from rx)
  cases (show u = Value.ref b from ry)
  obtain ⟨_, ya, va, ra, da⟩ := dk_rd I.hok ha
  obtain ⟨_, yb, vb, rb, db⟩ := dk_rd I.hok hb
  refine PySem.W.keq_eq (knd := mixKind X.prog X.w) ya yb da db (by omega) (fun _ => hitsV_run I (A := X.A) (by show X.A.units + 1 + 64 < cLine; omega) rb hh ra) ?_
  have e1 : va.length = ks.length := (Paired.length ra).symm
  have e2 : vb.length = ls.length := (Paired.length rb).symm
  rw [e1, e2]
  exact ⟨.bl _, H, I, rfl, by simpa using q⟩
theorem op_neK (hu : X.A.units + 66 < cLine) : OpR X (compareOp .NotEq) (rEqK true X.K) := by
  intro pins s σ H x y v u Q I rx ry h
  obtain ⟨a, b, ks, ls, r, rfl, rfl, ha, hb, hh, q⟩ := h
  cases (show v = Value.ref a from rx)
  cases (show u = Value.ref b from ry)
  obtain ⟨_, ya, va, ra, da⟩ := dk_rd I.hok ha
  obtain ⟨_, yb, vb, rb, db⟩ := dk_rd I.hok hb
  refine PySem.W.keq_ne (knd := mixKind X.prog X.w) ya yb da db (by omega) (fun _ => hitsV_run I (A := X.A) (by show X.A.units + 1 + 64 < cLine; omega) rb hh ra) ?_
  have e1 : va.length = ks.length := (Paired.length ra).symm
  have e2 : vb.length = ls.length := (Paired.length rb).symm
  rw [e1, e2]
  exact ⟨.bl _, H, I, rfl, by simpa using q⟩
end
end L2
namespace LN
open PySem L2 PySem.Spec PyProof.Rows
def hitsD (js : List L2.Key) (ys : List D) : List L2.Key → List D → Option Bool
  | k :: ks, x :: xs => match lookD js ys k with
    | none => some false
    | some y => match py x, py y, hitsD js ys ks xs with
      | some a, some b, some r => if SeqAt.shaped a = true ∧ SeqAt.shaped b = true then some (PyData.eqv a b && r) else none
      | _, _, _ => none
  | _, _ => some true
def gEqA (neg : Bool) (x y : D) (m : Mem) : Rs D := match vwKA m x, vwKA m y with
  | some (ks, xs), some (js, ys) => match hitsD js ys ks xs with
    | some r => .ok (.bl (neg ^^ (ks.length == js.length && r))) m
    | none => .stuck
  | none, none => gEq neg x y m
  | _, _ => .stuck
section
variable {X : Cx} {c : Ct} {E : XK}
theorem hitsD_ok {W : Wd} {m : Mem} {H : Hp} (o : Ok c W m H) {js : List L2.Key} {ys : List D} {us : List V} (lj : js.length = us.length) (ry : Rps c W ys us) : ∀ {ks : List L2.Key} {xs : List D} {vs : List V} {r : Bool}, hitsD js ys ks xs = some r →
    ks.length = vs.length → Rps c W xs vs → HitsV c.K H (js.zip us) (ks.zip vs) r
  | [], xs, vs, r, h, l, rx => by
    have : vs = [] := List.eq_nil_of_length_eq_zero (by simpa using l.symm)
    subst this
    cases xs <;> simp only [hitsD, Option.some.injEq] at h <;> subst h <;> exact .nil
  | k :: ks, [], vs, r, h, l, rx => by
    have := rx.length
    simp at l this
    omega
  | k :: ks, x :: xs, [], r, h, l, rx => by simp at l
  | k :: ks, x :: xs, v :: vs, r, h, l, rx => by
    simp only [Rps] at rx
    obtain ⟨v', r', e, r1, r2⟩ := rx
    cases e
    have hl := lookD_ok k ry lj
    simp only [hitsD] at h
    simp only [List.zip_cons_cons]
    split at h
    · rename_i hn
      cases h
      exact .miss (hl.2 hn)
    · rename_i y hy
      obtain ⟨u, h1, h2⟩ := hl.1 y hy
      split at h
      · rename_i a b r3 p1 p2 p3
        split at h
        · rename_i hs
          cases h
          exact .hit h1 (py_dp o x p1 r1) (py_dp o y p2 h2) hs.1 hs.2 (hitsD_ok o lj ry p3 (by simpa using l) r2)
        · cases h
      · cases h
theorem os_eqK {neg : Bool} (hK : c.K = X.K := by rfl) : ∀ (W : Wd) (m : Mem) (H : Hp) (x y : V) (dx dy : D) (Q : VK), Ok c W m H → Rp c W dx x → Rp c W dy y → Pst c E (Rp c) (gEqA neg dx dy m) W Q →
    rEqK neg X.K x y H Q ∨ Pst c E (Rp c) (gEq neg dx dy m) W Q := fun W m H x y dx dy Q o rx ry p => by
  unfold gEqA at p
  split at p
  · rename_i ks xs js ys h1 h2
    split at p
    · rename_i r hr
      obtain ⟨a, vs, rfl, q1, l1, r1⟩ := vwKA_ok o h1 rx
      obtain ⟨b, us, rfl, q2, l2, r2⟩ := vwKA_ok o h2 ry
      refine .inl ⟨a, b, _, _, r, rfl, rfl, q1, q2, hK ▸ hitsD_ok o l2 r2 hr l1 r1, ?_⟩
      rw [List.length_zip, List.length_zip, ← l1, ← l2, Nat.min_self, Nat.min_self]
      exact p W H _ (le.refl _) o (by simp [Rp])
    · exact p.elim
  · exact .inr p
  · exact p.elim
theorem os_eqA (hK : c.K = X.K := by rfl) : OpS c E (fun x y H Q => rEqK false X.K x y H Q ∨ rEqD X.K x y H Q) (gEqA false) := fun W m H x y dx dy Q o rx ry p =>
  (os_eqK hK W m H x y dx dy Q o rx ry p).imp id fun p => os_eq (X := X) hK W m H x y dx dy Q o rx ry p
theorem os_neA (hK : c.K = X.K := by rfl) : OpS c E (fun x y H Q => rEqK true X.K x y H Q ∨ rNeD X.K x y H Q) (gEqA true) := fun W m H x y dx dy Q o rx ry p =>
  (os_eqK hK W m H x y dx dy Q o rx ry p).imp id fun p => os_ne (X := X) hK W m H x y dx dy Q o rx ry p
theorem op_eqA (hu : X.A.units + 66 < cLine) : OpR X (compareOp .Eq) (fun x y H Q => rEqK false X.K x y H Q ∨ rEqD X.K x y H Q) := OpR.or (op_eqK hu) (op_eqD (by omega))
theorem op_neA (hu : X.A.units + 66 < cLine) : OpR X (compareOp .NotEq) (fun x y H Q => rEqK true X.K x y H Q ∨ rNeD X.K x y H Q) := OpR.or (op_neK hu) (op_neD (by omega))
end
end LN
namespace LN
open PySem L2 PySem.Spec PyProof.Rows

/-! ### defs with defaults -/
section
variable {c : Ct} {P : Program} {w : World} {mg : Str → Option Value} {base : Heap} {x qual : Str} {params : Arguments} {body : List Stmt} {scope : Scope} {dvs : List V} {kws : List (Str × V)} {f : Addr} {fd : FuncData} {N ps : List Str} {k np nl : Nat} {b : Bd}
theorem fnOkD (F : FunD c.K x qual params body scope dvs kws f fd) (S : FnScope N ps scope) (hnp : ps.length = np) (hnl : N.length = nl)
    (hbody : ∀ (cdv : Value) (A : Around) (outer : List Env) (s : Shared) (H : Hp) (E : XK), Room k (A.deeper (envOfC qual scope s.heap.objs.size f cdv)) →
      PSs (cxOf (L2.CX P w) P w c.K mg base N qual scope f cdv A outer s H E) body (tS c E b)) : FnOk P w c.K mg base (L2.CX P w) (k + 1) f fd ps (spD c (fnD np nl b)) :=
  F.ok S (spD_len hnp) fun cdv A outer s H vs Q E hr h => ⟨_, hbody cdv A outer s H E hr, body_at hnl h⟩
theorem fnOkMD (F : FunD c.K x qual params body scope dvs kws f fd) (S : FnScope N ps scope) (hnp : ps.length = np) (hnl : N.length = nl)
    (hbody : ∀ (cdv : Value) (A : Around) (outer : List Env) (s : Shared) (H : Hp) (E : XK), Room k (A.deeper (envOfC qual scope s.heap.objs.size f cdv)) →
      PSs (cxOf (L2.CX P w) P w c.K mg base N qual scope f cdv A outer s H E) body (tS c E b)) : FnOk P w c.K mg base (L2.CX P w) (k + 1) f fd ps (spD c (fnM np nl b)) :=
  F.ok S (spM_len hnp) fun cdv A outer s H vs Q E hr h => ⟨_, hbody cdv A outer s H E hr, bodyM_at hnl h⟩
theorem kb_of {K : PySem.W.Frag} {ks : List Str} {g : {α : Type} → List α → List α → List α} (F : FunD K x qual params body scope [] kws f fd)
    (h : ∀ (kV doc pm : Value) (an : Option Addr) (cdv ct : Value) (us ws : List Value), (g us ws).length = ps.length → bindArgs (PySem.W.fnOf x qual params body scope .none kV doc pm an cdv ct) ⟨us, ks.zip ws⟩ = pure (ps.zip (g us ws)))
    (hrel : ∀ {vs : List V} {us : List Value} {zs : List V} {ws : List Value}, Vals vs us → Vals zs ws → Vals (g vs zs) (g us ws)) : KBinds K fd ps ks g g := by
  obtain ⟨oc, od, dV, kV, doc, pm, an, cdv, ct, osl, rfl, lk, hcd, hD, hK⟩ := F.ex
  rcases hD with ⟨_, rfl⟩ | ⟨e, _⟩
  · exact ⟨fun s us ws _ hl => .of_eq (h kV doc pm an cdv ct us ws hl), fun r1 r2 => hrel r1 r2⟩
  · exact absurd rfl e
end
section
variable {X : Cx} {E : XK}
theorem passE (hs : X.stack = X.env :: X.outer) (hf : X.env.frame = some X.env.locals) (hex : X.ex = []) {E₁ : Value → Shared → Prop}
    (hx : X.xe = fun e s' => wpAny (model X.prog X.w) X.A (leaving X.env e) (fun _ s'' => L2.CX X.prog X.w X.outer X.H_0 X.s_0 E e s'') E₁ s') : Passes (L2.CX X.prog X.w) X E :=
  passes_call (takes_of hs hf hex hx) (fun _ _ _ _ z => z)
theorem hu65_of {A : Around} {k : Nat} (hr : Room k A) : A.units + 65 < cLine := by have := hr.un; omega
theorem hu66_of {A : Around} {k : Nat} (hr : Room k A) : A.units + 66 < cLine := by have := hr.un; omega
theorem passE0 : Passes (L2.CX X.prog X.w) X E0 := fun _ _ _ _ _ _ _ ⟨_, _, _, _, _, _, _, _, _, _, _, _, h⟩ => h.elim
end
end LN
namespace L2
open PySem PySem.Spec PyProof.Rows
section
variable {X : Cx} {e st : Expr} {te : TE} {ts : TO} {pos p2 : Pos}
/-- a[::s], s is -1; a a list or a tuple of other than one item -/
def tRevS (K : PySem.W.Frag) (te : TE) (ts : TO) : TE := fun σ H Q => te σ H fun x H1 => ts σ H1 fun l H2 => l = some (-1) ∧
  ∃ a xs, x = .ref a ∧ SqL K H2 a xs ∧ ∀ p, H2 p = none → Q (.ref p) (upd H2 p (.lst xs.reverse))
theorem vals_rev : ∀ {xs : List V} {us : List Value}, Vals xs us → Vals xs.reverse us.reverse := fun {xs us} r => by
  have l := r.length
  refine vals_of_at (by simpa using l) fun j x u h1 h2 => ?_
  have hj : j < xs.length := by
    have := (List.getElem?_eq_some_iff.mp h1).1
    simpa using this
  rw [List.getElem?_reverse hj] at h1
  rw [List.getElem?_reverse (by omega)] at h2
  rw [← l] at h2
  obtain ⟨w, hw, rw'⟩ := r.get h1
  rw [h2] at hw; cases hw
  exact rw'
theorem pe_rev (he : PE X e te) (hs : PO X (some st) ts) : PE X (.Subscript e (.Slice none none (some st) p2) pos) (tRevS X.K te ts) := by
  refine ⟨fun pins s σ H Q I h => ?_⟩
  refine Subscript_ (thn (he.run pins s σ H _ I h) fun v s1 ⟨x, H1, I1, r1, q1⟩ => ?_)
  refine wpAny_Slice ?_
  rw [evalPart_none]
  refine wpAny_pure (wpAny_pure ?_)
  refine thn (hs.run pins s1 σ H1 _ I1 q1) fun vs s3 ⟨l, H3, I3, pl, el, q3⟩ => ?_
  subst el
  have I4 : Inv X pins σ H3 { s3 with heap := s3.heap.push { cls := .type "slice", data := .fields #[.none, .none, vs] } } := I3.kept (t' := s3.toks) fun b ob q => Heap.get?_push_of_some _ q
  show wpAny (model X.prog X.w) X.A (subscriptTail e (.Slice none none (some st) p2) v (.ref s3.heap.objs.size)) (EP X pins σ Q) X.xe { s3 with heap := s3.heap.push { cls := .type "slice", data := .fields #[.none, .none, vs] } }
  obtain ⟨a, xs, rfl, hx, q⟩ := q3
  cases r1
  obtain ⟨its, r, ht, hz⟩ := I4.list hx
  refine tail_any (ops := [.ref a, .ref s3.heap.objs.size]) (T := "list") ht.isList.typeIs slot_list_getitem.lookup ?_ (by with_unfolding_all rfl)
  refine wpAny_getItem_list_slice ht.isList (Heap.IsSliceOf.new ..) .none .none pl (by decide) ?_ (by rw [List.size_toArray, ← r.length]; exact hz)
  rw [PySem.W.krv_pick]
  refine ⟨.ref _, _, I4.laid (t' := s3.toks) (o := .lst xs.reverse) (fun b ob q => Heap.get?_push_of_some _ q) (Nat.le_refl _) ?_, rfl, q _ (I4.hok.fresh (Nat.le_refl _))⟩
  exact ⟨by rw [List.length_reverse]; exact hz, its.reverse, 0, vals_rev r, Heap.get?_push_size _ rfl⟩
end
end L2
namespace HT
open PySem PySem.Spec PyProof.Rows
section
variable {prog : Program} {w : World} {A : Around} {E : Value → Shared → Prop} {s : Shared}
theorem places_rev (n : Nat) : Builtin.Slice.slicePlaces ((n : Int) - 1) (-1) (-1) = n := by
  unfold Builtin.Slice.slicePlaces
  rw [if_neg (by decide)]
  by_cases h : n = 0
  · subst h; rfl
  · rw [if_pos (by omega)]
    have : ((n : Int) - 1 - (-1) - 1) / (- -1) + 1 = n := by
      rw [show (- -1 : Int) = 1 by decide, Int.ediv_one]; omega
    rw [this]; simp
theorem sliceApplied_rev {sl : Addr} {vs : Value} {n : Nat} {Q : Int × Int × Nat → Shared → Prop} (hs : s.heap.IsSliceOf sl .none .none vs) (ps : IsPart vs (some (-1)))
    (h : Q ((n : Int) - 1, -1, n) s) : wpAny (model prog w) A (Builtin.Slice.sliceApplied (.ref sl) (pure (n : Int))) Q E s := by
  obtain ⟨os, hos, hcs, hds⟩ := id hs
  unfold Builtin.Slice.sliceApplied Builtin.Slice.sliceFields
  refine wpAny_bind (wpAny_bind (wpAny_field hos hds (x := .none) rfl (wpAny_bind (wpAny_field hos hds (x := .none) rfl (wpAny_bind (wpAny_field hos hds (x := vs) rfl (wpAny_pure ?_)))))))
  refine wpAny_bind (slicePart_ ps ?_)
  show wpAny _ _ (if ((-1 : Int) == 0) = true then _ else _) _ _ s
  rw [if_neg (by decide)]
  refine wpAny_bind (slicePart_none (wpAny_bind (slicePart_none (wpAny_bind (wpAny_pure ?_)))))
  show wpAny _ _ (pure ((n : Int) - 1, (-1 : Int), Builtin.Slice.slicePlaces ((n : Int) - 1) (-1) (-1))) _ _ s
  rw [places_rev]
  exact wpAny_pure h
theorem pick_back (xs : Array Value) : ((List.range xs.size).filterMap fun (m : Nat) => xs[((xs.size : Int) - 1 + (m : Int) * -1).toNat]?).toArray = xs.toList.reverse.toArray := by
  congr 1
  have e : (List.range xs.size).filterMap (fun (m : Nat) => xs[((xs.size : Int) - 1 + (m : Int) * -1).toNat]?) = ((List.range xs.size).map fun k => xs.size - 1 - k).filterMap (xs[·]?) := by
    rw [List.filterMap_map]
    have key : ∀ l : List Nat, (∀ m ∈ l, m < xs.size) → l.filterMap (fun (m : Nat) => xs[((xs.size : Int) - 1 + (m : Int) * -1).toNat]?) = l.filterMap ((xs[·]?) ∘ fun k => xs.size - 1 - k) := by
      intro l
      induction l with
      | nil => intro _; rfl
      | cons m l ih =>
        intro h
        have hm := h m (by simp)
        have e2 : ((xs.size : Int) - 1 + (m : Int) * -1).toNat = xs.size - 1 - m := by omega
        rw [List.filterMap_cons, List.filterMap_cons, ih fun x hx => h x (by simp [hx]), e2]
        rfl
    exact key _ fun m hm => List.mem_range.mp hm
  rw [e, PySem.W.krv_range, List.filterMap_reverse, PySem.W.krv_all]
theorem getItem_tuple_rev {t sl : Addr} {items : Array Value} {vs : Value} {Q : Value → Shared → Prop} (ht : IsTup s.heap t items) (hs : s.heap.IsSliceOf sl .none .none vs) (ps : IsPart vs (some (-1)))
    (h : Q (.ref s.heap.objs.size) { s with heap := s.heap.push { cls := .type "tuple", data := .seq items.toList.reverse.toArray } })
    (hsz : items.size ≤ sizeLine) : wpAny (model prog w) A (getItem (.ref t) (.ref sl)) Q E s := by
  have htake : sizeOk (.seq items.toList.reverse.toArray) := by
    show items.toList.reverse.toArray.size ≤ sizeLine
    rw [List.size_toArray, List.length_reverse, Array.length_toList]
    exact hsz
  obtain ⟨os, hos, hcs, hds⟩ := id hs
  have hTs : s.TypeIs (.ref sl) "slice" := ⟨os, hos, hcs⟩
  unfold getItem
  try with_reducible refine wpAny_holding ?_
  first | refine wpAny_bind (wpAny_pure ?_) | skip
  refine wpAny_bind (wpAny_sequenceKey ht.typeIs (by decide) ?_)
  refine wpAny_bind (wpAny_callSpecial?_slot (name := Str.ofString "__getitem__") ht.typeIs PyProof.Rows.slot_tuple_getitem
    (wpAny_call_entry PyProof.Rows.slot_tuple_getitem ht.typeIs entry_tuple_getitem ?_ (args_tuple_getitem _ _)))
  show wpAny _ _ (Builtin.Tuple.tupleItemsOf (.ref t) >>= _) _ _ s
  refine wpAny_bind (tupleItemsOf_ ht ?_)
  refine wpAny_bind (wpAny_typeOf hTs ?_)
  rw [if_pos (by decide)]
  refine wpAny_bind (sliceApplied_rev (n := items.size) hs ps ?_)
  have hno : ¬ ((((items.size : Int) - 1) == 0 && (-1 : Int) == 1 && items.size == items.size) = true) := by
    intro q
    rw [Bool.and_eq_true, Bool.and_eq_true] at q
    exact absurd q.1.2 (by decide)
  show wpAny _ _ (if (((items.size : Int) - 1) == 0 && (-1 : Int) == 1 && items.size == items.size) = true then _ else _) _ _ s
  rw [if_neg hno, pick_back]
  first
    | exact wpAny_bind (m := Builtin.Tuple.tupleExact _) (wpAny_newObj_type (wpAny_pure ⟨_, rfl, wpAny_pure h⟩) htake)
    | exact wpAny_bind (m := Builtin.Tuple.tupleExact _) (wpAny_newObj_type (wpAny_bind (wpAny_pure (wpAny_pure ⟨_, rfl, wpAny_pure h⟩))) htake)
    | exact wpAny_bind (wpAny_bind (m := Builtin.Tuple.tupleExact _) (wpAny_newObj_type (wpAny_pure (wpAny_pure ⟨_, rfl, wpAny_pure h⟩)) htake))
    | exact wpAny_bind (wpAny_bind (m := Builtin.Tuple.tupleExact _) (wpAny_newObj_type (wpAny_pure ⟨_, rfl, wpAny_pure h⟩) htake))
end
end HT
namespace L2
open PySem PySem.Spec PyProof.Rows
section
variable {X : Cx} {e st : Expr} {te : TE} {ts : TO} {pos p2 : Pos}
/-- a[::s], s is -1; a a list or a tuple -/
def tRevA (K : PySem.W.Frag) (te : TE) (ts : TO) : TE := fun σ H Q => te σ H fun x H1 => ts σ H1 fun l H2 => l = some (-1) ∧
  ((∃ a xs, x = .ref a ∧ SqL K H2 a xs ∧ ∀ p, H2 p = none → Q (.ref p) (upd H2 p (.lst xs.reverse))) ∨
   (∃ a xs, x = .ref a ∧ SqT K H2 a xs ∧ ∀ p, H2 p = none → Q (.ref p) (upd H2 p (.tup xs.reverse))))
theorem pe_revA (he : PE X e te) (hs : PO X (some st) ts) : PE X (.Subscript e (.Slice none none (some st) p2) pos) (tRevA X.K te ts) := by
  refine ⟨fun pins s σ H Q I h => ?_⟩
  refine Subscript_ (thn (he.run pins s σ H _ I h) fun v s1 ⟨x, H1, I1, r1, q1⟩ => ?_)
  refine wpAny_Slice ?_
  rw [evalPart_none]
  refine wpAny_pure (wpAny_pure ?_)
  refine thn (hs.run pins s1 σ H1 _ I1 q1) fun vs s3 ⟨l, H3, I3, pl, el, q3⟩ => ?_
  subst el
  have I4 : Inv X pins σ H3 { s3 with heap := s3.heap.push { cls := .type "slice", data := .fields #[.none, .none, vs] } } := I3.kept (t' := s3.toks) fun b ob q => Heap.get?_push_of_some _ q
  show wpAny (model X.prog X.w) X.A (subscriptTail e (.Slice none none (some st) p2) v (.ref s3.heap.objs.size)) (EP X pins σ Q) X.xe { s3 with heap := s3.heap.push { cls := .type "slice", data := .fields #[.none, .none, vs] } }
  rcases q3 with q3 | q3
  · obtain ⟨a, xs, rfl, hx, q⟩ := q3
    cases r1
    obtain ⟨its, r, ht, hz⟩ := I4.list hx
    refine tail_any (ops := [.ref a, .ref s3.heap.objs.size]) (T := "list") ht.isList.typeIs slot_list_getitem.lookup ?_ (by with_unfolding_all rfl)
    refine wpAny_getItem_list_slice ht.isList (Heap.IsSliceOf.new ..) .none .none pl (by decide) ?_ (by rw [List.size_toArray, ← r.length]; exact hz)
    rw [PySem.W.krv_pick]
    refine ⟨.ref _, _, I4.laid (t' := s3.toks) (o := .lst xs.reverse) (fun b ob q => Heap.get?_push_of_some _ q) (Nat.le_refl _) ?_, rfl, q _ (I4.hok.fresh (Nat.le_refl _))⟩
    exact ⟨by rw [List.length_reverse]; exact hz, its.reverse, 0, vals_rev r, Heap.get?_push_size _ rfl⟩
  · obtain ⟨a, xs, rfl, hx, q⟩ := q3
    cases r1
    obtain ⟨its, r, ht, hz⟩ := I4.tuple hx
    refine tail_any (ops := [.ref a, .ref s3.heap.objs.size]) (T := "tuple") ht.typeIs PyProof.Rows.slot_tuple_getitem.lookup ?_ (by with_unfolding_all rfl)
    refine HT.getItem_tuple_rev ht (Heap.IsSliceOf.new ..) pl ?_ (by rw [List.size_toArray, ← r.length]; exact hz)
    refine ⟨.ref _, _, I4.laid (t' := s3.toks) (o := .tup xs.reverse) (fun b ob q => Heap.get?_push_of_some _ q) (Nat.le_refl _) ?_, rfl, q _ (I4.hok.fresh (Nat.le_refl _))⟩
    exact ⟨by rw [List.length_reverse]; exact hz, its.reverse, vals_rev r, IsTup.new _ _⟩
end
end L2
namespace LN
open PySem L2 PySem.Spec PyProof.Rows
/-- a[::-1], a list or a tuple -/
def gRv (fin : List D → Mem → Rs D) (d : D) (m : Mem) : Rs D := match d with
  | .tup xs => .ok (.tup xs.reverse) m
  | d => match vwL m d with
    | some xs => fin xs.reverse m
    | none => .stuck
def dRev (fin : List D → Mem → Rs D) (f : Ev) (fs : EvG (Option Int)) : Ev := fun ρ m => (f ρ m).bind fun d m1 => (fs ρ m1).bind fun o m2 => if o = some (-1) then gRv fin d m2 else .stuck
section
variable {X : Cx} {c : Ct} {E : XK} {e st : Expr} {f : Ev} {fs : EvG (Option Int)} {pos p2 : Pos} {fin : List D → Mem → Rs D}
theorem pd_rev (F : FinN fin) (he : PE X e (tD c E f)) (hs : PO X (some st) (tG c E Ro fs)) (hK : c.K = X.K := by rfl) : PE X (.Subscript e (.Slice none none (some st) p2) pos) (tD c E (dRev fin f fs)) :=
  PE.weak (pe_revA he hs) fun σ H Q ⟨W, ρ, m, o, s, q⟩ => by
    refine ⟨W, ρ, m, o, s, Pst.imp (Pst.bind q) fun x H1 ⟨W1, d, m1, l1, o1, r1, p1⟩ => ?_⟩
    refine ⟨W1, ρ, m1, o1, s.mono l1, Pst.imp (Pst.bind p1) fun l H2 ⟨W2, l2', m2, l2, o2, r2, p2⟩ => ?_⟩
    have e2 : l2' = l := r2
    subst e2
    split at p2
    case isFalse => exact p2.elim
    rename_i e1
    refine ⟨e1, ?_⟩
    have r1 := r1.mono l2 d
    unfold gRv at p2
    split at p2
    · rename_i xs
      simp only [Rp] at r1
      obtain ⟨a, vs, rfl, q1, r1⟩ := r1
      exact .inr ⟨a, vs, rfl, hK ▸ (q1.mono o2.g).sq, Pst.tup o2 r1.reverse p2⟩
    · split at p2
      · rename_i xs hx
        obtain ⟨a, vs, rfl, q1, q2⟩ := vwL_ok o2 hx r1
        exact .inl ⟨a, vs, rfl, SqL.of q1, F.mak o2 q2.reverse p2⟩
      · exact p2.elim
end
/-! x op= y over whole numbers -/
def gAddI : D → D → Mem → Rs D
  | .int i, .int j, m => .ok (.int (i + j)) m
  | _, _, _ => .stuck
theorem os_addI {c : Ct} {E : XK} : OpS c E (rI0 fun i j => .int (i + j)) gAddI := fun W m H x y dx dy Q o rx ry p => by
  unfold gAddI at p
  split at p
  · simp only [Rp] at rx ry; subst rx; subst ry
    exact ⟨_, _, rfl, rfl, p W H _ (le.refl _) o (by simp [Rp])⟩
  · exact p.elim
def gSubI : D → D → Mem → Rs D
  | .int i, .int j, m => .ok (.int (i - j)) m
  | _, _, _ => .stuck
theorem os_subI {c : Ct} {E : XK} : OpS c E (rI0 fun i j => .int (i - j)) gSubI := fun W m H x y dx dy Q o rx ry p => by
  unfold gSubI at p
  split at p
  · simp only [Rp] at rx ry; subst rx; subst ry
    exact ⟨_, _, rfl, rfl, p W H _ (le.refl _) o (by simp [Rp])⟩
  · exact p.elim
/-! len, of dicts too -/
def bLenA : List D → Mem → Rs D
  | [d], m => match dictLen m d with
    | some n => .ok (.int n) m
    | none => bLen [d] m
  | _, _ => .stuck
def rLenB (K : PySem.W.Frag) (w : World) : List V → Hp → VK → Prop := fun xs H Q => rLenAll K xs H Q ∨ (∃ a kvs, xs = [V.ref a] ∧ H a = some (.dK kvs) ∧ Q (.int kvs.length) H) ∨ rLenN w K xs H Q
theorem cr_lenA {X : Cx} : CallR X (.builtin "len") (rLenB X.K X.w) := CallR.or cr_len (CallR.or call_lenD call_len_N)
theorem zip_len {α β : Type} {xs : List α} {ys : List β} (h : xs.length = ys.length) : (xs.zip ys).length = xs.length := by simp [h]
theorem cs_lenA {X : Cx} {c : Ct} {E : XK} (hK : c.K = X.K := by rfl) (hw : c.w = X.w := by rfl) : CallS c E (rLenB X.K X.w) bLenA := fun W m H xs ds Q o r p => by
  unfold bLenA at p
  split at p
  · rename_i d m'
    split at p
    · rename_i n hn
      obtain ⟨v, rfl, q⟩ := rps1 r
      have q1 := p W H (.int n) (le.refl _) o (by simp [Rp])
      unfold dictLen at hn
      split at hn
      · rename_i ks ys
        cases hn
        simp only [Rp] at q
        obtain ⟨a, vs, rfl, h1, h2, h3⟩ := q
        refine .inr (.inl ⟨a, _, rfl, o.g _ _ h1, ?_⟩)
        rw [zip_len h2]; exact q1
      · rename_i ks ys
        cases hn
        simp only [Rp] at q
        obtain ⟨a, bs, vs, rfl, h1, kb, h2, h3⟩ := q
        refine .inr (.inr ⟨a, _, rfl, .inl (hw ▸ o.g _ _ h1), hK ▸ kb.nks o.g, ?_⟩)
        rw [nz_len kb.len h2]; exact q1
      · rename_i f i
        simp only [Rp] at q
        obtain ⟨a, rfl, hi⟩ := q
        split at hn
        · rename_i ks ys hg
          cases hn
          obtain ⟨b, e1, ⟨vs, e2, e3, e4⟩, _⟩ := o.i _ _ _ hg rfl
          rw [hi] at e1; cases e1
          refine .inr (.inl ⟨a, _, rfl, e2, ?_⟩)
          rw [zip_len e3]; exact q1
        · rename_i ks ys hg
          cases hn
          obtain ⟨b, e1, ⟨vs, bs, e2, e3, kb, e4⟩, _⟩ := o.i _ _ _ hg rfl
          rw [hi] at e1; cases e1
          refine .inr (.inr ⟨a, _, rfl, .inl (hw ▸ e2), hK ▸ kb.nks o.g, ?_⟩)
          rw [nz_len kb.len e3]; exact q1
        · cases hn
      · cases hn
    · exact .inl (cs_len (X := X) hK W m H xs _ Q o r p)
  · exact p.elim
end LN
/-! LNta: dicts that are displayed, lists that are unpacked. -/
namespace LN
open PySem L2 PySem.Spec PyProof.Rows

section
variable {c : Ct} {W : Wd} {m : Mem} {H : Hp} {D : Addr}
/-- a dict that is displayed stands empty while its pairs are made -/
theorem Ok.pinD (k : Ok c W m H) {p : Addr} (hp : H p = none) : Ok c { W with L := upd W.L p (.dK []) } m (upd H p (.dK [])) := by
  generalize hu : HO.dK [] = u
  have gn : W.G p = none := by
    cases e : W.G p with
    | none => rfl
    | some u => rw [k.g _ _ e] at hp; cases hp
  have ne : ∀ {f i a o'}, m.get f i = some o' → o'.alive = true → W.ι f i = some a → a ≠ p := fun {f i a o'} h1 h2 h3 => by
    obtain ⟨b, e1, e2, _⟩ := k.i f i o' h1 h2
    rw [h3] at e1; cases e1
    obtain ⟨u, e⟩ := e2.some h2
    exact ne_of_none e hp
  refine ⟨fun a v h => ?_, fun a v h => ?_, fun a v h => ?_, fun f i o h1 h2 => ?_, k.inj, k.rng, k.lt, fun a v h => ?_, tabs_new k.tb hp, k.nt⟩
  · have := k.g a v h
    rw [upd_ne (ne_of_none this hp)]; exact this
  · have h : upd W.L p u a = some v := h
    by_cases e : a = p
    · subst e; rw [upd_same] at h ⊢; exact h
    · rw [upd_ne e] at h ⊢; exact k.l a v h
  · have h : upd W.L p u a = some v := h
    by_cases e : a = p
    · rw [e]; exact gn
    · rw [upd_ne e] at h; exact k.gl a v h
  · obtain ⟨a, e1, e2, e3, e4⟩ := k.i f i o h1 h2
    have na := ne h1 h2 e1
    refine ⟨a, e1, ?_, e3, e4.eq (by show upd W.L p u a = W.L a; rw [upd_ne na])⟩
    have e2' : MoR c { W with L := upd W.L p u } H a o := e2.L
    exact e2'.mono (le.refl _) fun v h => by rw [upd_ne na]; exact h
  · have h : upd W.L p u a = some v := h
    by_cases e : a = p
    · subst e; rw [upd_same] at h; cases h; exact .inr (.inr (.inl ⟨_, hu.symm⟩))
    · rw [upd_ne e] at h; exact k.ll a v h
theorem Ok.ne_pinD (k : Ok c W m H) (hD : W.L D = some (.dK [])) : ∀ {f i a o'}, m.get f i = some o' → o'.alive = true → W.ι f i = some a → a ≠ D := fun {f i a o'} h1 h2 h3 => by
  obtain ⟨b, e1, e2, e3, e4⟩ := k.i f i o' h1 h2
  rw [h3] at e1; cases e1
  rintro rfl
  have hd := k.l _ _ hD
  cases o' with
  | fk ks xs => obtain ⟨ob, vs, q, r⟩ := e2; rw [hd] at q; cases q
  | ft ks xs => obtain ⟨ob, vs, bs, q, r⟩ := e2; rw [hd] at q; cases q
  | lst xs => rw [e4.un rfl] at hD; cases hD
  | dk ks xs => rw [e4.un rfl] at hD; cases hD
  | dt ks xs => rw [e4.un rfl] at hD; cases hD
  | dead => cases h2
theorem Ok.dropD (k : Ok c W m H) (hD : W.L D = some (.dK [])) : Ok c { W with L := rm W.L D } m (rm H D) := by
  have hG := k.gl D _ hD
  refine ⟨fun a v h => ?_, fun a v h => ?_, fun a v h => k.gl a v (rm_some h).2, fun f i o h1 h2 => ?_, k.inj, k.rng, k.lt, fun a v h => k.ll a v (rm_some h).2, tabs_rm k.tb (by intro o e; rw [k.l _ _ hD] at e; cases e; exact dat_dK), k.nt⟩
  · rw [rm_ne (ne_of_none h hG)]; exact k.g a v h
  · obtain ⟨e, h⟩ := rm_some h
    rw [rm_ne e]; exact k.l a v h
  · obtain ⟨a, e1, e2, e3, e4⟩ := k.i f i o h1 h2
    have na := k.ne_pinD hD h1 h2 e1
    refine ⟨a, e1, ?_, e3, e4.eq (by show rm W.L D a = W.L a; rw [rm_ne na])⟩
    have e2' : MoR c { W with L := rm W.L D } H a o := e2.L
    exact e2'.mono (le.refl _) fun v h => by rw [rm_ne na]; exact h
end
theorem upd_rm {H : Hp} {D : Addr} {u : HO} : upd (rm H D) D u = upd H D u := by
  funext b
  by_cases e : b = D
  · subst e; rw [upd_same, upd_same]
  · rw [upd_ne e, upd_ne e, rm_ne e]
/-- the pairs of a display -/
def dPrs : List (Ev × Ev) → EvG (List (D × D))
  | [], _, m => .ok [] m
  | (f, g) :: r, ρ, m => (f ρ m).bind fun k m1 => (g ρ m1).bind fun x m2 => (dPrs r ρ m2).bind fun ps m3 => .ok ((k, x) :: ps) m3
def keyPs : List (D × D) → Option (List (L2.Key × D))
  | [] => some []
  | (k, x) :: r => match keyD k, keyPs r with
    | some k, some ps => some ((k, x) :: ps)
    | _, _ => none
def mkDisp (fin : List L2.Key → List D → Mem → Rs D) (ps : List (D × D)) (m : Mem) : Rs D := match keyPs ps with
  | some kx => if kx.length ≤ 15 then fin (mergeD kx [] []).1 (mergeD kx [] []).2 m else .stuck
  | none => .stuck
/-- {k: x, ..} -/
def dDisp (fin : List L2.Key → List D → Mem → Rs D) (fs : List (Ev × Ev)) : Ev := fun ρ m => (dPrs fs ρ m).bind fun ps m1 => mkDisp fin ps m1
def Rpp (c : Ct) (W : Wd) (ps : List (D × D)) (vs : List (V × V)) : Prop := Rps c W (ps.map (·.1)) (vs.map (·.1)) ∧ Rps c W (ps.map (·.2)) (vs.map (·.2))
section
variable {c : Ct} {E : XK} {X : Cx} {pos : Pos} {fin : List L2.Key → List D → Mem → Rs D}
theorem tPairs_of : ∀ (fs : List (Ev × Ev)) (σ : L2.St) (H : Hp) (Q : List (V × V) → Hp → Prop) (W : Wd) (ρ : Lc) (m : Mem), Ok c W m H → Sl c W ρ σ → Pst c E (Rpp c) (dPrs fs ρ m) W Q →
    tPairs (fs.map fun p => (tD c E p.1, tD c E p.2)) σ H Q
  | [], σ, H, Q, W, ρ, m, o, s, p => p W H [] (le.refl _) o ⟨Rps.nil, Rps.nil⟩
  | (f, g) :: r, σ, H, Q, W, ρ, m, o, s, p => by
    refine ⟨W, ρ, m, o, s, Pst.imp (Pst.bind p) fun x H1 ⟨W1, d1, m1, l1, o1, r1, p1⟩ => ?_⟩
    refine ⟨W1, ρ, m1, o1, s.mono l1, Pst.imp (Pst.bind p1) fun y H2 ⟨W2, d2, m2, l2, o2, r2, p2⟩ => ?_⟩
    refine tPairs_of r σ H2 _ W2 ρ m2 o2 ((s.mono l1).mono l2) (Pst.imp (Pst.bind p2) fun ps H3 ⟨W3, ds, m3, l3, o3, r3, p3⟩ => ?_)
    exact p3 W3 H3 _ (le.refl _) o3 ⟨Rps.cons ((r1.mono l2 d1).mono l3 d1) r3.1, Rps.cons (r2.mono l3 d2) r3.2⟩
theorem keyPs_ok {W : Wd} : ∀ {ps : List (D × D)} {kx : List (L2.Key × D)} {vs : List (V × V)}, keyPs ps = some kx → Rpp c W ps vs →
    ∃ us, vs = ((kx.map (·.1)).zip us).map (fun kv => (kV kv.1, kv.2)) ∧ us.length = kx.length ∧ Rps c W (kx.map (·.2)) us
  | [], kx, vs, h, r => by
    cases h
    obtain ⟨r1, r2⟩ := r
    simp only [List.map_nil, Rps, List.map_eq_nil_iff] at r1
    subst r1
    exact ⟨[], rfl, rfl, Rps.nil⟩
  | (k, x) :: ps, kx, vs, h, r => by
    simp only [keyPs] at h
    split at h
    · rename_i k' kx' h1 h2
      cases h
      obtain ⟨r1, r2⟩ := r
      cases vs with
      | nil => simp [Rps] at r1
      | cons v vs =>
        simp only [List.map_cons, Rps] at r1 r2
        obtain ⟨_, _, e1, q1, t1⟩ := r1
        cases e1
        obtain ⟨_, _, e2, q2, t2⟩ := r2
        cases e2
        obtain ⟨us, g1, g2, g3⟩ := keyPs_ok h2 ⟨t1, t2⟩
        have ek := keyD_ok h1 q1
        refine ⟨v.2 :: us, ?_, by simp [g2], Rps.cons q2 g3⟩
        rw [g1]
        obtain ⟨v1, v2⟩ := v
        dsimp only at ek ⊢
        simp only [List.map_cons, List.zip_cons_cons, List.cons.injEq, Prod.mk.injEq, and_true]
        exact ek
    · cases h
theorem pd_disp (F : FinK fin) {keys : List (Option Expr)} {values : List Expr} {fs : List (Ev × Ev)} (h : PPs X pos keys values (fs.map fun p => (tD c E p.1, tD c E p.2))) (hall : keys.all (·.isSome) = true := by rfl) (hl : keys.length = values.length := by rfl) (h0 : keys ≠ [] := by exact fun z => by cases z)
    (h15 : keys.length ≤ 15 := by decide) : PE X (.Dict keys values pos) (tD c E (dDisp fin fs)) :=
  PE.weak (pe_disp h hall hl h0 h15) fun σ H Q ⟨W, ρ, m, o, s, q⟩ => fun p hp => by
    have ln : W.L p = none := by
      cases e : W.L p with
      | none => rfl
      | some u => rw [o.l _ _ e] at hp; cases hp
    have l0 : le W { W with L := upd W.L p (.dK []) } := ⟨fun _ _ h => h, fun a u h => by show upd W.L p _ a = _; rw [upd_ne (ne_of_none h ln)]; exact h, fun _ _ _ h => h⟩
    refine tPairs_of fs σ _ _ _ ρ m (o.pinD hp) (s.mono l0) (Pst.imp (Pst.bind2 q l0) fun vs H1 ⟨W1, ps, m1, l1, o1, r1, p1⟩ => ?_)
    have hL : W1.L p = some (.dK []) := l1.l _ _ upd_same
    refine ⟨o1.l _ _ hL, ?_⟩
    unfold mkDisp at p1
    split at p1
    · rename_i kx hk
      split at p1
      · rename_i h15
        obtain ⟨us, g1, g2, g3⟩ := keyPs_ok hk r1
        refine ⟨_, g1, by rw [List.length_zip, List.length_map, g2, Nat.min_self]; exact h15, ?_⟩
        obtain ⟨vs', k1, k2, k3⟩ := mergeD_ok (ks := []) (xs := []) (vs := []) g2 g3 List.nodup_nil rfl Rps.nil
        have k1 : mergeK [] ((kx.map (·.1)).zip us) = (mergeD kx [] []).1.zip vs' := k1
        rw [k1, ← upd_rm]
        have l2 : le W { W1 with L := rm W1.L p } := le.rm (l0.trans l1) ln
        exact F.mak (o1.dropD hL) k2 ((Rps_L _).mp k3) (Pst.mono l2 p1) p rm_same
      · exact p1.elim
    · exact p1.elim
/-- (a, b, ..) = a list -/
def gTL (gs : Tgs) : Tg := fun d ρ m => match vwL m d with
  | some ds => gs ds ρ m
  | none => .stuck
theorem pgd_unl {es : List Expr} {gs : Tgs} {is : List Nat} {k} {n : Nat} (hc : X.calm = true) (h : PGs X es (tTgs c E is gs)) (hl : Tgs.len gs n) (hn : (assignEach es X.env).length = n := by rfl) (hst : (assignEach es X.env).findIdx? (·.1) = none := by rfl) (hK : c.K = X.K := by rfl) :
    PG X (.Tuple es k pos) (tTg c E is (gTL gs)) :=
  PG.weak (pg_unl hc h hn hst) fun v σ H Q ⟨W, ρ, m, d, o, s, r, p⟩ => by
    unfold gTL at p
    split at p
    · rename_i ds hv
      obtain ⟨a, vs, rfl, q1, q2⟩ := vwL_ok o hv r
      have hd : ds.length = n := Decidable.byContradiction fun z => by
        have p : Pst c E _ (gs ds ρ m) W Q := p
        rw [hl ds ρ m z] at p; exact p
      exact ⟨a, vs, rfl, SqL.of q1, by rw [← q2.length]; exact hd, W, ρ, m, ds, o, s, q2, p⟩
    · exact p.elim
end
end LN
/-! LNtb: max of a list, a list that is repeated, the place of an item. -/
namespace LN
open PySem L2 PySem.Spec PyProof.Rows

theorem fmax_ok : ∀ (ns : List Int) (n : Int), (ns.foldl max n = n ∨ ns.foldl max n ∈ ns) ∧ n ≤ ns.foldl max n ∧ ∀ y ∈ ns, y ≤ ns.foldl max n
  | [], n => ⟨.inl rfl, Int.le_refl _, by simp⟩
  | a :: ns, n => by
    obtain ⟨h1, h2, h3⟩ := fmax_ok ns (max n a)
    rw [List.foldl_cons]
    refine ⟨?_, by omega, fun y hy => ?_⟩
    · rcases h1 with h1 | h1
      · rw [h1]
        by_cases h : a ≤ n
        · left; omega
        · right; have : max n a = a := by omega
          rw [this]; simp
      · right; simp [h1]
    · rcases List.mem_cons.mp hy with e | e
      · subst e; omega
      · exact h3 y e
theorem fmax_eq {ns : List Int} {n m : Int} (hm : m ∈ n :: ns) (hy : ∀ y ∈ n :: ns, y ≤ m) : ns.foldl max n = m := by
  obtain ⟨h1, h2, h3⟩ := fmax_ok ns n
  have a1 : ns.foldl max n ≤ m := by
    rcases h1 with h1 | h1
    · rw [h1]; exact hy n (by simp)
    · exact hy _ (by simp [h1])
  have a2 : m ≤ ns.foldl max n := by
    rcases List.mem_cons.mp hm with e | e
    · rw [e]; exact h2
    · exact h3 m e
  omega
def bMaxL : List D → Mem → Rs D
  | [d], m => match vwL m d with
    | some ys => match dInts ys with
      | some (n :: ns) => .ok (.int (ns.foldl max n)) m
      | _ => .stuck
    | none => .stuck
  | _, _ => .stuck
/-- list * int -/
def gMulA (fin : List D → Mem → Rs D) (x y : D) (m : Mem) : Rs D := match x, y with
  | .lst xs, .int k => if (-(2 ^ 63) ≤ k ∧ k < 2 ^ 63) ∧ xs.length * k.toNat ≤ 16777216 then fin (List.replicate k.toNat xs).flatten m else .stuck
  | x, y => gMul x y m
/-- xs.index(y) -/
def gIdx (d : D) (ds : List D) (m : Mem) : Rs D := match ds with
  | [y] => match vwL m d, toPy m d, toPy m y with
    | some _, some (.list es), some e => if SeqAt.shaped (.list es) = true ∧ SeqAt.shaped e = true then (match es.findIdx? (fun z => PyData.eqv z e) with
      | some j => .ok (.int (j : Nat)) m
      | none => .stuck) else .stuck
    | _, _, _ => .stuck
  | _ => .stuck
section
variable {X : Cx} {c : Ct} {E : XK} {fin : List D → Mem → Rs D}
theorem cs_maxL (hK : c.K = X.K := by rfl) : CallS c E (rMax X.K) bMaxL := fun W m H xs ds Q o r p => by
  unfold bMaxL at p
  split at p
  · obtain ⟨v, rfl, q⟩ := rps1 r
    split at p
    · rename_i ys h
      obtain ⟨a, vs, rfl, q2, q3⟩ := vwL_ok o h q
      split at p
      · rename_i n ns h2
        refine ⟨a, n :: ns, rfl, SqL.of (by rw [q2, ints_ok h2 q3]), by simp, fun k hk hy => ?_⟩
        rw [fmax_eq hk hy] at p
        exact p W H _ (le.refl _) o (by simp [Rp])
      · exact p.elim
    · exact p.elim
  · exact p.elim
def rMulA : R2 := fun x y H Q => rRep x y H Q ∨ rI (fun i j => mulOk i j = true) (fun i j => .int (i * j)) x y H Q
theorem op_mulAA : OpR X (binaryOp .Mult) rMulA := OpR.or op_rep op_mulA
theorem Rps.rep {W : Wd} {xs : List D} {vs : List V} (r : Rps c W xs vs) : ∀ k : Nat, Rps c W (List.replicate k xs).flatten (List.replicate k vs).flatten
  | 0 => Rps.nil
  | k + 1 => by
    rw [List.replicate_succ, List.replicate_succ, List.flatten_cons, List.flatten_cons]
    exact r.append (Rps.rep r k)
theorem os_mulA (F : FinN fin) : OpS c E rMulA (gMulA fin) := fun W m H x y dx dy Q o rx ry p => by
  unfold gMulA at p
  split at p
  · rename_i xs k
    split at p
    · rename_i h
      simp only [Rp] at rx ry
      obtain ⟨a, vs, rfl, q1, r1⟩ := rx
      subst ry
      refine .inl ⟨a, k, vs, rfl, rfl, o.g _ _ q1, h.1.1, h.1.2, ?_, F.mak o (r1.rep k.toNat) p⟩
      rw [← r1.length, sizeLine_eq]
      exact h.2
    · exact p.elim
  · exact .inr (os_mul W m H x y _ _ Q o rx ry p)
theorem ms_idx (hK : c.K = X.K := by rfl) : MtS c E (rIndexD X.K) gIdx := fun W m H x xs dx ds Q o rx rs p => by
  unfold gIdx at p
  split at p
  · rename_i y
    obtain ⟨v, rfl, q⟩ := rps1 rs
    split at p
    · rename_i zs es e h1 h2 h3
      split at p
      · rename_i hs
        split at p
        · rename_i j hj
          obtain ⟨a, vs, rfl, q2, q3⟩ := vwL_ok o h1 rx
          obtain ⟨hl, k1, k2⟩ := List.findIdx?_eq_some_iff_getElem.mp hj
          refine ⟨a, v, e, es, j, es[j], rfl, rfl, hK ▸ toPy_dp o h2 rx, hK ▸ toPy_dp o h3 q, hs.1, hs.2, List.getElem?_eq_getElem hl, k1, fun i z hi hz => ?_, p W H _ (le.refl _) o (by simp [Rp])⟩
          have := k2 i hi
          obtain ⟨h4, h5⟩ := List.getElem?_eq_some_iff.mp hz
          rw [h5] at this
          simpa using this
        · exact p.elim
      · exact p.elim
    · exact p.elim
  · exact p.elim
end
end LN
/-! LNtc: enumerate of a list or a tuple. -/
namespace L2
open PySem PySem.Spec PyProof.Rows
set_option maxHeartbeats 4000000 in
theorem meets_enumerate_new1 {v : Value} {o : Obj} {H : Heap → Prop} (B : Begins v o H) :
    Meets (Builtin.«enumerate.__new__» ⟨[.type "enumerate", v], []⟩) (fun _ R s => H s.heap ∧
      R (.ok (.ret (.ref (s.heap.push o).objs.size))) { s with heap := (s.heap.push o).push { cls := .type "enumerate", data := .fields #[.none, .bool false, .ref s.heap.objs.size, rawInt 0, .none, .none] } }) :=
  .of_wp fun prog w A R s h => by
    obtain ⟨hp, g, d, tk, os⟩ := s; obtain ⟨h1, h⟩ := h
    have hsub := sub_enumerate
    have q1 : ∀ {A' : Around} {E : Value → Shared → Prop} {Q : Value → Shared → Prop}, Q (.ref hp.objs.size) ⟨hp.push o, g, d, tk, os⟩ → wpAny (model prog w) A' (pyIter v) Q E ⟨hp, g, d, tk, os⟩ :=
      fun q => B.iter prog w _ _ ⟨hp, g, d, tk, os⟩ _ h1 q
    wp_walk using q1
    refine wpAny_stack_any fun st => wpAny_pure ?_
    split
    · rename_i c _ _ _ _ _
      cases (c == Value.type "enumerate")
      · wp_walk using q1
        exact ⟨_, rfl, h⟩
      · wp_walk using q1
        exact ⟨_, rfl, h⟩
    · wp_walk using q1
      exact ⟨_, rfl, h⟩
section
variable {prog : Program} {w : World} {A : Around} {E : Value → Shared → Prop} {s : Shared}
theorem enum_begins1 {v : Value} {o : Obj} {H : Heap → Prop} {Q : Value → Shared → Prop} (B : Begins v o H) (h1 : H s.heap)
    (h : ∀ h', IsEnum h' (s.heap.objs.size + 1) s.heap.objs.size 0 .none → h'.get? s.heap.objs.size = some o → h'.objs.size = s.heap.objs.size + 2 →
      (∀ b o, s.heap.get? b = some o → h'.get? b = some o) → Q (.ref (s.heap.objs.size + 1)) { s with heap := h' }) :
    wpAny (model prog w) A (call (.type "enumerate") [v]) Q E s := by
  refine callType_new F.called_enumerate (by decide) (F.typeCall_enumerate_1 _) (F.newCall_enumerate_1 _) (fun obj => F.args_object_init_2 obj _) F.entry_enumerate_new
    (meets_enumerate_new1 B) ⟨h1, ?_⟩
  have hz : (s.heap.push o).objs.size = s.heap.objs.size + 1 := Heap.size_push ..
  show _ ∧ _
  rw [hz]
  have he : IsEnum ((s.heap.push o).push { cls := .type "enumerate", data := .fields #[.none, .bool false, .ref s.heap.objs.size, rawInt 0, .none, .none] }) (s.heap.objs.size + 1) s.heap.objs.size 0 .none := by
    have := Heap.get?_push_size (s.heap.push o) (o := { cls := .type "enumerate", data := .fields #[.none, .bool false, .ref s.heap.objs.size, rawInt 0, .none, .none] }) rfl
    rw [hz] at this; exact this
  refine ⟨⟨_, he, rfl⟩, h _ he (Heap.get?_push_of_some _ (Heap.get?_push_size _ B.free)) (by rw [Heap.size_push, hz]) fun b o x => Heap.get?_push_of_some _ (Heap.get?_push_of_some _ x)⟩
end
def Iteq (k : Bool) (K : PySem.W.Frag) (a : Addr) : It :=
  ⟨fun i H => ∃ (xs : List V) (x : V), Sqk k K H a xs ∧ xs[i]? = some x, fun i H v H' => ∃ T x, v = .ref T ∧ H T = none ∧ H' = upd H T (.tup [.int (i : Nat), x]) ∧ ∀ xs, Sqk k K H a xs → xs[i]? = some x, fun i H => ∃ xs : List V, Sqk k K H a xs ∧ i = xs.length⟩
theorem turn_enumq {P : Program} {w : World} {K : PySem.W.Frag} {elts : List Expr} {kk : Nat} {tpos : Pos} {k : Bool} {a e it : Addr} (nai : a ≠ it) (nei : e ≠ it) (nea : e ≠ a) :
    Turn P w K (.Tuple elts kk tpos) (Iteq k K a) [e, it] e (fun i h => (∃ old, IsEnum h e it ((i : Nat) : Int) old) ∧ Itek k h it a i) where
  mem := by simp
  obj := fun i h st b hb => by
    obtain ⟨⟨old, he⟩, hi⟩ := st
    have e' : b = e ∨ b = it := by simpa using hb
    rcases e' with z | z
    · rw [z]; exact ⟨_, he, fun v q => nomatch q⟩
    · rw [z]; exact hi.obj
  keep := fun i h h' st k => let ⟨⟨old, he⟩, hi⟩ := st; ⟨⟨old, k e (by simp) _ he⟩, hi.at fun o q => k it (by simp) o q⟩
  item := by
    intro X hP hw hK hc i pins s σ H E I hf st hg
    subst hP hw hK
    obtain ⟨⟨old, he⟩, hit⟩ := st
    obtain ⟨xs, x, hq, hx⟩ := hg
    obtain ⟨its, rv, p⟩ := sqk_at I hq
    obtain ⟨u, hu, ru⟩ := rv.get hx
    have hel : e < s.heap.objs.size := Heap.lt_size he
    have hil : it < s.heap.objs.size := by obtain ⟨o, q, _⟩ := hit.obj; exact Heap.lt_size q
    refine wpAny_pyNext_enum_itemD (drawk (I.ok.hd hc) nai its.toArray) he ⟨hit, p⟩ (lt_of_at hu) nei (by simp [nei, nea]) fun y h' tk ey ho st' hT hsz hk => ?_
    have ey : y = u := at_eq ey hu
    subst ey
    refine ⟨_, rfl, wpAny_letOwnedTupleGo_enum (s := { s with heap := h', toks := tk + 1 }) ho fun h'' he' sb => ?_⟩
    have hT2 : h''.get? s.heap.objs.size = some { cls := .type "tuple", data := .seq #[.int i tk, y] } := (sb.2 _ (Nat.ne_of_gt hel)).trans hT
    have new : ObjOk X.prog X.w (upd H s.heap.objs.size (.tup [.int (i : Nat), x])) h'' s.heap.objs.size (.tup [.int (i : Nat), x]) :=
      ⟨by show 2 ≤ sizeLine; decide, [.int i tk, y], .cons ⟨_, rfl⟩ (.cons ru .nil), ⟨_, hT2, rfl, _, rfl⟩⟩
    have I1 : Inv X pins σ (upd H s.heap.objs.size (.tup [.int (i : Nat), x])) { s with heap := h'', toks := tk + 1 } :=
      I.turnedNew (t' := tk + 1) (ch := [e, it]) (fun b ob hb q => (sb.2 b (fun z => hb (by simp [z]))).trans (hk b ob (fun z => hb (by simp [z])) (fun z => hb (by simp [z])) q)) hf (Nat.le_refl _) new
    refine ⟨.ref s.heap.objs.size, _, I1, rfl, ⟨_, x, rfl, I.hok.fresh (Nat.le_refl _), rfl, fun ys hy => by rw [sqk_inj I hy hq]; exact hx⟩, ⟨⟨y, ?_⟩, st'.1.at fun o q => (sb.2 it (Ne.symm nei)).trans q⟩, fun b hb => ?_⟩
    · have e1 : ((i + 1 : Nat) : Int) = (i : Int) + 1 := by omega
      rw [e1]; exact he'
    · have hb' : b < s.heap.objs.size := by
        have e' : b = e ∨ b = it := by simpa using hb
        rcases e' with z | z
        · rw [z]; exact hel
        · rw [z]; exact hil
      rw [upd_ne (Nat.ne_of_lt hb')]
      exact (hf b hb).1
  done := by
    intro X hP hw hK hc i pins s σ H E I hf st hg
    subst hP hw hK
    obtain ⟨⟨old, he⟩, hit⟩ := st
    obtain ⟨xs, hq, hx⟩ := hg
    obtain ⟨its, rv, p⟩ := sqk_at I hq
    obtain ⟨f0, f1, f2, f3, f4, f5⟩ := hf it (by simp)
    have hl := rv.length
    have hi : i = its.toArray.size := by rw [List.size_toArray]; omega
    rw [hi] at hit
    exact wpAny_pyNext_enum_endD (drawk (I.ok.hd hc) nai its.toArray) he ⟨hit, p⟩ fun h' eb => ⟨rfl, I.turned (t' := s.toks) (fun b o hb q => eb b o hb q) f0 f1 f3 f4 f5⟩
  self := fun A i s Q E st h => let ⟨⟨_, he⟩, _⟩ := st; wpAny_pyIter_enum he h
def iEnumq (K : PySem.W.Frag) (ta : TA) : TI := fun σ H R => ta σ H fun vs H1 => ∃ k a xs, vs = [.ref a] ∧ Sqk k K H1 a xs ∧ R (Iteq k K a) H1
theorem pi_enumq {X : Cx} {e : Expr} {ta : TA} {p pos tpos : Pos} {elts : List Expr} {kk : Nat} (hg : Gl X "enumerate") (hm : X.mg "enumerate" = none) (ha : PA X [e] ta) (hs : starEach [e] X.env = [(false, eval e X.env)] := by rfl) :
    PI X (.Tuple elts kk tpos) (.Call (.Name "enumerate" p) [e] [] pos) (iEnumq X.K ta) := by
  refine ⟨fun pins s σ H R I h => ?_⟩
  refine Call_ (ld_blt I hg hm boot_enumerate (PyProof.Rows.callWith_type1 (thn (ha.run pos pins s σ H _ I h) fun us s1 ⟨vs, H1, I1, r1, q1⟩ => ?_) hs rfl))
  obtain ⟨k, a, xs, ex, hq, q⟩ := q1
  subst ex
  cases r1 with
  | cons r rr =>
    cases rr
    cases r
    obtain ⟨its, rv, p'⟩ := sqk_at I1 hq
    have hlt : a < s1.heap.objs.size := sqk_lt p'
    refine enum_begins1 (begk a its.toArray) p' fun h' he hit hsz hk => wpAny_pyIter_enum he ?_
    have I2 : Inv X pins σ H1 { s1 with heap := h' } := I1.kept (t' := s1.toks) hk
    refine ⟨s1.heap.objs.size + 1, [s1.heap.objs.size + 1, s1.heap.objs.size], _, _, H1, rfl, I2, turn_enumq (k := k) (a := a) (Nat.ne_of_lt hlt) (Nat.succ_ne_self _) (Nat.ne_of_gt (Nat.lt_succ_of_lt hlt)), ⟨⟨.none, he⟩, itek_new hit⟩, fun b hb => ?_, q⟩
    have e' : b = s1.heap.objs.size + 1 ∨ b = s1.heap.objs.size := by simpa using hb
    have hle : s1.heap.objs.size ≤ b := by
      rcases e' with z | z
      · rw [z]; exact Nat.le_add_right _ _
      · rw [z]; exact Nat.le_refl _
    exact I1.fpOk hle (I1.hok.fresh hle)
end L2
namespace LN
open PySem L2 PySem.Spec PyProof.Rows
def dEnumA (f : Ev) : EvG Wk := fun ρ m => (f ρ m).bind fun d m1 => match vwW m1 d with
  | some (_, xs, ck) => .ok ⟨enumD 0 xs, ck⟩ m1
  | _ => .stuck
section
variable {X : Cx} {c : Ct} {E : XK} {pos p tpos : Pos} {e : Expr} {f : Ev} {elts : List Expr} {kk : Nat}
theorem pid_enumA (hm : X.mg "enumerate" = none) (h1 : PE X e (tD c E f)) (hK : c.K = X.K := by rfl) (hg : Gl X "enumerate" := by rfl) (hs : starEach [e] X.env = [(false, eval e X.env)] := by rfl) :
    PI X (.Tuple elts kk tpos) (.Call (.Name "enumerate" p) [e] [] pos) (tI c E (dEnumA f)) :=
  PI.weak (pi_enumq hg hm (pad_cons (es := []) h1 pad_nil hs) hs) fun σ H R ⟨W, ρ, m, o, s, q⟩ => by
    refine ⟨W, ρ, m, o, s, ?_⟩
    have q : Pst c E (Yld c) ((f ρ m).bind fun d m1 => match vwW m1 d with
      | some (_, xs, ck) => .ok ⟨enumD 0 xs, ck⟩ m1
      | _ => .stuck) W R := q
    show Pst c E (Rps c) ((f ρ m).bind fun d m1 => (Rs.ok [] m1).bind fun ds m2 => Rs.ok (d :: ds) m2) W _
    cases hf : f ρ m with
    | stuck => rw [hf] at q; exact q
    | err e m1 => rw [hf] at q; exact q
    | ok d m1 =>
      rw [hf] at q
      simp only [Rs.bind_ok] at q ⊢
      intro W1 H1 xs l1 o1 r1
      obtain ⟨v, rfl, r3⟩ := rps1 r1
      split at q
      · rename_i k ys c1 q1
        obtain ⟨i1, a, rfl, w1⟩ := vwW_ok o1 q1 r3
        obtain ⟨vs1, s1, t1⟩ := w1 W1 m1 H1 (le.refl _) o1 i1
        refine ⟨k, a, vs1, rfl, hK ▸ s1, q W1 H1 (Iteq k X.K a) l1 o1 ?_⟩
        intro W2 m3 H2 i l2 o2 hck
        obtain ⟨us1, g1, y1⟩ := w1 W2 m3 H2 l2 o2 hck
        rw [hK] at g1
        have n1 := y1.length
        refine ⟨fun d hd => ?_, fun hi => ?_⟩
        · have hd : (enumD 0 ys)[i]? = some d := hd
          rw [enumD_at] at hd
          cases hz : ys[i]? with
          | none => rw [hz] at hd; cases hd
          | some x1 =>
            rw [hz] at hd; cases hd
            obtain ⟨v1, b1, b2⟩ := y1.get hz
            refine ⟨⟨us1, v1, g1, b1⟩, fun x H3 hx => ?_⟩
            obtain ⟨T, w1, rfl, hT, rfl, f1⟩ := hx
            have f1 := f1 us1 g1
            rw [b1] at f1; cases f1
            obtain ⟨l3, o3⟩ := o2.froz (o := .tup [.int (i : Nat), v1]) hT
            refine ⟨_, l3, o3, ?_⟩
            simp only [Rp]
            exact ⟨T, _, rfl, .inl upd_same, Rps.cons (by simp [Rp]) (Rps.one (b2.mono l3 x1))⟩
        · have hi : (enumD 0 ys).length = i := hi
          rw [enumD_len] at hi
          exact ⟨us1, g1, by omega⟩
      · exact q.elim
end
end LN
/-! LNtd: texts: str of a number, join, a sign in a text. -/
namespace LN
open PySem L2 PySem.Spec PyProof.Rows

def dStrs : List D → Option (List Str)
  | [] => some []
  | .str x :: r => (dStrs r).map (x :: ·)
  | _ => none
/-- str(i), str(text) -/
def bStr : List D → Mem → Rs D
  | [.int i], m => if decide (i.natAbs.log2 < 1920) = true then .ok (.str (toString i)) m else .stuck
  | _, _ => .stuck
/-- sep.join(xs) -/
def gJoin (d : D) (ds : List D) (m : Mem) : Rs D := match d, ds with
  | .str a, [l] => match vwS m l with
    | some xs => match dStrs xs with
      | some ys => if decide ((ys.map (·.length)).sum + ys.length * a.length ≤ 16777216) = true then .ok (.str (Txt.join a ys)) m else .stuck
      | none => .stuck
    | none => .stuck
  | _, _ => .stuck
/-- in: an item in a tuple -/
def gInP (neg : Bool) (x y : D) (m : Mem) : Rs D := match toPy m x, toPy m y with
  | some d, some (.tuple ds) => if SeqAt.shaped d = true ∧ SeqAt.shaped (.tuple ds) = true then .ok (.bl (neg ^^ ds.any fun z => PyData.eqv z d)) m else .stuck
  | _, _ => .stuck
/-- in: a sign in a text, an item in a list or a tuple -/
def gInB (neg : Bool) (x y : D) (m : Mem) : Rs D := match x, y with
  | .str i, .str j => match i.cps.toList with
    | [ch] => if i = ⟨#[ch]⟩ then .ok (.bl (neg ^^ decide (ch ∈ j.cps.toList))) m else .stuck
    | _ => .stuck
  | x, .tup ys => gInP neg x (.tup ys) m
  | x, y => gIn neg x y m
section
variable {X : Cx} {c : Ct} {E : XK}
def rStrI : List V → Hp → VK → Prop := fun xs H Q => ∃ i : Int, xs = [.int i] ∧ i.natAbs.log2 < 1920 ∧ Q (.str (toString i)) H
theorem cr_str : CallR X (.type "str") rStrI := call_str_int
theorem cs_str : CallS c E rStrI bStr := fun W m H xs ds Q o r p => by
  unfold bStr at p
  split at p
  · obtain ⟨v, rfl, q⟩ := rps1 r
    simp only [Rp] at q
    subst q
    split at p
    · rename_i h
      exact ⟨_, rfl, of_decide_eq_true h, p W H _ (le.refl _) o (by simp [Rp])⟩
    · exact p.elim
  · exact p.elim
theorem strs_ok {W : Wd} : ∀ {xs : List D} {ys : List Str} {vs : List V}, dStrs xs = some ys → Rps c W xs vs → vs = ys.map V.str
  | [], ys, vs, h, r => by simp only [dStrs, Option.some.injEq, Rps] at h r; subst h; subst r; rfl
  | .str x :: xs, ys, vs, h, r => by
    simp only [dStrs, Option.map_eq_some_iff] at h
    obtain ⟨zs, h1, rfl⟩ := h
    simp only [Rps] at r
    obtain ⟨v, us, rfl, p, q⟩ := r
    simp only [Rp] at p
    subst p
    rw [strs_ok h1 q]
    rfl
  | .non :: _, _, _, h, _ => by cases h
  | .bl _ :: _, _, _, h, _ => by cases h
  | .int _ :: _, _, _, h, _ => by cases h
  | .ty _ :: _, _, _, h, _ => by cases h
  | .cls _ :: _, _, _, h, _ => by cases h
  | .tup _ :: _, _, _, h, _ => by cases h
  | .lst _ :: _, _, _, h, _ => by cases h
  | .dk _ _ :: _, _, _, h, _ => by cases h
  | .dt _ _ :: _, _, _, h, _ => by cases h
  | .loc _ _ :: _, _, _, h, _ => by cases h
  | .scr _ :: _, _, _, h, _ => by cases h
def rJoinA (K : PySem.W.Frag) : V → List V → Hp → VK → Prop := fun x xs H Q => ∃ a p, ∃ ys : List Str, x = .str a ∧ xs = [.ref p] ∧ (SqL K H p (ys.map V.str) ∨ SqT K H p (ys.map V.str)) ∧
    (ys.map (·.length)).sum + ys.length * a.length ≤ 16777216 ∧ Q (.str (Txt.join a ys)) H
theorem mt_joinA : MtR X "str.join" (rJoinA X.K) := mt_join
theorem ms_join (hK : c.K = X.K := by rfl) : MtS c E (rJoinA X.K) gJoin := fun W m H x xs dx ds Q o rx rs p => by
  unfold gJoin at p
  split at p
  · rename_i a l
    simp only [Rp] at rx
    subst rx
    obtain ⟨v, rfl, q⟩ := rps1 rs
    split at p
    · rename_i zs h1
      split at p
      · rename_i ys h2
        split at p
        · rename_i h3
          obtain ⟨b, vs, rfl, q2, q3⟩ := vwS_ok o h1 q
          have e := strs_ok h2 q3
          subst e
          exact ⟨a, b, ys, rfl, rfl, hK ▸ q2, of_decide_eq_true h3, p W H _ (le.refl _) o (by simp [Rp])⟩
        · exact p.elim
      · exact p.elim
    · exact p.elim
  · exact p.elim
def rSgn : R2 := fun x y H Q => ∃ (ch : Nat) (z : Str), x = .str ⟨#[ch]⟩ ∧ y = .str z ∧ Q (.bl (decide (ch ∈ z.cps.toList))) H
def rNotSgn : R2 := fun x y H Q => ∃ (ch : Nat) (z : Str), x = .str ⟨#[ch]⟩ ∧ y = .str z ∧ Q (.bl (!decide (ch ∈ z.cps.toList))) H
def rInP (K : PySem.W.Frag) : R2 := fun x y H Q => ∃ d ds, Dp K H x d ∧ Dp K H y (.tuple ds) ∧ SeqAt.shaped d = true ∧ SeqAt.shaped (.tuple ds) = true ∧ Q (.bl (ds.any fun z => PyData.eqv z d)) H
def rNotInP (K : PySem.W.Frag) : R2 := fun x y H Q => ∃ d ds, Dp K H x d ∧ Dp K H y (.tuple ds) ∧ SeqAt.shaped d = true ∧ SeqAt.shaped (.tuple ds) = true ∧ Q (.bl (!ds.any fun z => PyData.eqv z d)) H
theorem op_inP (hu : X.A.units + 65 < cLine) : OpR X (compareOp .In) (rInP X.K) := by
  intro pins s σ H x y v u Q I rx ry h
  obtain ⟨d, ds, hd, he, sd, se, q⟩ := h
  obtain ⟨as, r1⟩ := Dp.reads I d x v hd rx
  obtain ⟨bs, r2⟩ := Dp.reads I (.tuple ds) y u he ry
  exact SeqAt.in_tuple_reads r2 r1 (SeqAt.canLay_of_shaped se) (SeqAt.canLay_of_shaped sd) (room_in_shaped sd hu) ⟨.bl _, H, I, rfl, q⟩
theorem op_notInP (hu : X.A.units + 65 < cLine) : OpR X (compareOp .NotIn) (rNotInP X.K) := by
  intro pins s σ H x y v u Q I rx ry h
  obtain ⟨d, ds, hd, he, sd, se, q⟩ := h
  obtain ⟨as, r1⟩ := Dp.reads I d x v hd rx
  obtain ⟨bs, r2⟩ := Dp.reads I (.tuple ds) y u he ry
  exact SeqAt.notIn_tuple_reads r2 r1 (SeqAt.canLay_of_shaped se) (SeqAt.canLay_of_shaped sd) (room_in_shaped sd hu) ⟨.bl _, H, I, rfl, q⟩
def rInB (K : PySem.W.Frag) : R2 := fun x y H Q => rSgn x y H Q ∨ rInP K x y H Q ∨ rInD K x y H Q
def rNotInB (K : PySem.W.Frag) : R2 := fun x y H Q => rNotSgn x y H Q ∨ rNotInP K x y H Q ∨ rNotInD K x y H Q
theorem op_inB (hu : X.A.units + 65 < cLine) : OpR X (compareOp .In) (rInB X.K) := OpR.or (r := rSgn) op_in_sign (OpR.or (op_inP hu) (op_inD hu))
theorem op_notInB (hu : X.A.units + 65 < cLine) : OpR X (compareOp .NotIn) (rNotInB X.K) := OpR.or (r := rNotSgn) op_notIn_sign (OpR.or (op_notInP hu) (op_notInD hu))
theorem os_inP (hK : c.K = X.K := by rfl) : OpS c E (rInP X.K) (gInP false) := fun W m H x y dx dy Q o rx ry p => by
  unfold gInP at p
  split at p
  · rename_i d ds h1 h2
    split at p
    · rename_i h
      exact ⟨d, ds, hK ▸ toPy_dp o h1 rx, hK ▸ toPy_dp o h2 ry, h.1, h.2, by
        have q := p W H (.bl (false ^^ ds.any fun z => PyData.eqv z d)) (le.refl _) o (by simp [Rp])
        rwa [Bool.false_xor] at q⟩
    · exact p.elim
  · exact p.elim
theorem os_notInP (hK : c.K = X.K := by rfl) : OpS c E (rNotInP X.K) (gInP true) := fun W m H x y dx dy Q o rx ry p => by
  unfold gInP at p
  split at p
  · rename_i d ds h1 h2
    split at p
    · rename_i h
      exact ⟨d, ds, hK ▸ toPy_dp o h1 rx, hK ▸ toPy_dp o h2 ry, h.1, h.2, by
        have q := p W H (.bl (true ^^ ds.any fun z => PyData.eqv z d)) (le.refl _) o (by simp [Rp])
        rwa [Bool.true_xor] at q⟩
    · exact p.elim
  · exact p.elim
theorem os_inB (hK : c.K = X.K := by rfl) : OpS c E (rInB X.K) (gInB false) := fun W m H x y dx dy Q o rx ry p => by
  unfold gInB at p
  split at p
  · rename_i i j
    simp only [Rp] at rx ry
    subst rx; subst ry
    split at p
    · rename_i ch h1
      split at p
      · rename_i h2
        exact .inl ⟨ch, j, by rw [h2], rfl, by
          have q := p W H (.bl (false ^^ decide (ch ∈ j.cps.toList))) (le.refl _) o (by simp [Rp])
          rwa [Bool.false_xor] at q⟩
      · exact p.elim
    · exact p.elim
  · exact .inr (.inl (os_inP hK W m H x y _ _ Q o rx ry p))
  · exact .inr (.inr (os_in hK W m H x y _ _ Q o rx ry p))
theorem os_notInB (hK : c.K = X.K := by rfl) : OpS c E (rNotInB X.K) (gInB true) := fun W m H x y dx dy Q o rx ry p => by
  unfold gInB at p
  split at p
  · rename_i i j
    simp only [Rp] at rx ry
    subst rx; subst ry
    split at p
    · rename_i ch h1
      split at p
      · rename_i h2
        exact .inl ⟨ch, j, by rw [h2], rfl, by
          have q := p W H (.bl (true ^^ decide (ch ∈ j.cps.toList))) (le.refl _) o (by simp [Rp])
          rwa [Bool.true_xor] at q⟩
      · exact p.elim
    · exact p.elim
  · exact .inr (.inl (os_notInP hK W m H x y _ _ Q o rx ry p))
  · exact .inr (.inr (os_notIn hK W m H x y _ _ Q o rx ry p))
end
end LN
/-! LNte: a dict of the module with text keys: get. -/
namespace LN
open PySem L2 PySem.Spec PyProof.Rows
section
variable {X : Cx} {o e f : Expr} {apos cpos : Pos} {ty tx : TE} {a : Addr} {es : Array DictEntry} {n : Nat}
def tKGet2 (K : PySem.W.Frag) (a : Addr) (ty tx : TE) : TE := fun σ H Q => ty σ H fun y H1 => tx σ H1 fun z H2 => ∃ (k : Str) (r : Option Value), y = .str k ∧ PySem.W.nsIn K a k = some r ∧
  ((∃ u v, r = some u ∧ RelV v u ∧ Q v H2) ∨ (r = none ∧ Q z H2))
theorem pe_kget2 (D : KDict X.K X.w a es n) (ho : PE X o (tC (.ref a))) (he : PE X e ty) (hf : PE X f tx) (m : M2 X o "get" apos e f cpos) : PE X (.Call (.Attribute o "get" apos) [e, f] [] cpos) (tKGet2 X.K a ty tx) := by
  refine ⟨fun pins s σ H Q I h => ?_⟩
  refine wpAny_Call_method m.base m.few m.line PySem.F.plainAttrs_dict PySem.F.slot_dict_get PySem.F.type_dict_get (thn (ho.run pins s σ H (fun x H1 => x = .ref a ∧ ty σ H1 fun y H2 => tx σ H2 fun z H3 => ∃ (k : Str) (r : Option Value), y = .str k ∧ PySem.W.nsIn X.K a k = some r ∧
    ((∃ u v, r = some u ∧ RelV v u ∧ Q v H3) ∨ (r = none ∧ Q z H3))) I ⟨rfl, h⟩) fun u s1 ⟨x, H1, I1, rx, ex, q1⟩ => ?_)
  subst ex
  obtain rfl : u = Value.ref a := rx
  refine ⟨kd_type D I1, fun b q => ?_, ?_⟩
  · cases q
    exact ⟨_, I1.kIn _ _ D.at_, rfl⟩
  rw [m.trees]
  refine Calls.callWith_builtin rfl (Calls.evalArgs_plain (Calls.spliced_cons (thn (he.run pins s1 σ H1 _ I1 q1) fun iv s2 ⟨y, H2, I2, ry, q2⟩ =>
    Calls.spliced_cons (thn (hf.run pins s2 σ H2 _ I2 q2) fun fv s3 ⟨z, H3, I3, rz, k, r, ey, hk, q3⟩ => Calls.spliced_nil ?_))))
  subst ey
  obtain ⟨t, rfl⟩ := ry
  refine call_meetsIn PySem.F.slot_dict_get (kd_type D I3) PySem.F.entry_dict_get (PySem.F.args_dict_get_3 _ _ _) (meets_dict_get_default (strKind X.prog X.w) a (PySem.strKind_is X.prog X.w k t) D.low fv) ⟨_, PySem.W.mapOf_K (prog := X.prog) I3.kIn D.at_ D.lit, ?_⟩
  rw [PySem.W.find_K D.at_ hk]
  rcases q3 with ⟨u, v, rfl, rv, q⟩ | ⟨rfl, q⟩
  · exact ⟨v, H3, I3.tok _, rv, q⟩
  · exact ⟨z, H3, I3.tok _, rz, q⟩
end
def lkT : List (Str × D) → Str → Option D
  | [], _ => none
  | p :: r, k => if p.1 = k then some p.2 else lkT r k
/-- what the module's table holds -/
structure KTab (c : Ct) (w : World) (a : Addr) (kvs : List (Str × D)) : Prop where
  d : ∃ es n, KDict c.K w a es n
  g : ∀ k, ∃ r, PySem.W.nsIn c.K a k = some r ∧ ((∃ u v dd, lkT kvs k = some dd ∧ r = some u ∧ RelV v u ∧ ∀ W, Rp c W dd v) ∨ (lkT kvs k = none ∧ r = none))
def dKGet (kvs : List (Str × D)) (fa fx : Ev) : Ev := fun ρ m => (fa ρ m).bind fun d m1 => (fx ρ m1).bind fun x m2 => match d with
  | .str k => .ok ((lkT kvs k).getD x) m2
  | _ => .stuck
section
variable {X : Cx} {c : Ct} {E : XK} {e f : Expr} {x : Str} {p apos cpos : Pos} {fa fx : Ev} {a : Addr} {kvs : List (Str × D)}
theorem pd_kget2 (T : KTab c X.w a kvs) (hg : Gl X x) (hm : X.mg x = some (.ref a)) (he : PE X e (tD c E fa)) (hf : PE X f (tD c E fx)) (m : M2 X (.Name x p) "get" apos e f cpos) (hd : (x == ("__debug__" : Str)) = false := by decide) (hK : c.K = X.K := by rfl) :
    PE X (.Call (.Attribute (.Name x p) "get" apos) [e, f] [] cpos) (tD c E (dKGet kvs fa fx)) := by
  obtain ⟨es, n, D⟩ := T.d
  have D' : KDict X.K X.w a es n := hK ▸ D
  refine PE.weak (pe_kget2 D' (pe_glob (v := .ref a) hg hm rfl hd) he hf m) fun σ H Q ⟨W, ρ, mm, o, s, q⟩ => ?_
  refine ⟨W, ρ, mm, o, s, Pst.imp (Pst.bind q) fun y H1 ⟨W1, d, m1, l1, o1, r1, p1⟩ => ?_⟩
  refine ⟨W1, ρ, m1, o1, s.mono l1, Pst.imp (Pst.bind p1) fun z H2 ⟨W2, d2, m2, l2, o2, r2, p2⟩ => ?_⟩
  cases d with
  | str k =>
    simp only [Rp] at r1
    subst r1
    obtain ⟨r, hr, hx⟩ := T.g k
    refine ⟨k, r, rfl, hK ▸ hr, ?_⟩
    rcases hx with ⟨u, v, dd, h1, h2, h3, h4⟩ | ⟨h1, h2⟩
    · have p3 : Pst c E (Rp c) (.ok ((lkT kvs k).getD d2) m2) W2 Q := p2
      rw [h1] at p3
      exact .inl ⟨u, v, h2, h3, p3 W2 H2 v (le.refl _) o2 (h4 W2)⟩
    · have p3 : Pst c E (Rp c) (.ok ((lkT kvs k).getD d2) m2) W2 Q := p2
      rw [h1] at p3
      exact .inr ⟨h2, p3 W2 H2 z (le.refl _) o2 r2⟩
  | _ => exact p2.elim
end
end LN
/-! LNtf: texts: split, replace, islower, f-strings; three names at once; items changed at once. -/
namespace LN
open PySem L2 PySem.Spec PyProof.Rows

/-- x.split(sep) -/
def gSplit (fin : List D → Mem → Rs D) (d : D) (ds : List D) (m : Mem) : Rs D := match d, ds with
  | .str a, [.str b] => if decide ((b.length == 0) = false ∧ a.length + 2 ≤ 16777216) = true then fin ((Txt.split a b).map .str) m else .stuck
  | _, _ => .stuck
/-- x.islower() -/
def gLow (d : D) (ds : List D) (m : Mem) : Rs D := match d, ds with
  | .str a, [] => .ok (.bl (Txt.islower a)) m
  | _, _ => .stuck
/-- x.replace(y, z), y and z written out -/
def dRepl (f : Ev) (y z : Str) : Ev := fun ρ m => (f ρ m).bind fun d m1 => match d with
  | .str a => if decide (a.length + (a.length + 1) * z.length ≤ 16777216) = true then .ok (.str (Txt.replace a y z)) m1 else .stuck
  | _ => .stuck
/-- {x} -/
def dFmt (f : Ev) : Ev := fun ρ m => (f ρ m).bind fun d m1 => match d with
  | .str y => if decide (y.length ≤ 16777216) = true then .ok (.str y) m1 else .stuck
  | .int i => if decide (i.natAbs.log2 < 1920) = true then .ok (.str (toString i)) m1 else .stuck
  | _ => .stuck
/-- the parts of an f-string -/
def dJs : List Ev → Str → EvG Str
  | [], acc, _, m => .ok acc m
  | f :: fs, acc, ρ, m => (f ρ m).bind fun d m1 => match d with
    | .str y => if decide ((acc ++ y).length ≤ 16777216) = true then dJs fs (acc ++ y) ρ m1 else .stuck
    | _ => .stuck
def dJoined (fs : List Ev) : Ev := fun ρ m => (dJs fs Str.empty ρ m).bind fun s m1 => .ok (.str s) m1
section
variable {X : Cx} {c : Ct} {E : XK} {e o : Expr} {fo f g : Ev} {pos apos c0 c1 : Pos} {j k : Nat} {es : List Expr} {fs : EvG (List D)}
theorem size_le {n : Nat} (h : n ≤ 16777216) : n ≤ sizeLine := by rw [sizeLine_eq]; exact h
theorem rps_strs {W : Wd} : ∀ ys : List Str, Rps c W (ys.map .str) (ys.map V.str)
  | [] => Rps.nil
  | y :: ys => Rps.cons (by simp [Rp]) (rps_strs ys)
theorem ms_split {fin : List D → Mem → Rs D} (F : FinN fin) : MtS c E rSplitAny (gSplit fin) := fun W m H x xs dx ds Q o rx rs p => by
  unfold gSplit at p
  split at p
  · rename_i a b
    simp only [Rp] at rx
    subst rx
    obtain ⟨v, rfl, q⟩ := rps1 rs
    simp only [Rp] at q
    subst q
    split at p
    · rename_i h
      have h := of_decide_eq_true h
      exact .inl ⟨a, b, rfl, rfl, h.1, size_le h.2, F.mak o (rps_strs _) p⟩
    · exact p.elim
  · exact p.elim
theorem ms_low : MtS c E (fun x xs H Q => ∃ a, x = .str a ∧ xs = [] ∧ True ∧ Q (.bl (Txt.islower a)) H) gLow := fun W m H x xs dx ds Q o rx rs p => by
  unfold gLow at p
  split at p
  · rename_i a
    simp only [Rp] at rx
    subst rx
    simp only [Rps] at rs
    subst rs
    exact ⟨a, rfl, rfl, trivial, p W H _ (le.refl _) o (by simp [Rp])⟩
  · exact p.elim
theorem pd_fmt (he : PE X e (tD c E f)) : PE X (.FormattedValue e (-1) none pos) (tD c E (dFmt f)) :=
  PE.weak (pe_fmt he) fun σ H Q ⟨W, ρ, m, o, s, p⟩ => by
    refine ⟨W, ρ, m, o, s, Pst.imp (Pst.bind p) fun x H1 ⟨W1, d, m1, l1, o1, r1, p1⟩ => ?_⟩
    split at p1
    · rename_i y
      simp only [Rp] at r1
      subst r1
      split at p1
      · rename_i h
        exact .inl ⟨y, rfl, size_le (of_decide_eq_true h), p1 W1 H1 _ (le.refl _) o1 (by simp [Rp])⟩
      · exact p1.elim
    · rename_i i
      simp only [Rp] at r1
      subst r1
      split at p1
      · rename_i h
        exact .inr ⟨i, rfl, of_decide_eq_true h, p1 W1 H1 _ (le.refl _) o1 (by simp [Rp])⟩
      · exact p1.elim
    · exact p1.elim
def RaS (_ : Wd) (a b : Str) : Prop := a = b
theorem tJs_of : ∀ (fs : List Ev) (acc : Str) (σ : L2.St) (H : Hp) (Q : Str → Hp → Prop), tG c E RaS (dJs fs acc) σ H Q → tJs (fs.map fun f => tD c E f) acc σ H Q
  | [], acc, σ, H, Q, ⟨W, ρ, m, o, s, p⟩ => p W H acc (le.refl _) o rfl
  | f :: fs, acc, σ, H, Q, ⟨W, ρ, m, o, s, p⟩ => by
    refine ⟨W, ρ, m, o, s, Pst.imp (Pst.bind p) fun x H1 ⟨W1, d, m1, l1, o1, r1, p1⟩ => ?_⟩
    split at p1
    · rename_i y
      simp only [Rp] at r1
      subst r1
      split at p1
      · rename_i h
        exact ⟨y, rfl, size_le (of_decide_eq_true h), tJs_of fs _ σ H1 Q ⟨W1, ρ, m1, o1, s.mono l1, p1⟩⟩
      · exact p1.elim
    · exact p1.elim
inductive PJd (X : Cx) (c : Ct) (E : XK) : List Expr → List Ev → Prop where
  | nil : PJd X c E [] []
  | cons {e : Expr} {f : Ev} {es : List Expr} {fs : List Ev} (h : PE X e (tD c E f)) (r : PJd X c E es fs) : PJd X c E (e :: es) (f :: fs)
theorem PJd.pj {es : List Expr} {fs : List Ev} (h : PJd X c E es fs) : PJ X es (fs.map fun f => tD c E f) := by
  induction h with
  | nil => exact .nil
  | cons h _ ih => exact .cons h ih
theorem pd_joined {v1 v2 : Expr} {rest : List Expr} {fs : List Ev} (h : PJd X c E (v1 :: v2 :: rest) fs) : PE X (.JoinedStr (v1 :: v2 :: rest) pos) (tD c E (dJoined fs)) :=
  PE.weak (pe_joined h.pj) fun σ H Q ⟨W, ρ, m, o, s, p⟩ => by
    refine tJs_of fs _ σ H _ ⟨W, ρ, m, o, s, Pst.imp (Pst.bind p) fun x H1 ⟨W1, d, m1, l1, o1, r1, p1⟩ => ?_⟩
    cases r1
    exact p1 W1 H1 _ (le.refl _) o1 (by simp [Rp])
/-! a tuple or a list, repeated -/
def gMulT (fin : List D → Mem → Rs D) (x y : D) (m : Mem) : Rs D := match x, y with
  | .tup xs, .int k => if decide ((2 ≤ k ∧ k ≤ 1000) ∧ xs ≠ [] ∧ xs.length ≤ 1000) = true then .ok (.tup (List.replicate k.toNat xs).flatten) m else .stuck
  | x, y => gMulA fin x y m
def rMulT (K : PySem.W.Frag) : R2 := fun x y H Q => rRepT K x y H Q ∨ rMulA x y H Q
theorem op_mulT : OpR X (binaryOp .Mult) (rMulT X.K) := OpR.or op_repT op_mulAA
theorem os_mulT {fin : List D → Mem → Rs D} (F : FinN fin) (hK : c.K = X.K := by rfl) : OpS c E (rMulT X.K) (gMulT fin) := fun W m H x y dx dy Q o rx ry p => by
  unfold gMulT at p
  split at p
  · rename_i xs k
    split at p
    · rename_i h
      have h := of_decide_eq_true h
      simp only [Rp] at rx ry
      obtain ⟨a, vs, rfl, q1, r1⟩ := rx
      subst ry
      refine .inl ⟨a, k, vs, rfl, rfl, hK ▸ (q1.mono o.g).sq, fun e => ?_, h.1.1, h.1.2, by rw [← r1.length]; exact h.2.2, Pst.tup o (r1.rep k.toNat) p⟩
      subst e
      exact h.2.1 (List.eq_nil_of_length_eq_zero (by rw [r1.length]; rfl))
    · exact p.elim
  · exact .inr (os_mulA F W m H x y _ _ Q o rx ry p)
/-! three names at once -/
def sPar3 (i j l : Nat) (fs : EvG (List D)) : Bd := fun ρ m => (fs ρ m).bind fun ds m1 => match ds with
  | [d1, d2, d3] => .ok (.nx (((ρ.set i (some d1)).set j (some d2)).set l (some d3))) m1
  | _ => .stuck
theorem psd_par3 (i j l : Nat) {x y z : Str} {a b d : Expr} {fs : EvG (List D)} {px py pz pt : Pos} {kt k2 pt2} (hc : X.calm = true) (hN : X.N.Nodup) (ha : PA X [a, b, d] (tDs c E fs)) (hi : X.N[i]? = some x := by rfl) (hj : X.N[j]? = some y := by rfl) (hl : X.N[l]? = some z := by rfl)
    (hij : i ≠ j := by decide) (hil : i ≠ l := by decide) (hjl : j ≠ l := by decide)
    (hx : X.env.scope.names.lookup x = some .local := by rfl) (hy : X.env.scope.names.lookup y = some .local := by rfl) (hz : X.env.scope.names.lookup z = some .local := by rfl)
    (hw : swappedStores [.Tuple [.Name x px, .Name y py, .Name z pz] kt pt] (.Tuple [a, b, d] k2 pt2) X.env = pure (some [x, y, z]) := by rfl)
    (hs : swapsWithSole [.Tuple [.Name x px, .Name y py, .Name z pz] kt pt] (.Tuple [a, b, d] k2 pt2) pos.line X.env = pure false := by rfl) :
    PS X (.Assign [.Tuple [.Name x px, .Name y py, .Name z pz] kt pt] (.Tuple [a, b, d] k2 pt2) pos) (tS c E (sPar3 i j l fs)) :=
  PS.weak (ps_par3 hc hN hi hj hl hij hil hjl hx hy hz ha hw hs) fun Dn σ H ⟨W, ρ, m, o, s, p⟩ => by
    refine ⟨W, ρ, m, o, s, Pst.imp (PstS.bind p) fun xs H1 ⟨W1, ds, m1, l1, o1, r1, p1⟩ => ?_⟩
    match ds, r1, p1 with
    | [d1, d2, d3], r1, p1 =>
      simp only [Rps] at r1
      obtain ⟨v1, r, rfl, q1, v2, r', rfl, q2, v3, r'', rfl, q3, rfl⟩ := r1
      exact ⟨v1, v2, v3, rfl, p1 W1 H1 _ (le.refl _) o1 ((((s.mono l1).set q1).set q2).set q3)⟩
    | [], _, p1 => exact p1.elim
    | [_], _, p1 => exact p1.elim
    | [_, _], _, p1 => exact p1.elim
    | _ :: _ :: _ :: _ :: _, _, p1 => exact p1.elim
theorem gSetT_pure (ck : NK → Bool) (x y z : D) (m : Mem) : (∃ m', gSetT ck x y z m = .ok () m') ∨ gSetT ck x y z m = .stuck := by
  unfold gSetT
  repeat' split
  all_goals first
    | exact .inr rfl
    | exact .inl ⟨_, rfl⟩
theorem gSubV_pure (ck : NK → Bool) (i j : Nat) : ∀ d ρ m, (∃ ρ' m', gSub' (dV i) (dV j) (gSetT ck) d ρ m = .ok ρ' m') ∨ gSub' (dV i) (dV j) (gSetT ck) d ρ m = .stuck := fun d ρ m => by
  unfold gSub' dV
  cases h1 : ρ[i]? with
  | none => exact .inr rfl
  | some o1 =>
    cases o1 with
    | none => exact .inr rfl
    | some a =>
      cases h2 : ρ[j]? with
      | none => exact .inr rfl
      | some o2 =>
        cases o2 with
        | none => exact .inr rfl
        | some b =>
          show (∃ ρ' m', ((gSetT ck a b d m).bind fun _ m3 => .ok ρ m3) = .ok ρ' m') ∨ ((gSetT ck a b d m).bind fun _ m3 => .ok ρ m3) = .stuck
          rcases gSetT_pure ck a b d m with ⟨m', e⟩ | e
          · rw [e]; exact .inl ⟨_, _, rfl⟩
          · rw [e]; exact .inr rfl
/-! replace: a token is given out ahead of it -/
def PEp (X : Cx) (e : Expr) (t : TE) : Prop :=
  ∀ (pins : List (Addr × Obj)) (s : Shared) (σ : L2.St) (H : Hp) (Q : VK), Inv X pins σ H s → t σ H Q → wpAny (model X.prog X.w) X.A (eval e X.env) (fun v s1 => 1 ≤ s1.toks ∧ EP X pins σ Q v s1) X.xe s
theorem pep_add {y : Str} {te : TE} {r : R2} {op : Operator} (he : PE X e te) (ho : OpR X (binaryOp op) r) : PEp X (.BinOp e op (.Constant (.str y) j c0) pos) (tOp r te fun _ H Q => Q (.str y) H) := by
  intro pins s σ H Q I h
  refine wpAny_BinOp (thn (he.run pins s σ H _ I h) fun v s1 ⟨x, H1, I1, r1, q1⟩ => ?_)
  refine Calls.Constant_str ?_
  refine wpAny_mono (PySem.wpAny_toks (ho pins { s1 with toks := s1.toks + 1 } σ H1 x (.str y) v (.str y s1.toks) Q (I1.tok _) r1 ⟨_, rfl⟩ q1)) (fun u s2 q => ⟨?_, q.2⟩) fun _ _ z => z.2
  have := q.1
  dsimp only at this
  omega
theorem pap_cons {te : TE} {ta : TA} (ha : PEp X e te) (hr : PAT X es ta) (hs : starEach (e :: es) X.env = (false, eval e X.env) :: starEach es X.env := by rfl) : PA X (e :: es) (tCons te ta) := by
  refine ⟨fun pos pins s σ H Q I h => ?_⟩
  rw [hs]
  show wpAny _ _ (spliced ((false, eval e X.env) :: backTo pos (starEach es X.env))) _ _ s
  refine Calls.spliced_cons (wpAny_mono (ha pins s σ H _ I h) (fun u s1 ⟨h1, x, H1, I1, r1, q1⟩ => ?_) fun _ _ z => z)
  exact thn (hr pos pins s1 σ H1 _ h1 I1 q1) fun us s2 ⟨xs, H2, I2, r2, q2⟩ => ⟨x :: xs, H2, I2, .cons r1 r2, q2⟩
theorem petd_of {f : Ev} (he : PE X e (tD c E f)) : PET X e (tD c E f) := fun pins s σ H Q _ I q => he.run pins s σ H Q I q
theorem petd_repl {y z : Str} (ho : PE X o (tD c E fo)) (hyz : (y == z) = false := by decide)
    (hst : starEach [.Constant (.str y) j c0, .Constant (.str z) k c1] X.env = [(false, eval (.Constant (.str y) j c0) X.env), (false, eval (.Constant (.str z) k c1) X.env)] := by rfl)
    (hbase : attributeBase o "replace" X.env (eval o X.env) = eval o X.env := by rfl) (hline : (apos.endLine == pos.line) = true := by rfl) :
    PET X (.Call (.Attribute o "replace" apos) [.Constant (.str y) j c0, .Constant (.str z) k c1] [] pos) (tD c E (dRepl fo y z)) := by
  intro pins s σ H Q h0 I ⟨W, ρ, m, oo, ss, p⟩
  refine CwR.pet_replC ho hyz hst hbase hline pins s σ H Q h0 I ⟨W, ρ, m, oo, ss, Pst.imp (Pst.bind p) fun x H1 ⟨W1, d, m1, l1, o1, r1, p1⟩ => ?_⟩
  split at p1
  · rename_i a
    simp only [Rp] at r1
    subst r1
    split at p1
    · rename_i h
      exact ⟨a, rfl, of_decide_eq_true h, p1 W1 H1 _ (le.refl _) o1 (by simp [Rp])⟩
    · exact p1.elim
  · exact p1.elim
theorem patd_nil : PAT X [] (tDs c E dNil) := fun pos pins s σ H Q _ I q => (pad_nil (c := c) (E := E)).run pos pins s σ H Q I q
theorem patd_cons {es : List Expr} {fs : EvG (List D)} (ha : PET X e (tD c E f)) (hr : PAT X es (tDs c E fs)) (hs : starEach (e :: es) X.env = (false, eval e X.env) :: starEach es X.env := by rfl) : PAT X (e :: es) (tDs c E (dCons f fs)) :=
  fun pos pins s σ H Q h0 I q => pat_cons ha hr hs pos pins s σ H Q h0 I (tCons_of σ H Q q)
theorem papd_cons {a : Expr} {fa : Ev} {y : Str} {op : Operator} {r : R2} {gg : D → D → Mem → Rs D} {es : List Expr} {fs : EvG (List D)} (ha : PE X a (tD c E fa)) (ho : OpR X (binaryOp op) r) (hos : OpS c E r gg) (hr : PAT X es (tDs c E fs))
    (hs : starEach (.BinOp a op (.Constant (.str y) j c0) pos :: es) X.env = (false, eval (.BinOp a op (.Constant (.str y) j c0) pos) X.env) :: starEach es X.env := by rfl) :
    PA X (.BinOp a op (.Constant (.str y) j c0) pos :: es) (tDs c E (dCons (dOp gg fa (dK (.str y))) fs)) := by
  refine PA.weak (pap_cons (pep_add ha ho) hr hs) fun σ H Q q => ?_
  obtain ⟨W, ρ, m, o1, s, p⟩ := q
  refine ⟨W, ρ, m, o1, s, ?_⟩
  have p : Pst c E (Rps c) (((fa ρ m).bind fun da m1 => gg da (.str y) m1).bind fun d m1 => (fs ρ m1).bind fun ds m2 => .ok (d :: ds) m2) W Q := p
  have hass : ∀ (R : Rs D) (k1 : D → Mem → Rs D) (k2 : D → Mem → Rs (List D)), (R.bind k1).bind k2 = R.bind fun d m => (k1 d m).bind k2 := fun R k1 k2 => by cases R <;> rfl
  rw [hass] at p
  refine Pst.imp (Pst.bind p) fun x H1 ⟨W1, d, m1, l1, o1, r1, p1⟩ => ?_
  refine hos W1 m1 H1 x (.str y) d (.str y) _ o1 r1 (by simp [Rp]) ?_
  refine Pst.imp (Pst.bind p1) fun z H2 ⟨W2, d2, m2, l2, o2, r2, p2⟩ => ?_
  refine ⟨W2, ρ, m2, o2, (s.mono l1).mono l2, Pst.imp (Pst.bind p2) fun xs H3 ⟨W3, ds, m3, l3, o3, r3, p3⟩ => ?_⟩
  exact p3 W3 H3 _ (le.refl _) o3 (Rps.cons (r2.mono l3 d2) r3)
def hIns (xs ds : List D) : Option (List D × D) := match ds with
  | [.int i, y] => if decide (0 ≤ i ∧ i < 2 ^ 62) = true then some (xs.take i.toNat ++ [y] ++ xs.drop i.toNat, .non) else none
  | _ => none
theorem ms_ins : MtS c E (fun x vs H Q => ∃ (l : Addr) (xs : List V) (i : Int) (y : V), x = .ref l ∧ vs = [.int i, y] ∧ H l = some (.lst xs) ∧ xs.length < sizeLine ∧ 0 ≤ i ∧ i < 2 ^ 63 ∧ Q .non (upd H l (.lst (xs.take i.toNat ++ [y] ++ xs.drop i.toNat)))) (gChg hIns) := fun W m H x us dx ds Q o rx rs p => by
  unfold gChg at p
  split at p
  · rename_i f n
    split at p
    · rename_i xs hg
      split at p
      · rename_i ys z hh
        split at p
        · rename_i hl
          simp only [Rp] at rx
          obtain ⟨a, rfl, ha⟩ := rx
          obtain ⟨b, e1, ⟨vs, e2, e3⟩, _⟩ := o.i _ _ _ hg rfl
          rw [ha] at e1; cases e1
          unfold hIns at hh
          split at hh
          · rename_i i d
            split at hh
            · rename_i hi
              have hi := of_decide_eq_true hi
              cases hh
              simp only [Rps] at rs
              obtain ⟨v1, r1, rfl, q1, v2, r2, rfl, q2, rfl⟩ := rs
              simp only [Rp] at q1
              subst q1
              have hz := lineOk_le hl.2
              have hlen : (xs.take i.toNat ++ [d] ++ xs.drop i.toNat).length = xs.length + 1 := by
                simp only [List.length_append, List.length_take, List.length_drop, List.length_cons, List.length_nil]
                omega
              rw [hlen, e3.length] at hz
              exact ⟨a, vs, i, v2, rfl, rfl, e2, hz, hi.1, by omega, p W _ .non (le.refl _) (o.chg hg ha hl.1 (((e3.take _).append (Rps.one q2)).append (e3.drop _))) (by simp [Rp])⟩
            · cases hh
          · cases hh
        · exact p.elim
      · exact p.elim
    · exact p.elim
  · exact p.elim
end
end LN
/-! LNu: running the combinators by simp, from the inside out. -/
namespace LN
open PySem L2 PySem.Spec PyProof.Rows

/-! ### memory -/
section
variable {m r : Mem} {fr a b : List MO} {o : MO} {f i : Nat}
@[simp] theorem Mem.get_app : Mem.get (m ++ [fr]) m.length i = fr[i]? := by simp [Mem.get]
@[simp] theorem Mem.get_z : Mem.get (a :: r) 0 i = a[i]? := by simp [Mem.get]
@[simp] theorem Mem.get_s : Mem.get (a :: r) (f + 1) i = Mem.get r f i := by simp [Mem.get]
@[simp] theorem Mem.put_z : Mem.put (a :: r) 0 i o = a.set i o :: r := by simp [Mem.put]
@[simp] theorem Mem.put_s : Mem.put (a :: r) (f + 1) i o = a :: Mem.put r f i o := by simp [Mem.put]
@[simp] theorem Mem.put_app : Mem.put (m ++ [fr]) m.length i o = m ++ [fr.set i o] := by
  induction m with
  | nil => simp
  | cons x m ih => simp [ih]
@[simp] theorem Mem.put_len : (Mem.put m f i o).length = m.length := by simp [Mem.put]
@[simp] theorem Mem.new_app : Mem.new (m ++ [fr]) o = m ++ [fr ++ [o]] := by
  unfold Mem.new
  induction m with
  | nil => simp
  | cons x m ih =>
    have : (x :: m ++ [fr]).length - 1 = m.length + 1 := by simp
    rw [this]
    have h2 : (m ++ [fr]).length - 1 = m.length := by simp
    rw [h2] at ih
    simp [ih]
@[simp] theorem Mem.new_one : Mem.new [a] o = [a ++ [o]] := Mem.new_app (m := [])
@[simp] theorem Mem.new_cons : Mem.new (a :: b :: r) o = a :: Mem.new (b :: r) o := by simp [Mem.new]
@[simp] theorem Mem.nx_app : Mem.nx (m ++ [fr]) = .loc m.length fr.length := by simp [Mem.nx]
@[simp] theorem Mem.nx_one : Mem.nx [a] = .loc 0 a.length := by simp [Mem.nx]
def topLen : Mem → Nat
  | [] => 0
  | [a] => a.length
  | _ :: r => topLen r
@[simp] theorem topLen_one : topLen [a] = a.length := rfl
@[simp] theorem topLen_cons : topLen (a :: b :: r) = topLen (b :: r) := rfl
@[simp] theorem topLen_app : topLen (m ++ [fr]) = fr.length := by
  induction m with
  | nil => rfl
  | cons x m ih =>
    cases m with
    | nil => rfl
    | cons y m => exact ih
theorem topLen_eq : ∀ m : Mem, topLen m = ((m[m.length - 1]?).getD []).length
  | [] => rfl
  | [a] => by simp [topLen]
  | a :: b :: r => by
    have := topLen_eq (b :: r)
    simp only [topLen_cons, this]
    simp
@[simp] theorem Mem.nx_cons : Mem.nx (a :: b :: r) = .loc (r.length + 1) (topLen (b :: r)) := by
  unfold Mem.nx
  rw [topLen_eq]
  simp
@[simp] theorem Mem.get_app1 : Mem.get (m ++ a :: r) m.length i = a[i]? := by simp [Mem.get]
@[simp] theorem Mem.get_app2 : Mem.get (m ++ a :: b :: r) (m.length + 1) i = b[i]? := by
  unfold Mem.get
  rw [List.getElem?_append_right (by omega)]
  simp
@[simp] theorem Mem.put_app1 : Mem.put (m ++ a :: r) m.length i o = m ++ a.set i o :: r := by
  induction m with
  | nil => simp
  | cons x m ih => simp [ih]
@[simp] theorem Mem.put_app2 : Mem.put (m ++ a :: b :: r) (m.length + 1) i o = m ++ a :: b.set i o :: r := by
  induction m with
  | nil => simp
  | cons x m ih => simp [ih]
@[simp] theorem Mem.nx_app2 : Mem.nx (m ++ [a, b]) = .loc (m.length + 1) b.length := by
  have := Mem.nx_app (m := m ++ [a]) (fr := b)
  simpa using this
@[simp] theorem Mem.new_app2 : Mem.new (m ++ [a, b]) o = m ++ [a, b ++ [o]] := by
  have := Mem.new_app (m := m ++ [a]) (fr := b) (o := o)
  simpa using this
@[simp] theorem Mem.new_capp : Mem.new (a :: (r ++ [b])) o = a :: (r ++ [b ++ [o]]) := by
  have := Mem.new_app (m := a :: r) (fr := b) (o := o)
  simpa using this
@[simp] theorem Mem.nx_capp : Mem.nx (a :: (r ++ [b])) = .loc (r.length + 1) b.length := by
  have := Mem.nx_app (m := a :: r) (fr := b)
  simpa using this
@[simp] theorem Mem.take_app2 : List.take (m.length + 1) (m ++ [a, b]) = m ++ [a] := by
  rw [List.take_append]
  simp [List.take_of_length_le]
theorem newObj_app (h : o.lt (m.length + 1) = true) : newObj o (m ++ [fr]) = .ok (.loc m.length fr.length) (m ++ [fr ++ [o]]) := by
  unfold newObj
  rw [if_pos ⟨by simp, by simpa using h⟩]
  simp
@[simp] theorem set_last {α : Type} {l : List α} {a b : α} : (l ++ [a]).set l.length b = l ++ [b] := by
  rw [List.set_append_right _ _ (Nat.le_refl _)]; simp
theorem map_eraseI {α β : Type} {h : α → β} : ∀ {l : List α} {i : Nat}, (l.map h).eraseIdx i = (l.eraseIdx i).map h
  | [], i => by cases i <;> rfl
  | a :: l, 0 => rfl
  | a :: l, i + 1 => by simp [map_eraseI (l := l) (i := i)]
theorem perm_eraseI {α : Type} {a : α} : ∀ {l : List α} {i : Nat}, l[i]? = some a → (a :: l.eraseIdx i).Perm l
  | [], i, h => by simp at h
  | x :: l, 0, h => by simp at h; subst h; exact List.Perm.refl _
  | x :: l, i + 1, h => by
    have := perm_eraseI (l := l) (i := i) (by simpa using h)
    exact (List.Perm.swap _ _ _).trans (this.cons x)
@[simp] theorem newObj_eq : newObj o m = if m.length ≠ 0 ∧ o.lt m.length = true then .ok m.nx (m.new o) else .stuck := rfl
end
section
variable {n f i : Nat} {x : D} {xs : List D}
@[simp] theorem dlt_non : D.lt n .non = true := rfl
@[simp] theorem dlt_bl {b} : D.lt n (.bl b) = true := rfl
@[simp] theorem dlt_int {b} : D.lt n (.int b) = true := rfl
@[simp] theorem dlt_str {b} : D.lt n (.str b) = true := rfl
@[simp] theorem dlt_ty {b} : D.lt n (.ty b) = true := rfl
@[simp] theorem dlt_cls {b} : D.lt n (.cls b) = true := rfl
@[simp] theorem dlt_scr {b} : D.lt n (.scr b) = true := rfl
@[simp] theorem dlt_tup : D.lt n (.tup xs) = D.lts n xs := by simp only [D.lt]
@[simp] theorem dlt_lst : D.lt n (.lst xs) = D.lts n xs := by simp only [D.lt]
@[simp] theorem dlt_dk {ks} : D.lt n (.dk ks xs) = D.lts n xs := by simp only [D.lt]
@[simp] theorem dlt_dt {ks} : D.lt n (.dt ks xs) = D.lts n xs := by simp only [D.lt]
@[simp] theorem dlt_loc : D.lt n (.loc f i) = decide (f < n) := by simp only [D.lt]
@[simp] theorem dlts_nil : D.lts n [] = true := rfl
@[simp] theorem dlts_cons : D.lts n (x :: xs) = (D.lt n x && D.lts n xs) := rfl
@[simp] theorem molt_lst : (MO.lst xs).lt n = D.lts n xs := rfl
@[simp] theorem molt_dk {ks} : (MO.dk ks xs).lt n = D.lts n xs := rfl
@[simp] theorem molt_dt {ks} : (MO.dt ks xs).lt n = D.lts n xs := rfl
theorem dlts_map {α : Type} {g : α → D} {l : List α} (h : ∀ a ∈ l, D.lt n (g a) = true) : D.lts n (l.map g) = true := by
  rw [D.lts_iff]
  intro d hd
  obtain ⟨a, h1, rfl⟩ := List.mem_map.mp hd
  exact h a h1
@[simp] theorem dlts_app {ys : List D} : D.lts n (xs ++ ys) = (D.lts n xs && D.lts n ys) := by
  induction xs with
  | nil => simp
  | cons x xs ih => simp [ih, Bool.and_assoc]
end
@[simp] theorem lineOk_eq {n : Nat} : lineOk n = decide (n ≤ 16777216) := rfl

/-! ### expressions -/
section
variable {α β : Type} {ρ : Lc} {m : Mem} {i : Nat} {d da db : D} {g : D → D → Mem → Rs D} {fa fb f : Ev} {fs : EvG (List D)} {ds : List D} {b : Bool} {t u : EvG Bool}
theorem dV_eq : dV i ρ m = match ρ[i]? with
  | some (some d) => .ok d m
  | _ => .stuck := rfl
theorem dV_ok (h : ρ[i]? = some (some d)) : dV i ρ m = .ok d m := by rw [dV_eq, h]
def gV : Option (Option D) → Mem → Rs D
  | some (some d), m => .ok d m
  | _, _ => .stuck
@[simp] theorem gV_ok : gV (some (some d)) m = .ok d m := rfl
@[simp] theorem dV_run : dV i ρ m = gV ρ[i]? m := by
  rw [dV_eq]
  split
  · rename_i h; rw [h]; rfl
  · rename_i h
    unfold gV
    split
    · rename_i d h2; exact absurd h2 (h d)
    · rfl
@[simp] theorem dK_run : dK d ρ m = .ok d m := rfl
def kO1 (g : D → D → Mem → Rs D) (fb : Ev) (ρ : Lc) (a : D) (m : Mem) : Rs D := (fb ρ m).bind (g a)
@[simp] theorem dOp_run : dOp g fa fb ρ m = (fa ρ m).bind (kO1 g fb ρ) := rfl
@[simp] theorem kO1_run : kO1 g fb ρ da m = (fb ρ m).bind (g da) := rfl
def kTst (d : D) (m : Mem) : Rs Bool := match d with
  | .bl b => .ok b m
  | _ => .stuck
@[simp] theorem dTst_run : dTst f ρ m = (f ρ m).bind kTst := rfl
@[simp] theorem kTst_run : kTst (.bl b) m = .ok b m := rfl
def kAnd (u : EvG Bool) (ρ : Lc) (b : Bool) (m : Mem) : Rs Bool := if b = true then u ρ m else .ok false m
def kOr (u : EvG Bool) (ρ : Lc) (b : Bool) (m : Mem) : Rs Bool := if b = true then .ok true m else u ρ m
def kNot (b : Bool) (m : Mem) : Rs Bool := .ok (!b) m
@[simp] theorem dAnd_run : dAnd t u ρ m = (t ρ m).bind (kAnd u ρ) := rfl
@[simp] theorem dOr_run : dOr t u ρ m = (t ρ m).bind (kOr u ρ) := rfl
@[simp] theorem dNot_run : dNot t ρ m = (t ρ m).bind kNot := rfl
@[simp] theorem kAnd_t : kAnd u ρ true m = u ρ m := rfl
@[simp] theorem kAnd_f : kAnd u ρ false m = .ok false m := rfl
@[simp] theorem kOr_t : kOr u ρ true m = .ok true m := rfl
@[simp] theorem kOr_f : kOr u ρ false m = u ρ m := rfl
@[simp] theorem kNot_run : kNot b m = .ok (!b) m := rfl
def kAndV (fb : Ev) (ρ : Lc) (d : D) (m : Mem) : Rs D := match d with
  | .bl true => fb ρ m
  | .bl false => .ok (.bl false) m
  | _ => .stuck
def kOrV (fb : Ev) (ρ : Lc) (d : D) (m : Mem) : Rs D := match d with
  | .bl false => fb ρ m
  | .bl true => .ok (.bl true) m
  | _ => .stuck
def kNotV (d : D) (m : Mem) : Rs D := match d with
  | .bl b => .ok (.bl (!b)) m
  | _ => .stuck
@[simp] theorem dAndV_run : dAndV fa fb ρ m = (fa ρ m).bind (kAndV fb ρ) := rfl
@[simp] theorem dOrV_run : dOrV fa fb ρ m = (fa ρ m).bind (kOrV fb ρ) := rfl
@[simp] theorem dNotV_run : dNotV fa ρ m = (fa ρ m).bind kNotV := rfl
@[simp] theorem kAndV_t : kAndV fb ρ (.bl true) m = fb ρ m := rfl
@[simp] theorem kAndV_f : kAndV fb ρ (.bl false) m = .ok (.bl false) m := rfl
@[simp] theorem kOrV_t : kOrV fb ρ (.bl true) m = .ok (.bl true) m := rfl
@[simp] theorem kOrV_f : kOrV fb ρ (.bl false) m = fb ρ m := rfl
@[simp] theorem kNotV_run : kNotV (.bl b) m = .ok (.bl (!b)) m := rfl
def kIfV (fa fb : Ev) (ρ : Lc) (b : Bool) (m : Mem) : Rs D := if b = true then fa ρ m else fb ρ m
@[simp] theorem dIf_run : dIf t fa fb ρ m = (t ρ m).bind (kIfV fa fb ρ) := rfl
@[simp] theorem kIfV_t : kIfV fa fb ρ true m = fa ρ m := rfl
@[simp] theorem kIfV_f : kIfV fa fb ρ false m = fb ρ m := rfl
def kC1 (fs : EvG (List D)) (ρ : Lc) (d : D) (m : Mem) : Rs (List D) := (fs ρ m).bind fun ds m2 => .ok (d :: ds) m2
def kC2 (d : D) (ds : List D) (m : Mem) : Rs (List D) := .ok (d :: ds) m
@[simp] theorem dNil_run : dNil ρ m = .ok [] m := rfl
@[simp] theorem dCons_run : dCons f fs ρ m = (f ρ m).bind (kC1 fs ρ) := rfl
@[simp] theorem kC1_run : kC1 fs ρ d m = (fs ρ m).bind (kC2 d) := rfl
@[simp] theorem kC2_run : kC2 d ds m = .ok (d :: ds) m := rfl
def kTup (ds : List D) (m : Mem) : Rs D := if lineOk ds.length = true then .ok (.tup ds) m else .stuck
def kLst (ds : List D) (m : Mem) : Rs D := if lineOk ds.length = true then .ok (.lst ds) m else .stuck
def kLstM (ds : List D) (m : Mem) : Rs D := if lineOk ds.length = true then newObj (.lst ds) m else .stuck
@[simp] theorem dTup_run : dTup fs ρ m = (fs ρ m).bind kTup := rfl
@[simp] theorem dLst_run : dLst fs ρ m = (fs ρ m).bind kLst := rfl
@[simp] theorem dLstM_run : dLstM fs ρ m = (fs ρ m).bind kLstM := rfl
@[simp] theorem kTup_run : kTup ds m = if lineOk ds.length = true then .ok (.tup ds) m else .stuck := rfl
@[simp] theorem kLst_run : kLst ds m = if lineOk ds.length = true then .ok (.lst ds) m else .stuck := rfl
@[simp] theorem kLstM_run : kLstM ds m = if lineOk ds.length = true then newObj (.lst ds) m else .stuck := rfl
@[simp] theorem dUn_run {g : D → Mem → Rs D} : dUn g f ρ m = (f ρ m).bind g := rfl
@[simp] theorem dB_run {g : List D → Mem → Rs D} : dB g fs ρ m = (fs ρ m).bind g := rfl
@[simp] theorem dDict_run : dDict ρ m = newObj (.dk [] []) m := rfl
@[simp] theorem dDictT_run : dDictT ρ m = newObj (.dt [] []) m := rfl
def kCh1 (g g' : D → D → Mem → Rs D) (fb fc : Ev) (ρ : Lc) (a : D) (m : Mem) : Rs D := (fb ρ m).bind fun db m2 => (g a db m2).bind fun d m3 => match d with
  | .bl true => (fc ρ m3).bind fun dc m4 => g' db dc m4
  | .bl false => .ok (.bl false) m3
  | _ => .stuck
def kCh2 (g g' : D → D → Mem → Rs D) (fc : Ev) (ρ : Lc) (a b : D) (m : Mem) : Rs D := (g a b m).bind fun d m3 => match d with
  | .bl true => (fc ρ m3).bind fun dc m4 => g' b dc m4
  | .bl false => .ok (.bl false) m3
  | _ => .stuck
def kCh3 (g' : D → D → Mem → Rs D) (fc : Ev) (ρ : Lc) (b d : D) (m3 : Mem) : Rs D := match d with
  | .bl true => (fc ρ m3).bind (g' b)
  | .bl false => .ok (.bl false) m3
  | _ => .stuck
variable {g' : D → D → Mem → Rs D} {fc : Ev}
@[simp] theorem dChain_run : dChain g g' fa fb fc ρ m = (fa ρ m).bind (kCh1 g g' fb fc ρ) := rfl
@[simp] theorem kCh1_run : kCh1 g g' fb fc ρ da m = (fb ρ m).bind (kCh2 g g' fc ρ da) := rfl
@[simp] theorem kCh2_run : kCh2 g g' fc ρ da db m = (g da db m).bind (kCh3 g' fc ρ db) := rfl
@[simp] theorem kCh3_t : kCh3 g' fc ρ db (.bl true) m = (fc ρ m).bind (g' db) := rfl
@[simp] theorem kCh3_f : kCh3 g' fc ρ db (.bl false) m = .ok (.bl false) m := rfl
def kCall (fn : Fn) (dd ds : List D) (m : Mem) : Rs D := fn (ds ++ dd) m
@[simp] theorem dCall_run {fn : Fn} {dd : List D} : dCall fn dd fs ρ m = (fs ρ m).bind (kCall fn dd) := rfl
@[simp] theorem kCall_run {fn : Fn} {dd : List D} : kCall fn dd ds m = fn (ds ++ dd) m := rfl
def kCallK0 (fn : Fn) (h : List D → List D → List D) (ws : List D) (m : Mem) : Rs D := fn (h [] ws) m
@[simp] theorem dCallK0_run {fn : Fn} {h : List D → List D → List D} : dCallK0 fn h fs ρ m = (fs ρ m).bind (kCallK0 fn h) := rfl
@[simp] theorem kCallK0_run {fn : Fn} {h : List D → List D → List D} {ws : List D} : kCallK0 fn h ws m = fn (h [] ws) m := rfl
def kPart (d : D) (m : Mem) : Rs (Option Int) := match d with
  | .int i => .ok (some i) m
  | _ => .stuck
@[simp] theorem dPart_run : dPart f ρ m = (f ρ m).bind kPart := rfl
@[simp] theorem kPart_run {i : Int} : kPart (.int i) m = .ok (some i) m := rfl
@[simp] theorem dNo_run : dNo ρ m = .ok none m := rfl
variable {gs : D → Option Int → Option Int → Mem → Rs D} {fl fh : EvG (Option Int)} {lo hi : Option Int}
def kSl1 (gs : D → Option Int → Option Int → Mem → Rs D) (fl fh : EvG (Option Int)) (ρ : Lc) (d : D) (m1 : Mem) : Rs D := (fl ρ m1).bind fun lo m2 => (fh ρ m2).bind fun hi m3 => gs d lo hi m3
def kSl2 (gs : D → Option Int → Option Int → Mem → Rs D) (fh : EvG (Option Int)) (ρ : Lc) (d : D) (lo : Option Int) (m1 : Mem) : Rs D := (fh ρ m1).bind (gs d lo)
@[simp] theorem dSl_run : dSl gs f fl fh ρ m = (f ρ m).bind (kSl1 gs fl fh ρ) := rfl
@[simp] theorem kSl1_run : kSl1 gs fl fh ρ d m = (fl ρ m).bind (kSl2 gs fh ρ d) := rfl
@[simp] theorem kSl2_run : kSl2 gs fh ρ d lo m = (fh ρ m).bind (gs d lo) := rfl
variable {ck : Mem → D → Bool} {gm : D → List D → Mem → Rs D}
def kM1 (ck : Mem → D → Bool) (gm : D → List D → Mem → Rs D) (fs : EvG (List D)) (ρ : Lc) (d : D) (m : Mem) : Rs D := if ck m d = true then (fs ρ m).bind (gm d) else .stuck
@[simp] theorem dM_run : dM ck gm f fs ρ m = (f ρ m).bind (kM1 ck gm fs ρ) := rfl
@[simp] theorem kM1_run : kM1 ck gm fs ρ d m = if ck m d = true then (fs ρ m).bind (gm d) else .stuck := rfl
def kTru (d : D) (m : Mem) : Rs Bool := match truD m d with
  | some k => .ok k m
  | none => .stuck
@[simp] theorem dTru_run : dTru f ρ m = (f ρ m).bind kTru := by
  unfold dTru
  congr 1
@[simp] theorem kTru_bl : kTru (.bl b) m = .ok b m := rfl
end
end LN
set_option maxHeartbeats 2000000
/-! LNra: own exceptions over a built-in one; their __init__ says super().__init__(text), then stores its fields. -/
namespace LN
open PySem PySem.Spec PyProof.Rows L2 NdefX LamX

/-- a built-in class of exceptions as a base -/
structure XB where
  B : String
  n : String
  i : String
  tl : List Value
structure XBk (b : XB) : Prop where
  F : ExcBaseFacts b.B b.n b.i b.tl
  S : StoreFacts b.B b.tl "object.__setattr__" "object"
  kx : PySem.W.KxsFacts b.B b.i
def xbV : XB := ⟨"ValueError", "ValueError.__new__", "ValueError.__init__", [.type "ValueError", .type "Exception", .type "BaseException", .type "object"]⟩
theorem xbV_ok : XBk xbV := ⟨F.excBase_ValueError, F.store_ValueError, PySem.W.kxs_ValueError⟩
def xbL : XB := ⟨"LookupError", "LookupError.__new__", "LookupError.__init__", [.type "LookupError", .type "Exception", .type "BaseException", .type "object"]⟩
theorem xbL_ok : XBk xbL := ⟨F.excBase_LookupError, F.store_LookupError, PySem.W.kxs_LookupError⟩
def xbR : XB := ⟨"RuntimeError", "RuntimeError.__new__", "RuntimeError.__init__", [.type "RuntimeError", .type "Exception", .type "BaseException", .type "object"]⟩
theorem xbR_ok : XBk xbR := ⟨F.excBase_RuntimeError, F.store_RuntimeError, PySem.W.kxs_RuntimeError⟩
def xbI : XB := ⟨"IndexError", "IndexError.__new__", "IndexError.__init__", [.type "IndexError", .type "LookupError", .type "Exception", .type "BaseException", .type "object"]⟩
theorem xbI_ok : XBk xbI := ⟨F.excBase_IndexError, F.store_IndexError, PySem.W.kxs_IndexError⟩

/-- what the written part says of the class at C -/
structure OxC (b : XB) (K : PySem.W.Frag) (C : Addr) : Prop where
  ini : PySem.W.excInitIn K C b.tl b.n = true
  ov : PySem.W.excOver K C b.tl = true
  hd : PySem.W.hasDictIn K C = true
  sa : PySem.W.findIn K (.ref C) "__setattr__" = some (some (.builtin "object.__setattr__"))
  exC : PySem.W.subIn K (.ref C) (.type "BaseException") = some true
  tyC : PySem.W.typeIn K (.ref C) = some (.type "type")
  kC : PySem.W.keepIn K (.ref C) = true
  subB : PySem.W.subIn K (.ref C) (.type b.B) = some true
  slf : PySem.W.subIn K (.ref C) (.ref C) = some true
  sup : PySem.W.ks_superIn K C C "__init__" = some (some (.builtin b.i))
  opq : PySem.W.nsIn K PySem.cStatics "thirdparty.any" = some none
  xf : XfC K C
def oxB (b : XB) (K : PySem.W.Frag) (C : Addr) : Bool :=
  PySem.W.excInitIn K C b.tl b.n && (PySem.W.excOver K C b.tl && (PySem.W.hasDictIn K C && (decide (PySem.W.findIn K (.ref C) "__setattr__" = some (some (.builtin "object.__setattr__"))) && (decide (PySem.W.subIn K (.ref C) (.type "BaseException") = some true) &&
  (decide (PySem.W.typeIn K (.ref C) = some (.type "type")) && (PySem.W.keepIn K (.ref C) && (decide (PySem.W.subIn K (.ref C) (.type b.B) = some true) && (decide (PySem.W.subIn K (.ref C) (.ref C) = some true) && (decide (PySem.W.ks_superIn K C C "__init__" = some (some (.builtin b.i))) &&
  (decide (PySem.W.nsIn K PySem.cStatics "thirdparty.any" = some none) && xfB K C))))))))))
theorem oxB_ok {b : XB} {K : PySem.W.Frag} {C : Addr} (h : oxB b K C = true) : OxC b K C := by
  unfold oxB at h
  simp only [Bool.and_eq_true, decide_eq_true_eq] at h
  obtain ⟨h1, h2, h3, h4, h5, h6, h7, h8, h9, h10, h11, h12⟩ := h
  exact ⟨h1, h2, h3, h4, h5, h6, h7, h8, h9, h10, h11, xfB_ok h12⟩
section
variable {X : Cx} {pins : List (Addr × Obj)} {σ : L2.St} {H : Hp} {s : Shared} {a C dx : Addr} {f : Str} {y : V} {u : Value} {fs : List (Str × V)} {Q : Unit → Shared → Prop} {E : Value → Shared → Prop} {A : Around} {b : XB}
/-- the class data of such a class -/
theorem OxC.cd {K : PySem.W.Frag} (T : OxC b K C) : ∃ cd, PySem.W.clsIn K C = some cd ∧ cd.hasDict = true := by
  have h := T.hd
  unfold PySem.W.hasDictIn at h
  cases e : PySem.W.clsIn K C with
  | none => rw [e] at h; cases h
  | some cd => rw [e] at h; exact ⟨cd, rfl, by simpa using h⟩
/-- self.f = y, the first one -/
theorem ox_new (B : XBk b) (T : OxC b X.K C) (I : Inv X pins σ H s) (e : H a = some (exo a C none)) (hno : PySem.W.takerIn X.K C f = some none) (ry : RelV y u)
    (h : ∀ dx s', H dx = none → dx ≠ a → Inv X pins σ (upd (upd H dx (exd dx [(f, y)])) a (exo a C (some dx))) s' → Q () s') : wpAny (model X.prog X.w) A (setAttr (.ref a) f u) Q E s := by
  obtain ⟨cd, hcl, hdd⟩ := T.cd
  obtain ⟨t1, ho⟩ := exo_at I.hok e
  obtain ⟨hp, g, d, t, os⟩ := s
  have J : PySem.W.InstAt hp a { cls := .ref C, dict := none, data := .fields #[.ref t1, .none, .none, .none, .bool false, .none] } C none := ⟨ho, rfl, rfl, trivial⟩
  refine PySem.W.set_plain I.kIn J T.sa ?_
  refine PySem.W.osa_openX B.S I.kIn J T.ov hno fun bb => ?_
  have hcls : PySem.W.Looks (model X.prog X.w) hp (classData C) cd := PySem.W.looks_clsIn I.kIn hcl
  have hxs : a ≠ hp.objs.size := Nat.ne_of_lt (Heap.lt_size ho)
  dsimp only
  obtain ⟨nm, bs, mro, ns, qn, hd, sn, sb, ab, col, del⟩ := cd
  dsimp only at hdd
  subst hdd
  unfold Builtin.ObjectAttr.storeInOwnDict Builtin.ObjectAttr.ownDictForStores
  repeat (first | with_reducible refine PySem.HandSPX.store_in_new ?_ ?_ | with_reducible refine wpAny_loadPart_at ho ?_ | with_reducible refine hcls.at ?_ | wp_step)
  · exact ⟨_, #[], _, (Heap.get?_update_ne _ _ _ _ hxs.symm).trans (Heap.get?_push_at rfl rfl), rfl, fun e he => absurd he (by simp), fun _ => rfl⟩
  · intro h' tk' hn' hs
    have hx₁ : (hp.push { cls := .type "dict", data := .dict #[] }).get? a = some { cls := .ref C, data := .fields #[.ref t1, .none, .none, .none, .bool false, .none] } := Heap.get?_push_of_some _ ho
    have k : ∀ c o, c ≠ a → hp.get? c = some o → h'.get? c = some o := fun c o hb ho => (hs.2 c (Nat.ne_of_lt (Heap.lt_size ho))).trans ((Heap.get?_update_ne _ _ _ _ hb).trans (Heap.get?_push_of_some _ ho))
    have hx : h'.get? a = some { cls := .ref C, dict := some hp.objs.size, data := .fields #[.ref t1, .none, .none, .none, .bool false, .none] } := (hs.2 a hxs).trans (Heap.get?_update_self _ hx₁ rfl)
    have hnd : H hp.objs.size = none := I.hok.fresh (Nat.le_refl _)
    have nd : ∀ {c : Addr} {o : Obj}, hp.get? c = some o → c ≠ hp.objs.size := fun {c o} q => Nat.ne_of_lt (Heap.lt_size q)
    have na : ∀ {c : Addr}, H c = none → c ≠ a := fun {c} n z => by rw [z, e] at n; cases n
    have U : Un X.fs [] H (upd (upd H hp.objs.size (exd hp.objs.size [(f, y)])) a (exo a C (some hp.objs.size))) hp h' :=
      ⟨fun c o q n _ _ => k c o (na n) q, fun c o q n _ _ => ⟨o.slots, k c o (na n) q⟩, fun c o q n _ => by rw [upd_ne (na n), upd_ne (nd q)]; exact n,
       fun c o q _ => by
        by_cases hb : c = a
        · exact ⟨_, by rw [hb]; exact hx⟩
        · exact ⟨o, k c o hb q⟩,
       fun c xs q => by rw [upd_ne (at_ne e q exo_tup), upd_ne (ne_of_none q hnd)]; exact q, fun c o v q => by rw [upd_ne (at_ne e q exo_frz), upd_ne (ne_of_none q hnd)]; exact q,
       fun c ps q => ⟨#[], by rw [upd_ne (at_ne e q exo_tbl), upd_ne (ne_of_none q hnd), q]; simp⟩⟩
    refine h hp.objs.size _ hnd hxs.symm (I.un (t' := tk') U fun c o q => ?_)
    by_cases hb : c = a
    · subst hb
      rw [upd_same] at q
      cases q
      exact exo_ok hx
    · rw [upd_ne hb] at q
      by_cases hd : c = hp.objs.size
      · subst hd
        rw [upd_same] at q
        cases q
        exact exd_ok hn' (relO_put (fs := []) ry fun g => True.intro)
      · rw [upd_ne hd] at q
        refine (I.hok c o q).stay (fun c2 v hc z => k c2 v ?_ z) (fun c2 hc => by rw [upd_ne (at_ne e hc exo_own), upd_ne (ne_of_none hc hnd)]; exact hc) (fun c2 xs hc => by rw [upd_ne (at_ne e hc exo_tup), upd_ne (ne_of_none hc hnd)]; exact hc)
        rcases hc with hc | hc
        · rw [hc]; exact hb
        · exact at_ne e hc exo_own
/-- self.f = y, a further one -/
theorem ox_old (B : XBk b) (T : OxC b X.K C) (I : Inv X pins σ H s) (e : H a = some (exo a C (some dx))) (ed : H dx = some (exd dx fs)) (hl : fs.length ≤ 900) (hno : PySem.W.takerIn X.K C f = some none) (ry : RelV y u)
    (h : ∀ s', Inv X pins σ (upd H dx (exd dx ((f, y) :: fs))) s' → Q () s') : wpAny (model X.prog X.w) A (setAttr (.ref a) f u) Q E s := by
  obtain ⟨cd, hcl, hdd⟩ := T.cd
  obtain ⟨t1, ho⟩ := exo_at I.hok e
  obtain ⟨mA, hns, rel⟩ := exd_at I.hok ed
  have hw := within_of rel
  obtain ⟨hp, g, d, t, os⟩ := s
  obtain ⟨oD, _, _, hoD, _, _⟩ := hns.count hw
  have J : PySem.W.InstAt hp a { cls := .ref C, dict := some dx, data := .fields #[.ref t1, .none, .none, .none, .bool false, .none] } C (some oD) := ⟨ho, rfl, rfl, hoD⟩
  refine PySem.W.set_plain I.kIn J T.sa ?_
  refine PySem.W.osa_openX B.S I.kIn J T.ov hno fun bb => ?_
  have hcls : PySem.W.Looks (model X.prog X.w) hp (classData C) cd := PySem.W.looks_clsIn I.kIn hcl
  dsimp only
  obtain ⟨nm, bs, mro, ns, qn, hd, sn, sb, ab, col, del⟩ := cd
  dsimp only at hdd
  subst hdd
  unfold Builtin.ObjectAttr.storeInOwnDict Builtin.ObjectAttr.ownDictForStores
  repeat (first | with_reducible refine PySem.OEX.store_in_old hns hw (by rw [List.length_map]; omega) ?_ | with_reducible refine wpAny_loadPart_at ho ?_ | with_reducible refine hcls.at ?_ | wp_step)
  intro h' tk' hn' hs
  have hd : ∃ o, h'.get? dx = some o := by
    obtain ⟨o, _, _, e', _⟩ := hn'
    exact ⟨o, e'⟩
  exact h _ (I.write (t' := tk') (x := dx) (e := dx) (o := exd dx ((f, y) :: fs)) (by rw [ed]; exact True.intro) (.inl rfl) (fun c o hb q => (hs.2 c hb).trans q) hd (exd_ok hn' (relO_put ry rel)))
end

/-! ### super().__init__(text) -/
/-- what the written part holds of C's own __init__ at f -/
structure SupC (b : XB) (P : Program) (K : PySem.W.Frag) (mg : Str → Option Value) (C f : Addr) (F : NF) (fd : FuncData) (ar : Arg) : Prop where
  cls : OxC b K C
  fn : ∃ (oc : Value) (od : Option Addr) (dV kV doc pm ct : Value) (an : Option Addr) (osl : Array (Option Value)),
    fd = PySem.W.fnX F.name F.qual F.params F.body F.scope F.cl dV kV doc pm an (.ref F.c) ct ∧ K.lookup f = some ⟨oc, od, .func fd, osl⟩
  cl : ∃ (cl : Addr) (oc : Obj), F.cl = [(("__class__" : Str), cl)] ∧ K.lookup cl = some oc ∧ oc.data = .cell (some (.ref C))
  code : PySem.W.codeIn K (.ref F.c) F.qual = true
  file : ∃ (oc : Obj) (vs : Array Value) (fi : Str) (tf : Tok), K.lookup F.c = some oc ∧ oc.data = .fields vs ∧ vs[2]? = some (.str fi tf) ∧ ((P.main.file : Str) == fi) = true
  top : (P.main.scope.names.lookup ("super" : Str)).isSome = false
  mgS : mg "super" = none
  first : (F.params.posonlyargs ++ F.params.args).head? = some ar
section
variable {P : Program} {w : World} {K : PySem.W.Frag} {mg : Str → Option Value} {base : Heap} {N : List Str} {F : NF} {f C a : Addr} {fd : FuncData} {ar : Arg} {A : Around} {outer : List Env} {s0 s : Shared} {H0 H : Hp} {E : XK} {σ : L2.St} {i : Nat} {b : XB} {CX : CXT}
/-- the built-in __init__ bound to the new object, called -/
theorem call_mw {X : Cx} {pins : List (Addr × Obj)} {u : Addr} {rest : List Value} {Q : Value → Shared → Prop} {E' : Value → Shared → Prop} {A : Around} (B : XBk b) (T : OxC b X.K C) (I : Inv X pins σ H s) (e : H a = some (exo a C none)) (hu : s.heap.get? u = some (PySem.W.kxs_mw b.i a))
    (hl : rest.length ≤ sizeLine) (h : ∀ s', Inv X pins σ H s' → Q .none s') : wpAny (model X.prog X.w) A (call (.ref u) rest) Q E' s := by
  obtain ⟨nm, N', qn, bs, bm, hdct, sn, sub, ab, col, dd, k0, k1, k2, k3, k5, hC, hT⟩ := PySem.W.excInit_of I.kIn T.ini
  obtain ⟨t1, ho⟩ := exo_at I.hok e
  obtain ⟨hp, g, d, t, os⟩ := s
  refine wpAny_call (codeAny_of_tree ?_)
  show wpAny _ A.in1 (callAny (.ref u) ⟨rest, []⟩) _ _ _
  simp only [callAny]
  refine wpAny_bind (wpAny_load hu ?_)
  have hm : (Value.type "method-wrapper" == Value.type "method" || Value.type "method-wrapper" == Value.type "builtin_function_or_method" || Value.type "method-wrapper" == Value.type "method-wrapper") = true := by decide
  simp only [PySem.W.kxs_mw, hm, if_true]
  refine PySem.W.KFB.if_so (by decide) ?_
  refine wpAny_bind (PySem.W.check_bound_init B.F.toExcCallFacts hC ho rfl ?_)
  refine wpAny_bind (wpAny_pure (wpAny_pure ?_))
  refine ⟨plainId_quiet B.F.init.plain _, codeAny_builtin B.F.initEntry ?_⟩
  refine PySem.W.exc_init_tree (cls := .ref C) (t0 := t1) (dv := none) (c2 := .none) (c3 := .none) (b4 := .bool false) ho hl fun h' k hx _ => ?_
  have J := I.write (t' := t) (x := a) (e := a) (o := exo a C none) (by rw [e]; exact True.intro) (.inl rfl) k ⟨_, hx⟩ (exo_ok hx)
  have eu : upd H a (exo a C none) = H := by
    funext c
    by_cases hb : c = a
    · rw [hb, upd_same, e]
    · rw [upd_ne hb]
  rw [eu] at J
  exact h _ J
theorem sup_first {pl : Sem Bool} {txt : Str} {k : Nat} {p0 p1 p2 p3 pos : Pos} {Q : Value → Shared → Prop} {E' : Value → Shared → Prop} {body : List Stmt} (B : XBk b) (S : SupC b P K mg C f F fd ar) (I : Inv (ncx CX P w K mg base N F f A outer s0 H0 E) [] σ H s)
    (hi : N[i]? = some ar.arg) (hs : σ[i]? = some (some (.ref a))) (hl : F.scope.names.lookup ar.arg = some .local) (hsup : F.scope.names.lookup ("super" : Str) = some .globalImplicit) (hcls : F.scope.names.lookup ("__class__" : Str) = some .free)
    (e : H a = some (exo a C none)) (h : ∀ s', Inv (ncx CX P w K mg base N F f A outer s0 H0 E) [] σ H s' → Q .none s')
    (he : eval (.Call (.Attribute (.Call (.Name "super" p0) [] [] p1) "__init__" p2) [.Constant (.str txt) k p3] [] pos) (envF F f s0.heap.objs.size) = (do
      let ov ← attributeBase (.Call (.Name "super" p0) [] [] p1) "__init__" (envF F f s0.heap.objs.size) (eval (.Call (.Name "super" p0) [] [] p1) (envF F f s0.heap.objs.size))
      standAt p2.atName
      let (fn, first) ← holding [ov] (getMethod ov "__init__" pl)
      callWith pos fn first (backTo pos (starEach [.Constant (.str txt) k p3] (envF F f s0.heap.objs.size))) [])) :
    _root_.PySem.wpAt (model P w) (A.deeper (envF F f s0.heap.objs.size)) (.func body (envF F f s0.heap.objs.size)) (eval (.Call (.Attribute (.Call (.Name "super" p0) [] [] p1) "__init__" p2) [.Constant (.str txt) k p3] [] pos) (envF F f s0.heap.objs.size)) Q E' s := by
  obtain ⟨oc, od, dV, kV, doc, pm, ct, an, osl, efd, lk⟩ := S.fn
  obtain ⟨cl, ocl, ecl, lcl, dcl⟩ := S.cl
  obtain ⟨ocd, vs, fi, tf, lcd, dcd, hvs, hfile⟩ := S.file
  obtain ⟨cd, hcl, hdd⟩ := S.cls.cd
  have KX := I.kIn
  obtain ⟨oC, hCh, dC⟩ : ∃ oC, s.heap.get? C = some oC ∧ oC.data = .cls cd := by
    unfold PySem.W.clsIn at hcl
    split at hcl
    · rename_i c d cd' sl ho
      cases hcl
      exact ⟨_, KX _ _ ho, rfl⟩
    · cases hcl
  refine ks_wpAt_MethodCall (pl := pl) ?_ he
  refine ks_wpAt_super_base (f := f) (of := ⟨oc, od, .func fd, osl⟩) (fd := fd) (ar := ar) (cc := F.c) (oc := ocd) (vs := vs) (file := fi) (tf := tf) hsup hcls (by decide) rfl (KX _ _ lk) rfl (by rw [efd]; exact S.first) rfl (KX _ _ lcd) dcd hvs hfile S.top ?_
  obtain ⟨mb, h1, h2⟩ := I.mod.blt
  refine PySem.W.ks_loadName_global I.ok.kind hsup ?_
  refine Calls.loadGlobal_builtin (by exact I.mod.glob.keeps I.bk) S.mgS (by exact h1.keeps I.bk) ((h2 "super" (by decide)).trans PyProof.Rows.Boot.«super») ⟨rfl, ?_⟩
  refine wpAny_loadName_free I.ok.kind hcls (by show List.lookup _ F.cl = _; rw [ecl]; rfl) ⟨ocl, KX _ _ lcl, dcl⟩ ?_
  obtain ⟨m, hns, hm⟩ := I.loc
  obtain ⟨u, ru, lu⟩ := hm i ar.arg (.ref a) hi hs (.inl hl)
  have hu : u = .ref a := ru
  subst hu
  have lu : m ar.arg = some (.ref a) := by
    rcases lu with ⟨_, lu⟩ | ⟨lu, _⟩
    · exact lu
    · rcases lu with lu | lu
      · have lu : F.scope.names.lookup ar.arg = some .cell := lu
        rw [hl] at lu; cases lu
      · have lu : F.scope.names.lookup ar.arg = some .free := lu
        rw [hl] at lu; cases lu
  refine wpAny_loadName_local I.ok.kind hl hns lu ?_
  obtain ⟨t1, ho⟩ := exo_at I.hok e
  obtain ⟨hp, g, d, t, os⟩ := s
  refine ks_wpAny_isType_cls hCh dC ⟨rfl, ?_⟩
  refine ks_wpAny_call_super hCh dC ho rfl (fun c z => by cases z) (PySem.W.looks_subIn KX S.cls.slf) fun h' e' kp => ?_
  have I1 : Inv (ncx CX P w K mg base N F f A outer s0 H0 E) [] σ H ⟨h', g, d, t, os⟩ := I.kept (t' := t) kp
  have X1 := I1.kIn
  have sup := S.cls.sup
  unfold PySem.W.ks_superIn at sup
  rw [hcl] at sup
  have J1 : PySem.W.InstAt h' a { cls := .ref C, dict := none, data := .fields #[.ref t1, .none, .none, .none, .bool false, .none] } C none := ⟨kp _ _ ho, rfl, rfl, trivial⟩
  refine PySem.W.kxs_getMethod B.kx e' (PySem.W.looks_opaque X1 S.cls.opq) (l₀ := cd.mro) (fun A Q E s k q => wpAny_bind ((PySem.W.looks_clsIn X1 hcl) A _ E s k (wpAny_pure q))) rfl X1 sup (J1.type.andThen (PySem.W.looks_subIn X1 S.cls.subB)) (PySem.W.ks_ne X1 J1 hcl) (by decide) ?_
  have I2 : Inv (ncx CX P w K mg base N F f A outer s0 H0 E) [] σ H ⟨h'.push (PySem.W.kxs_mw b.i a), g, d, t + 1, os⟩ := I1.kept (t' := t + 1) fun c o z => Heap.get?_push_of_some _ z
  have hmw : (h'.push (PySem.W.kxs_mw b.i a)).get? h'.objs.size = some (PySem.W.kxs_mw b.i a) := Heap.get?_push_size _ rfl
  dsimp only
  refine PySem.W.kxs_callWith (i := b.i) (x := a) (by rfl) ?_
  refine PySem.Calls.evalArgs_plain (x := eval (.Constant (.str txt) k p3) (envF F f s0.heap.objs.size)) (rest := []) ?_
  refine Calls.spliced_cons (Calls.Constant_str ?_)
  refine Calls.spliced_nil ⟨hmw, ?_⟩
  refine call_mw B S.cls (I2.tok _) e hmw (by rw [sizeLine_eq]; show 1 ≤ 16777216; omega) h
end
/-! ### self.f = e -/
def tOx (b : XB) (K : PySem.W.Frag) (f : Str) (to te : TE) : TS := fun D σ H => te σ H fun y H1 => to σ H1 fun x H2 => ∃ a C : Addr, x = .ref a ∧ OxC b K C ∧ PySem.W.takerIn K C f = some none ∧
  ((H2 a = some (exo a C none) ∧ ∀ dx, H2 dx = none → dx ≠ a → D.nx σ (upd (upd H2 dx (exd dx [(f, y)])) a (exo a C (some dx)))) ∨
    ∃ (dx : Addr) (fs : List (Str × V)), H2 a = some (exo a C (some dx)) ∧ H2 dx = some (exd dx fs) ∧ fs.length ≤ 900 ∧ D.nx σ (upd H2 dx (exd dx ((f, y) :: fs))))
theorem ps_ox {X : Cx} {o e : Expr} {to te : TE} {f : Str} {p' pos : Pos} {b : XB} (B : XBk b) (ho : PE X o to) (he : PE X e te) (hs : swapsWith e (some (.Attribute o f p')) pos.line X.env = pure false := by rfl) : PS X (.Assign [.Attribute o f p'] e pos) (tOx b X.K f to te) := by
  refine ⟨fun pins s σ H D I h => ?_⟩
  refine plainObj_wpAny_Assign_Attribute (thn (he.run pins s σ H _ I h) fun v s1 ⟨y, H1, I1, r1, q1⟩ => thn (ho.run pins s1 σ H1 _ I1 q1) fun u s2 ⟨x, H2, I2, r2, a, C, ex, T, hno, q⟩ => ?_) hs
  subst ex
  obtain rfl : u = Value.ref a := r2
  rcases q with ⟨ea, q⟩ | ⟨dx, fs, ea, ed, hl, q⟩
  · exact ox_new B T I2 ea hno r1 fun dx s' n ne J => ⟨σ, _, J, q dx n ne⟩
  · exact ox_old B T I2 ea ed hl hno r1 fun s' J => ⟨σ, _, J, q⟩
end LN
set_option maxHeartbeats 2000000
/-! LNrb: what an own exception's __init__ promises; such an exception is made. -/
namespace LN
open PySem PySem.Spec PyProof.Rows L2 NdefX LamX
/-- __init__ at the new object: its fields as mk tells -/
def spI (C : Addr) (n : Nat) (mk : List V → List (Str × V)) : Sp := fun vs H Q _ => ∃ a ws, vs = V.ref a :: ws ∧ ws.length = n ∧ H a = some (exo a C none) ∧
  ∀ dx H2, H dx = none → dx ≠ a → H2 a = some (exo a C (some dx)) → H2 dx = some (exd dx (mk ws)) → (∀ c, c ≠ a → c ≠ dx → H2 c = H c) → Q .non H2
section
variable {P : Program} {w : World} {K : PySem.W.Frag} {mg : Str → Option Value} {base : Heap} {N ps : List Str} {F : NF} {f C : Addr} {fd : FuncData} {ar : Arg} {b : XB} {k n : Nat} {mk : List V → List (Str × V)} {pl : Sem Bool}
theorem fnI {txt : Str} {k1 : Nat} {p0 p1 p2 p3 pos epos : Pos} {rest : List Stmt} (B : XBk b) (S : SupC b P K mg C f F fd ar) (Sc : NScope N ps ["__class__"] F.scope)
    (hbody : F.body = .Expr (.Call (.Attribute (.Call (.Name "super" p0) [] [] p1) "__init__" p2) [.Constant (.str txt) k1 p3] [] pos) epos :: rest) (h0 : ps[0]? = some ar.arg) (hn : ps.length = n + 1)
    (hsup : F.scope.names.lookup ("super" : Str) = some .globalImplicit)
    (he : ∀ L : Addr, eval (.Call (.Attribute (.Call (.Name "super" p0) [] [] p1) "__init__" p2) [.Constant (.str txt) k1 p3] [] pos) (envF F f L) = (do
      let ov ← attributeBase (.Call (.Name "super" p0) [] [] p1) "__init__" (envF F f L) (eval (.Call (.Name "super" p0) [] [] p1) (envF F f L))
      standAt p2.atName
      let (fn, first) ← holding [ov] (getMethod ov "__init__" pl)
      callWith pos fn first (backTo pos (starEach [.Constant (.str txt) k1 p3] (envF F f L))) []))
    (hsw : ∀ L : Addr, swapsWith (.Call (.Attribute (.Call (.Name "super" p0) [] [] p1) "__init__" p2) [.Constant (.str txt) k1 p3] [] pos) none epos.line (envF F f L) = pure false)
    (hint : ∀ L : Addr, interactive (envF F f L) = false)
    (hrest : ∀ (A : Around) (outer : List Env) (s : Shared) (H : Hp) (E : XK) (Q : VK) (a : Addr) (ws : List V), ws.length = n → H a = some (exo a C none) →
      (∀ dx H2, H dx = none → dx ≠ a → H2 a = some (exo a C (some dx)) → H2 dx = some (exd dx (mk ws)) → (∀ c, c ≠ a → c ≠ dx → H2 c = H c) → Q .non H2) →
      ∃ t, PSs (ncx (L2.CX P w) P w K mg base N F f A outer s H E) rest t ∧ t { nx := fun _ H' => Q .non H', rt := Q } (startF N (V.ref a :: ws) [none]) H) :
    FnOk P w K mg base (L2.CX P w) (k + 1) f fd ps (spI C n mk) := by
  refine ⟨fun vs H Q E ⟨a, ws, e, hl, _⟩ => by rw [e, List.length_cons, hl, hn], fun A outer s H args us vs Q E hr e0 hbt r hsp => ?_⟩
  obtain ⟨a, ws, rfl, hws, ea, hq⟩ := hsp
  have hl : (V.ref a :: ws).length = ps.length := by rw [List.length_cons, hws, hn]
  obtain ⟨oc, od, dV, kV, doc, pm, ct, an, osl, efd, lk⟩ := S.fn
  obtain ⟨cl, ocl, ecl, lcl, dcl⟩ := S.cl
  have KX : K.In s.heap := e0.mod.kin.keeps fun c o e => (e0.bs c o e).1
  have lim : s.heap.NoLimit := e0.mod.nolimit.keeps fun c o e => (e0.bs c o e).1
  have hcls : F.scope.names.lookup ("__class__" : Str) = some .free := Sc.frk _ (by simp)
  have cell : s.heap.IsCell cl (some (.ref C)) := ⟨ocl, KX _ _ lcl, dcl⟩
  have CA : CellsAt F.cl ["__class__"] [none] s.heap H := by
    refine ⟨rfl, fun y c e => ?_, fun x y c e1 e2 => ?_, fun i y e => ?_⟩
    · rw [ecl] at e
      have hy : c = cl := by
        simp only [List.lookup] at e
        split at e
        · exact (Option.some.inj e).symm
        · cases e
      subst hy
      have := e0.mod.kin _ _ lcl
      exact ⟨(e0.bs _ _ this).2, _, cell⟩
    · rw [ecl] at e1 e2
      simp only [List.lookup] at e1 e2
      split at e1
      · rename_i q1
        split at e2
        · rename_i q2
          exact (beq_iff_eq.mp q1).trans (beq_iff_eq.mp q2).symm
        · cases e2
      · cases e1
    · cases i with
      | zero =>
        simp only [List.getElem?_cons_zero, Option.some.injEq] at e
        subst e
        exact ⟨cl, by rw [ecl]; rfl, fun v z => by simp at z⟩
      | succ i => simp at e
  refine ks_codeAny_call_defAt (fd := fd) (body := F.body) (binds := ps.zip us) hr.depth (KX _ _ lk) rfl lim (PySem.W.codeRec_of KX (by rw [efd]; exact S.code)) (by rw [efd]) hbt (by rw [efd]; exact Sc.nocell) (fun x hx => by rw [efd]; exact Sc.par x.1 (List.of_mem_zip hx).1) (fun h₁ hns kp => ?_) (by rw [efd]; exact Sc.co) (by rw [efd]; exact Sc.gen) (by rw [efd]; exact Sc.kind)
  have eenv : callEnv fd s.heap.objs.size f = envF F f s.heap.objs.size := by rw [efd]; rfl
  rw [eenv]
  have I : Inv (ncx (L2.CX P w) P w K mg base N F f A outer s H E) [] (startF N (V.ref a :: ws) [none]) H { s with heap := h₁, toks := s.toks + (ps.zip us).length } := inv_startN Sc hr.hd e0 hl r CA hns kp
  have key : _root_.PySem.wpAt (model P w) (A.deeper (envF F f s.heap.objs.size)) (.func F.body (envF F f s.heap.objs.size)) (execs F.body (envF F f s.heap.objs.size)) (SP (ncx (L2.CX P w) P w K mg base N F f A outer s H E) [] { nx := fun _ H' => Q .non H', rt := Q }) (ncx (L2.CX P w) P w K mg base N F f A outer s H E).xe { s with heap := h₁, toks := s.toks + (ps.zip us).length } := by
    have hN0 : N[0]? = some ar.arg := by
      have h1 : (N.take (ps.length + 1))[0]? = (ps ++ [("__class__" : Str)])[0]? := congrArg (·[0]?) Sc.pre
      rw [List.getElem?_take_of_lt (by omega), List.getElem?_append_left (by omega)] at h1
      rw [h1, h0]
    generalize hbd : (Code.func F.body (envF F f s.heap.objs.size)) = code
    rw [hbody]
    refine ks_wpAt_execs_cons ?_
    refine ks_wpAt_Expr_any ?_ (hint _) (hsw _)
    rw [← hbd]
    refine sup_first B S I hN0 rfl (Sc.par _ (List.mem_of_getElem? h0)) hsup hcls ea (fun s' I' => ?_) (he _)
    obtain ⟨t, ht, hq'⟩ := hrest A outer s H E Q a ws hws ea hq
    exact wpAt_of_wpAny (ht.run [] s' _ H _ I' hq')
  refine ks_wpAt_mono key (fun fl s' hs => ?_) fun e s' hs => hs
  have fin : ∀ {σ' : L2.St} {H' : Hp} {v : V} {u : Value}, Inv (ncx (L2.CX P w) P w K mg base N F f A outer s H E) [] σ' H' s' → L2.RelV v u → Q v H' → CE outer P w H s Q u s' :=
    fun {σ' H' v u} J rv q => ⟨v, H', J.os, J.bare, J.base, J.hok, rv, q⟩
  cases fl with
  | ret u =>
    obtain ⟨v, σ', H', J, rv, q⟩ := hs
    exact fin J rv q
  | next =>
    obtain ⟨σ', H', J, q⟩ := hs
    exact fin (v := V.non) (u := Value.none) J rfl q
  | brk =>
    obtain ⟨_, _, _, q⟩ := hs
    exact False.elim q
  | cont =>
    obtain ⟨_, _, _, q⟩ := hs
    exact False.elim q
end
section
variable {X : Cx} {b : XB} {K : PySem.W.Frag} {C : Addr} {mk : List V → List (Str × V)}
/-- no field but the code -/
theorem rest0 (B : XBk b) {nm c : Str} {p1 p2 p3 p4 : Pos} {j : Nat} (T : OxC b X.K C) (hc : PySem.W.takerIn X.K C c = some none) (hs : PE X (.Name "self" p1) (fun σ H Q => ∃ v, σ[0]? = some (some v) ∧ Q v H))
    (hsw : swapsWith (.Constant (.str nm) j p3) (some (.Attribute (.Name "self" p1) c p2)) p4.line X.env = pure false := by rfl)
    {H : Hp} {Q : VK} {a : Addr} {r : List (Option V)} (ea : H a = some (exo a C none))
    (h : ∀ dx H2, H dx = none → dx ≠ a → H2 a = some (exo a C (some dx)) → H2 dx = some (exd dx [(c, .str nm)]) → (∀ z, z ≠ a → z ≠ dx → H2 z = H z) → Q .non H2) :
    ∃ t, PSs X [.Assign [.Attribute (.Name "self" p1) c p2] (.Constant (.str nm) j p3) p4] t ∧ t { nx := fun _ H' => Q .non H', rt := Q } (some (V.ref a) :: r) H := by
  refine ⟨_, pss_one (ps_ox B hs pe_str hsw), V.ref a, rfl, a, C, rfl, T, hc, .inl ⟨ea, fun dx n ne => h dx _ n ne upd_same ?_ fun z h1 h2 => ?_⟩⟩
  · rw [upd_ne ne, upd_same]
  · rw [upd_ne h1, upd_ne h2]
theorem rest1 (B : XBk b) {nm c f x : Str} {p1 p2 p3 p4 q1 q2 q3 q4 : Pos} {j : Nat} (T : OxC b X.K C) (hf : PySem.W.takerIn X.K C f = some none) (hc : PySem.W.takerIn X.K C c = some none)
    (hs : ∀ p, PE X (.Name "self" p) (fun σ H Q => ∃ v, σ[0]? = some (some v) ∧ Q v H)) (hx : PE X (.Name x q3) (fun σ H Q => ∃ v, σ[1]? = some (some v) ∧ Q v H))
    (hsw1 : swapsWith (.Name x q3) (some (.Attribute (.Name "self" q1) f q2)) q4.line X.env = pure false := by rfl) (hsw : swapsWith (.Constant (.str nm) j p3) (some (.Attribute (.Name "self" p1) c p2)) p4.line X.env = pure false := by rfl)
    {H : Hp} {Q : VK} {a : Addr} {v1 : V} {r : List (Option V)} (ea : H a = some (exo a C none))
    (h : ∀ dx H2, H dx = none → dx ≠ a → H2 a = some (exo a C (some dx)) → H2 dx = some (exd dx [(c, .str nm), (f, v1)]) → (∀ z, z ≠ a → z ≠ dx → H2 z = H z) → Q .non H2) :
    ∃ t, PSs X [.Assign [.Attribute (.Name "self" q1) f q2] (.Name x q3) q4, .Assign [.Attribute (.Name "self" p1) c p2] (.Constant (.str nm) j p3) p4] t ∧ t { nx := fun _ H' => Q .non H', rt := Q } (some (V.ref a) :: some v1 :: r) H := by
  refine ⟨_, pss_cons (ps_ox B (hs _) hx hsw1) (pss_one (ps_ox B (hs _) pe_str hsw)), v1, rfl, V.ref a, rfl, a, C, rfl, T, hf, .inl ⟨ea, fun dx n ne => ?_⟩⟩
  have e2 : upd (upd H dx (exd dx [(f, v1)])) a (exo a C (some dx)) dx = some (exd dx [(f, v1)]) := by rw [upd_ne ne, upd_same]
  refine ⟨V.ref a, rfl, a, C, rfl, T, hc, .inr ⟨dx, _, upd_same, e2, by simp, h dx _ n ne ?_ upd_same fun z h1 h2 => ?_⟩⟩
  · rw [upd_ne (Ne.symm ne), upd_same]
  · rw [upd_ne h2, upd_ne h1, upd_ne h2]
theorem rest2 (B : XBk b) {nm c f g x y : Str} {p1 p2 p3 p4 q1 q2 q3 q4 r1 r2 r3 r4 : Pos} {j : Nat} (T : OxC b X.K C) (hf : PySem.W.takerIn X.K C f = some none) (hg : PySem.W.takerIn X.K C g = some none) (hc : PySem.W.takerIn X.K C c = some none)
    (hs : ∀ p, PE X (.Name "self" p) (fun σ H Q => ∃ v, σ[0]? = some (some v) ∧ Q v H)) (hx : PE X (.Name x q3) (fun σ H Q => ∃ v, σ[1]? = some (some v) ∧ Q v H)) (hy : PE X (.Name y r3) (fun σ H Q => ∃ v, σ[2]? = some (some v) ∧ Q v H))
    (hsw1 : swapsWith (.Name x q3) (some (.Attribute (.Name "self" q1) f q2)) q4.line X.env = pure false := by rfl) (hsw2 : swapsWith (.Name y r3) (some (.Attribute (.Name "self" r1) g r2)) r4.line X.env = pure false := by rfl)
    (hsw : swapsWith (.Constant (.str nm) j p3) (some (.Attribute (.Name "self" p1) c p2)) p4.line X.env = pure false := by rfl)
    {H : Hp} {Q : VK} {a : Addr} {v1 v2 : V} {r : List (Option V)} (ea : H a = some (exo a C none))
    (h : ∀ dx H2, H dx = none → dx ≠ a → H2 a = some (exo a C (some dx)) → H2 dx = some (exd dx [(c, .str nm), (g, v2), (f, v1)]) → (∀ z, z ≠ a → z ≠ dx → H2 z = H z) → Q .non H2) :
    ∃ t, PSs X [.Assign [.Attribute (.Name "self" q1) f q2] (.Name x q3) q4, .Assign [.Attribute (.Name "self" r1) g r2] (.Name y r3) r4, .Assign [.Attribute (.Name "self" p1) c p2] (.Constant (.str nm) j p3) p4] t ∧
      t { nx := fun _ H' => Q .non H', rt := Q } (some (V.ref a) :: some v1 :: some v2 :: r) H := by
  refine ⟨_, pss_cons (ps_ox B (hs _) hx hsw1) (pss_cons (ps_ox B (hs _) hy hsw2) (pss_one (ps_ox B (hs _) pe_str hsw))), v1, rfl, V.ref a, rfl, a, C, rfl, T, hf, .inl ⟨ea, fun dx n ne => ?_⟩⟩
  have e2 : upd (upd H dx (exd dx [(f, v1)])) a (exo a C (some dx)) dx = some (exd dx [(f, v1)]) := by rw [upd_ne ne, upd_same]
  refine ⟨v2, rfl, V.ref a, rfl, a, C, rfl, T, hg, .inr ⟨dx, _, upd_same, e2, by simp, ?_⟩⟩
  refine ⟨V.ref a, rfl, a, C, rfl, T, hc, .inr ⟨dx, [(g, v2), (f, v1)], ?_, upd_same, by simp, h dx _ n ne ?_ upd_same fun z h1 h2 => ?_⟩⟩
  · rw [upd_ne (Ne.symm ne), upd_same]
  · rw [upd_ne (Ne.symm ne), upd_ne (Ne.symm ne), upd_same]
  · rw [upd_ne h2, upd_ne h2, upd_ne h1, upd_ne h2]
end

/-! ### C(..) -/
/-- the reading of C(e, ..) that is raised -/
def tMkX (C : Addr) (n : Nat) (mk : List V → List (Str × V)) (ta : TA) : L2.St → Hp → XK → Prop := fun σ H Q => ta σ H fun vs H1 => vs.length = n ∧ n ≤ 900 ∧ ∀ d, H1 d = none → Q (.ref C) (some d) (upd H1 d (.xd (mk vs)))
section
variable {X : Cx} {e : Expr} {es : List Expr} {ta : TA} {p pos : Pos} {b : XB}
theorem mk_exc {x : Str} {C fI : Addr} {k n : Nat} {fd : FuncData} {ps : List Str} {mk : List V → List (Str × V)} {pins : List (Addr × Obj)} {σ : L2.St} {H1 : Hp} {Q : XK} {s1 : Shared} {us : List Value} {vs : List V} (B : XBk b) (T : OxC b X.K C)
    (iC : PySem.W.findIn X.K (.ref C) "__init__" = some (some (.ref fI))) (tI : PySem.W.typeIn X.K (.ref fI) = some (.type "function")) (F1 : FnOk X.prog X.w X.K X.mg X.base (L2.CX X.prog X.w) k fI fd ps (spI C n mk)) (hr : Room (k + 1) X.A) (hb : Binds X.K fd ps [])
    (hx : Passes (L2.CX X.prog X.w) X (fun _ _ _ => False)) (I1 : Inv X pins σ H1 s1) (r1 : Vals vs us) (hl : vs.length = n) (hn : n ≤ 900) (q1 : ∀ d, H1 d = none → Q (.ref C) (some d) (upd H1 d (.xd (mk vs)))) :
    wpAny (model X.prog X.w) X.A (call (.ref C) us) (MkP X pins σ Q) X.xe s1 := by
  obtain ⟨nm, N', q, bs, bm, hdct, sn, sub, ab, col, dd, k0, k1, k2, k3, k5, hC, hT⟩ := PySem.W.excInit_of I1.kIn T.ini
  obtain ⟨hp, g, dr, tk, os⟩ := s1
  have hsz : hp.objs.size ≤ hp.objs.size + 1 := Nat.le_succ _
  have hn1 : H1 (hp.objs.size + 1) = none := I1.hok.fresh hsz
  have kk : ∀ c o, hp.get? c = some o → ((hp.push (PySem.W.kdv_tup us)).push (PySem.HandSPX.excO C hp.objs.size)).get? c = some o := fun c o e => Heap.get?_push_of_some _ (Heap.get?_push_of_some _ e)
  have hget : ((hp.push (PySem.W.kdv_tup us)).push (PySem.HandSPX.excO C hp.objs.size)).get? (hp.objs.size + 1) = some (PySem.HandSPX.excO C hp.objs.size) := by heap_get
  have I2 : Inv X pins σ (upd H1 (hp.objs.size + 1) (exo (hp.objs.size + 1) C none)) ⟨(hp.push (PySem.W.kdv_tup us)).push (PySem.HandSPX.excO C hp.objs.size), g, dr, tk, os⟩ :=
    I1.laid (t' := tk) (a := hp.objs.size + 1) (o := exo (hp.objs.size + 1) C none) (h' := (hp.push (PySem.W.kdv_tup us)).push (PySem.HandSPX.excO C hp.objs.size)) kk hsz (exo_ok hget)
  have r2 : Vals (V.ref (hp.objs.size + 1) :: vs) (Value.ref (hp.objs.size + 1) :: us) := .cons rfl r1
  have hus : us.length ≤ sizeLine := by
    rw [← Paired.length r1, sizeLine_eq, hl]
    omega
  have sp : spI C n mk (V.ref (hp.objs.size + 1) :: vs) (upd H1 (hp.objs.size + 1) (exo (hp.objs.size + 1) C none))
      (fun v H2 => v = .non ∧ ∃ (d : Addr) (fs : List (Str × V)), H2 (hp.objs.size + 1) = some (exo (hp.objs.size + 1) C (some d)) ∧ H2 d = some (exd d fs) ∧ H1 d = none ∧ Q (.ref C) (some d) (upd (del H2 (hp.objs.size + 1)) d (.xd fs))) (fun _ _ _ => False) := by
    refine ⟨_, vs, rfl, hl, upd_same, fun dx H2 h1 h2 h3 h4 h5 => ⟨rfl, dx, mk vs, h3, h4, ?_, ?_⟩⟩
    · rw [upd_ne h2] at h1; exact h1
    · have e : upd (del H2 (hp.objs.size + 1)) dx (.xd (mk vs)) = upd H1 dx (.xd (mk vs)) := by
        funext c
        by_cases hc : c = dx
        · rw [hc, upd_same, upd_same]
        · rw [upd_ne hc, upd_ne hc]
          by_cases ha : c = hp.objs.size + 1
          · rw [ha, del_same, hn1]
          · rw [del_ne ha, h5 c ha hc, upd_ne ha]
      rw [e]
      rw [upd_ne h2] at h1
      exact q1 dx h1
  have hlp : (Value.ref (hp.objs.size + 1) :: us).length = ps.length := by
    have e := r2.length
    rw [F1.len _ _ _ _ sp] at e
    exact e.symm
  have hbt := hb ⟨(hp.push (PySem.W.kdv_tup us)).push (PySem.HandSPX.excO C hp.objs.size), g, dr, tk, os⟩ (Value.ref (hp.objs.size + 1) :: us) I2.kIn (by rw [List.append_nil]; exact hlp)
  rw [List.append_nil] at hbt
  refine wpAny_call (PySem.HandSPX.call_own B.F hT hC (PySem.W.looks_findIn I1.kIn iC) (fun self => PySem.W.bind_fn I1.kIn self tI) hus
    (codeAny_mono (F1.run _ X.stack _ _ ⟨Value.ref (hp.objs.size + 1) :: us, []⟩ (Value.ref (hp.objs.size + 1) :: us) _ _ (fun _ _ _ => False) (hr.make C us []) (I2.env0.make C us []) hbt r2 sp) fun r s' hq' => ?_))
  cases r with
  | error er => exact hx pins σ _ _ er s' I2 hq'
  | ok fl =>
    cases fl with
    | ret u =>
      obtain ⟨v, H2, os2, bare2, un2, hok2, rv, ev, d, fs, ea, ed, hd1, q2⟩ := hq'
      subst ev
      obtain ⟨h2, g2, d2, t2, os'⟩ := s'
      exact ⟨rv, mk_end (raises_own T.exC T.tyC) I1 hsz kk un2 hok2 os2 bare2 ea ed hd1 q2⟩
    | next => exact False.elim hq'
    | brk => exact False.elim hq'
    | cont => exact False.elim hq'
theorem pmk_x {x : Str} {C fI : Addr} {k n : Nat} {fd : FuncData} {ps : List Str} {mk : List V → List (Str × V)} (B : XBk b) (T : OxC b X.K C) (iC : PySem.W.findIn X.K (.ref C) "__init__" = some (some (.ref fI))) (tI : PySem.W.typeIn X.K (.ref fI) = some (.type "function"))
    (F1 : FnOk X.prog X.w X.K X.mg X.base (L2.CX X.prog X.w) k fI fd ps (spI C n mk)) (hr : Room (k + 1) X.A) (hb : Binds X.K fd ps []) (hx : Passes (L2.CX X.prog X.w) X (fun _ _ _ => False)) (hg : Gl X x) (hm : X.mg x = some (.ref C)) (ha : PA X (e :: es) ta)
    (hdb : (x == ("__debug__" : Str)) = false := by decide) (he : starEach (e :: es) X.env = (false, eval e X.env) :: starEach es X.env := by rfl) (hpl : (backTo pos (starEach es X.env)).any (·.1) = false := by rfl) :
    PMk X (.Call (.Name x p) (e :: es) [] pos) (tMkX C n mk ta) := fun pins s σ H Q I h => by
  refine wpAny_Call_Name_kw (ld_glob I hg hm ?_ hdb)
  refine PySem.W.callWith_K (h₀ := X.base) I.ok.mod.kin T.kC (thn (ha.run pos pins s σ H _ I h) fun us s1 ⟨vs, H1, I1, r1, hl, hn, q1⟩ => ⟨I1.kIn, ?_⟩) he hpl
  show wpAny _ _ (call (.ref C) us) _ _ _
  exact mk_exc (x := x) B T iC tI F1 hr hb hx I1 r1 hl hn q1
theorem pmk_x0 {x : Str} {C fI : Addr} {k : Nat} {fd : FuncData} {ps : List Str} {mk : List V → List (Str × V)} (B : XBk b) (T : OxC b X.K C) (iC : PySem.W.findIn X.K (.ref C) "__init__" = some (some (.ref fI))) (tI : PySem.W.typeIn X.K (.ref fI) = some (.type "function"))
    (F1 : FnOk X.prog X.w X.K X.mg X.base (L2.CX X.prog X.w) k fI fd ps (spI C 0 mk)) (hr : Room (k + 1) X.A) (hb : Binds X.K fd ps []) (hx : Passes (L2.CX X.prog X.w) X (fun _ _ _ => False)) (hg : Gl X x) (hm : X.mg x = some (.ref C))
    (hdb : (x == ("__debug__" : Str)) = false := by decide) : PMk X (.Call (.Name x p) [] [] pos) (tMkX C 0 mk tNil) := fun pins s σ H Q I h => by
  refine wpAny_Call_Name_kw (ld_glob I hg hm ?_ hdb)
  exact PySem.W.callWith_K0 I.kIn T.kC (mk_exc (x := x) (us := []) B T iC tI F1 hr hb hx I .nil rfl (by omega) h.2.2)
end
end LN
set_option maxHeartbeats 2000000
/-! LNrc: raise, suites that read the error, try. -/
namespace LN
open PySem PySem.Spec PyProof.Rows L2 NdefX LamX
/-! ### raise C(e, ..) -/
def mkF (n : Str) (names : List Str) : List V → List (Str × V) := fun ws => ("code", .str n) :: (names.zip ws).reverse
def exnOf (n : Str) (names : List Str) (ds : List D) : Exn := ⟨n, ("code", .str n) :: (names.zip ds).reverse⟩
def sRaise (n : Str) (names : List Str) (fs : EvG (List D)) : Bd := fun ρ m => (fs ρ m).bind fun ds m1 => if ds.length = names.length then .err (exnOf n names ds) m1 else .stuck
theorem mkF_zip {n : Str} {names : List Str} {ds : List D} {ws : List V} (h1 : ds.length = names.length) (h2 : ws.length = names.length) : mkF n names ws = (((exnOf n names ds).fs.map (·.1)).zip (V.str n :: ws.reverse)) := by
  unfold mkF exnOf
  simp only [List.map_cons, List.zip_cons_cons, List.map_reverse]
  rw [List.map_fst_zip (by omega)]
  congr 1
  have : ∀ (xs : List Str) (ys : List V), xs.length = ys.length → (xs.zip ys).reverse = xs.reverse.zip ys.reverse := by
    intro xs ys h
    exact (List.reverse_zipWith h)
  exact this _ _ h2.symm
theorem exn_rps {c : Ct} {W : Wd} {n : Str} {names : List Str} {ds : List D} {ws : List V} (h1 : ds.length = names.length) (r : Rps c W ds ws) : Rps c W ((exnOf n names ds).fs.map (·.2)) (V.str n :: ws.reverse) := by
  unfold exnOf
  simp only [List.map_cons, List.map_reverse]
  rw [List.map_snd_zip (by omega)]
  exact Rps.cons (by simp [Rp]) r.reverse
section
variable {X : Cx} {c : Ct} {E : XK} {pos : Pos} {e : Expr} {fs : EvG (List D)}
theorem psd_raise {n : Str} {names : List Str} (hc : X.calm = true) (tk : Takes X (fun cls d _ H => E cls d H)) (hn : names.length ≤ 900) (mk : PMk X e (tMkX (c.Γ n) names.length (mkF n names) (tDs c E fs))) : PS X (.Raise (some e) none pos) (tS c E (sRaise n names fs)) :=
  PS.weak (ps_raise hc tk mk) fun Dn σ H ⟨W, ρ, m, o, s, p⟩ => by
    refine ⟨W, ρ, m, o, s, Pst.imp (PstS.bind p) fun vs H1 ⟨W1, ds, m1, l1, o1, r1, p1⟩ => ?_⟩
    split at p1
    · rename_i hl
      have hv : vs.length = names.length := by rw [← r1.length]; exact hl
      refine ⟨hv, hn, fun d hd => ?_⟩
      refine p1 W1 _ _ _ (le.refl _) (o1.junk hd) ⟨rfl, d, V.str n :: vs.reverse, rfl, ?_, exn_rps hl r1⟩
      rw [upd_same, mkF_zip hl hv]
    · exact p1.elim
end
/-! ### the suite's words -/
/-- the error's own dict is known for good -/
def RG (c : Ct) (W : Wd) (e : Exn) (cl : Value) (d : Option Addr) : Prop :=
  cl = .ref (c.Γ e.n) ∧ ∃ dd vs, d = some dd ∧ W.G dd = some (.xd ((e.fs.map (·.1)).zip vs)) ∧ Rps c W (e.fs.map (·.2)) vs
theorem RG.mono {c : Ct} {W W' : Wd} {e : Exn} {cl : Value} {d : Option Addr} (l : le W W') (h : RG c W e cl d) : RG c W' e cl d := by
  obtain ⟨h1, dd, vs, h2, h3, h4⟩ := h
  exact ⟨h1, dd, vs, h2, l.g _ _ h3, h4.mono l _⟩
/-- .. from the moment it is caught -/
theorem Ok.seeX {c : Ct} {W : Wd} {m : Mem} {H : Hp} (k : Ok c W m H) {a : Addr} {fs : List (Str × V)} (h : H a = some (.xd fs)) : ∃ W', le W W' ∧ Ok c W' m H ∧ W'.G a = some (.xd fs) := by
  cases e : W.G a with
  | some o =>
    have := k.g a o e
    rw [h] at this; cases this
    exact ⟨W, le.refl _, k, e⟩
  | none =>
    have hl : W.L a = none := by
      cases e2 : W.L a with
      | none => rfl
      | some o =>
        rcases k.ll a o e2 with ⟨xs, rfl⟩ | ⟨ob, u, rfl⟩ | ⟨kvs, rfl⟩ | ⟨kvs, rfl⟩
        · rw [k.l a _ e2] at h; cases h
        · rw [k.l a _ e2] at h; cases h
        · rw [k.l a _ e2] at h; cases h
        · rw [k.l a _ e2] at h; unfold NDo at h; cases h
    have na : ∀ {f i b o'}, m.get f i = some o' → o'.alive = true → W.ι f i = some b → b ≠ a := fun {f i b o'} h1 h2 h3 => by
      obtain ⟨b', e1, e2, _⟩ := k.i f i o' h1 h2
      rw [h3] at e1; cases e1
      rintro rfl
      cases o' with
      | lst xs => obtain ⟨vs, q, r⟩ := e2; rw [h] at q; cases q
      | dk ks xs => obtain ⟨vs, q, r⟩ := e2; rw [h] at q; cases q
      | dt ks xs => obtain ⟨vs, bs, q, r⟩ := e2; rw [h] at q; cases q
      | fk ks xs => obtain ⟨ob, vs, q, r⟩ := e2; rw [h] at q; cases q
      | ft ks xs => obtain ⟨ob, vs, bs, q, r⟩ := e2; rw [h] at q; cases q
      | dead => cases h2
    have L : le W { W with G := upd W.G a (.xd fs) } := ⟨fun b o q => by show upd W.G a _ b = _; rw [upd_ne (ne_of_none q e)]; exact q, fun _ _ h => h, fun _ _ _ h => h⟩
    refine ⟨_, L, ⟨fun b o q => ?_, k.l, fun b o q => ?_, fun f i o h1 h2 => ?_, k.inj, k.rng, k.lt, k.ll, k.tb, nt_upd k.nt fun _ z => by cases z⟩, upd_same⟩
    · have q : upd W.G a (.xd fs) b = some o := q
      by_cases eb : b = a
      · subst eb; rw [upd_same] at q; cases q; exact h
      · rw [upd_ne eb] at q; exact k.g b o q
    · show upd W.G a _ b = none
      rw [upd_ne (ne_of_none q hl)]; exact k.gl b o q
    · obtain ⟨b, q1, q2, q3, q4⟩ := k.i f i o h1 h2
      refine ⟨b, q1, q2.mono L fun _ h => h, ?_, q4⟩
      show upd W.G a _ b = none
      rw [upd_ne (na h1 h2 q1)]; exact q3
theorem RX.see {c : Ct} {W : Wd} {m : Mem} {H : Hp} {e : Exn} {cl : Value} {d : Option Addr} (k : Ok c W m H) (r : RX c W H e cl d) : ∃ W', le W W' ∧ Ok c W' m H ∧ RG c W' e cl d := by
  obtain ⟨h1, dd, vs, h2, h3, h4⟩ := r
  obtain ⟨W', l, o, g⟩ := k.seeX h3
  exact ⟨W', l, o, h1, dd, vs, h2, g, h4.mono l _⟩
/-- a word of a suite: what it makes of the error -/
abbrev Xv := Exn → Mem → Rs D
def nE : XK := fun _ _ _ => False
/-- its reading; slot i holds the error at a -/
def tX (c : Ct) (i : Nat) (a : Addr) (cl : Value) (d : Option Addr) (f : Xv) : TE := fun σ H Q => ∃ W m e, Ok c W m H ∧ RG c W e cl d ∧ (i < σ.length → σ[i]? = some (some (.ref a))) ∧ Pst c nE (Rp c) (f e m) W Q
def tXT (c : Ct) (i : Nat) (a : Addr) (cl : Value) (d : Option Addr) (f : Exn → Mem → Rs Bool) : TT := fun σ H Q => ∃ W m e, Ok c W m H ∧ RG c W e cl d ∧ (i < σ.length → σ[i]? = some (some (.ref a))) ∧ Pst c nE Rb (f e m) W Q
def tXs (c : Ct) (i : Nat) (a : Addr) (cl : Value) (d : Option Addr) (f : Exn → Mem → Rs (List D)) : TA := fun σ H Q => ∃ W m e, Ok c W m H ∧ RG c W e cl d ∧ (i < σ.length → σ[i]? = some (some (.ref a))) ∧ Pst c nE (Rps c) (f e m) W Q
def xK (d : D) : Xv := fun _ m => .ok d m
def xFld (f : Str) : Xv := fun e m => match e.fs.lookup f with
  | some d => .ok d m
  | none => .stuck
def xIs (n : Str) : Exn → Mem → Rs Bool := fun e m => if e.n = n then .ok true m else .stuck
def xIf (t : Exn → Mem → Rs Bool) (f g : Xv) : Xv := fun e m => (t e m).bind fun b m1 => if b = true then f e m1 else g e m1
def xNil : Exn → Mem → Rs (List D) := fun _ m => .ok [] m
def xCons (f : Xv) (fs : Exn → Mem → Rs (List D)) : Exn → Mem → Rs (List D) := fun e m => (f e m).bind fun d m1 => (fs e m1).bind fun ds m2 => .ok (d :: ds) m2
def xLst (fs : Exn → Mem → Rs (List D)) : Xv := fun e m => (fs e m).bind fun ds m1 => if lineOk ds.length = true then .ok (.lst ds) m1 else .stuck
def xTup (fs : Exn → Mem → Rs (List D)) : Xv := fun e m => (fs e m).bind fun ds m1 => if lineOk ds.length = true then .ok (.tup ds) m1 else .stuck
section
variable {X : Cx} {c : Ct} {i : Nat} {a : Addr} {cl : Value} {d : Option Addr} {oe : Obj} {pn : List (Addr × Obj)} {pos : Pos} {f g : Xv} {t : Exn → Mem → Rs Bool} {fs : Exn → Mem → Rs (List D)} {e : Expr} {es : List Expr}
theorem px_str {x : Str} {j : Nat} : PE X (.Constant (.str x) j pos) (tX c i a cl d (xK (.str x))) := PE.weak pe_str fun σ H Q ⟨W, m, e, o, r, s, p⟩ => p W H _ (le.refl _) o (by simp [Rp])
theorem px_non {j : Nat} : PE X (.Constant .none j pos) (tX c i a cl d (xK .non)) := PE.weak pe_non fun σ H Q ⟨W, m, e, o, r, s, p⟩ => p W H _ (le.refl _) o (by simp [Rp])
theorem lookup_zip {names : List Str} : ∀ {ds : List D} {vs : List V} {f : Str} {x : D} {W : Wd}, (names.zip ds).lookup f = some x → Rps c W ds vs → ∃ v, (names.zip vs).lookup f = some v ∧ Rp c W x v := by
  induction names with
  | nil => intro ds vs f x W h; cases h
  | cons n r ih =>
    intro ds vs f x W h q
    cases ds with
    | nil => cases h
    | cons y ys =>
      simp only [Rps] at q
      obtain ⟨v, us, rfl, q1, q2⟩ := q
      simp only [List.zip_cons_cons, List.lookup] at h ⊢
      split at h
      · cases h
        exact ⟨v, rfl, q1⟩
      · exact ih h q2
theorem zip_self2 (fs : List (Str × D)) : (fs.map (·.1)).zip (fs.map (·.2)) = fs := by
  induction fs with
  | nil => rfl
  | cons p r ih => simp [ih]
/-- error.f -/
theorem px_fld {n er : Str} (hC : ∀ W e m x, RG c W e cl d → f e m = x → x ≠ .stuck → ∃ C, cl = .ref C ∧ XfC X.K C ∧ PySem.W.findIn X.K (.ref C) n = some none) (hf : ∀ e m, f e m ≠ .stuck → f e m = xFld n e m) {np : Pos} (hz : Zc cl d oe) (hv : ∃ vs, oe.data = .fields vs)
    (hN : X.N[i]? = some er) (hvs : Vis X.env.scope er) (hd : (er == ("__debug__" : Str)) = false := by decide) (hcd : (er == ("__classdict__" : Str)) = false := by decide)
    (hb : attributeBase (.Name er np) n X.env (eval (.Name er np) X.env) = eval (.Name er np) X.env := by rfl) : PE (X.suite a ((a, oe) :: pn)) (.Attribute (.Name er np) n pos) (tX c i a cl d f) := by
  refine ⟨fun pins s σ H Q I ⟨W, m, e, o, r, sl, p⟩ => ?_⟩
  by_cases hst : f e m = .stuck
  · rw [hst] at p; exact p.elim
  obtain ⟨C, rfl, T, hno⟩ := hC W e m _ r rfl hst
  have il : i < σ.length := by
    have h1 := I.len
    have h2 : i < X.N.length := (List.getElem?_eq_some_iff.mp hN).1
    have h1 : σ.length = X.N.length := h1
    omega
  refine (pe_xf (e := .Name er np) (te := fun σ H Q => ∃ v, σ[i]? = some (some v) ∧ Q v H) (n := n) (C := C) T hno hz hv (pe_var (X := X.suite a ((a, oe) :: pn)) hN hvs hd hcd) hb).run pins s σ H Q I ?_
  refine ⟨V.ref a, sl il, rfl, rfl, ?_⟩
  obtain ⟨h1, dd, vs, h2, h3, h4⟩ := r
  rw [hf e m hst] at p
  unfold xFld at p
  split at p
  · rename_i x hx
    rw [← zip_self2 e.fs] at hx
    obtain ⟨v, e1, e2⟩ := lookup_zip hx h4
    exact ⟨dd, _, v, h2, o.g _ _ h3, e1, p W H v (le.refl _) o e2⟩
  · exact p.elim
/-- isinstance(error, C) -/
def rIsX (a C : Addr) : List V → Hp → VK → Prop := fun xs H Q => xs = [.ref a, .ref C] ∧ Q (.bl true) H
theorem call_isX {C : Addr} (hz : Zc (.ref C) d oe) : CallR (X.suite a ((a, oe) :: pn)) (.builtin "isinstance") (rIsX a C) := by
  intro pins s σ H xs us Q I r h
  obtain ⟨rfl, q⟩ := h
  cases r with
  | cons rx rr =>
    cases rr with
    | cons rt rr =>
      cases rr
      cases rx
      cases rt
      obtain ⟨hget, _⟩ := I.pin (a, oe) (List.mem_append.mpr (.inl List.mem_cons_self))
      obtain ⟨hp, g, dr, t, os⟩ := s
      refine call_isinstance_of ?_ (fun z => by cases z)
      unfold Builtin.«isinstance.nested»
      refine wpAny_bind (m := typeOf (.ref a)) (wpAny_typeOf_ref hget ?_)
      rw [hz.1]
      show wpAny _ _ (if (Value.ref C == Value.ref C) = true then _ else _) _ _ _
      rw [if_pos (by simp)]
      refine wpAny_bind (wpAny_rule (wpAny_pure ?_))
      exact ⟨.bl true, H, I, rfl, q⟩
theorem px_is {er nm x : Str} {C : Addr} {p p1 p2 : Pos} (hΓ : c.Γ nm = C) (hg2 : X.mg nm = some (.ref C)) (hz : Zc cl d oe) (hm : X.mg "isinstance" = none) (hN : X.N[i]? = some er) (hvs : Vis X.env.scope er) (hgl : Gl X "isinstance") (hgn : Gl X nm)
    (hd : (er == ("__debug__" : Str)) = false := by decide) (hcd : (er == ("__classdict__" : Str)) = false := by decide) (hdn : (nm == ("__debug__" : Str)) = false := by decide)
    (h : ∀ whole, isTrue (.Call (.Name "isinstance" p) [.Name er p1, .Name nm p2] [] pos) X.env whole = (do let v ← whole; standAt (Expr.pos (.Call (.Name "isinstance" p) [.Name er p1, .Name nm p2] [] pos)); holding [v] (truthy v)) := by intro _; rfl) 
    (he : starEach [.Name er p1, .Name nm p2] X.env = (false, eval (.Name er p1) X.env) :: starEach [.Name nm p2] X.env := by rfl) (he2 : starEach [.Name nm p2] X.env = (false, eval (.Name nm p2) X.env) :: starEach [] X.env := by rfl) (hpl : (backTo pos (starEach [.Name nm p2] X.env)).any (·.1) = false := by rfl) :
    PT (X.suite a ((a, oe) :: pn)) (.Call (.Name "isinstance" p) [.Name er p1, .Name nm p2] [] pos) (tXT c i a cl d (xIs nm)) := by
  refine ⟨fun pins s σ H Q I ⟨W, m, e, o, r, sl, q⟩ => ?_⟩
  unfold xIs at q
  split at q
  · rename_i hen
    obtain ⟨rfl, r2⟩ := r
    rw [hen, hΓ] at hz
    have il : i < σ.length := by
      have h1 := I.len
      have h2 : i < X.N.length := (List.getElem?_eq_some_iff.mp hN).1
      have h1 : σ.length = X.N.length := h1
      omega
    refine (pt_val (X := X.suite a ((a, oe) :: pn)) (pe_callB (r := rIsX a C) (call_isX hz) hgl hm PyProof.Rows.Boot.«isinstance» (pa_cons (pe_var (X := X.suite a ((a, oe) :: pn)) (i := i) hN hvs hd hcd) (pa_cons (pe_glob (X := X.suite a ((a, oe) :: pn)) (v := .ref C) hgn hg2 rfl hdn) pa_nil he2) he) (by decide) (by decide) he hpl) h).run pins s σ H Q I ?_
    refine ⟨V.ref a, sl il, ?_⟩
    exact ⟨rfl, true, rfl, q W H true (le.refl _) o rfl⟩
  · exact q.elim
theorem px_if {cnd x y : Expr} (hc : PT X cnd (tXT c i a cl d t)) (hx : PE X x (tX c i a cl d f)) (hy : PE X y (tX c i a cl d g)) : PE X (.IfExp cnd x y pos) (tX c i a cl d (xIf t f g)) :=
  PE.weak (pe_ifExp hc hx hy) fun σ H Q ⟨W, m, e, o, r, s, p⟩ => by
    refine ⟨W, m, e, o, r, s, Pst.imp (Pst.bind p) fun b H1 ⟨W1, b', m1, l1, o1, r1, p1⟩ => ?_⟩
    have e1 : b' = b := r1
    subst e1
    cases b' with
    | true => rw [if_pos rfl] at p1 ⊢; exact ⟨W1, m1, e, o1, r.mono l1, s, p1⟩
    | false => rw [if_neg Bool.false_ne_true] at p1 ⊢; exact ⟨W1, m1, e, o1, r.mono l1, s, p1⟩
theorem pxs_nil : PA X [] (tXs c i a cl d xNil) := PA.weak pa_nil fun σ H Q ⟨W, m, e, o, r, s, p⟩ => p W H [] (le.refl _) o Rps.nil
theorem pxs_cons (h1 : PE X e (tX c i a cl d f)) (h2 : PA X es (tXs c i a cl d fs)) (hs : starEach (e :: es) X.env = (false, eval e X.env) :: starEach es X.env := by rfl) : PA X (e :: es) (tXs c i a cl d (xCons f fs)) :=
  PA.weak (pa_cons h1 h2 hs) fun σ H Q ⟨W, m, e, o, r, s, p⟩ => by
    refine ⟨W, m, e, o, r, s, Pst.imp (Pst.bind p) fun x H1 ⟨W1, y, m1, l1, o1, r1, p1⟩ => ?_⟩
    refine ⟨W1, m1, e, o1, r.mono l1, s, Pst.imp (Pst.bind p1) fun xs H2 ⟨W2, ds, m2, l2, o2, r2, p2⟩ => ?_⟩
    exact p2 W2 H2 _ (le.refl _) o2 (Rps.cons (r1.mono l2 y) r2)
theorem px_lst (h : PA X es (tXs c i a cl d fs)) : PE X (.List es pos) (tX c i a cl d (xLst fs)) :=
  PE.weak (pe_lst h) fun σ H Q ⟨W, m, e, o, r, s, p⟩ => by
    refine ⟨W, m, e, o, r, s, Pst.imp (Pst.bind p) fun xs H1 ⟨W1, ds, m1, l1, o1, r1, p1⟩ => ?_⟩
    split at p1
    · rename_i hl
      exact ⟨by rw [← r1.length]; exact lineOk_le hl, Pst.lst o1 r1 p1⟩
    · exact p1.elim
theorem px_tup {k} (h : PA X es (tXs c i a cl d fs)) : PE X (.Tuple es k pos) (tX c i a cl d (xTup fs)) :=
  PE.weak (pe_tup h) fun σ H Q ⟨W, m, e, o, r, s, p⟩ => by
    refine ⟨W, m, e, o, r, s, Pst.imp (Pst.bind p) fun xs H1 ⟨W1, ds, m1, l1, o1, r1, p1⟩ => ?_⟩
    split at p1
    · rename_i hl
      exact ⟨by rw [← r1.length]; exact lineOk_le hl, Pst.tup o1 r1 p1⟩
    · exact p1.elim
/-- return e in a suite -/
def tXS (c : Ct) (i : Nat) (a : Addr) (cl : Value) (d : Option Addr) (f : Xv) : TS := fun D σ H => tX c i a cl d f σ H D.rt
theorem psx_ret (h : PE X e (tX c i a cl d f)) : PSs X [.Return (some e) pos] (tXS c i a cl d f) := PSs.weak (pss_one (ps_ret h)) fun D σ H p => p
end
end LN
set_option maxHeartbeats 2000000
/-! LNrd: try .. except; a lambda handed to a def that asks it. -/
namespace LN
open PySem PySem.Spec PyProof.Rows L2 NdefX LamX
/-- the tables alone are changed -/
theorem Ok.ext {c : Ct} {W : Wd} {m : Mem} {H H1 : Hp} (k : Ok c W m H) (e : ExtN H H1) (t : Tabs c.T H1) : Ok c W m H1 := by
  refine ⟨fun a o h => e _ _ (k.g a o h) fun ps z => k.nt a ps (by rw [h, z]), fun a o h => e _ _ (k.l a o h) fun ps z => ?_, k.gl, fun f i o h1 h2 => ?_, k.inj, k.rng, k.lt, k.ll, t, k.nt⟩
  · rcases k.ll a o h with ⟨xs, rfl⟩ | ⟨ob, u, rfl⟩ | ⟨kvs, rfl⟩ | ⟨kvs, rfl⟩
    · cases z
    · cases z
    · cases z
    · unfold NDo at z; cases z
  · obtain ⟨a, q1, q2, q3, q4⟩ := k.i f i o h1 h2
    exact ⟨a, q1, q2.mono (le.refl W) fun v hv => e _ _ hv (q2.datAt h2 v hv).1, q3, q4⟩
/-! ### try: body / except x as er: suite (which returns) -/
def sTry (ct : Str → Option Bool) (b : Bd) (h : Xv) : Bd := fun ρ m => match b ρ m with
  | .err e m1 => match ct e.n with
    | some true => (h e m1).nox.bind fun d m2 => .ok (.rt d) m2
    | some false => .err e m1
    | none => .stuck
  | r => r
section
variable {X : Cx} {c : Ct} {E : XK} {pos pos' np : Pos} {b : Bd} {h : Xv} {ct : Str → Option Bool} {i : Nat} {x er : Str} {CS : Addr} {body suite : List Stmt} {b₀ : Stmt}
theorem psd_try (hs : X.stack = X.env :: X.outer) (hf : X.env.frame = some X.env.locals) (hN : X.N.Nodup) (hi : X.N[i]? = some er) (hln : X.env.kindOf er = some .local) (hcn : Names X x (.ref CS)) (tk : Takes X (fun cls d _ H => E cls d H))
    (hct : ∀ n v, ct n = some v → PySem.W.exmOne X.K (.ref (c.Γ n)) (.ref CS) = some v)
    (hb : ∀ (pn : List (Addr × Obj)) (xe : Value → Shared → Prop) (E' : XK), Passes (L2.CX X.prog X.w) (X.tr pn xe) E' → PSs (X.tr pn xe) body (tS c E' b))
    (hsu : ∀ (a : Addr) (oe : Obj) (cl : Value) (d : Option Addr) (pn : List (Addr × Obj)), Zc cl d oe → (∃ vs, oe.data = .fields vs) → PSs (X.suite a ((a, oe) :: pn)) (b₀ :: suite) (tXS c i a cl d h)) :
    PS X (.Try body [.ExceptHandler (some (.Name x np)) (some er) (b₀ :: suite) pos'] [] [] pos) (tS c E (sTry ct b h)) := by
  refine PS.weak (ps_try_as (tb := fun W D σ H => ∃ E' : XK, (∀ cls d σ' H', E' cls d H' → W cls d σ' H') ∧ tS c E' b D σ H) (ts := fun a cl d => tXS c i a cl d h) (Wout := fun cls d _ H => E cls d H) hs hf hN hi hln hcn tk
    (fun W pn xe tk' _ => ⟨fun pins s σ H D I ⟨E', hW, t⟩ => (hb pn xe E' (passes_call tk' hW)).run pins s σ H D I t⟩) hsu) ?_
  rintro Dn σ H ⟨W, ρ, m, o, s, p⟩
  refine ⟨fun cls d H' => ∀ σ', wAs X.K (.ref CS) i (fun a cl d => tXS c i a cl d h) (fun cls d _ H => E cls d H) Dn cls d σ' H', fun cls d σ' H' z => z σ', W, ρ, m, o, s, ?_⟩
  unfold sTry at p
  cases hbm : b ρ m with
  | stuck => rw [hbm] at p; exact p
  | ok fl m1 =>
    rw [hbm] at p
    cases fl <;> exact p
  | err e m1 =>
    rw [hbm] at p
    dsimp only at p
    intro W' H' cl dx l o' r σ'
    have hcl : cl = .ref (c.Γ e.n) := r.1
    cases hc : ct e.n with
    | none => rw [hc] at p; exact p.elim
    | some v =>
      rw [hc] at p
      cases v with
      | false =>
        refine ⟨false, by rw [hcl]; exact hct _ _ hc, fun z => (by cases z), fun _ => ?_⟩
        exact p W' H' cl dx l o' r
      | true =>
        refine ⟨true, by rw [hcl]; exact hct _ _ hc, fun _ a na => ?_, fun z => by cases z⟩
        obtain ⟨W2, l2, o2, rg⟩ := RX.see o' r
        refine ⟨W2, m1, e, o2, rg, fun il => ?_, ?_⟩
        · rw [List.length_set] at il
          rw [List.getElem?_set_self il]
        · dsimp only at p
          cases hx : h e m1 with
          | stuck => rw [hx] at p; exact p.elim
          | err e2 m2 => rw [hx] at p; exact p.elim
          | ok d m2 =>
            rw [hx] at p
            exact fun W3 H3 v l3 o3 r3 => p W3 H3 v ((l.trans l2).trans l3) o3 r3
end
/-! ### ask(lambda: e), the def ask: try: return [told, deed()] / except x as er: return .. -/
def dAsk (told : Str) (ct : Str → Option Bool) (h : Xv) (f : Ev) : Ev := fun ρ m => match f ρ m with
  | .stuck => .stuck
  | .ok d m1 => .ok (.lst [.str told, d]) m1
  | .err e m1 => match ct e.n with
    | some true => (h e m1).nox
    | _ => .stuck
def EAsk (K : PySem.W.Frag) (c : Ct) (CS : Addr) (h : Xv) (Q : VK) : XK := fun cls d H' => ∀ σ', wAs K (.ref CS) 1 (fun a cl d => tXS c 1 a cl d h) (fun _ _ _ _ => False) { nx := fun _ H' => Q .non H', rt := Q } cls d σ' H'
def QAsk (told : Str) (Q : VK) : VK := fun v H1 => ([V.str told, v] : List V).length ≤ sizeLine ∧ ∀ p, H1 p = none → Q (.ref p) (upd H1 p (.lst [V.str told, v]))
def TAsk (K : PySem.W.Frag) (c : Ct) (CS : Addr) (told : Str) (h : Xv) : (XK → Hp → VK → Prop) → Hp → VK → Prop := fun tl H Q => tl (EAsk K c CS h Q) H (QAsk told Q)
section
variable {X : Cx} {c : Ct} {E : XK} {h : Xv} {ct : Str → Option Bool}
theorem ask_gives {Ng : List Str} {x a e er q told : Str} {sg : Scope} {g CS : Addr} {cdg : Value} {j : Nat} {b₀ : Stmt} {suite : List Stmt} {p1 p2 p3 p4 p5 p7 p8 p9 : Pos} (hge : sg.names.lookup e = some .globalImplicit) (hme : X.mg e = some (.ref CS)) (hde : (e == ("__debug__" : Str)) = false)
    (hN : Ng.Nodup) (hi : Ng[1]? = some er) (hl : sg.names.lookup er = some .local) (h0 : ∀ f : Addr, (L2.start Ng [V.ref f])[0]? = some (some (V.ref f)))
    (hsu : ∀ (s : Shared) (H : Hp) (a0 : Addr) (oe : Obj) (cl : Value) (d : Option Addr) (pn : List (Addr × Obj)), Zc cl d oe → (∃ vs, oe.data = .fields vs) → PSs (Cx.suite (cxOf C8.CX0 X.prog X.w X.K X.mg X.base Ng x sg g cdg X.A X.stack s H C8.E0).nox a0 ((a0, oe) :: pn)) (b₀ :: suite) (tXS c 1 a0 cl d h)) :
    GivesTo X Ng x sg g cdg [.Try [.Return (some (.List [.Constant (.str told) j p9, .Call (.Name a p1) [] [] p2] p5)) p3] [.ExceptHandler (some (.Name e p4)) (some er) (b₀ :: suite) p7] [] [] p8] a q (TAsk X.K c CS told h) := by
  intro f c' s H Q tl act hc hq
  have hgl : Gl (cxOf C8.CX0 X.prog X.w X.K X.mg X.base Ng x sg g cdg X.A X.stack s H C8.E0).nox e := hge
  refine ⟨_, pss_one (ps_try_as (X := (cxOf C8.CX0 X.prog X.w X.K X.mg X.base Ng x sg g cdg X.A X.stack s H C8.E0).nox) (c := .ref CS) (i := 1)
      (tb := fun W D σ H => ∃ Ech : XK, (∀ cls d σ' H', Ech cls d H' → W cls d σ' H') ∧ σ[0]? = some (some (.ref f)) ∧ H c' = some (CodeO c' q) ∧ tl Ech H (QAsk told D.rt))
      (ts := fun a cl d => tXS c 1 a cl d h) (Wout := fun _ _ _ _ => False) rfl rfl hN hi hl ⟨hgl, hde, .inl hme⟩ L2.takes0 (fun W pn xe tk _ => ?_) (fun a0 oe cl d pn hz hv => hsu s H a0 oe cl d pn hz hv)), ?_⟩
  · refine ⟨fun pins s' σ H' D I h' => ?_⟩
    obtain ⟨Ech, hW, h1, h2, h3⟩ := h'
    have hp := act W pn xe Ech p1 p2 tk hW
    have hq2 := pss_one (ps_ret (pos := p3) (pe_lst (pos := p5) (pa_cons (pe_str (x := told) (j := j) (pos := p9)) (pa_cons hp pa_nil (by rfl)) (by rfl))))
    exact hq2.run pins s' σ H' D I ⟨h1, h2, h3⟩
  · exact ⟨EAsk X.K c CS h Q, fun cls d σ' H' z => z σ', h0 f, hc, hq⟩
theorem tAsk_of {told : Str} {CS : Addr} {f : Ev} (hct : ∀ n v, ct n = some v → PySem.W.exmOne X.K (.ref (c.Γ n)) (.ref CS) = some v) : ∀ (σ : L2.St) (H : Hp) (Q : VK), tD c E (dAsk told ct h f) σ H Q → tLam c.T (TAsk X.K c CS told h) (fun E => tD c E f) σ H Q := fun σ H Q ⟨W, ρ, m, o, s, p⟩ => by
  refine ⟨o.tb, fun H1 eN T1 => ?_⟩
  have o1 := o.ext eN T1
  refine ⟨W, ρ, m, o1, s, ?_⟩
  unfold dAsk at p
  cases hf : f ρ m with
  | stuck => rw [hf] at p; exact p
  | ok d m1 =>
    rw [hf] at p
    intro W' H' v l o' r
    refine ⟨by rw [sizeLine_eq]; show 2 ≤ 16777216; omega, fun q hq => ?_⟩
    obtain ⟨l2, o2⟩ := o'.froz (o := .lst [V.str told, v]) hq
    refine p _ _ _ (l.trans l2) o2 ?_
    simp only [Rp]
    exact ⟨q, _, rfl, upd_same, Rps.cons (by simp [Rp]) (Rps.one (r.mono l2 d))⟩
  | err e m1 =>
    rw [hf] at p
    dsimp only at p
    intro W' H' cl dx l o' r σ'
    have hcl : cl = .ref (c.Γ e.n) := r.1
    split at p
    · rename_i hc
      refine ⟨true, by rw [hcl]; exact hct _ _ hc, fun _ a na => ?_, fun z => by cases z⟩
      obtain ⟨W2, l2, o2, rg⟩ := RX.see o' r
      refine ⟨W2, m1, e, o2, rg, fun il => ?_, ?_⟩
      · rw [List.length_set] at il
        rw [List.getElem?_set_self il]
      · cases hx : h e m1 with
        | stuck => rw [hx] at p; exact p.elim
        | err e2 m2 => rw [hx] at p; exact p.elim
        | ok d m2 =>
          rw [hx] at p
          exact fun W3 H3 v l3 o3 r3 => p W3 H3 v ((l.trans l2).trans l3) o3 r3
    · exact p.elim
theorem pd_ask {x a told : Str} {g c0 P CS : Addr} {k : Nat} {pg : Arguments} {bg : List Stmt} {sg : Scope} {dV kV doc pm cdv ct0 oc : Value} {an od : Option Addr} {osl : Array (Option Value)} {Ng : List Str} {params : Arguments} {body : Expr} {scope : Scope} {f : Ev} {p lpos pos : Pos}
    (hm : X.mg x = some (.ref g)) (hk : PySem.W.keepIn X.K (.ref g) = true) (lk : X.K.lookup g = some ⟨oc, od, .func (PySem.W.fnOf x x pg bg sg dV kV doc pm an cdv ct0), osl⟩) (hcg : PySem.W.codeIn X.K cdv x = true) (hb : L2.Binds X.K (PySem.W.fnOf x x pg bg sg dV kV doc pm an cdv ct0) [a] [])
    (Sg : FnScope Ng [a] sg) (hNg : Ng[0]? = some a) (hva : Vis sg a) (hG : GivesTo X Ng x sg g cdv bg a (X.env.qual ++ "<lambda>") (TAsk X.K c CS told h)) (hct : ∀ n v, ct n = some v → PySem.W.exmOne X.K (.ref (c.Γ n)) (.ref CS) = some v)
    (TB : TabB X.base X.mg c0 P) (hcode : X.env.code = .ref c0) (hmT : (P, X.env.qual ++ "<lambda>") ∈ c.T) (hu : ∀ p ∈ c.T, p.1 = P → p.2 = X.env.qual ++ "<lambda>") (hr : Room (k + 2) X.A) (L : LamS X.env.scope scope) (hdef : defaultsOf params X.env = ([], []))
    (hbind : ∀ (q : Str) (cl : List (Str × Addr)) (pm cv ctv : Value), bindArgs (PySem.W.kla_fn "<lambda>" q params body scope cl pm cv ctv) ⟨[], []⟩ = pure [])
    (hbody : ∀ (A : Around) (outer : List Env) (s : Shared) (H : Hp) (E : XK) (f0 c' : Addr), Room k (A.deeper (lamEnv X scope s.heap.objs.size f0 c')) → PE (lamCx X A outer s H E scope f0 c') body (tD c E f))
    (hg : Gl X x := by rfl) (hdb : (x == ("__debug__" : Str)) = false := by decide) (hd : (a == ("__debug__" : Str)) = false := by decide) (hcd : (a == ("__classdict__" : Str)) = false := by decide) :
    PE X (.Call (.Name x p) [.Lambda params body scope lpos] [] pos) (tD c E (dAsk told ct h f)) :=
  PE.weak (pe_lamcall (t := fun E => tD c E f) hg hm hk lk hcg hb Sg hNg hva hG TB hcode hmT hu hr L hdef hbind hbody hdb hd hcd) (tAsk_of hct)
end
end LN
set_option maxHeartbeats 2000000
/-! LNre: sorted(e, key=lambda v: ..), the key a whole number out of v's parts and captured whole numbers -/
namespace LN
open PySem PySem.Spec PyProof.Rows L2 LamX
/-! ### the lambda's names -/
structure LamS1 (sc scope : Scope) (nm : Str) : Prop where
  kind : scope.kind = .function
  co : scope.isCoroutine = false
  gen : scope.isGenerator = false
  own : ∀ y ∈ scope.names, y.2 ≠ .cell
  loc : scope.names.lookup nm = some .local
  free : ∀ y ∈ scope.names, y.2 = .free → sc.names.lookup y.1 = some .cell ∨ sc.names.lookup y.1 = some .free
def lamS1B (sc scope : Scope) (nm : Str) : Bool :=
  decide (scope.kind = .function) && !scope.isCoroutine && !scope.isGenerator && (scope.names.all fun y => !decide (y.2 = .cell) && (!decide (y.2 = .free) || decide (sc.names.lookup y.1 = some .cell) || decide (sc.names.lookup y.1 = some .free))) && decide (scope.names.lookup nm = some .local)
theorem lamS1_by {sc scope : Scope} {nm : Str} (h : lamS1B sc scope nm = true) : LamS1 sc scope nm := by
  unfold lamS1B at h
  simp only [Bool.and_eq_true, Bool.or_eq_true, Bool.not_eq_true', decide_eq_true_eq, decide_eq_false_iff_not, List.all_eq_true] at h
  obtain ⟨⟨⟨⟨h1, h2⟩, h3⟩, h4⟩, h5⟩ := h
  refine ⟨h1, h2, h3, fun y hy => (h4 y hy).1, h5, fun y hy e => ?_⟩
  rcases (h4 y hy).2 with (z | z) | z
  · exact absurd e z
  · exact .inl z
  · exact .inr z
theorem LamS1.has {X : Cx} {scope : Scope} {nm : Str} (L : LamS1 X.env.scope scope nm) (ok : X.Ok) : ∀ y ∈ scope.names, y.2 = .free → ∃ c, X.env.cells.lookup y.1 = some c := fun y hy e => by
  rcases L.free y hy e with k | k
  · exact ok.has _ (.inl k)
  · exact ok.has _ (.inr k)
/-! ### the key -/
/-- e gives the whole number n, the heap being h -/
def KI (P : Program) (w : World) (A : Around) (env : Env) (h : Heap) (e : Expr) (n : Int) : Prop :=
  ∀ (s : Shared) (E : Value → Shared → Prop), s.heap = h → wpAny (model P w) A (eval e env) (fun v s' => ∃ t tk, v = .int n t ∧ s' = { s with toks := tk }) E s
/-- e computes kf out of the def's slots and the parts of what is bound to nm -/
def KP (X : Cx) (c : Ct) (scope : Scope) (nm : Str) (e : Expr) (kf : Lc → List D → Option Int) : Prop :=
  ∀ {pins : List (Addr × Obj)} {s : Shared} {σ : L2.St} {H : Hp}, Inv X pins σ H s → ∀ {W : Wd} {ρ : Lc}, Sl c W ρ σ → ∀ {ds : List D} {vs : List V} {its : List Value} {n : Int}, Rps c W ds vs → Vals vs its → vs.length ≤ sizeLine → kf ρ ds = some n →
    ∀ (h : Heap), (∀ b o, s.heap.get? b = some o → h.get? b = some o) → ∀ (q : Str) (L f a : Addr) (c' : Value) (A : Around), h.Ns L (fun y => ([(nm, Value.ref a)] : List (Str × Value)).reverse.lookup y) → IsTup h a its.toArray →
      KI X.prog X.w A (PySem.W.envX q scope L f c' (cloFrom X.env.cells scope.names [])) h e n
section
variable {X : Cx} {c : Ct} {scope : Scope} {nm : Str} {e a b : Expr} {kf kg : Lc → List D → Option Int} {p p1 p2 pos : Pos}
def kxCell (i : Nat) : Lc → List D → Option Int := fun ρ _ => match ρ[i]? with
  | some (some (.int n)) => some n
  | _ => none
def kxIx (j : Int) : Lc → List D → Option Int := fun _ ds => match atI ds j with
  | some (.int n) => some n
  | _ => none
def kxMul (f g : Lc → List D → Option Int) : Lc → List D → Option Int := fun ρ ds => match f ρ ds, g ρ ds with
  | some i, some j => if mulOk i j = true then some (i * j) else none
  | _, _ => none
def kxDiv (f g : Lc → List D → Option Int) : Lc → List D → Option Int := fun ρ ds => match f ρ ds, g ρ ds with
  | some i, some j => if divOk j = true then some (i.fdiv j) else none
  | _, _ => none
theorem kp_cell {x : Str} (i : Nat) (L : LamS1 X.env.scope scope nm) (hN : X.N[i]? = some x := by rfl) (hf : scope.names.lookup x = some .free := by rfl) (hd : (x == ("__debug__" : Str)) = false := by decide) (hcd : (x == ("__classdict__" : Str)) = false := by decide) :
    KP X c scope nm (.Name x p) (kxCell i) := by
  intro pins s σ H I W ρ st ds vs its n r rv _ hk h kp q Lc f a c' A hns ht s' E hs
  unfold kxCell at hk
  split at hk
  · rename_i d hd'
    cases hk
    obtain ⟨v, hv, rp⟩ := st.2 _ _ hd'
    simp only [Rp] at rp
    subst rp
    obtain ⟨m, hn, hl⟩ := I.loc
    have hy : (x, NameKind.free) ∈ scope.names := PySem.mem_of_lookup hf
    have vis : Vis X.env.scope x := (L.free _ hy rfl).elim (fun k => .inr (.inl k)) (fun k => .inr (.inr k))
    obtain ⟨u, ru, lu⟩ := hl i x _ hN hv vis
    obtain ⟨t, rfl⟩ := (show ∃ t, u = Value.int n t from ru)
    have hfree := L.has I.ok
    obtain ⟨c0, hc0⟩ := hfree _ hy rfl
    obtain ⟨c1, hc1⟩ := mem_lookup (cloFrom_has (cells := X.env.cells) (acc := []) hy)
    have e1 : c1 = c0 := by
      rcases cloFrom_mem (PySem.mem_of_lookup hc1) with hm | ⟨_, h2⟩
      · cases hm
      · have hc0 : X.env.cells.lookup x = some c0 := hc0
        rw [h2, hc0] <;> rfl
    subst e1
    have hcell : s.heap.IsCell c1 (some (.int n t)) := by
      rcases lu with ⟨hk, _⟩ | ⟨_, c3, h3, h4⟩
      · have hk : X.env.scope.names.lookup x = some .local := hk
        rcases L.free _ hy rfl with k2 | k2 <;> rw [show X.env.scope.names.lookup x = _ from k2] at hk <;> cases hk
      · rw [show X.env.cells.lookup x = some c1 from hc0] at h3
        cases h3
        exact h4
    obtain ⟨o, ho, hdt⟩ := hcell
    subst hs
    exact wpAny_Name (wpAny_loadName_free L.kind hf hc1 ⟨o, kp _ _ ho, hdt⟩ ⟨t, s'.toks, rfl, rfl⟩ hcd) hd
  · cases hk
theorem kp_ix {k : Nat} (j : Int) (L : LamS1 X.env.scope scope nm) (hd : (nm == ("__debug__" : Str)) = false := by decide) : KP X c scope nm (.Subscript (.Name nm p) (.Constant (.int j) k p1) pos) (kxIx j) := by
  intro pins s σ H I W ρ st ds vs its n r rv hz hk h kp q Lc f a c' A hns ht s' E hs
  unfold kxIx at hk
  split at hk
  · rename_i d hd'
    cases hk
    have l1 := r.length
    have l2 := rv.length
    obtain ⟨i, h1, h2, h3, h4, h5⟩ := atI_get hd'
    obtain ⟨v, hv, rp⟩ := r.get h2
    simp only [Rp] at rp
    subst rp
    obtain ⟨u, hu, ru⟩ := rv.get hv
    obtain ⟨t, rfl⟩ := (show ∃ t, u = Value.int n t from ru)
    subst hs
    have hn := line63
    have hm : ([(nm, Value.ref a)] : List (Str × Value)).reverse.lookup nm = some (.ref a) := by simp [List.lookup]
    refine Subscript_ (wpAny_Name (wpAny_loadName_local L.kind L.loc hns hm ?_) hd)
    refine wpAny_Constant_int ?_
    exact subscriptTail_builtinR (x := .int n t) ht.typeIs slot_tuple_getitem.lookup
      (getItem_tuple (j := i) (Q := fun r s1 => r = .int n t ∧ _) (s := { s' with toks := s'.toks + 1 }) ht (by omega) (by omega) (by rw [List.size_toArray, ← l2, ← l1]; exact h1) (by simpa using hu) ⟨rfl, ⟨t, _, rfl, rfl⟩⟩) (by with_unfolding_all rfl)
  · cases hk
theorem kp_mul (ha : KP X c scope nm a kf) (hb : KP X c scope nm b kg) : KP X c scope nm (.BinOp a .Mult b pos) (kxMul kf kg) := by
  intro pins s σ H I W ρ st ds vs its n r rv hz hk h kp q Lc f ad c' A hns ht s' E hs
  unfold kxMul at hk
  split at hk
  · rename_i i j h1 h2
    split at hk
    · rename_i hm
      cases hk
      refine wpAny_BinOp (thn (ha I st r rv hz h1 h kp q Lc f ad c' A hns ht s' E hs) fun v s1 ⟨t, tk, ev, es⟩ => ?_)
      subst ev; subst es
      refine thn (hb I st r rv hz h2 h kp q Lc f ad c' A hns ht _ E hs) fun v s1 ⟨t2, tk2, ev, es⟩ => ?_
      subst ev; subst es
      exact PyProof.Rows.mul_int ⟨_, _, rfl, rfl⟩ (mulOk_ok hm)
    · cases hk
  · cases hk
theorem kp_div (ha : KP X c scope nm a kf) (hb : KP X c scope nm b kg) : KP X c scope nm (.BinOp a .FloorDiv b pos) (kxDiv kf kg) := by
  intro pins s σ H I W ρ st ds vs its n r rv hz hk h kp q Lc f ad c' A hns ht s' E hs
  unfold kxDiv at hk
  split at hk
  · rename_i i j h1 h2
    split at hk
    · rename_i hm
      cases hk
      have hm := of_decide_eq_true hm
      refine wpAny_BinOp (thn (ha I st r rv hz h1 h kp q Lc f ad c' A hns ht s' E hs) fun v s1 ⟨t, tk, ev, es⟩ => ?_)
      subst ev; subst es
      refine thn (hb I st r rv hz h2 h kp q Lc f ad c' A hns ht _ E hs) fun v s1 ⟨t2, tk2, ev, es⟩ => ?_
      subst ev; subst es
      exact PyProof.Rows.floordiv_int hm.1 ⟨_, _, rfl, rfl⟩ (.inl (PyProof.noPylong_of_log2 hm.2))
    · cases hk
  · cases hk
end
/-! ### sorted -/
def kzip (kf : Lc → List D → Option Int) (ρ : Lc) : List D → Option (List (D × Int))
  | [] => some []
  | .tup ds :: r => match kf ρ ds, kzip kf ρ r with
    | some n, some z => some ((.tup ds, n) :: z)
    | _, _ => none
  | _ => none
def sortK (kz : List (D × Int)) : List D := (kz.mergeSort fun p q => decide (p.2 ≤ q.2)).map (·.1)
def dSortK (fin : List D → Mem → Rs D) (kf : Lc → List D → Option Int) (f : Ev) : Ev := fun ρ m => (f ρ m).bind fun d m1 => match vwL m1 d with
  | some xs => match kzip kf ρ xs with
    | some kz => fin (sortK kz) m1
    | none => .stuck
  | none => .stuck
/-- the items with what stands for them and their keys -/
theorem kzip_ok {c : Ct} {W : Wd} {kf : Lc → List D → Option Int} {ρ : Lc} : ∀ {xs : List D} {kz : List (D × Int)} {vs : List V}, kzip kf ρ xs = some kz → Rps c W xs vs →
    ∃ ts : List (D × V × Int), kz = ts.map (fun t => (t.1, t.2.2)) ∧ vs = ts.map (fun t => t.2.1) ∧ ∀ t ∈ ts, Rp c W t.1 t.2.1 ∧ ∃ ds, t.1 = .tup ds ∧ kf ρ ds = some t.2.2
  | [], kz, vs, h, r => by
    simp only [kzip, Option.some.injEq] at h
    subst h
    have := r.length
    cases vs with
    | nil => exact ⟨[], rfl, rfl, by simp⟩
    | cons _ _ => simp at this
  | x :: xs, kz, vs, h, r => by
    have hl := r.length
    cases vs with
    | nil => simp at hl
    | cons v vs =>
      simp only [Rps, List.cons.injEq] at r
      obtain ⟨v', r', ⟨e1, e2⟩, r1, r2⟩ := r
      subst e1; subst e2
      cases x with
      | tup ds =>
        simp only [kzip] at h
        split at h
        · rename_i n z h1 h2
          cases h
          obtain ⟨ts, q1, q2, q3⟩ := kzip_ok h2 r2
          refine ⟨(.tup ds, v, n) :: ts, by rw [q1]; rfl, by rw [q2]; rfl, fun t ht => ?_⟩
          rcases List.mem_cons.mp ht with rfl | ht
          · exact ⟨r1, ds, rfl, h1⟩
          · exact q3 t ht
        · cases h
      | _ => simp [kzip] at h
theorem rps_trip {c : Ct} {W : Wd} : ∀ {ts : List (D × V × Int)}, (∀ t ∈ ts, Rp c W t.1 t.2.1) → Rps c W (ts.map (·.1)) (ts.map fun t => t.2.1)
  | [], _ => Rps.nil
  | t :: ts, h => Rps.cons (h t (by simp)) (rps_trip fun u hu => h u (by simp [hu]))
theorem each_trip {S : Value → V × Int → Prop} : ∀ {ts : List (D × V × Int)} {its : List Value}, Vals (ts.map fun t => t.2.1) its → (∀ t ∈ ts, ∀ u, RelV t.2.1 u → S u (t.2.1, t.2.2)) → PySem.W.EachIs S its (ts.map fun t => (t.2.1, t.2.2))
  | [], _, r, _ => by cases r; exact .nil
  | t :: ts, _, r, h => by
    cases r with
    | cons a b => exact .cons (h t (by simp) _ a) (each_trip b fun u hu => h u (by simp [hu]))
theorem vals_each {S : Value → V × Int → Prop} (hS : ∀ u p, S u p → RelV p.1 u) : ∀ {bs : List (V × Int)} {out : List Value}, PySem.W.EachIs S out bs → Vals (bs.map (·.1)) out
  | _, _, .nil => .nil
  | _, _, .cons a b => .cons (hS _ _ a) (vals_each hS b)
section
variable {X : Cx} {c : Ct} {E : XK} {scope : Scope} {nm : Str} {e body : Expr} {f : Ev} {kf : Lc → List D → Option Int} {fin : List D → Mem → Rs D} {np lpos kpos pos : Pos} {params : Arguments} {c0 P : Addr} {k : Nat}
theorem pd_sortK (F : FinN fin) (hm : X.mg "sorted" = none) (ha : PE X e (tD c E f)) (hr : Room k X.A) (hu : X.A.units + 66 < cLine) (TB : TabB X.base X.mg c0 P) (hcode : X.env.code = .ref c0) (hmT : (P, X.env.qual ++ "<lambda>") ∈ c.T) (hun : ∀ p ∈ c.T, p.1 = P → p.2 = X.env.qual ++ "<lambda>")
    (L : LamS1 X.env.scope scope nm) (hdef : defaultsOf params X.env = ([], [])) (hbind : ∀ (q : Str) (cl : List (Str × Addr)) (pm cv ctv v : Value), bindArgs (PySem.W.kla_fn "<lambda>" q params body scope cl pm cv ctv) ⟨[v], []⟩ = pure [(nm, v)]) (hb : KP X c scope nm body kf)
    (hg : Gl X "sorted" := by rfl) (hK : c.K = X.K := by rfl) (he1 : starEach [e] X.env = [(false, eval e X.env)] := by rfl)
    (he : backTo pos (starEach [e] X.env) = (false, eval e X.env) :: backTo pos (starEach [] X.env) := by rfl) (hpl : (backTo pos (starEach [e] X.env)).any (·.1) = false := by rfl) :
    PE X (.Call (.Name "sorted" np) [e] [⟨some "key", .Lambda params body scope lpos, kpos⟩] pos) (tD c E (dSortK fin kf f)) := by
  refine ⟨fun pins s σ H Q I ⟨W, ρ, m, o, st, q⟩ => ?_⟩
  refine wpAny_Call_Name_kw (ld_blt (u := .builtin "sorted") I hg hm (by decide +kernel) ?_ (by decide) (by decide))
  refine PyProof.Rows.callWith_kw (thn ((pa_cons ha pa_nil he1).run pos pins s σ H (fun vs H1 => ∃ x, vs = [x] ∧ ∃ W1 d m1, le W W1 ∧ Ok c W1 m1 H1 ∧ Rp c W1 d x ∧ Pst c E (Rp c) (match vwL m1 d with
      | some xs => match kzip kf ρ xs with
        | some kz => fin (sortK kz) m1
        | none => .stuck
      | none => .stuck) W1 Q) I ⟨W, ρ, m, o, st, Pst.imp (Pst.bind q) fun x H1 ⟨W1, d, m1, l1, o1, r1, p1⟩ => ⟨x, rfl, W1, d, m1, l1, o1, r1, p1⟩⟩) fun us s1 ⟨vs, H1, I1, r1, x, ev, W1, d, m1, l1, o1, rx, p1⟩ => ?_) he hpl (by rfl) (by rfl)
  subst ev
  split at p1
  case h_2 => exact p1.elim
  rename_i xs hv
  split at p1
  case h_2 => exact p1.elim
  rename_i kz hk
  obtain ⟨a, vs, rfl, sq, rv⟩ := vwL_ok o1 hv rx
  obtain ⟨u1, rfl, ru⟩ := r1.one
  obtain rfl : u1 = Value.ref a := ru
  obtain ⟨ts, ek, evs, hts⟩ := kzip_ok hk rv
  show wpAny _ _ (evalAll ((do let v ← eval (.Lambda params body scope lpos) X.env; standAt pos; pure v) :: [])) _ _ s1
  refine wpAny_evalAll_cons (wpAny_bind (lam_make2 I1 TB hcode hmT hun o1.tb hdef (L.has I1.ok) fun f0 c' pm ctv H2 s2 I2 eN T2 hf hfn hfr hco => wpAny_bind (wpAny_standAt (wpAny_pure (wpAny_evalAll_nil ?_)))))
  have o2 := o1.ext eN T2
  have sq2 : SqL X.K H2 a vs := .inl (.inl (eN _ _ sq fun ps z => by cases z))
  obtain ⟨its, rits, pl, hz⟩ := I2.list sq2
  have hlam := hf
  obtain ⟨⟨oc, vsc, tc, hoc, hdc, hvc⟩, _, _⟩ := I2.hok c' _ hco
  have st1 : Sl c W1 ρ σ := st.mono l1
  have hlen : (ts.map fun t => (t.2.1, t.2.2)).length ≤ sizeLine := by
    rw [List.length_map]; rw [evs, List.length_map] at hz; exact hz
  have each : PySem.W.EachIs (fun (u : Value) (p : V × Int) => RelV p.1 u) its (ts.map fun t => (t.2.1, t.2.2)) := each_trip (by rw [← evs]; exact rits) fun t _ u hu => hu
  refine PySem.W.sorted_key_data (b := false) (fun p : V × Int => .int p.2) pl.isList each (PySem.W.AllAlike.of fun _ _ => by simp [PySem.W.alike]) (PySem.W.Sortable.others fun p => ⟨(by simp), (by simp)⟩) hlen (fun p _ => ?_) (PyProof.Rows.ksk_s1 _ _) (fun _ => PyProof.Rows.ksk_l1 _ _) (fun _ => PyProof.Rows.ksk_t1 _ _) (fun v p hv hp h tk kp => ?_) fun out cc h' tk kp hn hD hl eo => ?_
  · have : (PyData.int p.2).depth = 0 := by simp [PyData.depth]
    omega
  · obtain ⟨t, ht, rfl⟩ := List.mem_map.mp hp
    obtain ⟨rp, ds, ed, hkf⟩ := hts t ht
    rw [ed] at rp
    simp only [Rp] at rp
    obtain ⟨b, vs', eb, sqb, rds⟩ := rp
    have hv : RelV t.2.1 v := hv
    rw [eb] at hv
    cases hv
    obtain ⟨its', rits', ⟨ot, hot, hct⟩, hz'⟩ := I2.tuple (hK ▸ ((sqb.mono o2.g).sq) : SqT X.K H2 b vs')
    refine wpAny_call (codeAny_mono (R := fun r s' => ∃ v, r = .ok (.ret v) ∧ PySem.W.KeyPure (.int t.2.2) { s2 with heap := h, toks := tk } v s') ?_ fun r s' hq => ?_)
    · refine PySem.W.kla_callFunE (show X.A.depth < recursionLimit from hr.depth) (kp _ _ hlam) rfl L.co L.gen rfl ⟨c', oc, vsc, tc, rfl, kp _ _ hoc, hdc, hvc⟩ ?_
      rw [hbind]
      refine wpAny_pure (wpAny_newFunctionEnv L.own (fun y hy => (by rw [List.mem_singleton.mp hy]; exact L.loc)) (fun h₁ hns hsb => ⟨(I2.nolimit.keeps kp).fresh _ hsb, ?_⟩) L.kind)
      have kp1 : ∀ b o, h.get? b = some o → h₁.get? b = some o := fun b o e => hsb.extBut b o (Nat.ne_of_lt (Heap.lt_size e)) (Heap.get?_push_of_some _ e)
      have ki := hb I2 st1 rds rits' hz' hkf h₁ (fun b o e => kp1 _ _ (kp _ _ e)) (X.env.qual ++ "<lambda>") h.objs.size f0 b (.ref c') (X.A.in1.in1.deeper (PySem.W.envX (X.env.qual ++ "<lambda>") scope h.objs.size f0 (.ref c') (cloFrom X.env.cells scope.names []))) hns ⟨ot, kp1 _ _ (kp _ _ hot), hct⟩
      refine PySem.W.kla_codeExpr (wpAny_mono (ki _ _ rfl) (fun v s' ⟨t', tk', e1, e2⟩ => ?_) fun _ _ z => z)
      subst e1; subst e2
      exact ⟨_, rfl, h₁, tk', rfl, kp1, Reads.int _ _⟩
    · obtain ⟨v, rfl, hq⟩ := hq
      exact hq
  · rw [PySem.W.dataLe_int (β := V × Int) (fun p => p.2)] at eo
    have eq1 : (ts.map fun t => (t.2.1, t.2.2)).mergeSort (fun p q => decide (p.2 ≤ q.2)) = (ts.mergeSort fun p q => decide (p.2.2 ≤ q.2.2)).map fun t => (t.2.1, t.2.2) :=
      (List.map_mergeSort (r := fun (p q : D × V × Int) => decide (p.2.2 ≤ q.2.2)) (s := fun (p q : V × Int) => decide (p.2 ≤ q.2)) (f := fun t => (t.2.1, t.2.2)) fun _ _ _ _ => rfl).symm
    have eq2 : (ts.map fun t => (t.1, t.2.2)).mergeSort (fun p q => decide (p.2 ≤ q.2)) = (ts.mergeSort fun p q => decide (p.2.2 ≤ q.2.2)).map fun t => (t.1, t.2.2) :=
      (List.map_mergeSort (r := fun (p q : D × V × Int) => decide (p.2.2 ≤ q.2.2)) (s := fun (p q : D × Int) => decide (p.2 ≤ q.2)) (f := fun t => (t.1, t.2.2)) fun _ _ _ _ => rfl).symm
    have hsrt : ∀ t ∈ ts.mergeSort (fun p q => decide (p.2.2 ≤ q.2.2)), Rp c W1 t.1 t.2.1 := fun t ht => (hts t ((List.mergeSort_perm _ _).mem_iff.mp ht)).1
    have rr := rps_trip hsrt
    rw [eq1] at eo
    have vv : Vals ((ts.mergeSort fun p q => decide (p.2.2 ≤ q.2.2)).map fun t => t.2.1) out := by
      have := vals_each (S := fun (u : Value) (p : V × Int) => RelV p.1 u) (fun _ _ h => h) eo
      rw [List.map_map] at this
      exact this
    have er : sortK kz = (ts.mergeSort fun p q => decide (p.2.2 ≤ q.2.2)).map (·.1) := by
      unfold sortK
      rw [ek, eq2, List.map_map]; rfl
    rw [er] at p1
    refine ⟨.ref _, _, I2.laid (a := s2.heap.objs.size + 1) (o := .lst ((ts.mergeSort fun p q => decide (p.2.2 ≤ q.2.2)).map fun t => t.2.1)) (t' := tk) kp (Nat.le_succ _) ⟨?_, out, cc, vv, hD⟩, rfl, F.mak o2 rr p1 _ (I2.hok.fresh (Nat.le_succ _))⟩
    rw [List.length_map, List.length_mergeSort]; rw [List.length_map] at hlen; exact hlen
end
end LN
set_option maxHeartbeats 2000000
/-! LNrf: dict comprehensions whose keys are tuples; lcm -/
namespace LN
open PySem L2 PySem.Spec PyProof.Rows
section
variable {c : Ct} {W : Wd} {m : Mem} {H : Hp} {D : Addr} {u u' : HO}
theorem Pd.dat (h : Pd c D u) : Dat u := by
  rcases h with ⟨kvs, rfl⟩ | ⟨kvs, rfl⟩
  · exact dat_dK
  · exact dat_ND
theorem Pd.nf (h : Pd c D u) {ob : Obj} {v : HO} : u ≠ .frz ob v := by
  rcases h with ⟨kvs, rfl⟩ | ⟨kvs, rfl⟩
  · intro z; cases z
  · intro z; unfold NDo at z; cases z
theorem Ok.pinU (k : Ok c W m H) (hp : H D = none) (hu : Pd c D u) : Ok c { W with L := upd W.L D u } m (upd H D u) := by
  have gn : W.G D = none := by
    cases e : W.G D with
    | none => rfl
    | some u => rw [k.g _ _ e] at hp; cases hp
  have ne : ∀ {f i a o'}, m.get f i = some o' → o'.alive = true → W.ι f i = some a → a ≠ D := fun {f i a o'} h1 h2 h3 => by
    obtain ⟨b, e1, e2, _⟩ := k.i f i o' h1 h2
    rw [h3] at e1; cases e1
    obtain ⟨u, e⟩ := e2.some h2
    exact ne_of_none e hp
  refine ⟨fun a v h => ?_, fun a v h => ?_, fun a v h => ?_, fun f i o h1 h2 => ?_, k.inj, k.rng, k.lt, fun a v h => ?_, tabs_new k.tb hp, k.nt⟩
  · have := k.g a v h
    rw [upd_ne (ne_of_none this hp)]; exact this
  · have h : upd W.L D u a = some v := h
    by_cases e : a = D
    · subst e; rw [upd_same] at h ⊢; exact h
    · rw [upd_ne e] at h ⊢; exact k.l a v h
  · have h : upd W.L D u a = some v := h
    by_cases e : a = D
    · rw [e]; exact gn
    · rw [upd_ne e] at h; exact k.gl a v h
  · obtain ⟨a, e1, e2, e3, e4⟩ := k.i f i o h1 h2
    have na := ne h1 h2 e1
    refine ⟨a, e1, ?_, e3, e4.eq (by show upd W.L D u a = W.L a; rw [upd_ne na])⟩
    have e2' : MoR c { W with L := upd W.L D u } H a o := e2.L
    exact e2'.mono (le.refl _) fun v h => by rw [upd_ne na]; exact h
  · have h : upd W.L D u a = some v := h
    by_cases e : a = D
    · subst e; rw [upd_same] at h; cases h; exact .inr (.inr hu)
    · rw [upd_ne e] at h; exact k.ll a v h
theorem Ok.ne_pinU (k : Ok c W m H) (hD : W.L D = some u) (hu : Pd c D u) : ∀ {f i a o'}, m.get f i = some o' → o'.alive = true → W.ι f i = some a → a ≠ D := fun {f i a o'} h1 h2 h3 => by
  obtain ⟨b, e1, e2, e3, e4⟩ := k.i f i o' h1 h2
  rw [h3] at e1; cases e1
  rintro rfl
  have hd := k.l _ _ hD
  cases o' with
  | fk ks xs => obtain ⟨ob, vs, q, r⟩ := e2; rw [hd] at q; exact hu.nf (Option.some.inj q)
  | ft ks xs => obtain ⟨ob, vs, bs, q, r⟩ := e2; rw [hd] at q; exact hu.nf (Option.some.inj q)
  | lst xs => rw [e4.un rfl] at hD; cases hD
  | dk ks xs => rw [e4.un rfl] at hD; cases hD
  | dt ks xs => rw [e4.un rfl] at hD; cases hD
  | dead => cases h2
theorem Ok.repinU (k : Ok c W m H) (hD : W.L D = some u) (hu : Pd c D u) (hu' : Pd c D u') : Ok c { W with L := upd W.L D u' } m (upd H D u') := by
  have hG := k.gl D u hD
  refine ⟨fun a v h => ?_, fun a v h => ?_, fun a v h => ?_, fun f i o h1 h2 => ?_, k.inj, k.rng, k.lt, fun a v h => ?_, tabs_upd k.tb (by intro o e; rw [k.l _ _ hD] at e; cases e; exact hu.dat), k.nt⟩
  · rw [upd_ne (ne_of_none h hG)]; exact k.g a v h
  · have h : upd W.L D u' a = some v := h
    by_cases e : a = D
    · subst e; rw [upd_same] at h ⊢; exact h
    · rw [upd_ne e] at h ⊢; exact k.l a v h
  · have h : upd W.L D u' a = some v := h
    by_cases e : a = D
    · rw [e]; exact hG
    · rw [upd_ne e] at h; exact k.gl a v h
  · obtain ⟨a, e1, e2, e3, e4⟩ := k.i f i o h1 h2
    have na := k.ne_pinU hD hu h1 h2 e1
    refine ⟨a, e1, ?_, e3, e4.eq (by show upd W.L D u' a = W.L a; rw [upd_ne na])⟩
    have e2' : MoR c { W with L := upd W.L D u' } H a o := e2.L
    exact e2'.mono (le.refl _) fun v h => by rw [upd_ne na]; exact h
  · have h : upd W.L D u' a = some v := h
    by_cases e : a = D
    · subst e; rw [upd_same] at h; cases h; exact .inr (.inr hu')
    · rw [upd_ne e] at h; exact k.ll a v h
theorem Ok.dropU (k : Ok c W m H) (hD : W.L D = some u) (hu : Pd c D u) : Ok c { W with L := rm W.L D } m (rm H D) := by
  have hG := k.gl D u hD
  refine ⟨fun a v h => ?_, fun a v h => ?_, fun a v h => k.gl a v (rm_some h).2, fun f i o h1 h2 => ?_, k.inj, k.rng, k.lt, fun a v h => k.ll a v (rm_some h).2, tabs_rm k.tb (by intro o e; rw [k.l _ _ hD] at e; cases e; exact hu.dat), k.nt⟩
  · rw [rm_ne (ne_of_none h hG)]; exact k.g a v h
  · obtain ⟨e, h⟩ := rm_some h
    rw [rm_ne e]; exact k.l a v h
  · obtain ⟨a, e1, e2, e3, e4⟩ := k.i f i o h1 h2
    have na := k.ne_pinU hD hu h1 h2 e1
    refine ⟨a, e1, ?_, e3, e4.eq (by show rm W.L D a = W.L a; rw [rm_ne na])⟩
    have e2' : MoR c { W with L := rm W.L D } H a o := e2.L
    exact e2'.mono (le.refl _) fun v h => by rw [rm_ne na]; exact h
end
/-! ### {k: v for ..} -/
def dcAdd (ks : List NK) (xs : List D) (y z : D) : Option (List NK × List D) := match keyT y with
  | some kk => if kk.depth ≤ 8 ∧ ks.length < 16777216 ∧ ks.Nodup then some (putD ks xs kk z) else none
  | none => none
open Classical in
noncomputable def dcD (ck : Mem → Prop) (g : Tg) (t : EvG Bool) (fk fv : Ev) : List D → Lc → Mem → List NK → List D → Rs (List NK × List D)
  | [], _, m, ks, xs => if ck m then .ok (ks, xs) m else .stuck
  | d :: ds, ρ, m, ks, xs => if ck m then (g d ρ m).nox.bind fun ρ1 m1 => (t ρ1 m1).nox.bind fun k m2 =>
      if k = true then (fk ρ1 m2).nox.bind fun y m3 => (fv ρ1 m3).nox.bind fun z m4 => match dcAdd ks xs y z with
        | some kx => dcD ck g t fk fv ds ρ m4 kx.1 kx.2
        | none => .stuck
      else dcD ck g t fk fv ds ρ m2 ks xs else .stuck
noncomputable def dDc (fi : EvG Wk) (vs : List Nat) (g : Tg) (t : EvG Bool) (fk fv : Ev) : Ev := fun ρ m => (fi ρ m).bind fun wk m1 => (dcD wk.ck g t fk fv wk.ds (wipeD ρ vs) m1 [] []).bind fun kx m2 => newObj (.dt kx.1 kx.2) m2
section
variable {X : Cx} {c : Ct} {E : XK} {pos : Pos} {is : List Nat} {g : Tg} {fi : EvG Wk} {t : EvG Bool} {fk fv : Ev}
theorem tDc_of (hK : c.K = X.K) {vs : List Nat} (hs : ∀ i ∈ is, i ∈ vs) : ∀ (σ : L2.St) (H : Hp) (Q : VK), tD c E (dDc fi vs g t fk fv) σ H Q → tDcN c.w X.K (tI c E fi) (tTg c E0 is g) (tT c E0 t) (tD c E0 fk) (tD c E0 fv) vs σ H Q := fun σ H Q ⟨W, ρ, m, o, s, p⟩ => by
  refine ⟨W, ρ, m, o, s, Pst.imp (Pst.bind (RA := Yld c) p) fun J H1 ⟨W1, wk, m1, l1, o1, y1, p1⟩ => ?_⟩
  obtain ⟨ds, ck⟩ := wk
  dsimp only at p1
  intro D hD
  have L0 : W1.L D = none := by
    cases e : W1.L D with
    | none => rfl
    | some u => rw [o1.l _ _ e] at hD; cases hD
  have s1 : Sl c W1 (wipeD ρ vs) (wipe σ vs) := (s.mono l1).wipe vs
  have lp : le W1 { W1 with L := upd W1.L D (NDo c.w D []) } := ⟨fun _ _ h => h, fun a v h => by show upd W1.L D _ a = _; rw [upd_ne (ne_of_none h L0)]; exact h, fun _ _ _ h => h⟩
  refine ⟨fun i n H => n = ds.length - i ∧ i ≤ ds.length ∧ ∃ W2 m2 ks xs bs us, le W1 W2 ∧ W2.L D = some (NDo c.w D (nz ks bs us)) ∧ Ok c W2 m2 H ∧ KB c W2.G ks bs ∧ ks.length = us.length ∧ Rps c W2 xs us ∧
      Pst c E (Rp c) ((dcD ck g t fk fv (ds.drop i) (wipeD ρ vs) m2 ks xs).bind fun kx m => newObj (.dt kx.1 kx.2) m) W1 Q,
    ⟨_, rfl, Nat.zero_le _, { W1 with L := upd W1.L D (NDo c.w D []) }, m1, [], [], [], [], lp, upd_same, o1.pinU hD (.inr ⟨_, rfl⟩), (by simp [KB]), rfl, Rps.nil, by simpa using p1⟩, ?_⟩
  rintro i n H2 ⟨rfl, hi, W2, m2, ks, xs, bs, us, l2, hL, o2, kb2, hl2, r2, p2⟩
  have hck : ck m2 := by
    refine Classical.byContradiction fun z => ?_
    cases e : ds.drop i with
    | nil => rw [e] at p2; rw [dcD, if_neg z] at p2; exact p2
    | cons d r => rw [e] at p2; rw [dcD, if_neg z] at p2; exact p2
  obtain ⟨hgo, hstop⟩ := y1 W2 m2 H2 i l2 o2 hck
  by_cases hlt : i < ds.length
  · have hd : ds[i]? = some ds[i] := List.getElem?_eq_getElem hlt
    obtain ⟨go, hy⟩ := hgo _ hd
    refine .inr ⟨go, fun H' => i + 1 ≤ ds.length ∧ ∃ W2 m2 ks xs bs us, le W1 W2 ∧ W2.L D = some (NDo c.w D (nz ks bs us)) ∧ Ok c W2 m2 H' ∧ KB c W2.G ks bs ∧ ks.length = us.length ∧ Rps c W2 xs us ∧
      Pst c E (Rp c) ((dcD ck g t fk fv (ds.drop (i + 1)) (wipeD ρ vs) m2 ks xs).bind fun kx m => newObj (.dt kx.1 kx.2) m) W1 Q, fun H' ⟨h1, h2⟩ => ⟨ds.length - (i + 1), by omega, rfl, h1, h2⟩, fun x H3 hx => ?_⟩
    obtain ⟨W3, l3, o3, r3⟩ := hy x H3 hx
    have hL3 := l3.l _ _ hL
    rw [List.drop_eq_getElem_cons hlt, dcD, if_pos hck] at p2
    have L3 := l2.trans l3
    have p2 : Pst c E (Rp c) (((g ds[i] (wipeD ρ vs) m2).nox.bind _).bind _) W1 Q := p2
    rw [Rs.bind_assoc] at p2
    refine ⟨W3, wipeD ρ vs, m2, ds[i], o3, s1.mono L3, r3, Pst.imp (Pst.nox (Pst.bind2 p2 L3)) fun σ4 H4 ⟨W4, ρ4, m4, l4, o4, ⟨s4, d4⟩, p4⟩ => ?_⟩
    have L4 := L3.trans l4
    refine ⟨d4.wipe hs rfl, ?_⟩
    have p4 : Pst c E (Rp c) (((t ρ4 m4).nox.bind _).bind _) W1 Q := p4
    rw [Rs.bind_assoc] at p4
    refine ⟨W4, ρ4, m4, o4, s4, Pst.imp (Pst.nox (Pst.bind2 p4 L4)) fun k H5 ⟨W5, d5, m5, l5, o5, r5, p5⟩ => ?_⟩
    have e5 : d5 = k := r5
    subst e5
    have L5 := L4.trans l5
    cases d5 with
    | false =>
      rw [if_neg Bool.false_ne_true] at p5 ⊢
      exact ⟨hlt, W5, m5, ks, xs, bs, us, L5, l5.l _ _ (l4.l _ _ hL3), o5, KB.mono l5.g (KB.mono l4.g (KB.mono l3.g kb2)), hl2, (((r2.mono l3).mono l4).mono l5), p5⟩
    | true =>
      rw [if_pos rfl] at p5 ⊢
      rw [Rs.bind_assoc] at p5
      refine ⟨W5, ρ4, m5, o5, s4.mono l5, Pst.imp (Pst.nox (Pst.bind2 p5 L5)) fun y H6 ⟨W6, d6, m6, l6, o6, r6, p6⟩ => ?_⟩
      have hL6 := l6.l _ _ (l5.l _ _ (l4.l _ _ hL3))
      have L6 := L5.trans l6
      rw [Rs.bind_assoc] at p6
      refine ⟨W6, ρ4, m6, o6, (s4.mono l5).mono l6, Pst.imp (Pst.nox (Pst.bind2 p6 L6)) fun z H7 ⟨W7, d7, m7, l7, o7, r7, p7⟩ => ?_⟩
      have hL7 := l7.l _ _ hL6
      have L7 := L6.trans l7
      have kb7 : KB c W7.G ks bs := KB.mono l7.g (KB.mono l6.g (KB.mono l5.g (KB.mono l4.g (KB.mono l3.g kb2))))
      have r27 : Rps c W7 xs us := ((((r2.mono l3).mono l4).mono l5).mono l6).mono l7
      cases hA : dcAdd ks xs d6 d7 with
      | none => rw [hA] at p7; exact p7.elim
      | some kx =>
        rw [hA] at p7
        unfold dcAdd at hA
        split at hA
        case h_2 => cases hA
        rename_i kk hkk
        split at hA
        case isFalse => cases hA
        rename_i hc
        obtain ⟨hc1, hc2, hc3⟩ := hc
        cases hA
        have r6' := r6.mono l7 d6
        cases d6 with
        | tup ys =>
          have hkk : nkD (.tup ys) = some kk := hkk
          have hkn := nkD_ok _ hkk r6'
          simp only [Rp] at r6'
          obtain ⟨bb, _, rfl, _⟩ := r6'
          obtain ⟨bs', us', h1, h2, h3, h4⟩ := putD_nz hkn hc1 r7 hc3 kb7 hl2 r27
          have lz := nz_len kb7.len hl2
          refine ⟨nz ks bs us, kk, bb, rfl, o7.l _ _ hL7, hK ▸ kb7.nks o7.g, hK ▸ NVk.nv o7.g kk hkn, hc1, by rw [lz, sizeLine_eq]; exact hc2, hlt, { W7 with L := upd W7.L D (NDo c.w D (nz (putD ks xs kk d7).1 bs' us')) }, m7, (putD ks xs kk d7).1, (putD ks xs kk d7).2, bs', us', ?_, upd_same, ?_, h2, h3, ?_, p7⟩
          · exact ⟨L7.g, fun a v h => by show upd W7.L D _ a = _; rw [upd_ne (ne_of_none h L0)]; exact L7.l a v h, L7.i⟩
          · rw [h1]; exact o7.repinU hL7 (.inr ⟨_, rfl⟩) (.inr ⟨_, rfl⟩)
          · exact (Rps_L _).mp (h4 : Rps c ⟨W7.G, W7.L, W7.ι⟩ _ us')
        | _ => simp [keyT] at hkk
  · have e : i = ds.length := by omega
    refine .inl ⟨hstop (by show ds.length = i; omega), ?_⟩
    rw [List.drop_eq_nil_of_le (by omega), dcD, if_pos hck] at p2
    have p2 : Pst c E (Rp c) (newObj (.dt ks xs) m2) W1 Q := p2
    unfold newObj at p2
    split at p2
    · rename_i h
      have o' := o2.dropU hL (.inr ⟨_, rfl⟩)
      have r' : Rps c { W2 with L := rm W2.L D } xs us := (Rps_L xs).mp (r2 : Rps c ⟨W2.G, W2.L, W2.ι⟩ xs us)
      obtain ⟨W', l3, o3, r3⟩ := o'.alloc (o := .dt ks xs) (p := D) (u := NDo c.w D (nz ks bs us)) (fun z => h.1 (by rw [z]; rfl)) rm_same h.2 ⟨us, bs, upd_same, hl2, kb2, r'⟩
      have eH : upd (rm H2 D) D (NDo c.w D (nz ks bs us)) = H2 := by
        funext b
        by_cases e : b = D
        · subst e; rw [upd_same, o2.l _ _ hL]
        · rw [upd_ne e, rm_ne e]
      rw [eH] at o3
      exact p2 W' H2 (.ref D) ((l2.rm L0).trans l3) o3 r3
    · exact p2.elim
theorem pd_dc {kx vx tg iter : Expr} {ifs : List Expr} {scope : Scope} {own : List (Str × Nat)} (hu : X.A.units + 10 < cLine) (hc : X.calm = true) (hN : X.N.Nodup) (hi : PI X tg iter (tI c E fi)) (ok : blkC X.N X.env.scope scope own = true)
    (hg : ∀ (s : Shared) (H : Hp) (C : Addr) (cl : List (Str × Addr)) (fp : List Addr), PG (X.blk s H scope (compEnvC scope cl C X.env) fp) tg (tTg c E0 is g)) (ht : ∀ (s : Shared) (H : Hp) (C : Addr) (cl : List (Str × Addr)) (fp : List Addr), PTs (X.blk s H scope (compEnvC scope cl C X.env) fp) ifs (tT c E0 t))
    (hk : ∀ (s : Shared) (H : Hp) (C : Addr) (cl : List (Str × Addr)) (fp : List Addr), PE (X.blk s H scope (compEnvC scope cl C X.env) fp) kx (tD c E0 fk)) (hv : ∀ (s : Shared) (H : Hp) (C : Addr) (cl : List (Str × Addr)) (fp : List Addr), PE (X.blk s H scope (compEnvC scope cl C X.env) fp) vx (tD c E0 fv))
    (his : ∀ i ∈ is, i ∈ own.map (·.2) := by decide) (hs : ∀ x, foldedSetIterable iter X.env x = pure x := by intro _; rfl) (hw : c.w = X.w := by rfl) (hK : c.K = X.K := by rfl) :
    PE X (.DictComp kx vx [⟨tg, iter, ifs, 0⟩] scope pos) (tD c E (dDc fi (own.map (·.2)) g t fk fv)) :=
  PE.weak (pe_dcN hu hc hN hi (blkOk_by ok) hg ht hk hv hs) fun σ H Q q => hw ▸ tDc_of hK his σ H Q q
theorem psd_setDc {i : Nat} {y : Str} {py spos : Pos} {kx vx tg iter : Expr} {ifs : List Expr} {scope : Scope} {own : List (Str × Nat)} (hu : X.A.units + 10 < cLine) (hc : X.calm = true) (hN : X.N.Nodup) (hi : PI X tg iter (tI c E fi)) (ok : blkC X.N X.env.scope scope own = true)
    (hg : ∀ (s : Shared) (H : Hp) (C : Addr) (cl : List (Str × Addr)) (fp : List Addr), PG (X.blk s H scope (compEnvC scope cl C X.env) fp) tg (tTg c E0 is g)) (ht : ∀ (s : Shared) (H : Hp) (C : Addr) (cl : List (Str × Addr)) (fp : List Addr), PTs (X.blk s H scope (compEnvC scope cl C X.env) fp) ifs (tT c E0 t))
    (hk : ∀ (s : Shared) (H : Hp) (C : Addr) (cl : List (Str × Addr)) (fp : List Addr), PE (X.blk s H scope (compEnvC scope cl C X.env) fp) kx (tD c E0 fk)) (hv : ∀ (s : Shared) (H : Hp) (C : Addr) (cl : List (Str × Addr)) (fp : List Addr), PE (X.blk s H scope (compEnvC scope cl C X.env) fp) vx (tD c E0 fv))
    (hsw : swapsWith (.DictComp kx vx [⟨tg, iter, ifs, 0⟩] scope pos) (some (.Name y py)) spos.line X.env = pure true)
    (hy : X.N[i]? = some y := by rfl) (hyl : X.env.scope.names.lookup y = some .local := by rfl) (his : ∀ i ∈ is, i ∈ own.map (·.2) := by decide) (hs : ∀ x, foldedSetIterable iter X.env x = pure x := by intro _; rfl) (hw : c.w = X.w := by rfl) (hK : c.K = X.K := by rfl) :
    PS X (.Assign [.Name y py] (.DictComp kx vx [⟨tg, iter, ifs, 0⟩] scope pos) spos) (tS c E (sAsg (dDc fi (own.map (·.2)) g t fk fv) (gN i))) :=
  PS.weak (ps_setDcN hu hc hN hy hyl hsw hi (blkOk_by ok) hg ht hk hv hs) fun Dn σ H ⟨W, ρ, m, o, s, p⟩ => by
    have q : tD c E (dDc fi (own.map (·.2)) g t fk fv) σ H (fun x H1 => gName i x σ H1 Dn.nx) :=
      ⟨W, ρ, m, o, s, Pst.imp (PstS.bind p) fun x H1 ⟨W1, d, m1, l1, o1, r1, p1⟩ => p1 W1 H1 _ (le.refl _) o1 ((s.mono l1).set r1)⟩
    exact hw ▸ tDc_of hK his σ H _ q
end
/-! ### lcm -/
def lcmOk (i j : Int) : Bool := decide (i.natAbs < 2 ^ 13000 ∧ j.natAbs < 2 ^ 13000)
def rLcm : List V → Hp → VK → Prop := fun vs H Q => ∃ a b : Int, vs = [.int a, .int b] ∧ lcmOk a b = true ∧ Q (.int ((Nat.lcm a.natAbs b.natAbs : Nat) : Int)) H
theorem lcm_run {prog : Program} {w : World} {A : Around} {E : Value → Shared → Prop} {s : Shared} {Q : Value → Shared → Prop} {a b : Int} {t u : Tok} (ho : lcmOk a b = true)
    (h : Q (.int ((Nat.lcm a.natAbs b.natAbs : Nat) : Int) s.toks) { s with toks := s.toks + 1 }) : wpAny (model prog w) A (call (.builtin "math.lcm") [.int a t, .int b u]) Q E s := by
  obtain ⟨ha, hb⟩ := of_decide_eq_true ho
  have p0 : (0 : Nat) < 2 ^ 13000 := Nat.two_pow_pos _
  have h1 : (max 1 a.natAbs).log2 ≤ 12999 := PySem.W.mg_log (k := 12999) (by
    have : (1 : Nat) < 2 ^ 13000 := Nat.one_lt_two_pow (by decide)
    omega)
  have h2 : (max a.natAbs b.natAbs).log2 ≤ 12999 := PySem.W.mg_log (k := 12999) (by omega)
  have e1 : Nat.lcm 1 a.natAbs = a.natAbs := by simp
  have hsz : (((Nat.lcm a.natAbs b.natAbs : Nat) : Int)).natAbs.log2 < bitsLine := by
    rw [Int.natAbs_natCast]
    have hle : Nat.lcm a.natAbs b.natAbs ≤ a.natAbs * b.natAbs := by
      by_cases z : a.natAbs * b.natAbs = 0
      · rcases Nat.mul_eq_zero.mp z with z | z <;> rw [z] <;> simp
      · exact Nat.le_of_dvd (Nat.pos_of_ne_zero z) ⟨Nat.gcd a.natAbs b.natAbs, by rw [Nat.mul_comm (Nat.lcm _ _), Nat.gcd_mul_lcm]⟩
    have hlt : Nat.lcm a.natAbs b.natAbs < 2 ^ (25999 + 1) := by
      refine Nat.lt_of_le_of_lt hle ?_
      rw [show (25999 + 1 : Nat) = 13000 + 13000 from rfl, Nat.pow_add]
      exact Nat.mul_lt_mul'' ha hb
    have := PySem.W.mg_log hlt
    rw [bitsLine_eq]; omega
  have r := PySem.W.mg_run_lcm a t b u (by omega) (by omega) (by rw [e1]; exact hsz)
  rw [e1] at r
  exact PySem.call_function_meets PySem.W.MGF.kind_lcm PySem.W.MGF.plain_lcm PySem.W.MGF.entry_lcm (PySem.W.MGF.args_lcm _ _) r.meets h
theorem cr_lcm {X : Cx} : CallR X (.builtin "math.lcm") rLcm := by
  intro pins s σ H vs us Q I r h
  obtain ⟨a, b, rfl, ho, q⟩ := h
  obtain ⟨t, u, rfl⟩ := Vals.int2 r
  exact lcm_run ho ⟨.int _, H, I.tok _, ⟨_, rfl⟩, q⟩
def bLcm : List D → Mem → Rs D
  | [.int i, .int j], m => if lcmOk i j = true then .ok (.int ((Nat.lcm i.natAbs j.natAbs : Nat) : Int)) m else .stuck
  | _, _ => .stuck
theorem cs_lcm {c : Ct} {E : XK} : CallS c E rLcm bLcm := fun W m H xs ds Q o r p => by
  unfold bLcm at p
  split at p
  · split at p
    · rename_i hl
      obtain ⟨v, u, rfl, q, q'⟩ := rps2 r
      simp only [Rp] at q q'; subst q; subst q'
      exact ⟨_, _, rfl, hl, p W H _ (le.refl _) o (by simp [Rp])⟩
    · exact p.elim
  · exact p.elim
end LN
set_option maxHeartbeats 2000000
/-! LNrg: own classes of errors as the printed texts use them; a def's own code object; keywords with defaults -/
namespace LN
open PySem PySem.Spec PyProof.Rows L2 NdefX LamX
/-! ### a def whose code object matters -/
section
variable {P : Program} {w : World} {c : Ct} {mg : Str → Option Value} {base : Heap} {x qual : Str} {params : Arguments} {body : List Stmt} {scope : Scope} {dvs : List V} {kws : List (Str × V)} {f : Addr} {fd : FuncData} {N ps : List Str} {np nl k : Nat} {b : Bd}
theorem fnOkDC (F : FunD c.K x qual params body scope dvs kws f fd) (S : FnScope N ps scope) (hnp : ps.length = np) (hnl : N.length = nl)
    (hbody : ∀ (A : Around) (outer : List Env) (s : Shared) (H : Hp) (E : XK), Room k (A.deeper (envOfC qual scope s.heap.objs.size f fd.code)) →
      PSs (cxOf (L2.CX P w) P w c.K mg base N qual scope f fd.code A outer s H E) body (tS c E b)) : FnOk P w c.K mg base (L2.CX P w) (k + 1) f fd ps (spD c (fnD np nl b)) := by
  obtain ⟨oc, od, dV, kV, doc, pm, an, cdv, ct, osl, rfl, lk, hcd, _, _⟩ := F.ex
  exact fn_of lk hcd S (spD_len hnp) fun A outer s H vs Q E hr h => ⟨_, hbody A outer s H E hr, body_at hnl h⟩
theorem fnOkMDC (F : FunD c.K x qual params body scope dvs kws f fd) (S : FnScope N ps scope) (hnp : ps.length = np) (hnl : N.length = nl)
    (hbody : ∀ (A : Around) (outer : List Env) (s : Shared) (H : Hp) (E : XK), Room k (A.deeper (envOfC qual scope s.heap.objs.size f fd.code)) →
      PSs (cxOf (L2.CX P w) P w c.K mg base N qual scope f fd.code A outer s H E) body (tS c E b)) : FnOk P w c.K mg base (L2.CX P w) (k + 1) f fd ps (spD c (fnM np nl b)) := by
  obtain ⟨oc, od, dV, kV, doc, pm, an, cdv, ct, osl, rfl, lk, hcd, _, _⟩ := F.ex
  exact fn_of lk hcd S (spM_len hnp) fun A outer s H vs Q E hr h => ⟨_, hbody A outer s H E hr, bodyM_at hnl h⟩
end
/-! ### keywords, defaults among them -/
section
variable {K : PySem.W.Frag} {x qual : Str} {params : Arguments} {body : List Stmt} {scope : Scope} {dvs : List V} {kws : List (Str × V)} {f : Addr} {fd : FuncData} {ps : List Str}
theorem kbD_of (F : FunD K x qual params body scope dvs kws f fd) (ks : List Str) (g : {α : Type} → List α → List α → List α → List α) (hd : dvs ≠ [])
    (h : ∀ (T : Addr) (kV doc pm : Value) (an : Option Addr) (cdv ct : Value) (its us ws : List Value), (g its us ws).length = ps.length → its.length = dvs.length →
      ∃ k, bindArgs (PySem.W.fnOf x qual params body scope (.ref T) kV doc pm an cdv ct) ⟨us, ks.zip ws⟩ = seqItems? (.ref T) >>= k ∧ k (some its.toArray) = pure (ps.zip (g its us ws)))
    (hrel : ∀ {ds : List V} {its : List Value} {vs : List V} {us : List Value} {zs : List V} {ws : List Value}, Vals ds its → Vals vs us → Vals zs ws → Vals (g ds vs zs) (g its us ws)) : ∃ g' : List Value → List Value → List Value, KBinds K fd ps ks g' (g dvs) := by
  obtain ⟨oc, od, dV, kV, doc, pm, an, cdv, ct, osl, rfl, lk, hcd, hD, hK⟩ := F.ex
  rcases hD with ⟨e, _⟩ | ⟨_, T, o, its, m, rfl, lT, oT, rT⟩
  · exact absurd e hd
  · refine ⟨g its, fun s us ws X hlen => ?_, fun r1 r2 => hrel rT r1 r2⟩
    obtain ⟨k, e1, e2⟩ := h T kV doc pm an cdv ct its us ws hlen rT.length.symm
    refine BindsTo.of_looks fun M => ?_
    rw [e1]
    exact looks_items X lT oT (.of_pure e2)
end
/-! ### own classes -/
def clsIni (st : Stmt) : Stmt := match st with
  | .ClassDef _ _ _ body _ _ _ _ _ _ _ => body.getD 0 (.Pass ⟨0, 0, 0, 0⟩)
  | st => st
structure IniD where
  cls : Str
  qual : Str
  params : Arguments
  body : List Stmt
  scope : Scope
abbrev nfOf (d : IniD) (cl cc : Addr) : NF := ⟨"__init__", d.qual, d.params, d.body, d.scope, [(("__class__" : Str), cl)], cc⟩
def arOf (a : Arguments) : Arg := match a.posonlyargs ++ a.args with
  | x :: _ => x
  | [] => ⟨"", none, ⟨0, 0, 0, 0⟩⟩
def ck8 (k : NK) : Bool := decide (k.depth ≤ 8)
theorem ck8_ok {c : Ct} : CkOk c ck8 := fun k h => of_decide_eq_true h
theorem hu10_of {A : Around} {k : Nat} (hr : Room k A) : A.units + 10 < cLine := by have := hr.un; omega
structure XIni (b : XB) (P : Program) (K : PySem.W.Frag) (mg : Str → Option Value) (C : Addr) (d : IniD) (ar : Arg) where
  f : Addr
  cl : Addr
  cc : Addr
  fd : FuncData
  S : SupC b P K mg C f (nfOf d cl cc) fd ar
  iC : PySem.W.findIn K (.ref C) "__init__" = some (some (.ref f))
  tI : PySem.W.typeIn K (.ref f) = some (.type "function")
  dflt : fd.defaults = .none
theorem XIni.binds {b : XB} {P : Program} {K : PySem.W.Frag} {mg : Str → Option Value} {C : Addr} {d : IniD} {ar : Arg} {ps : List Str} (T : XIni b P K mg C d ar)
    (h : ∀ (cl : List (Str × Addr)) (kV doc pm : Value) (an : Option Addr) (cdv ct : Value) (us : List Value), us.length = ps.length → bindArgs (PySem.W.fnX "__init__" d.qual d.params d.body d.scope cl .none kV doc pm an cdv ct) ⟨us, []⟩ = pure (ps.zip us)) : Binds K T.fd ps [] := by
  obtain ⟨oc, od, dV, kV, doc, pm, ct, an, osl, efd, lk⟩ := T.S.fn
  have e := T.dflt
  refine .all fun us hl => ?_
  rw [efd] at e ⊢
  have e : dV = .none := e
  subst e
  exact h _ kV doc pm an _ ct us hl
/-- what a raising def has of the class n -/
structure XCls (P : Program) (w : World) (c : Ct) (mg : Str → Option Value) (base : Heap) (n : Str) (names : List Str) (k : Nat) (ps : List Str) : Prop where
  ex : ∃ (b : XB) (fI : Addr) (fd : FuncData), XBk b ∧ OxC b c.K (c.Γ n) ∧ PySem.W.findIn c.K (.ref (c.Γ n)) "__init__" = some (some (.ref fI)) ∧ PySem.W.typeIn c.K (.ref fI) = some (.type "function") ∧
    FnOk P w c.K mg base (L2.CX P w) k fI fd ps (spI (c.Γ n) names.length (mkF n names)) ∧ Binds c.K fd ps []
section
variable {X : Cx} {c : Ct} {E : XK} {e : Expr} {es : List Expr} {fs : EvG (List D)} {n : Str} {names ps : List Str} {k : Nat} {p pos rpos : Pos}
theorem psd_raiseC (hc : X.calm = true) (T : XCls X.prog X.w c X.mg X.base n names k ps) (hr : Room (k + 1) X.A) (hm : X.mg n = some (.ref (c.Γ n))) (ha : PA X (e :: es) (tDs c E fs)) (tk : Takes X (fun cls d _ H => E cls d H)) (hx : Passes (L2.CX X.prog X.w) X (fun _ _ _ => False)) (hK : c.K = X.K := by rfl) (hn : names.length ≤ 900 := by decide)
    (hg : Gl X n := by rfl) (hdb : (n == ("__debug__" : Str)) = false := by decide) (he : starEach (e :: es) X.env = (false, eval e X.env) :: starEach es X.env := by rfl) (hpl : (backTo pos (starEach es X.env)).any (·.1) = false := by rfl) :
    PS X (.Raise (some (.Call (.Name n p) (e :: es) [] pos)) none rpos) (tS c E (sRaise n names fs)) := by
  obtain ⟨b, fI, fd, B, ox, iC, tI, F1, hb⟩ := T.ex
  rw [hK] at ox iC tI F1 hb
  exact psd_raise hc tk hn (pmk_x (k := k) B ox iC tI F1 hr hb hx hg hm ha hdb he hpl)
theorem psd_raiseC0 (hc : X.calm = true) (T : XCls X.prog X.w c X.mg X.base n [] k ps) (hr : Room (k + 1) X.A) (hm : X.mg n = some (.ref (c.Γ n))) (tk : Takes X (fun cls d _ H => E cls d H)) (hx : Passes (L2.CX X.prog X.w) X (fun _ _ _ => False)) (hK : c.K = X.K := by rfl)
    (hg : Gl X n := by rfl) (hdb : (n == ("__debug__" : Str)) = false := by decide) :
    PS X (.Raise (some (.Call (.Name n p) [] [] pos)) none rpos) (tS c E (sRaise n [] dNil)) := by
  obtain ⟨b, fI, fd, B, ox, iC, tI, F1, hb⟩ := T.ex
  rw [hK] at ox iC tI F1 hb
  exact psd_raise (names := []) (fs := dNil) hc tk (by decide) (fun pins s σ H Q I h => (pmk_x0 (k := k) B ox iC tI F1 hr hb hx hg hm hdb) pins s σ H Q I (by
    obtain ⟨W, ρ, m, o, s, p⟩ := h
    exact p W H [] (le.refl _) o Rps.nil))
end
/-! ### a suite's word over known classes -/
def xFldN (ns : List Str) (f : Str) : Xv := fun e m => if e.n ∈ ns then xFld f e m else .stuck
theorem xFldN_fld {ns : List Str} {f : Str} : ∀ (e : Exn) (m : Mem), xFldN ns f e m ≠ .stuck → xFldN ns f e m = xFld f e m := fun e m h => by
  unfold xFldN at h ⊢
  split
  · rfl
  · rename_i z; rw [if_neg z] at h; exact absurd rfl h
/-- what the written part says of the field f of the classes ns -/
def FldOk (c : Ct) (ns : List Str) (f : Str) : Prop := ∀ n ∈ ns, XfC c.K (c.Γ n) ∧ PySem.W.findIn c.K (.ref (c.Γ n)) f = some none
theorem FldOk.hC {c : Ct} {ns : List Str} {f : Str} (h : FldOk c ns f) {cl : Value} {d : Option Addr} : ∀ (W : Wd) (e : Exn) (m : Mem) (x : Rs D), RG c W e cl d → xFldN ns f e m = x → x ≠ .stuck → ∃ C, cl = .ref C ∧ XfC c.K C ∧ PySem.W.findIn c.K (.ref C) f = some none := fun W e m x r hx hs => by
  unfold xFldN at hx
  split at hx
  · rename_i hn
    exact ⟨c.Γ e.n, r.1, h _ hn⟩
  · exact absurd hx.symm hs
/-! ### ask(lambda: e) -/
theorem pd_askF {X : Cx} {c : Ct} {E : XK} {h : Xv} {ct : Str → Option Bool} {x a told : Str} {g c0 P CS : Addr} {k : Nat} {pg : Arguments} {bg : List Stmt} {sg : Scope} {fd : FuncData} {Ng : List Str} {params : Arguments} {body : Expr} {scope : Scope} {f : Ev} {p lpos pos : Pos}
    (hm : X.mg x = some (.ref g)) (F : FunD X.K x x pg bg sg [] [] g fd) (hb : L2.Binds X.K fd [a] [])
    (Sg : FnScope Ng [a] sg) (hNg : Ng[0]? = some a) (hva : Vis sg a) (hG : ∀ cdv, GivesTo X Ng x sg g cdv bg a (X.env.qual ++ "<lambda>") (TAsk X.K c CS told h)) (hct : ∀ n v, ct n = some v → PySem.W.exmOne X.K (.ref (c.Γ n)) (.ref CS) = some v)
    (TB : TabB X.base X.mg c0 P) (hcode : X.env.code = .ref c0) (hmT : (P, X.env.qual ++ "<lambda>") ∈ c.T) (hu : ∀ p ∈ c.T, p.1 = P → p.2 = X.env.qual ++ "<lambda>") (hr : Room (k + 2) X.A) (L : LamS X.env.scope scope) (hdef : defaultsOf params X.env = ([], []))
    (hbind : ∀ (q : Str) (cl : List (Str × Addr)) (pm cv ctv : Value), bindArgs (PySem.W.kla_fn "<lambda>" q params body scope cl pm cv ctv) ⟨[], []⟩ = pure [])
    (hbody : ∀ (A : Around) (outer : List Env) (s : Shared) (H : Hp) (E : XK) (f0 c' : Addr), Room k (A.deeper (lamEnv X scope s.heap.objs.size f0 c')) → PE (lamCx X A outer s H E scope f0 c') body (tD c E f))
    (hg : Gl X x := by rfl) (hdb : (x == ("__debug__" : Str)) = false := by decide) (hd : (a == ("__debug__" : Str)) = false := by decide) (hcd : (a == ("__classdict__" : Str)) = false := by decide) :
    PE X (.Call (.Name x p) [.Lambda params body scope lpos] [] pos) (tD c E (dAsk told ct h f)) := by
  obtain ⟨oc, od, dV, kV, doc, pm, an, cdv, ct0, osl, rfl, lk, hcg, hD, hK⟩ := F.ex
  exact pd_ask hm F.kp lk hcg hb Sg hNg hva (hG cdv) hct TB hcode hmT hu hr L hdef hbind hbody hg hdb hd hcd
end LN
/-! LNhd: the end of a law: the module's facts by a hook of our own, the promise. -/
namespace LN
open PySem L2 PySem.Spec PyProof.Rows

/-! ### nothing is raised -/
theorem FnOk_nox {P : Program} {w : World} {K : PySem.W.Frag} {mg : Str → Option Value} {base : Heap} {k : Nat} {f : Addr} {fd : FuncData} {ps : List Str} {sp : Sp} (F : FnOk P w K mg base (L2.CX P w) k f fd ps sp) :
    FnOk P w K mg base CX0 k f fd ps (fun vs H Q _ => sp vs H Q fun _ _ _ => False) :=
  ⟨fun vs H Q E h => F.len vs H Q _ h, fun A outer s H args us vs Q E hr he hb hv hs => codeAny_mono (F.run A outer s H args us vs Q (fun _ _ _ => False) hr he hb hv hs) fun r s' h => by
    cases r with
    | ok fin => cases fin <;> exact h
    | error e => obtain ⟨a, B, H', cls, d, _, _, _, _, _, _, _, z⟩ := h; exact z⟩

/-! ### the hook, with a look of our own -/
def obsX (fa : List He.Fa) (fn : List He.DefD) (ex : PySem.W.Frag → Bool) (K : PySem.W.Frag) : He.AlD := ((He.obsD fa fn K).1 && ex K, (He.obsD fa fn K).2)
def SaysX (fa : List He.Fa) (fn : List He.DefD) (ex : PySem.W.Frag → Bool) (K : PySem.W.Frag) : Prop := obsX fa fn ex K = He.valD fn
def obsXG (n : Nat) (fa : List He.Fa) (fn : List He.DefD) (ex : PySem.W.Frag → Bool) (g : Addr → Option Obj) : He.AlD := obsX fa fn ex (He.frG g (He.asD g n))
def hookX (n : Nat) (fa : List He.Fa) (fn : List He.DefD) (ex : PySem.W.Frag → Bool) : PySem.W.Hook where
  α := He.AlD
  obs := fun s => obsXG n fa fn ex s.heap.get?
  val := fun _ => He.valD fn
  says := fun _ h => ∃ K : PySem.W.Frag, K.In h ∧ SaysX fa fn ex K
  of := fun _ _ e => ⟨_, He.frG_in, e⟩
  keeps := fun _ _ _ ⟨K, hK, c⟩ k => ⟨K, PySem.W.Frag.In.keeps hK k, c⟩
theorem obsXG_eq {n : Nat} {fa : List He.Fa} {fn : List He.DefD} {ex : PySem.W.Frag → Bool} {g : Addr → Option Obj} {s : Shared} (h : ∀ a, g a = s.heap.get? a) : obsXG n fa fn ex g = (hookX n fa fn ex).obs s := by
  have e : g = s.heap.get? := funext h
  rw [e] <;> rfl
theorem SaysX.d {fa : List He.Fa} {fn : List He.DefD} {ex : PySem.W.Frag → Bool} {K : PySem.W.Frag} (c : SaysX fa fn ex K) : He.SaysD fa fn K ∧ ex K = true := by
  have c' : obsX fa fn ex K = He.valD fn := c
  have h1 : ((He.obsD fa fn K).1 && ex K) = true := congrArg (fun z : He.AlD => z.1) c'
  have h2 : (obsX fa fn ex K).2 = (He.valD fn).2 := congrArg (fun z : He.AlD => z.2) c'
  obtain ⟨h3, h4⟩ := Bool.and_eq_true_iff.mp h1
  refine ⟨?_, h4⟩
  unfold He.SaysD
  have h5 : (He.obsD fa fn K).1 = (He.valD fn).1 := h3
  exact Prod.ext h5 h2
/-! ### what the module holds: numbers, texts, tuples of such -/
def litB (K : PySem.W.Frag) : Nat → D → Value → Bool
  | _, .non, .none => true
  | _, .bl b, .bool c => b == c
  | _, .int i, .int j _ => decide (i = j)
  | _, .str x, .str y _ => decide (x = y)
  | n + 1, .tup xs, .ref a => match K.lookup a with
    | some ⟨.type t, _, .seq its _, _⟩ => decide (t = "tuple") && (decide (its.size ≤ sizeLine) && (decide (xs.length = its.toList.length) && (xs.zip its.toList).all fun p => litB K n p.1 p.2))
    | _ => false
  | _, _, _ => false
/-- the model's side of a value -/
def vOf : Value → V
  | .none => .non
  | .bool b => .bl b
  | .int i _ => .int i
  | .str x _ => .str x
  | .ref a => .ref a
  | _ => .non
/-- the tuples that a constant is made of -/
def litT (K : PySem.W.Frag) : Nat → Value → List (List V)
  | n + 1, .ref a => match K.lookup a with
    | some ⟨_, _, .seq its _, _⟩ => its.toList.map vOf :: its.toList.flatMap (litT K n)
    | _ => []
  | _, _ => []
theorem litB_rel {K : PySem.W.Frag} {n : Nat} {d : D} {v : Value} (h : litB K n d v = true) : RelV (vOf v) v := by
  cases v with
  | none => rfl
  | bool b => rfl
  | int i t => exact ⟨t, rfl⟩
  | str x t => exact ⟨t, rfl⟩
  | ref a => rfl
  | _ => cases d <;> cases n <;> simp [litB] at h
theorem litB_atom {c : Ct} {n : Nat} {d : D} {v : Value} (h : litB c.K n d v = true) (ht : ∀ xs, d ≠ .tup xs) (W : Wd) : Rp c W d (vOf v) := by
  cases n <;> cases d <;> cases v <;> first
    | exact absurd rfl (ht _)
    | (simp [litB] at h; done)
    | (simp [litB] at h; simp [Rp, vOf, h]; done)
    | (simp [Rp, vOf]; done)
theorem litB_ok {c : Ct} : ∀ (n : Nat) {d : D} {v : Value}, litB c.K n d v = true → (∀ vs ∈ litT c.K n v, vs ∈ c.cs) → ∀ W, Rp c W d (vOf v) := by
  intro n
  induction n with
  | zero =>
    intro d v h _ W
    refine litB_atom h (fun xs e => ?_) W
    subst e
    cases v <;> simp [litB] at h
  | succ n ih =>
    intro d v h hc W
    by_cases hd : ∃ xs, d = .tup xs
    · obtain ⟨xs, rfl⟩ := hd
      cases v with
      | ref a =>
        unfold litB at h
        unfold litT at hc
        cases e : c.K.lookup a with
        | none => rw [e] at h; cases h
        | some o =>
          obtain ⟨oc, od, dt, osl⟩ := o
          rw [e] at h hc
          cases oc with
          | type t =>
            cases dt with
            | seq its k =>
              simp only [Bool.and_eq_true, decide_eq_true_eq, List.all_eq_true] at h
              obtain ⟨h1, h2, h3, h4⟩ := h
              simp only [List.mem_cons, List.mem_flatMap] at hc
              simp only [Rp, vOf]
              refine ⟨a, its.toList.map vOf, rfl, .inr ⟨hc _ (.inl rfl), _, its, k, e, by rw [h1], rfl, h2, ?_⟩, ?_⟩
              · have : ∀ (ys : List Value) (xs : List D), xs.length = ys.length → (∀ p ∈ xs.zip ys, litB c.K n p.1 p.2 = true) → Vals (ys.map vOf) ys := by
                  intro ys
                  induction ys with
                  | nil => intro xs _ _; exact .nil
                  | cons y ys ih =>
                    intro xs hl hp
                    cases xs with
                    | nil => cases hl
                    | cons x xs => exact .cons (litB_rel (hp (x, y) (by simp))) (ih xs (by simpa using hl) fun p hq => hp p (by simp [hq]))
                exact this _ _ h3 h4
              · refine Rps.of (by simp at h3; simp [h3]) fun i d v q1 q2 => ?_
                rw [List.getElem?_map] at q2
                cases e2 : its.toList[i]? with
                | none => rw [e2] at q2; cases q2
                | some y =>
                  rw [e2] at q2; cases q2
                  have hz : (d, y) ∈ xs.zip its.toList := by
                    refine List.mem_of_getElem? (i := i) ?_
                    rw [List.getElem?_zip_eq_some]
                    exact ⟨q1, e2⟩
                  exact ih (h4 (d, y) hz) (fun vs hv => hc vs (.inr ⟨y, List.mem_of_getElem? e2, hv⟩)) W
            | _ => cases h
          | _ => cases dt <;> cases h
      | _ => simp [litB] at h
    · exact litB_atom h (fun xs e => hd ⟨xs, e⟩) W
/-- a constant of the module -/
def conX (K : PySem.W.Frag) (x : Str) (n : Nat) (d : D) (cs : List (List V)) : Bool := match PySem.W.nsIn K mainGlobals x with
  | some (some v) => litB K n d v && (litT K n v).all fun vs => decide (vs ∈ cs)
  | _ => false
theorem conX_ok {c : Ct} {h : Heap} {mg : Str → Option Value} (X : c.K.In h) (G : h.Ns mainGlobals mg) {x : Str} {n : Nat} {d : D} (e : conX c.K x n d c.cs = true) : ∃ v, mg x = some v ∧ RelV (vOf v) v ∧ ∀ W, Rp c W d (vOf v) := by
  unfold conX at e
  cases q : PySem.W.nsIn c.K mainGlobals x with
  | none => rw [q] at e; cases e
  | some o =>
    rw [q] at e
    cases o with
    | none => cases e
    | some v =>
      simp only [Bool.and_eq_true, List.all_eq_true, decide_eq_true_eq] at e
      exact ⟨v, PySem.W.mg_of X G q, litB_rel e.1, litB_ok n e.1 e.2⟩
def bltX (K : PySem.W.Frag) (x : Str) (id : String) : Bool := He.eqO (PySem.W.nsIn K mainGlobals x) (some (some (.builtin id)))
theorem bltX_ok {K : PySem.W.Frag} {h : Heap} {mg : Str → Option Value} (X : K.In h) (G : h.Ns mainGlobals mg) {x : Str} {id : String} (e : bltX K x id = true) : mg x = some (.builtin id) := PySem.W.mg_of X G (He.eqO_ok e)
/-! ### the promise -/
/-- all but the tables -/
def noTb (H : Hp) : Hp := fun a => match H a with
  | some (.tbl _) => none
  | o => o
theorem noTb_some {H : Hp} {a : Addr} {o : HO} (h : noTb H a = some o) : H a = some o ∧ ∀ ps, o ≠ .tbl ps := by
  unfold noTb at h
  split at h
  · cases h
  · rename_i o' hn
    exact ⟨h, fun ps e => hn ps (by rw [h, e])⟩
theorem noTb_of {H : Hp} {a : Addr} {o : HO} (h : H a = some o) (n : ∀ ps, o ≠ .tbl ps) : noTb H a = some o := by
  unfold noTb
  split
  · rename_i ps e
    rw [h] at e; cases e
    exact absurd rfl (n ps)
  · exact h
theorem ok_start {c : Ct} {H : Hp} (hT : LamX.Tabs c.T H) : Ok c ⟨noTb H, fun _ => none, fun _ _ => none⟩ [] H := by
  constructor
  · exact fun a o h => (noTb_some h).1
  · intro a o h; cases h
  · intro a o h; cases h
  · intro f i o h; simp [Mem.get] at h
  · intro f i f' i' o o' a h; simp [Mem.get] at h
  · intro f i a h; cases h
  · intro f i o h; simp [Mem.get] at h
  · intro a o h; cases h
  · exact hT
  · intro a ps h
    exact (noTb_some h).2 ps rfl
theorem law_promiseT {c : Ct} {fn : Fn} (h : ∀ xs : List Int, ∃ m : Mem, fn [.scr xs] [] = .ok (.bl true) m) (H : Hp) (a : Addr) (ns : List Int) (hT : LamX.Tabs c.T H) (hS : SqL c.K H a (ns.map V.int)) :
    spD c fn [.ref a] H (fun v _ => v = .bl true) fun _ _ _ => False := by
  obtain ⟨m, e⟩ := h ns
  refine ⟨⟨noTb H, fun _ => none, fun _ _ => none⟩, [.scr ns], [], ok_start hT, Rps.one ?_, ?_⟩
  · simp only [Rp]
    refine ⟨a, rfl, ?_⟩
    rcases hS with (h1 | ⟨o, h1⟩) | h1
    · exact .inl (.inl (noTb_of h1 dat_lst.1))
    · exact .inl (.inr ⟨o, noTb_of h1 dat_frz.1⟩)
    · exact .inr h1
  · rw [e]
    intro W' H' v l o' r
    simpa [Rp] using r
theorem law_promise {c : Ct} {fn : Fn} (h : ∀ xs : List Int, ∃ m : Mem, fn [.scr xs] [] = .ok (.bl true) m) (H : Hp) (a : Addr) (ns : List Int) (hS : SqL c.K H a (ns.map V.int)) (hT : c.T = [] := by rfl) :
    spD c fn [.ref a] H (fun v _ => v = .bl true) fun _ _ _ => False :=
  law_promiseT h H a ns (by rw [hT]; intro p hp; cases hp) hS
end LN
/-! LNhe: a table of the module, from what is told of it. -/
namespace LN
open PySem L2 PySem.Spec PyProof.Rows
theorem lkT_mem : ∀ {kvs : List (Str × D)} {k : Str} {d : D}, lkT kvs k = some d → (k, d) ∈ kvs
  | p :: r, k, d, h => by
    unfold lkT at h
    by_cases e : p.1 = k
    · rw [if_pos e] at h
      cases h
      rw [← e]
      simp
    · rw [if_neg e] at h
      exact List.mem_cons_of_mem _ (lkT_mem h)
theorem lkT_none : ∀ {kvs : List (Str × D)} {k : Str}, lkT kvs k = none → k ∉ kvs.map (·.1)
  | [], _, _ => by simp
  | p :: r, k, h => by
    unfold lkT at h
    by_cases e : p.1 = k
    · rw [if_pos e] at h; cases h
    · rw [if_neg e] at h
      have := lkT_none h
      simp only [List.map_cons, List.mem_cons, not_or]
      exact ⟨fun z => e z.symm, this⟩
theorem keys_of {P : Params} : ∀ {l : List DictEntry} {ks : List Str}, l.map He.keyOf = He.keysIn P ks → ∀ e ∈ l, ∃ x t, e.key = .str x t ∧ x ∈ ks
  | [], _, _, e, he => by simp at he
  | e0 :: r, [], h, _, _ => by cases h
  | e0 :: r, k :: ks, h, e, he => by
    have h1 : He.keyOf e0 :: r.map He.keyOf = some (k, PyData.keyHash P k) :: He.keysIn P ks := h
    injection h1 with h2 h3
    rcases List.mem_cons.mp he with z | z
    · subst z
      unfold He.keyOf at h2
      split at h2
      · rename_i x t q
        have h4 := Option.some.inj h2
        obtain ⟨h5, h6⟩ := Prod.mk.inj h4
        exact ⟨x, t, q, by rw [h5]; simp⟩
      · cases h2
    · obtain ⟨x, t, h4, h5⟩ := keys_of h3 e z
      exact ⟨x, t, h4, by simp [h5]⟩
theorem ktab_of {c : Ct} {w : World} {a : Addr} {kvs : List (Str × D)} (h : He.dicW c.K a = some (He.keysIn w.params (kvs.map (·.1)))) (hv : ∀ p ∈ kvs, ∃ u v, PySem.W.nsIn c.K a p.1 = some (some u) ∧ RelV v u ∧ ∀ W, Rp c W p.2 v) : KTab c w a kvs := by
  obtain ⟨es, n, D⟩ := He.dicW_ok h
  refine ⟨⟨es, n, D⟩, fun k => ?_⟩
  cases hk : lkT kvs k with
  | some d =>
    obtain ⟨u, v, h1, h2, h3⟩ := hv _ (lkT_mem hk)
    exact ⟨some u, h1, .inl ⟨u, v, d, rfl, rfl, h2, h3⟩⟩
  | none =>
    have hn := lkT_none hk
    refine ⟨none, ?_, .inr ⟨rfl, rfl⟩⟩
    have hm : es.toList.map He.keyOf = He.keysIn w.params (kvs.map (·.1)) := by
      unfold He.dicW at h
      rw [D.at_] at h
      simpa [D.low] using h
    have key := keys_of hm
    unfold PySem.W.nsIn
    rw [D.at_]
    dsimp only
    have h1 : es.toList.find? (fun e => e.key.isStr k) = none := List.find?_eq_none.mpr fun e he => by
      obtain ⟨x, t, q, hx⟩ := key e he
      rw [q]
      have hne : x ≠ k := fun z => hn (z ▸ hx)
      simpa [Value.isStr] using hne
    have h2 : es.toList.any (·.refKey) = false := List.any_eq_false.mpr fun e he => by
      obtain ⟨x, t, q, hx⟩ := key e he
      simp [DictEntry.refKey, q]
    rw [h1]
    dsimp only
    rw [h2]
    rfl
end LN
/-! LNhf: heads with tables of text keys. -/
namespace LN
open PySem L2 PySem.Spec PyProof.Rows
/-- the values of a table -/
def tabX (K : PySem.W.Frag) (a : Addr) (kvs : List (Str × D)) (cs : List (List V)) : Bool := kvs.all fun q => match PySem.W.nsIn K a q.1 with
  | some (some u) => litB K 3 q.2 u && (litT K 3 u).all fun vs => decide (vs ∈ cs)
  | _ => false
theorem tabX_ok {c : Ct} {a : Addr} {kvs : List (Str × D)} (h : tabX c.K a kvs c.cs = true) : ∀ p ∈ kvs, ∃ u v, PySem.W.nsIn c.K a p.1 = some (some u) ∧ RelV v u ∧ ∀ W, Rp c W p.2 v := fun p hp => by
  have h2 := List.all_eq_true.mp h p hp
  cases e : PySem.W.nsIn c.K a p.1 with
  | none => rw [e] at h2; cases h2
  | some r =>
    rw [e] at h2
    cases r with
    | none => cases h2
    | some u =>
      simp only [Bool.and_eq_true, List.all_eq_true, decide_eq_true_eq] at h2
      exact ⟨u, vOf u, rfl, litB_rel h2.1, litB_ok 3 h2.1 h2.2⟩
theorem tab_dic {fa : List He.Fa} {fn : List He.DefD} {ts : List He.Tab} {w : World} {K : PySem.W.Frag} (c : He.SaysT fa fn ts w K) (i : Nat) {t : He.Tab} (h : ts[i]? = some t := by rfl) : He.dicW K (t.1 K) = some (He.keysIn w.params t.2) := by
  have e : ts.map (fun t => He.dicW K (t.1 K)) = ts.map fun t => some (He.keysIn w.params t.2) := congrArg (fun z : He.AlT => z.2) c
  have e2 : (ts.map fun t => He.dicW K (t.1 K))[i]? = (ts.map fun t => some (He.keysIn w.params t.2))[i]? := by rw [e]
  rw [List.getElem?_map, List.getElem?_map, h] at e2
  exact Option.some.inj e2
def wB (w : World) (b : Bool) : World := { w with params := { w.params with followText := fun s => match decide (s = "special-get-raises") with
  | true => b
  | false => w.params.followText s } }
theorem wB_eq (w : World) : w = wB w (w.params.followText "special-get-raises") := by
  obtain ⟨dr, p⟩ := w
  unfold wB
  congr 1
  cases p
  dsimp only
  congr 1
  funext s
  by_cases h : s = "special-get-raises"
  · rw [decide_eq_true h, h]
  · rw [decide_eq_false h]
end LN
set_option maxHeartbeats 2000000
/-! LNhi: the head's look with tables of code objects and own classes of errors. -/
namespace LN
open PySem PySem.Spec PyProof.Rows L2 NdefX LamX
/-! ### a class's own __init__ -/
abbrev FnWI : Type := Option (Str × Str × Arguments × FuncBody × Scope × Addr × List Str × Addr)
def fnWI (K : PySem.W.Frag) (C : Str) : FnWI := match K.lookup (He.ma K (He.ga K C) "__init__") with
  | some ⟨_, _, .func fd, _⟩ => some (fd.name, fd.qualname, fd.params, fd.body, fd.scope, fd.globals, fd.closure.map (·.1), fd.builtins)
  | _ => none
def IniD.val (d : IniD) : FnWI := some ("__init__", d.qual, d.params, .stmts d.body, d.scope, mainGlobals, [("__class__" : Str)], builtinsNs)
def iniB (file : Str) (K : PySem.W.Frag) (C : Str) : Bool := match K.lookup (He.ma K (He.ga K C) "__init__") with
  | some ⟨_, _, .func fd, _⟩ => (match fd.closure, fd.code, fd.defaults with
    | [(_, cl)], .ref c, .none => PySem.W.codeIn K (.ref c) fd.qualname && ((match K.lookup cl with
      | some ⟨_, _, .cell (some (.ref D)), _⟩ => decide (D = He.ga K C)
      | _ => false) && (match K.lookup c with
      | some ⟨_, _, .fields vs, _⟩ => (match (vs[2]? : Option Value) with
        | some (.str fi _) => file == fi
        | _ => false)
      | _ => false))
    | _, _, _ => false)
  | _ => false
def clsB (file : Str) (b : XB) (K : PySem.W.Frag) (C : Str) (names : List Str) : Bool :=
  He.eqO (PySem.W.nsIn K mainGlobals C) (some (some (.ref (He.ga K C)))) && (oxB b K (He.ga K C) && (He.eqO (PySem.W.findIn K (.ref (He.ga K C)) "__init__") (some (some (.ref (He.ma K (He.ga K C) "__init__")))) &&
  (decide (PySem.W.typeIn K (.ref (He.ma K (He.ga K C) "__init__")) = some (.type "function")) && ((names.all fun n => decide (PySem.W.takerIn K (He.ga K C) n = some none) && He.eqO (PySem.W.findIn K (.ref (He.ga K C)) n) (some none)) && iniB file K C))))
structure ClsOk (file : Str) (b : XB) (K : PySem.W.Frag) (C : Str) (names : List Str) : Prop where
  glo : PySem.W.nsIn K mainGlobals C = some (some (.ref (He.ga K C)))
  ox : OxC b K (He.ga K C)
  iC : PySem.W.findIn K (.ref (He.ga K C)) "__init__" = some (some (.ref (He.ma K (He.ga K C) "__init__")))
  tI : PySem.W.typeIn K (.ref (He.ma K (He.ga K C) "__init__")) = some (.type "function")
  tk : ∀ n ∈ names, PySem.W.takerIn K (He.ga K C) n = some none
  fi : ∀ n ∈ names, PySem.W.findIn K (.ref (He.ga K C)) n = some none
  ini : iniB file K C = true
theorem clsB_ok {file : Str} {b : XB} {K : PySem.W.Frag} {C : Str} {names : List Str} (h : clsB file b K C names = true) : ClsOk file b K C names := by
  unfold clsB at h
  simp only [Bool.and_eq_true, List.all_eq_true, decide_eq_true_eq] at h
  obtain ⟨h1, h2, h3, h4, h5, h6⟩ := h
  exact ⟨He.eqO_ok h1, oxB_ok h2, He.eqO_ok h3, h4, fun n hn => (h5 n hn).1, fun n hn => He.eqO_ok (h5 n hn).2, h6⟩
theorem ClsOk.xini {P : Program} {b : XB} {K : PySem.W.Frag} {mg : Str → Option Value} {d : IniD} {names : List Str} (c : ClsOk (P.main.file : Str) b K d.cls names) (e : fnWI K d.cls = d.val)
    (top : (P.main.scope.names.lookup ("super" : Str)).isSome = false) (mgS : mg "super" = none) (first : (d.params.posonlyargs ++ d.params.args).head? = some (arOf d.params)) : Nonempty (XIni b P K mg (He.ga K d.cls) d (arOf d.params)) := by
  have hi := c.ini
  unfold iniB at hi
  unfold fnWI at e
  cases q : K.lookup (He.ma K (He.ga K d.cls) "__init__") with
  | none => rw [q] at hi; cases hi
  | some o =>
    obtain ⟨oc, od, dt, osl⟩ := o
    rw [q] at hi e
    cases dt with
    | func fd =>
      dsimp only at hi e
      unfold IniD.val at e
      injection e with e
      obtain ⟨name, qualname, params, body, scope, globals, closure, defaults, kwdefaults, doc, pm, ann, code, ct, bts⟩ := fd
      simp only [Prod.mk.injEq] at e hi
      obtain ⟨e1, e2, e3, e4, e5, e6, e7, e8⟩ := e
      subst e1 e2 e3 e4 e5 e6 e8
      split at hi
      · rename_i nme cl cc
        simp only [Bool.and_eq_true] at hi
        obtain ⟨h1, h2, h3⟩ := hi
        simp only [List.map_cons, List.map_nil, List.cons.injEq, and_true] at e7
        subst e7
        refine ⟨⟨_, cl, cc, _, ⟨c.ox, ⟨oc, od, .none, kwdefaults, doc, pm, ct, ann, osl, rfl, q⟩, ?_, h1, ?_, top, mgS, first⟩, c.iC, c.tI, rfl⟩⟩
        · split at h2
          · rename_i D sl ho
            rw [of_decide_eq_true h2] at ho
            exact ⟨cl, _, rfl, ho, rfl⟩
          · cases h2
        · split at h3
          · rename_i vs sl ho
            split at h3
            · rename_i fi tf hf
              exact ⟨_, vs, fi, tf, ho, rfl, hf, h3⟩
            · cases h3
          · cases h3
      · cases hi
    | _ => cases hi
/-! ### the hook -/
abbrev AlZ : Type := He.AlX × List FnWI
/-- the interpreter's own namespace, too -/
def asZ (g : Addr → Option Obj) (n : Nat) : List Addr := PySem.cStatics :: He.asD g n
def obsZ (n : Nat) (fa : List He.Fa) (fn : List He.DefD) (ts : List He.Tab) (tf : List He.Defn) (ins : List IniD) (ex : PySem.W.Frag → Bool) (g : Addr → Option Obj) : AlZ :=
  ((He.obsT fa fn ts (He.frT g (asZ g n)), ex (He.frT g (asZ g n)) && He.tabsB g tf (He.frT g (asZ g n))), ins.map fun d => fnWI (He.frT g (asZ g n)) d.cls)
def valZ (fn : List He.DefD) (ts : List He.Tab) (ins : List IniD) (w : World) : AlZ := (He.valX fn ts w, ins.map IniD.val)
structure SaysZ (fa : List He.Fa) (fn : List He.DefD) (ts : List He.Tab) (tf : List He.Defn) (ins : List IniD) (ex : PySem.W.Frag → Bool) (w : World) (h : Heap) (K : PySem.W.Frag) : Prop where
  x : He.SaysX fa fn ts tf ex w h K
  i : ins.map (fun d => fnWI K d.cls) = ins.map IniD.val
theorem saysZ_of {as : List Addr} {fa : List He.Fa} {fn : List He.DefD} {ts : List He.Tab} {tf : List He.Defn} {ex : PySem.W.Frag → Bool} {w : World} {h : Heap} (e1 : He.obsT fa fn ts (He.frT h.get? as) = He.valT fn ts w) (e2 : (ex (He.frT h.get? as) && He.tabsB h.get? tf (He.frT h.get? as)) = true) : He.SaysX fa fn ts tf ex w h (He.frT h.get? as) := by
  obtain ⟨h1, h2⟩ := He.ba e2
  have key : ∀ p ∈ tf, PySem.W.codeHdIn (He.frT h.get? as) (He.cT (He.frT h.get? as) p).1 (He.cT (He.frT h.get? as) p).2 = true ∧ ∃ o, h.get? (He.cT (He.frT h.get? as) p).2 = some o ∧ He.emptyTab o = true := fun p hp => by
    obtain ⟨h3, h4⟩ := He.ba (List.all_eq_true.mp h2 p hp)
    refine ⟨h3, ?_⟩
    cases q : h.get? (He.cT (He.frT h.get? as) p).2 with
    | none => rw [q] at h4; cases h4
    | some o => rw [q] at h4; exact ⟨o, rfl, h4⟩
  refine ⟨e1, h1, fun p hp => (key p hp).1, fun p hp => ?_, fun p hp => ?_⟩
  · obtain ⟨_, o, q, z⟩ := key p hp
    exact He.frT_none q z
  · obtain ⟨_, o, q, z⟩ := key p hp
    rw [q, He.emptyTab_eq z]
def hookZ (n : Nat) (fa : List He.Fa) (fn : List He.DefD) (ts : List He.Tab) (tf : List He.Defn) (ins : List IniD) (ex : PySem.W.Frag → Bool) : PySem.W.Hook where
  α := AlZ
  obs := fun s => obsZ n fa fn ts tf ins ex s.heap.get?
  val := fun w => valZ fn ts ins w
  says := fun w h => ∃ K : PySem.W.Frag, K.In h ∧ SaysZ fa fn ts tf ins ex w h K
  of := fun _ _ e => ⟨_, He.frT_in, ⟨saysZ_of (congrArg (fun z : AlZ => z.1.1) e) (congrArg (fun z : AlZ => z.1.2) e), congrArg (fun z : AlZ => z.2) e⟩⟩
  keeps := fun _ _ _ ⟨K, hK, c⟩ k => ⟨K, PySem.W.Frag.In.keeps hK k, ⟨⟨c.x.t, c.x.more, c.x.hd, c.x.out, fun p hp => k _ _ (c.x.empty p hp)⟩, c.i⟩⟩
theorem obsZ_eq {n : Nat} {fa : List He.Fa} {fn : List He.DefD} {ts : List He.Tab} {tf : List He.Defn} {ins : List IniD} {ex : PySem.W.Frag → Bool} {g : Addr → Option Obj} {s : Shared} (h : ∀ a, g a = s.heap.get? a) : obsZ n fa fn ts tf ins ex g = (hookZ n fa fn ts tf ins ex).obs s := by
  have e : g = s.heap.get? := funext h
  rw [e] <;> rfl
theorem map_at {α β : Type} {f g : α → β} {l : List α} (h : l.map f = l.map g) (i : Nat) {d : α} (hd : l[i]? = some d) : f d = g d := by
  have e : (l.map f)[i]? = (l.map g)[i]? := by rw [h]
  rw [List.getElem?_map, List.getElem?_map, hd] at e
  exact Option.some.inj e
/-! ### a def's own code object -/
theorem code_of {K : PySem.W.Frag} {p : Str × Option Str} {x qual : Str} {params : Arguments} {body : List Stmt} {scope : Scope} {dvs : List V} {kws : List (Str × V)} {fd : FuncData} (F : FunD K x qual params body scope dvs kws (He.fAd K p) fd) : fd.code = .ref (He.codeOf K p) := by
  obtain ⟨oc, od, dV, kV, doc, pm, an, cdv, ct, osl, rfl, lk, hcd, _, _⟩ := F.ex
  obtain ⟨c, rfl⟩ := He.codeIn_ref hcd
  exact congrArg Value.ref (He.codeOf_eq lk rfl).symm
/-- the tables' places, each with its name -/
def tabL (K : PySem.W.Frag) (tq : List (He.Defn × Str)) : List (Addr × Str) := tq.map fun p => ((He.cT K p.1).2, p.2)
def tabNd (K : PySem.W.Frag) (tq : List (He.Defn × Str)) : Bool := decide (tq.map fun p => (He.cT K p.1).2).Nodup
theorem tabL_mem {K : PySem.W.Frag} {tq : List (He.Defn × Str)} {i : Nat} {p : He.Defn × Str} (h : tq[i]? = some p) : ((He.cT K p.1).2, p.2) ∈ tabL K tq := List.mem_map.mpr ⟨p, List.mem_of_getElem? h, rfl⟩
theorem tabL_one {K : PySem.W.Frag} : ∀ {tq : List (He.Defn × Str)}, (tq.map fun p => (He.cT K p.1).2).Nodup → ∀ {p : He.Defn × Str}, p ∈ tq → ∀ q ∈ tabL K tq, q.1 = (He.cT K p.1).2 → q.2 = p.2
  | [], _, _, hp, _, _, _ => by cases hp
  | t :: tq, nd, p, hp, q, hq, e => by
    simp only [List.map_cons, List.nodup_cons] at nd
    simp only [tabL, List.map_cons, List.mem_cons] at hq
    rcases hq with rfl | hq
    · rcases List.mem_cons.mp hp with rfl | hp
      · rfl
      · exact absurd (List.mem_map.mpr ⟨p, hp, e.symm⟩) nd.1
    · rcases List.mem_cons.mp hp with rfl | hp
      · obtain ⟨t', ht', rfl⟩ := List.mem_map.mp hq
        exact absurd (List.mem_map.mpr ⟨t', ht', e⟩) nd.1
      · exact tabL_one nd.2 hp q hq e
theorem tabL_tabs {K : PySem.W.Frag} {tq : List (He.Defn × Str)} {H : Hp} (h : ∀ p ∈ (tq.map (·.1)).map (He.cT K), H p.2 = some (.tbl #[])) : Tabs (tabL K tq) H := fun p hp => by
  obtain ⟨t, ht, rfl⟩ := List.mem_map.mp hp
  exact TabS.nil (h _ (List.mem_map.mpr ⟨t.1, List.mem_map.mpr ⟨t, ht, rfl⟩, rfl⟩))
end LN
/-! what the defs of the law compute (printed by gen2.py) -/
namespace P_k01
open PySem L2 PySem.Spec PyProof.Rows LN
abbrev ck : NK → Bool := ck8
def c_ZERO : D := .tup [.int 0, .int 1]
def nm_code : List Str := ["BadValue"]
def nm_value : List Str := ["BadValue"]
def h_law_ask : Xv := (xLst (xCons (xFldN nm_code "code") (xCons (xIf (xIs "BadValue") (xFldN nm_value "value") (xK .non)) xNil)))
def ct_law_ask (n : Str) : Option Bool := if n ∈ (["BadValue"] : List Str) then some true else none
def g_k0 {α : Type} : List α → List α → List α → List α
  | [d0], [], [z0] => [z0, d0]
  | _, _, _ => []
def g_k1 {α : Type} : List α → List α → List α → List α
  | [d0], [], [z0, z1] => [z1, z0]
  | _, _, _ => []
def g_k2 {α : Type} : List α → List α → List α
  | [], [z0, z1] => [z1, z0]
  | _, _ => []
def g_k3 {α : Type} : List α → List α → List α
  | [], [z0, z1] => [z1, z0]
  | _, _ => []
def g_k4 {α : Type} : List α → List α → List α
  | [], [z0, z1] => [z0, z1]
  | _, _ => []
def g_k5 {α : Type} : List α → List α → List α
  | [], [z0, z1] => [z1, z0]
  | _, _ => []
def g_k6 {α : Type} : List α → List α → List α
  | [], [z0, z1] => [z1, z0]
  | _, _ => []
def g_k7 {α : Type} : List α → List α → List α
  | [], [z0] => [z0]
  | _, _ => []
def g_k8 {α : Type} : List α → List α → List α
  | [], [z0] => [z0]
  | _, _ => []
def g_k9 {α : Type} : List α → List α → List α
  | [], [z0] => [z0]
  | _, _ => []
section
noncomputable def b_below : Bd :=
  (sRet (dOp (gCmp fun i j => decide (i < j)) (dOp gMul (dOp (gIxT ck) (dV 0) (dK (.int 0))) (dOp (gIxT ck) (dV 1) (dK (.int 1)))) (dOp gMul (dOp (gIxT ck) (dV 1) (dK (.int 0))) (dOp (gIxT ck) (dV 0) (dK (.int 1))))))
noncomputable def f_below : Fn := fnD 2 2 b_below
noncomputable def b_floor_of : Bd :=
  (sRet (dOp gFdiv (dOp (gIxT ck) (dV 0) (dK (.int 0))) (dOp (gIxT ck) (dV 0) (dK (.int 1)))))
noncomputable def f_floor_of : Fn := fnD 1 1 b_floor_of
noncomputable def k_ascending_1 : Ev :=
  (dV 3)
@[simp] theorem k_ascending_1_run (r : Lc) (m : Mem) : k_ascending_1 r m = (dV 3) r m := rfl
noncomputable def v_ascending_1 : Ev :=
  (dK (.bl true))
@[simp] theorem v_ascending_1_run (r : Lc) (m : Mem) : v_ascending_1 r m = (dK (.bl true)) r m := rfl
noncomputable def w_ascending_2 : Bd :=
  (sAsg (dB bLcm (dCons (dV 2) (dCons (dOp (gIxT ck) (dV 3) (dK (.int 1))) dNil))) (gN 2))
@[simp] theorem w_ascending_2_run (r : Lc) (m : Mem) : w_ascending_2 r m = (sAsg (dB bLcm (dCons (dV 2) (dCons (dOp (gIxT ck) (dV 3) (dK (.int 1))) dNil))) (gN 2)) r m := rfl
noncomputable def b_ascending : Bd :=
  (sSeq (sAsg (dDc (dWalk (dV 0)) [3] (gN 3) tAll k_ascending_1 v_ascending_1) (gN 1))
  (sSeq (sAsg (dK (.int 1)) (gN 2))
  (sSeq (lockV 1 (sFor (dKeysW (dV 1)) (gN 3)
  w_ascending_2))
  (sRet (dB bTup (dCons (dSortK finF (kxMul (kxIx 0) (kxDiv (kxCell 2) (kxIx 1))) (dB (bLstA finF) (dCons (dV 1) dNil))) dNil))))))
noncomputable def f_ascending : Fn := fnD 1 4 b_ascending
noncomputable def w_law_bag_1 : Bd :=
  (sAsg (dOp gMod (dB bInt (dCons (dOp (gAdd finF) (dOp (gAdd finF) (dOp gMul (dV 1) (dK (.int 48611))) (dOp gMod (dB bInt (dCons (dV 2) dNil)) (dK (.int 2147483587)))) (dK (.int 409))) dNil)) (dK (.int 2147483579))) (gN 1))
@[simp] theorem w_law_bag_1_run (r : Lc) (m : Mem) : w_law_bag_1 r m = (sAsg (dOp gMod (dB bInt (dCons (dOp (gAdd finF) (dOp (gAdd finF) (dOp gMul (dV 1) (dK (.int 48611))) (dOp gMod (dB bInt (dCons (dV 2) dNil)) (dK (.int 2147483587)))) (dK (.int 409))) dNil)) (dK (.int 2147483579))) (gN 1)) r m := rfl
noncomputable def b_law_bag : Bd :=
  (sSeq (sAsg (dK (.int 14083)) (gN 1))
  (sSeq (sFor (dWalk (dSl (gSl finF) (dV 0) dNo (dPart (dK (.int 63))))) (gN 2)
  w_law_bag_1)
  (sRet (dLstM (dCons (dB (bLstA finF) (dCons (dSl (gSl finF) (dV 0) dNo (dPart (dK (.int 63)))) dNil)) (dCons (dK (.int 0)) (dCons (dK (.int 0)) (dCons (dV 1) (dCons (dK (.int 0)) dNil)))))))))
noncomputable def f_law_bag : Fn := fnM 1 3 b_law_bag
noncomputable def b_law_draw : Bd :=
  (sSeq (sAsg (dOp (gAdd finF) (dOp (gIxT ck) (dV 0) (dK (.int 4))) (dK (.int 1))) (gSub' (dV 0) (dK (.int 4)) (gSetT ck)))
  (sSeq (sIf (dAnd (dTst (dOp (gEqA false) (dOp (gIxT ck) (dV 0) (dK (.int 2))) (dK (.int 0)))) (dTst (dOp (gCmp fun i j => decide (i < j)) (dOp (gIxT ck) (dV 0) (dK (.int 1))) (dB bLenA (dCons (dOp (gIxT ck) (dV 0) (dK (.int 0))) dNil)))))
  (sSeq (sAsg (dOp (gIxT ck) (dOp (gIxT ck) (dV 0) (dK (.int 0))) (dOp (gIxT ck) (dV 0) (dK (.int 1)))) (gN 2))
  (sSeq (sAsg (dOp (gAdd finF) (dOp (gIxT ck) (dV 0) (dK (.int 1))) (dK (.int 1))) (gSub' (dV 0) (dK (.int 1)) (gSetT ck)))
  (sIf (dTst (dOp (gCmp fun i j => decide (i ≥ j)) (dV 2) (dOp gPow (dK (.int 10)) (dK (.int 18)))))
  (sAsg (dV 2) (gSub' (dV 0) (dK (.int 2)) (gSetT ck)))
  (sAsg (dOp gMod (dB bInt (dCons (dOp (gAdd finF) (dOp (gAdd finF) (dOp gMul (dOp (gIxT ck) (dV 0) (dK (.int 3))) (dK (.int 69847))) (dOp gMul (dOp gMod (dB bInt (dCons (dV 2) dNil)) (dK (.int 2147483543))) (dK (.int 4099)))) (dK (.int 83))) dNil)) (dK (.int 2147483579))) (gSub' (dV 0) (dK (.int 3)) (gSetT ck))))))
  sNil)
  (sSeq (sIf (dTst (dOp (gCmp fun i j => decide (i > j)) (dOp (gIxT ck) (dV 0) (dK (.int 2))) (dK (.int 0))))
  (sSeq (sAsg (dOp gMod (dB bInt (dCons (dOp (gIxT ck) (dV 0) (dK (.int 2))) dNil)) (dV 1)) (gN 3))
  (sSeq (sAsg (dOp gFdiv (dOp (gIxT ck) (dV 0) (dK (.int 2))) (dV 1)) (gSub' (dV 0) (dK (.int 2)) (gSetT ck)))
  (sRet (dV 3))))
  sNil)
  (sSeq (sAsg (dOp gMod (dB bInt (dCons (dOp (gAdd finF) (dOp (gAdd finF) (dOp gPow (dOp (gIxT ck) (dV 0) (dK (.int 3))) (dK (.int 3))) (dOp gMul (dOp (gIxT ck) (dV 0) (dK (.int 4))) (dK (.int 1299721)))) (dK (.int 60013))) dNil)) (dK (.int 2147483579))) (gSub' (dV 0) (dK (.int 3)) (gSetT ck)))
  (sRet (dOp gMod (dB bInt (dCons (dOp (gAdd finF) (dOp gFdiv (dOp (gIxT ck) (dV 0) (dK (.int 3))) (dK (.int 97))) (dOp gMul (dOp gMod (dB bInt (dCons (dOp (gIxT ck) (dV 0) (dK (.int 3))) dNil)) (dK (.int 8009))) (dK (.int 59)))) dNil)) (dV 1)))))))
noncomputable def f_law_draw : Fn := fnD 2 4 b_law_draw
noncomputable def b_law_like (f_law_like : Fn) : Bd :=
  (sSeq (sIf (dTru (dB bIsi (dCons (dV 1) (dCons (dTup (dCons (dK (.ty "list")) (dCons (dK (.ty "tuple")) dNil))) dNil))))
  (sSeq (sIf (dOr (dTst (dOp (gEqA true) (dB bIsi (dCons (dV 0) (dCons (dK (.ty "list")) dNil))) (dB bIsi (dCons (dV 1) (dCons (dK (.ty "list")) dNil))))) (dTst (dOp (gEqA true) (dB bIsi (dCons (dV 0) (dCons (dK (.ty "tuple")) dNil))) (dB bIsi (dCons (dV 1) (dCons (dK (.ty "tuple")) dNil))))))
  (sRet (dK (.bl false)))
  sNil)
  (sRet (dAndV (dOp (gEqA false) (dB bLenA (dCons (dV 0) dNil)) (dB bLenA (dCons (dV 1) dNil))) (dB bAll (dCons (dLc finF (dZip2 (dV 0) (dV 1)) [2, 3] (gT (gsCons (gN 2) (gsCons (gN 3) gsNil))) tAll (dCall f_law_like [] (dCons (dV 2) (dCons (dV 3) dNil)))) dNil)))))
  sNil)
  (sSeq (sIf (dOr (dTst (dOp (gIsN false) (dV 1) (dK .non))) (dTst (dOp (gIsN false) (dV 0) (dK .non))))
  (sRet (dAndV (dOp (gIsN false) (dV 1) (dK .non)) (dOp (gIsN false) (dV 0) (dK .non))))
  sNil)
  (sSeq (sIf (dOr (dTru (dB bIsi (dCons (dV 0) (dCons (dTup (dCons (dK (.ty "list")) (dCons (dK (.ty "tuple")) dNil))) dNil)))) (dTst (dOp (gEqA true) (dB bIsi (dCons (dV 0) (dCons (dK (.ty "bool")) dNil))) (dB bIsi (dCons (dV 1) (dCons (dK (.ty "bool")) dNil))))))
  (sRet (dK (.bl false)))
  sNil)
  (sSeq (sIf (dOr (dTst (dOp (gEqA true) (dB bIsi (dCons (dV 0) (dCons (dK (.ty "str")) dNil))) (dB bIsi (dCons (dV 1) (dCons (dK (.ty "str")) dNil))))) (dTst (dOp (gEqA true) (dB bIsi (dCons (dV 0) (dCons (dK (.ty "int")) dNil))) (dB bIsi (dCons (dV 1) (dCons (dK (.ty "int")) dNil))))))
  (sRet (dK (.bl false)))
  sNil)
  (sRet (dOp (gEqA false) (dV 0) (dV 1)))))))
noncomputable def r_law_like : Nat → Fn
  | 0 => fun _ _ => .stuck
  | n + 1 => fnD 2 4 (b_law_like (r_law_like n))
noncomputable abbrev f_law_like : Fn := r_law_like 4
noncomputable def u_law_low_1 : EvG Bool :=
  (dTst (dOp (gEqA true) (dV 3) (dK (.int 0))))
@[simp] theorem u_law_low_1_run (r : Lc) (m : Mem) : u_law_low_1 r m = (dTst (dOp (gEqA true) (dV 3) (dK (.int 0)))) r m := rfl
noncomputable def w_law_low_1 : Bd :=
  (sPar 2 3 (dCons (dV 3) (dCons (dOp gMod (dB bInt (dCons (dV 2) dNil)) (dV 3)) dNil)))
@[simp] theorem w_law_low_1_run (r : Lc) (m : Mem) : w_law_low_1 r m = (sPar 2 3 (dCons (dV 3) (dCons (dOp gMod (dB bInt (dCons (dV 2) dNil)) (dV 3)) dNil))) r m := rfl
noncomputable def b_law_low : Bd :=
  (sSeq (sPar 2 3 (dCons (dB bAbs (dCons (dV 0) dNil)) (dCons (dB bAbs (dCons (dV 1) dNil)) dNil)))
  (sSeq (sWhile u_law_low_1
  w_law_low_1)
  (sSeq (sIf (dTst (dOp (gCmp fun i j => decide (i < j)) (dV 1) (dK (.int 0))))
  (sAsg (dOp gSub (dK (.int 0)) (dV 2)) (gN 2))
  sNil)
  (sRet (dTup (dCons (dOp gFdiv (dV 0) (dV 2)) (dCons (dOp gFdiv (dV 1) (dV 2)) dNil)))))))
noncomputable def f_law_low : Fn := fnD 2 4 b_law_low
noncomputable def b_law_order : Bd :=
  (sSeq (sAsg (dOp gSub (dOp gMul (dOp (gIxT ck) (dV 0) (dK (.int 0))) (dOp (gIxT ck) (dV 1) (dK (.int 1)))) (dOp gMul (dOp (gIxT ck) (dV 1) (dK (.int 0))) (dOp (gIxT ck) (dV 0) (dK (.int 1))))) (gN 2))
  (sRet (dOp gSub (dB bInt (dCons (dOp (gCmp fun i j => decide (i > j)) (dV 2) (dK (.int 0))) dNil)) (dB bInt (dCons (dOp (gCmp fun i j => decide (i < j)) (dV 2) (dK (.int 0))) dNil)))))
noncomputable def f_law_order : Fn := fnD 2 3 b_law_order
noncomputable def b_law_of : Bd :=
  (sRet (dOp (gIxT ck) (dV 1) (dCall f_law_draw [] (dCons (dV 0) (dCons (dB bLenA (dCons (dV 1) dNil)) dNil)))))
noncomputable def f_law_of : Fn := fnD 2 2 b_law_of
noncomputable def w_law_exact_1 : Bd :=
  (sIf (dOr (dNot (dTru (dB bIsi (dCons (dV 3) (dCons (dK (.ty "int")) dNil))))) (dTru (dB bIsi (dCons (dV 3) (dCons (dK (.ty "bool")) dNil)))))
  (sRet (dK (.bl false)))
  sNil)
@[simp] theorem w_law_exact_1_run (r : Lc) (m : Mem) : w_law_exact_1 r m = (sIf (dOr (dNot (dTru (dB bIsi (dCons (dV 3) (dCons (dK (.ty "int")) dNil))))) (dTru (dB bIsi (dCons (dV 3) (dCons (dK (.ty "bool")) dNil))))) (sRet (dK (.bl false))) sNil) r m := rfl
noncomputable def b_law_exact : Bd :=
  (sSeq (sIf (dOr (dNot (dTru (dB bIsi (dCons (dV 0) (dCons (dK (.ty "tuple")) dNil))))) (dTst (dOp (gEqA true) (dB bLenA (dCons (dV 0) dNil)) (dK (.int 2)))))
  (sRet (dK (.bl false)))
  sNil)
  (sSeq (sFor (dWalk (dV 0)) (gN 3)
  w_law_exact_1)
  (sRet (dAndV (dOp (gCmp fun i j => decide (i ≥ j)) (dOp (gIxT ck) (dV 0) (dK (.int 1))) (dK (.int 1))) (dAndV (dOp (gEqA false) (dCall f_law_low [] (dCons (dOp (gIxT ck) (dV 0) (dK (.int 0))) (dCons (dOp (gIxT ck) (dV 0) (dK (.int 1))) dNil))) (dV 0)) (dOp (gEqA false) (dOp gMul (dOp (gIxT ck) (dV 0) (dK (.int 0))) (dV 2)) (dOp gMul (dV 1) (dOp (gIxT ck) (dV 0) (dK (.int 1))))))))))
noncomputable def f_law_exact : Fn := fnD 3 4 b_law_exact
noncomputable def b_fraction : Bd :=
  (sSeq (sIf (dTst (dOp (gEqA false) (dV 1) (dK (.int 0))))
  (sRaise "BadValue" ["value"] (dCons (dV 1) dNil))
  sNil)
  (sSeq (sAsg (dB bGcd (dCons (dV 0) (dCons (dV 1) dNil))) (gN 2))
  (sSeq (sIf (dTst (dOp (gCmp fun i j => decide (i < j)) (dV 1) (dK (.int 0))))
  (sAsg (dUn gNeg (dV 2)) (gN 2))
  sNil)
  (sRet (dTup (dCons (dOp gFdiv (dV 0) (dV 2)) (dCons (dOp gFdiv (dV 1) (dV 2)) dNil)))))))
noncomputable def f_fraction : Fn := fnD 2 3 b_fraction
noncomputable def b_law_number : Bd :=
  (sSeq (sAsg (dOp (gAdd finF) (dOp (gAdd finF) (dOp gMul (dCall f_law_draw [] (dCons (dV 0) (dCons (dOp gPow (dK (.int 10)) (dK (.int 6))) dNil))) (dOp gPow (dK (.int 10)) (dK (.int 12)))) (dOp gMul (dCall f_law_draw [] (dCons (dV 0) (dCons (dOp gPow (dK (.int 10)) (dK (.int 6))) dNil))) (dOp gPow (dK (.int 10)) (dK (.int 6))))) (dCall f_law_draw [] (dCons (dV 0) (dCons (dOp gPow (dK (.int 10)) (dK (.int 6))) dNil)))) (gN 1))
  (sSeq (sAsg (dCall f_law_draw [] (dCons (dV 0) (dCons (dK (.int 200)) dNil))) (gN 2))
  (sRet (dCall f_law_of [] (dCons (dV 0) (dCons (dLst (dCons (dK (.int 0)) (dCons (dK (.int 1)) (dCons (dV 2) (dCons (dOp gSub (dK (.int 0)) (dV 2)) (dCons (dV 1) (dCons (dOp gSub (dK (.int 0)) (dV 1)) (dCons (dOp gSub (dOp gPow (dK (.int 10)) (dK (.int 18))) (dK (.int 1))) (dCons (dOp gSub (dK (.int 1)) (dOp gPow (dK (.int 10)) (dK (.int 18)))) (dCons (dK (.int 2)) (dCons (dK (.int 6)) (dCons (dOp gMul (dV 2) (dK (.int 12))) (dCons (dK (.int 9999)) (dCons (dUn gNeg (dK (.int 99))) (dCons (dV 2) dNil))))))))))))))) dNil))))))
noncomputable def f_law_number : Fn := fnD 1 3 b_law_number
noncomputable def b_plus : Bd :=
  (sRet (dCall f_fraction [] (dCons (dOp (gAdd finF) (dOp gMul (dOp (gIxT ck) (dV 0) (dK (.int 0))) (dOp (gIxT ck) (dV 1) (dK (.int 1)))) (dOp gMul (dOp (gIxT ck) (dV 1) (dK (.int 0))) (dOp (gIxT ck) (dV 0) (dK (.int 1))))) (dCons (dOp gMul (dOp (gIxT ck) (dV 0) (dK (.int 1))) (dOp (gIxT ck) (dV 1) (dK (.int 1)))) dNil))))
noncomputable def f_plus : Fn := fnD 2 2 b_plus
noncomputable def b_minus : Bd :=
  (sRet (dCall f_fraction [] (dCons (dOp gSub (dOp gMul (dOp (gIxT ck) (dV 0) (dK (.int 0))) (dOp (gIxT ck) (dV 1) (dK (.int 1)))) (dOp gMul (dOp (gIxT ck) (dV 1) (dK (.int 0))) (dOp (gIxT ck) (dV 0) (dK (.int 1))))) (dCons (dOp gMul (dOp (gIxT ck) (dV 0) (dK (.int 1))) (dOp (gIxT ck) (dV 1) (dK (.int 1)))) dNil))))
noncomputable def f_minus : Fn := fnD 2 2 b_minus
noncomputable def b_times : Bd :=
  (sRet (dCall f_fraction [] (dCons (dOp gMul (dOp (gIxT ck) (dV 0) (dK (.int 0))) (dOp (gIxT ck) (dV 1) (dK (.int 0)))) (dCons (dOp gMul (dOp (gIxT ck) (dV 0) (dK (.int 1))) (dOp (gIxT ck) (dV 1) (dK (.int 1)))) dNil))))
noncomputable def f_times : Fn := fnD 2 2 b_times
noncomputable def b_quotient : Bd :=
  (sSeq (sIf (dTst (dOp (gEqA false) (dV 1) (dK c_ZERO)))
  (sRaise "BadValue" ["value"] (dCons (dV 1) dNil))
  sNil)
  (sRet (dCall f_fraction [] (dCons (dOp gMul (dOp (gIxT ck) (dV 0) (dK (.int 0))) (dOp (gIxT ck) (dV 1) (dK (.int 1)))) (dCons (dOp gMul (dOp (gIxT ck) (dV 0) (dK (.int 1))) (dOp (gIxT ck) (dV 1) (dK (.int 0)))) dNil)))))
noncomputable def f_quotient : Fn := fnD 2 2 b_quotient
noncomputable def b_law_some : Bd :=
  (sRet (dCall f_law_low [] (dCons (dCall f_law_number [] (dCons (dV 0) dNil)) (dCons (dB bMax2 (dCons (dK (.int 1)) (dCons (dB bAbs (dCons (dCall f_law_number [] (dCons (dV 0) dNil)) dNil)) dNil))) dNil))))
noncomputable def f_law_some : Fn := fnD 1 1 b_law_some
noncomputable def w_mean_of_1 : Bd :=
  (sAsg (dCall f_plus [] (dCons (dV 1) (dCons (dV 2) dNil))) (gN 1))
@[simp] theorem w_mean_of_1_run (r : Lc) (m : Mem) : w_mean_of_1 r m = (sAsg (dCall f_plus [] (dCons (dV 1) (dCons (dV 2) dNil))) (gN 1)) r m := rfl
noncomputable def b_mean_of : Bd :=
  (sSeq (sIf (dTst (dOp (gEqA false) (dB bLenA (dCons (dV 0) dNil)) (dK (.int 0))))
  (sRaise "BadValue" ["value"] (dCons (dTup dNil) dNil))
  sNil)
  (sSeq (sAsg (dK c_ZERO) (gN 1))
  (sSeq (sFor (dWalk (dV 0)) (gN 2)
  w_mean_of_1)
  (sRet (dCall f_fraction [] (dCons (dOp (gIxT ck) (dV 1) (dK (.int 0))) (dCons (dOp gMul (dOp (gIxT ck) (dV 1) (dK (.int 1))) (dB bLenA (dCons (dV 0) dNil))) dNil)))))))
noncomputable def f_mean_of : Fn := fnD 1 3 b_mean_of
noncomputable def q_law_pair_1 : Bd :=
  (sPar3 1 2 3 (dCons (dCall f_law_some [] (dCons (dV 0) dNil)) (dCons (dCall f_law_some [] (dCons (dV 0) dNil)) (dCons (dCall f_law_draw [] (dCons (dV 0) (dCons (dK (.int 7)) dNil))) dNil))))
@[simp] theorem q_law_pair_1_run (r : Lc) (m : Mem) : q_law_pair_1 r m = (sPar3 1 2 3 (dCons (dCall f_law_some [] (dCons (dV 0) dNil)) (dCons (dCall f_law_some [] (dCons (dV 0) dNil)) (dCons (dCall f_law_draw [] (dCons (dV 0) (dCons (dK (.int 7)) dNil))) dNil)))) r m := rfl
noncomputable def q_law_pair_2 : Bd :=
  (sIf (dTst (dOp (gEqA false) (dV 3) (dK (.int 0))))
  (sAsg (dV 1) (gN 2))
  sNil)
@[simp] theorem q_law_pair_2_run (r : Lc) (m : Mem) : q_law_pair_2 r m = (sIf (dTst (dOp (gEqA false) (dV 3) (dK (.int 0)))) (sAsg (dV 1) (gN 2)) sNil) r m := rfl
noncomputable def q_law_pair_3 : Bd :=
  (sIf (dTst (dOp (gEqA false) (dV 3) (dK (.int 1))))
  (sAsg (dTup (dCons (dOp gSub (dK (.int 0)) (dOp (gIxT ck) (dV 1) (dK (.int 0)))) (dCons (dOp (gIxT ck) (dV 1) (dK (.int 1))) dNil))) (gN 2))
  sNil)
@[simp] theorem q_law_pair_3_run (r : Lc) (m : Mem) : q_law_pair_3 r m = (sIf (dTst (dOp (gEqA false) (dV 3) (dK (.int 1)))) (sAsg (dTup (dCons (dOp gSub (dK (.int 0)) (dOp (gIxT ck) (dV 1) (dK (.int 0)))) (dCons (dOp (gIxT ck) (dV 1) (dK (.int 1))) dNil))) (gN 2)) sNil) r m := rfl
noncomputable def q_law_pair_4 : Bd :=
  (sIf (dTst (dOp (gEqA false) (dV 3) (dK (.int 2))))
  (sAsg (dCall f_law_low [] (dCons (dCall f_law_number [] (dCons (dV 0) dNil)) (dCons (dOp (gIxT ck) (dV 1) (dK (.int 1))) dNil))) (gN 2))
  sNil)
@[simp] theorem q_law_pair_4_run (r : Lc) (m : Mem) : q_law_pair_4 r m = (sIf (dTst (dOp (gEqA false) (dV 3) (dK (.int 2)))) (sAsg (dCall f_law_low [] (dCons (dCall f_law_number [] (dCons (dV 0) dNil)) (dCons (dOp (gIxT ck) (dV 1) (dK (.int 1))) dNil))) (gN 2)) sNil) r m := rfl
noncomputable def q_law_pair_5 : Bd :=
  (sIf (dTst (dOp (gEqA false) (dV 3) (dK (.int 3))))
  (sAsg (dTup (dCons (dOp gFdiv (dOp (gIxT ck) (dV 1) (dK (.int 0))) (dOp (gIxT ck) (dV 1) (dK (.int 1)))) (dCons (dK (.int 1)) dNil))) (gN 2))
  sNil)
@[simp] theorem q_law_pair_5_run (r : Lc) (m : Mem) : q_law_pair_5 r m = (sIf (dTst (dOp (gEqA false) (dV 3) (dK (.int 3)))) (sAsg (dTup (dCons (dOp gFdiv (dOp (gIxT ck) (dV 1) (dK (.int 0))) (dOp (gIxT ck) (dV 1) (dK (.int 1)))) (dCons (dK (.int 1)) dNil))) (gN 2)) sNil) r m := rfl
noncomputable def q_law_pair_6 : Bd :=
  (sIf (dTst (dOp (gEqA false) (dV 3) (dK (.int 4))))
  (sAsg (dTup (dCons (dK (.int 0)) (dCons (dK (.int 1)) dNil))) (gN 2))
  sNil)
@[simp] theorem q_law_pair_6_run (r : Lc) (m : Mem) : q_law_pair_6 r m = (sIf (dTst (dOp (gEqA false) (dV 3) (dK (.int 4)))) (sAsg (dTup (dCons (dK (.int 0)) (dCons (dK (.int 1)) dNil))) (gN 2)) sNil) r m := rfl
noncomputable def q_law_pair_7 : Bd :=
  (sRet (dLst (dCons (dV 1) (dCons (dV 2) dNil))))
@[simp] theorem q_law_pair_7_run (r : Lc) (m : Mem) : q_law_pair_7 r m = (sRet (dLst (dCons (dV 1) (dCons (dV 2) dNil)))) r m := rfl
noncomputable def b_law_pair : Bd :=
  (sSeq q_law_pair_1
  (sSeq q_law_pair_2
  (sSeq q_law_pair_3
  (sSeq q_law_pair_4
  (sSeq q_law_pair_5
  (sSeq q_law_pair_6
  q_law_pair_7))))))
noncomputable def f_law_pair : Fn := fnD 1 4 b_law_pair
noncomputable def q_law_made_1 : Bd :=
  (sAsg (dTup (dCons (dCall f_law_number [] (dCons (dV 0) dNil)) (dCons (dCall f_law_number [] (dCons (dV 0) dNil)) dNil))) (gT (gsCons (gN 1) (gsCons (gN 2) gsNil))))
@[simp] theorem q_law_made_1_run (r : Lc) (m : Mem) : q_law_made_1 r m = (sAsg (dTup (dCons (dCall f_law_number [] (dCons (dV 0) dNil)) (dCons (dCall f_law_number [] (dCons (dV 0) dNil)) dNil))) (gT (gsCons (gN 1) (gsCons (gN 2) gsNil)))) r m := rfl
noncomputable def q_law_made_2 : Bd :=
  (sAsg (dCall f_law_draw [] (dCons (dV 0) (dCons (dK (.int 4)) dNil))) (gN 3))
@[simp] theorem q_law_made_2_run (r : Lc) (m : Mem) : q_law_made_2 r m = (sAsg (dCall f_law_draw [] (dCons (dV 0) (dCons (dK (.int 4)) dNil))) (gN 3)) r m := rfl
noncomputable def q_law_made_3 : Bd :=
  (sIf (dTst (dOp (gEqA false) (dV 3) (dK (.int 0))))
  (sRet (dAndV (dCall f_law_exact [] (dCons (dCall f_fraction [.int 1] (dCons (dV 1) dNil)) (dCons (dV 1) (dCons (dK (.int 1)) dNil)))) (dCall f_law_exact [] (dCons (dCallK0 f_fraction (g_k0 [.int 1]) (dCons (dV 2) dNil)) (dCons (dV 2) (dCons (dK (.int 1)) dNil))))))
  sNil)
@[simp] theorem q_law_made_3_run (r : Lc) (m : Mem) : q_law_made_3 r m = (sIf (dTst (dOp (gEqA false) (dV 3) (dK (.int 0)))) (sRet (dAndV (dCall f_law_exact [] (dCons (dCall f_fraction [.int 1] (dCons (dV 1) dNil)) (dCons (dV 1) (dCons (dK (.int 1)) dNil)))) (dCall f_law_exact [] (dCons (dCallK0 f_fraction (g_k0 [.int 1]) (dCons (dV 2) dNil)) (dCons (dV 2) (dCons (dK (.int 1)) dNil)))))) sNil) r m := rfl
noncomputable def q_law_made_4 : Bd :=
  (sAsg (dAsk "told" ct_law_ask h_law_ask (dIf (dTst (dOp (gEqA false) (dV 3) (dK (.int 1)))) (dCall f_fraction [] (dCons (dV 1) (dCons (dV 2) dNil))) (dCallK0 f_fraction (g_k1 [.int 1]) (dCons (dV 2) (dCons (dV 1) dNil))))) (gN 4))
@[simp] theorem q_law_made_4_run (r : Lc) (m : Mem) : q_law_made_4 r m = (sAsg (dAsk "told" ct_law_ask h_law_ask (dIf (dTst (dOp (gEqA false) (dV 3) (dK (.int 1)))) (dCall f_fraction [] (dCons (dV 1) (dCons (dV 2) dNil))) (dCallK0 f_fraction (g_k1 [.int 1]) (dCons (dV 2) (dCons (dV 1) dNil))))) (gN 4)) r m := rfl
noncomputable def q_law_made_5 : Bd :=
  (sIf (dTst (dOp (gEqA false) (dV 2) (dK (.int 0))))
  (sRet (dCall f_law_like [] (dCons (dV 4) (dCons (dLst (dCons (dK (.str "BadValue")) (dCons (dK (.int 0)) dNil))) dNil))))
  sNil)
@[simp] theorem q_law_made_5_run (r : Lc) (m : Mem) : q_law_made_5 r m = (sIf (dTst (dOp (gEqA false) (dV 2) (dK (.int 0)))) (sRet (dCall f_law_like [] (dCons (dV 4) (dCons (dLst (dCons (dK (.str "BadValue")) (dCons (dK (.int 0)) dNil))) dNil)))) sNil) r m := rfl
noncomputable def q_law_made_6 : Bd :=
  (sRet (dAndV (dOp (gEqA false) (dOp (gIxT ck) (dV 4) (dK (.int 0))) (dK (.str "told"))) (dCall f_law_exact [] (dCons (dOp (gIxT ck) (dV 4) (dK (.int 1))) (dCons (dV 1) (dCons (dV 2) dNil))))))
@[simp] theorem q_law_made_6_run (r : Lc) (m : Mem) : q_law_made_6 r m = (sRet (dAndV (dOp (gEqA false) (dOp (gIxT ck) (dV 4) (dK (.int 0))) (dK (.str "told"))) (dCall f_law_exact [] (dCons (dOp (gIxT ck) (dV 4) (dK (.int 1))) (dCons (dV 1) (dCons (dV 2) dNil)))))) r m := rfl
noncomputable def b_law_made : Bd :=
  (sSeq q_law_made_1
  (sSeq q_law_made_2
  (sSeq q_law_made_3
  (sSeq q_law_made_4
  (sSeq q_law_made_5
  q_law_made_6)))))
noncomputable def f_law_made : Fn := fnD 1 5 b_law_made
noncomputable def b_law_compared : Bd :=
  (sSeq (sAsg (dOp (gCmp fun i j => decide (i < j)) (dOp gMul (dOp (gIxT ck) (dV 0) (dK (.int 0))) (dOp (gIxT ck) (dV 1) (dK (.int 1)))) (dOp gMul (dOp (gIxT ck) (dV 1) (dK (.int 0))) (dOp (gIxT ck) (dV 0) (dK (.int 1))))) (gN 3))
  (sSeq (sIf (dNot (dTru (dCall f_law_like [] (dCons (dIf (dTst (dOp (gEqA false) (dV 2) (dK (.int 0)))) (dCall f_below [] (dCons (dV 0) (dCons (dV 1) dNil))) (dCallK0 f_below g_k6 (dCons (dV 1) (dCons (dV 0) dNil)))) (dCons (dV 3) dNil)))))
  (sRet (dK (.bl false)))
  sNil)
  (sSeq (sAsg (dIf (dTst (dOp (gEqA false) (dV 2) (dK (.int 0)))) (dCall f_floor_of [] (dCons (dV 0) dNil)) (dCallK0 f_floor_of g_k7 (dCons (dV 0) dNil))) (gN 4))
  (sRet (dAndV (dCall f_law_like [] (dCons (dV 4) (dCons (dOp gFdiv (dOp (gIxT ck) (dV 0) (dK (.int 0))) (dOp (gIxT ck) (dV 0) (dK (.int 1)))) dNil))) (dChain (gCmp fun i j => decide (i ≤ j)) (gCmp fun i j => decide (i < j)) (dOp gMul (dV 4) (dOp (gIxT ck) (dV 0) (dK (.int 1)))) (dOp (gIxT ck) (dV 0) (dK (.int 0))) (dOp gMul (dOp (gAdd finF) (dV 4) (dK (.int 1))) (dOp (gIxT ck) (dV 0) (dK (.int 1))))))))))
noncomputable def f_law_compared : Fn := fnD 3 5 b_law_compared
noncomputable def q_law_joined_1 : Bd :=
  (sAsg (dOp gMul (dOp (gIxT ck) (dV 0) (dK (.int 1))) (dOp (gIxT ck) (dV 1) (dK (.int 1)))) (gN 3))
@[simp] theorem q_law_joined_1_run (r : Lc) (m : Mem) : q_law_joined_1 r m = (sAsg (dOp gMul (dOp (gIxT ck) (dV 0) (dK (.int 1))) (dOp (gIxT ck) (dV 1) (dK (.int 1)))) (gN 3)) r m := rfl
noncomputable def q_law_joined_2 : Bd :=
  (sAsg (dIf (dTst (dOp (gEqA false) (dV 2) (dK (.int 0)))) (dLst (dCons (dCall f_plus [] (dCons (dV 0) (dCons (dV 1) dNil))) (dCons (dCall f_minus [] (dCons (dV 0) (dCons (dV 1) dNil))) dNil))) (dLst (dCons (dCallK0 f_plus g_k3 (dCons (dV 1) (dCons (dV 0) dNil))) (dCons (dCallK0 f_minus g_k2 (dCons (dV 1) (dCons (dV 0) dNil))) dNil)))) (gN 4))
@[simp] theorem q_law_joined_2_run (r : Lc) (m : Mem) : q_law_joined_2 r m = (sAsg (dIf (dTst (dOp (gEqA false) (dV 2) (dK (.int 0)))) (dLst (dCons (dCall f_plus [] (dCons (dV 0) (dCons (dV 1) dNil))) (dCons (dCall f_minus [] (dCons (dV 0) (dCons (dV 1) dNil))) dNil))) (dLst (dCons (dCallK0 f_plus g_k3 (dCons (dV 1) (dCons (dV 0) dNil))) (dCons (dCallK0 f_minus g_k2 (dCons (dV 1) (dCons (dV 0) dNil))) dNil)))) (gN 4)) r m := rfl
noncomputable def q_law_joined_3 : Bd :=
  (sIf (dNot (dTru (dCall f_law_exact [] (dCons (dOp (gIxT ck) (dV 4) (dK (.int 0))) (dCons (dOp (gAdd finF) (dOp gMul (dOp (gIxT ck) (dV 0) (dK (.int 0))) (dOp (gIxT ck) (dV 1) (dK (.int 1)))) (dOp gMul (dOp (gIxT ck) (dV 1) (dK (.int 0))) (dOp (gIxT ck) (dV 0) (dK (.int 1))))) (dCons (dV 3) dNil))))))
  (sRet (dK (.bl false)))
  sNil)
@[simp] theorem q_law_joined_3_run (r : Lc) (m : Mem) : q_law_joined_3 r m = (sIf (dNot (dTru (dCall f_law_exact [] (dCons (dOp (gIxT ck) (dV 4) (dK (.int 0))) (dCons (dOp (gAdd finF) (dOp gMul (dOp (gIxT ck) (dV 0) (dK (.int 0))) (dOp (gIxT ck) (dV 1) (dK (.int 1)))) (dOp gMul (dOp (gIxT ck) (dV 1) (dK (.int 0))) (dOp (gIxT ck) (dV 0) (dK (.int 1))))) (dCons (dV 3) dNil)))))) (sRet (dK (.bl false))) sNil) r m := rfl
noncomputable def q_law_joined_4 : Bd :=
  (sIf (dNot (dTru (dCall f_law_exact [] (dCons (dOp (gIxT ck) (dV 4) (dK (.int 1))) (dCons (dOp gSub (dOp gMul (dOp (gIxT ck) (dV 0) (dK (.int 0))) (dOp (gIxT ck) (dV 1) (dK (.int 1)))) (dOp gMul (dOp (gIxT ck) (dV 1) (dK (.int 0))) (dOp (gIxT ck) (dV 0) (dK (.int 1))))) (dCons (dV 3) dNil))))))
  (sRet (dK (.bl false)))
  sNil)
@[simp] theorem q_law_joined_4_run (r : Lc) (m : Mem) : q_law_joined_4 r m = (sIf (dNot (dTru (dCall f_law_exact [] (dCons (dOp (gIxT ck) (dV 4) (dK (.int 1))) (dCons (dOp gSub (dOp gMul (dOp (gIxT ck) (dV 0) (dK (.int 0))) (dOp (gIxT ck) (dV 1) (dK (.int 1)))) (dOp gMul (dOp (gIxT ck) (dV 1) (dK (.int 0))) (dOp (gIxT ck) (dV 0) (dK (.int 1))))) (dCons (dV 3) dNil)))))) (sRet (dK (.bl false))) sNil) r m := rfl
noncomputable def q_law_joined_5 : Bd :=
  (sIf (dNot (dTru (dCall f_law_exact [] (dCons (dIf (dTst (dOp (gEqA false) (dV 2) (dK (.int 0)))) (dCall f_times [] (dCons (dV 0) (dCons (dV 1) dNil))) (dCallK0 f_times g_k4 (dCons (dV 0) (dCons (dV 1) dNil)))) (dCons (dOp gMul (dOp (gIxT ck) (dV 0) (dK (.int 0))) (dOp (gIxT ck) (dV 1) (dK (.int 0)))) (dCons (dV 3) dNil))))))
  (sRet (dK (.bl false)))
  sNil)
@[simp] theorem q_law_joined_5_run (r : Lc) (m : Mem) : q_law_joined_5 r m = (sIf (dNot (dTru (dCall f_law_exact [] (dCons (dIf (dTst (dOp (gEqA false) (dV 2) (dK (.int 0)))) (dCall f_times [] (dCons (dV 0) (dCons (dV 1) dNil))) (dCallK0 f_times g_k4 (dCons (dV 0) (dCons (dV 1) dNil)))) (dCons (dOp gMul (dOp (gIxT ck) (dV 0) (dK (.int 0))) (dOp (gIxT ck) (dV 1) (dK (.int 0)))) (dCons (dV 3) dNil)))))) (sRet (dK (.bl false))) sNil) r m := rfl
noncomputable def q_law_joined_6 : Bd :=
  (sAsg (dAsk "told" ct_law_ask h_law_ask (dIf (dTst (dOp (gEqA false) (dV 2) (dK (.int 0)))) (dCall f_quotient [] (dCons (dV 0) (dCons (dV 1) dNil))) (dCallK0 f_quotient g_k5 (dCons (dV 1) (dCons (dV 0) dNil))))) (gN 5))
@[simp] theorem q_law_joined_6_run (r : Lc) (m : Mem) : q_law_joined_6 r m = (sAsg (dAsk "told" ct_law_ask h_law_ask (dIf (dTst (dOp (gEqA false) (dV 2) (dK (.int 0)))) (dCall f_quotient [] (dCons (dV 0) (dCons (dV 1) dNil))) (dCallK0 f_quotient g_k5 (dCons (dV 1) (dCons (dV 0) dNil))))) (gN 5)) r m := rfl
noncomputable def q_law_joined_7 : Bd :=
  (sIf (dTst (dOp (gEqA false) (dOp (gIxT ck) (dV 1) (dK (.int 0))) (dK (.int 0))))
  (sIf (dNot (dTru (dCall f_law_like [] (dCons (dV 5) (dCons (dLst (dCons (dK (.str "BadValue")) (dCons (dTup (dCons (dK (.int 0)) (dCons (dK (.int 1)) dNil))) dNil))) dNil)))))
  (sRet (dK (.bl false)))
  sNil)
  (sIf (dOr (dTst (dOp (gEqA true) (dOp (gIxT ck) (dV 5) (dK (.int 0))) (dK (.str "told")))) (dNot (dTru (dCall f_law_exact [] (dCons (dOp (gIxT ck) (dV 5) (dK (.int 1))) (dCons (dOp gMul (dOp (gIxT ck) (dV 0) (dK (.int 0))) (dOp (gIxT ck) (dV 1) (dK (.int 1)))) (dCons (dOp gMul (dOp (gIxT ck) (dV 0) (dK (.int 1))) (dOp (gIxT ck) (dV 1) (dK (.int 0)))) dNil)))))))
  (sRet (dK (.bl false)))
  (sIf (dNot (dTru (dCall f_law_like [] (dCons (dCall f_times [] (dCons (dOp (gIxT ck) (dV 5) (dK (.int 1))) (dCons (dV 1) dNil))) (dCons (dV 0) dNil)))))
  (sRet (dK (.bl false)))
  sNil)))
@[simp] theorem q_law_joined_7_run (r : Lc) (m : Mem) : q_law_joined_7 r m = (sIf (dTst (dOp (gEqA false) (dOp (gIxT ck) (dV 1) (dK (.int 0))) (dK (.int 0)))) (sIf (dNot (dTru (dCall f_law_like [] (dCons (dV 5) (dCons (dLst (dCons (dK (.str "BadValue")) (dCons (dTup (dCons (dK (.int 0)) (dCons (dK (.int 1)) dNil))) dNil))) dNil))))) (sRet (dK (.bl false))) sNil) (sIf (dOr (dTst (dOp (gEqA true) (dOp (gIxT ck) (dV 5) (dK (.int 0))) (dK (.str "told")))) (dNot (dTru (dCall f_law_exact [] (dCons (dOp (gIxT ck) (dV 5) (dK (.int 1))) (dCons (dOp gMul (dOp (gIxT ck) (dV 0) (dK (.int 0))) (dOp (gIxT ck) (dV 1) (dK (.int 1)))) (dCons (dOp gMul (dOp (gIxT ck) (dV 0) (dK (.int 1))) (dOp (gIxT ck) (dV 1) (dK (.int 0)))) dNil))))))) (sRet (dK (.bl false))) (sIf (dNot (dTru (dCall f_law_like [] (dCons (dCall f_times [] (dCons (dOp (gIxT ck) (dV 5) (dK (.int 1))) (dCons (dV 1) dNil))) (dCons (dV 0) dNil))))) (sRet (dK (.bl false))) sNil))) r m := rfl
noncomputable def q_law_joined_8 : Bd :=
  (sRet (dAndV (dCall f_law_like [] (dCons (dCall f_minus [] (dCons (dOp (gIxT ck) (dV 4) (dK (.int 0))) (dCons (dV 1) dNil))) (dCons (dV 0) dNil))) (dCall f_law_like [] (dCons (dCall f_plus [] (dCons (dV 1) (dCons (dOp (gIxT ck) (dV 4) (dK (.int 1))) dNil))) (dCons (dV 0) dNil)))))
@[simp] theorem q_law_joined_8_run (r : Lc) (m : Mem) : q_law_joined_8 r m = (sRet (dAndV (dCall f_law_like [] (dCons (dCall f_minus [] (dCons (dOp (gIxT ck) (dV 4) (dK (.int 0))) (dCons (dV 1) dNil))) (dCons (dV 0) dNil))) (dCall f_law_like [] (dCons (dCall f_plus [] (dCons (dV 1) (dCons (dOp (gIxT ck) (dV 4) (dK (.int 1))) dNil))) (dCons (dV 0) dNil))))) r m := rfl
noncomputable def b_law_joined : Bd :=
  (sSeq q_law_joined_1
  (sSeq q_law_joined_2
  (sSeq q_law_joined_3
  (sSeq q_law_joined_4
  (sSeq q_law_joined_5
  (sSeq q_law_joined_6
  (sSeq q_law_joined_7
  q_law_joined_8)))))))
noncomputable def f_law_joined : Fn := fnD 3 6 b_law_joined
noncomputable def e_law_listed_1 : Ev :=
  (dCall f_law_some [] (dCons (dV 0) dNil))
@[simp] theorem e_law_listed_1_run (r : Lc) (m : Mem) : e_law_listed_1 r m = (dCall f_law_some [] (dCons (dV 0) dNil)) r m := rfl
noncomputable def e_law_listed_2 : Ev :=
  (dCall f_law_of [] (dCons (dV 0) (dCons (dV 1) dNil)))
@[simp] theorem e_law_listed_2_run (r : Lc) (m : Mem) : e_law_listed_2 r m = (dCall f_law_of [] (dCons (dV 0) (dCons (dV 1) dNil))) r m := rfl
noncomputable def e_law_listed_3 : Ev :=
  (dOp (gInB false) (dV 8) (dV 5))
@[simp] theorem e_law_listed_3_run (r : Lc) (m : Mem) : e_law_listed_3 r m = (dOp (gInB false) (dV 8) (dV 5)) r m := rfl
noncomputable def e_law_listed_4 : Ev :=
  (dOp (gInB false) (dV 8) (dV 2))
@[simp] theorem e_law_listed_4_run (r : Lc) (m : Mem) : e_law_listed_4 r m = (dOp (gInB false) (dV 8) (dV 2)) r m := rfl
noncomputable def e_law_listed_5 : Ev :=
  (dOp (gCmp fun i j => decide (i < j)) (dCall f_law_order [] (dCons (dV 8) (dCons (dV 10) dNil))) (dK (.int 0)))
@[simp] theorem e_law_listed_5_run (r : Lc) (m : Mem) : e_law_listed_5 r m = (dOp (gCmp fun i j => decide (i < j)) (dCall f_law_order [] (dCons (dV 8) (dCons (dV 10) dNil))) (dK (.int 0))) r m := rfl
noncomputable def w_law_listed_6 : Bd :=
  (sAsg (dOp gMul (dV 7) (dOp (gIxT ck) (dV 8) (dK (.int 1)))) (gN 7))
@[simp] theorem w_law_listed_6_run (r : Lc) (m : Mem) : w_law_listed_6 r m = (sAsg (dOp gMul (dV 7) (dOp (gIxT ck) (dV 8) (dK (.int 1)))) (gN 7)) r m := rfl
noncomputable def e_law_listed_7 : Ev :=
  (dOp gMul (dOp (gIxT ck) (dV 8) (dK (.int 0))) (dOp gFdiv (dV 7) (dOp (gIxT ck) (dV 8) (dK (.int 1)))))
@[simp] theorem e_law_listed_7_run (r : Lc) (m : Mem) : e_law_listed_7 r m = (dOp gMul (dOp (gIxT ck) (dV 8) (dK (.int 0))) (dOp gFdiv (dV 7) (dOp (gIxT ck) (dV 8) (dK (.int 1))))) r m := rfl
noncomputable def w_law_listed_8 : Bd :=
  (sSeq (sAsg (dIf (dTst (dOp (gEqA false) (dV 4) (dK (.int 0)))) (dCall f_ascending [] (dCons (dV 3) dNil)) (dCallK0 f_ascending g_k8 (dCons (dV 3) dNil))) (gN 5))
  (sSeq (sIf (dOr (dNot (dTru (dB bIsi (dCons (dV 5) (dCons (dK (.ty "tuple")) dNil))))) (dOr (dNot (dTru (dB bAll (dCons (dLc finF (dWalk (dV 5)) [8] (gN 8) tAll e_law_listed_4) dNil)))) (dNot (dTru (dB bAll (dCons (dLc finF (dWalk (dV 2)) [8] (gN 8) tAll e_law_listed_3) dNil))))))
  (sRet (dK (.bl false)))
  sNil)
  (sSeq (sIf (dNot (dTru (dB bAll (dCons (dLc finF (dZip2 (dV 5) (dSl (gSl finF) (dV 5) (dPart (dK (.int 1))) dNo)) [8, 10] (gT (gsCons (gN 8) (gsCons (gN 10) gsNil))) tAll e_law_listed_5) dNil))))
  (sRet (dK (.bl false)))
  sNil)
  (sSeq (sAsg (dAsk "told" ct_law_ask h_law_ask (dIf (dTst (dOp (gEqA false) (dV 4) (dK (.int 0)))) (dCall f_mean_of [] (dCons (dV 3) dNil)) (dCallK0 f_mean_of g_k9 (dCons (dV 3) dNil)))) (gN 6))
  (sSeq (sIf (dTst (dOp (gEqA false) (dV 2) (dLst dNil)))
  (sSeq (sIf (dNot (dTru (dCall f_law_like [] (dCons (dV 6) (dCons (dLst (dCons (dK (.str "BadValue")) (dCons (dTup dNil) dNil))) dNil)))))
  (sRet (dK (.bl false)))
  sNil)
  sCnt)
  sNil)
  (sSeq (sAsg (dK (.int 1)) (gN 7))
  (sSeq (sFor (dWalk (dV 2)) (gN 8)
  w_law_listed_6)
  (sIf (dOr (dTst (dOp (gEqA true) (dOp (gIxT ck) (dV 6) (dK (.int 0))) (dK (.str "told")))) (dNot (dTru (dCall f_law_exact [] (dCons (dOp (gIxT ck) (dV 6) (dK (.int 1))) (dCons (dB bSum (dCons (dLc finF (dWalk (dV 2)) [8] (gN 8) tAll e_law_listed_7) dNil)) (dCons (dOp gMul (dV 7) (dB bLenA (dCons (dV 2) dNil))) dNil)))))))
  (sRet (dK (.bl false)))
  sNil))))))))
@[simp] theorem w_law_listed_8_run (r : Lc) (m : Mem) : w_law_listed_8 r m = (sSeq (sAsg (dIf (dTst (dOp (gEqA false) (dV 4) (dK (.int 0)))) (dCall f_ascending [] (dCons (dV 3) dNil)) (dCallK0 f_ascending g_k8 (dCons (dV 3) dNil))) (gN 5)) (sSeq (sIf (dOr (dNot (dTru (dB bIsi (dCons (dV 5) (dCons (dK (.ty "tuple")) dNil))))) (dOr (dNot (dTru (dB bAll (dCons (dLc finF (dWalk (dV 5)) [8] (gN 8) tAll e_law_listed_4) dNil)))) (dNot (dTru (dB bAll (dCons (dLc finF (dWalk (dV 2)) [8] (gN 8) tAll e_law_listed_3) dNil)))))) (sRet (dK (.bl false))) sNil) (sSeq (sIf (dNot (dTru (dB bAll (dCons (dLc finF (dZip2 (dV 5) (dSl (gSl finF) (dV 5) (dPart (dK (.int 1))) dNo)) [8, 10] (gT (gsCons (gN 8) (gsCons (gN 10) gsNil))) tAll e_law_listed_5) dNil)))) (sRet (dK (.bl false))) sNil) (sSeq (sAsg (dAsk "told" ct_law_ask h_law_ask (dIf (dTst (dOp (gEqA false) (dV 4) (dK (.int 0)))) (dCall f_mean_of [] (dCons (dV 3) dNil)) (dCallK0 f_mean_of g_k9 (dCons (dV 3) dNil)))) (gN 6)) (sSeq (sIf (dTst (dOp (gEqA false) (dV 2) (dLst dNil))) (sSeq (sIf (dNot (dTru (dCall f_law_like [] (dCons (dV 6) (dCons (dLst (dCons (dK (.str "BadValue")) (dCons (dTup dNil) dNil))) dNil))))) (sRet (dK (.bl false))) sNil) sCnt) sNil) (sSeq (sAsg (dK (.int 1)) (gN 7)) (sSeq (sFor (dWalk (dV 2)) (gN 8) w_law_listed_6) (sIf (dOr (dTst (dOp (gEqA true) (dOp (gIxT ck) (dV 6) (dK (.int 0))) (dK (.str "told")))) (dNot (dTru (dCall f_law_exact [] (dCons (dOp (gIxT ck) (dV 6) (dK (.int 1))) (dCons (dB bSum (dCons (dLc finF (dWalk (dV 2)) [8] (gN 8) tAll e_law_listed_7) dNil)) (dCons (dOp gMul (dV 7) (dB bLenA (dCons (dV 2) dNil))) dNil))))))) (sRet (dK (.bl false))) sNil)))))))) r m := rfl
noncomputable def q_law_listed_1 : Bd :=
  (sAsg (dOp (gAdd finF) (dLc finF (dRng1 (dOp (gAdd finF) (dK (.int 1)) (dCall f_law_draw [] (dCons (dV 0) (dCons (dK (.int 6)) dNil))))) [9] (gN 9) tAll e_law_listed_1) (dLst (dCons (dCall f_law_low [] (dCons (dOp gSub (dCall f_law_draw [] (dCons (dV 0) (dCons (dK (.int 9)) dNil))) (dK (.int 4))) (dCons (dOp (gAdd finF) (dK (.int 1)) (dCall f_law_draw [] (dCons (dV 0) (dCons (dK (.int 6)) dNil)))) dNil))) dNil))) (gN 1))
@[simp] theorem q_law_listed_1_run (r : Lc) (m : Mem) : q_law_listed_1 r m = (sAsg (dOp (gAdd finF) (dLc finF (dRng1 (dOp (gAdd finF) (dK (.int 1)) (dCall f_law_draw [] (dCons (dV 0) (dCons (dK (.int 6)) dNil))))) [9] (gN 9) tAll e_law_listed_1) (dLst (dCons (dCall f_law_low [] (dCons (dOp gSub (dCall f_law_draw [] (dCons (dV 0) (dCons (dK (.int 9)) dNil))) (dK (.int 4))) (dCons (dOp (gAdd finF) (dK (.int 1)) (dCall f_law_draw [] (dCons (dV 0) (dCons (dK (.int 6)) dNil)))) dNil))) dNil))) (gN 1)) r m := rfl
noncomputable def q_law_listed_2 : Bd :=
  (sAsg (dLc finF (dRng1 (dCall f_law_draw [] (dCons (dV 0) (dCons (dK (.int 10)) dNil)))) [9] (gN 9) tAll e_law_listed_2) (gN 2))
@[simp] theorem q_law_listed_2_run (r : Lc) (m : Mem) : q_law_listed_2 r m = (sAsg (dLc finF (dRng1 (dCall f_law_draw [] (dCons (dV 0) (dCons (dK (.int 10)) dNil)))) [9] (gN 9) tAll e_law_listed_2) (gN 2)) r m := rfl
noncomputable def q_law_listed_3 : Bd :=
  (sAsg (dB (bLstA finF) (dCons (dV 2) dNil)) (gN 3))
@[simp] theorem q_law_listed_3_run (r : Lc) (m : Mem) : q_law_listed_3 r m = (sAsg (dB (bLstA finF) (dCons (dV 2) dNil)) (gN 3)) r m := rfl
noncomputable def q_law_listed_4 : Bd :=
  (sIf (dTst (dOp (gEqA false) (dCall f_law_draw [] (dCons (dV 0) (dCons (dK (.int 2)) dNil))) (dK (.int 0))))
  (sAsg (dB bTup (dCons (dV 2) dNil)) (gN 3))
  sNil)
@[simp] theorem q_law_listed_4_run (r : Lc) (m : Mem) : q_law_listed_4 r m = (sIf (dTst (dOp (gEqA false) (dCall f_law_draw [] (dCons (dV 0) (dCons (dK (.int 2)) dNil))) (dK (.int 0)))) (sAsg (dB bTup (dCons (dV 2) dNil)) (gN 3)) sNil) r m := rfl
noncomputable def q_law_listed_5 : Bd :=
  (sFor (dRng1 (dK (.int 2))) (gN 4)
  w_law_listed_8)
@[simp] theorem q_law_listed_5_run (r : Lc) (m : Mem) : q_law_listed_5 r m = (sFor (dRng1 (dK (.int 2))) (gN 4) w_law_listed_8) r m := rfl
noncomputable def q_law_listed_6 : Bd :=
  (sRet (dOp (gEqA false) (dB (bLstA finF) (dCons (dV 3) dNil)) (dV 2)))
@[simp] theorem q_law_listed_6_run (r : Lc) (m : Mem) : q_law_listed_6 r m = (sRet (dOp (gEqA false) (dB (bLstA finF) (dCons (dV 3) dNil)) (dV 2))) r m := rfl
noncomputable def b_law_listed : Bd :=
  (sSeq q_law_listed_1
  (sSeq q_law_listed_2
  (sSeq q_law_listed_3
  (sSeq q_law_listed_4
  (sSeq q_law_listed_5
  q_law_listed_6)))))
noncomputable def f_law_listed : Fn := fnD 1 11 b_law_listed
noncomputable def w_law_1 : Bd :=
  (sIf (dOr (dNot (dTru (dCall f_law_joined [] (dCons (dOp (gIxT ck) (dV 3) (dV 4)) (dCons (dOp (gIxT ck) (dV 3) (dOp gSub (dK (.int 1)) (dV 4))) (dCons (dV 4) dNil)))))) (dNot (dTru (dCall f_law_compared [] (dCons (dOp (gIxT ck) (dV 3) (dV 4)) (dCons (dOp (gIxT ck) (dV 3) (dOp gSub (dK (.int 1)) (dV 4))) (dCons (dV 4) dNil)))))))
  (sRet (dK (.bl false)))
  sNil)
@[simp] theorem w_law_1_run (r : Lc) (m : Mem) : w_law_1 r m = (sIf (dOr (dNot (dTru (dCall f_law_joined [] (dCons (dOp (gIxT ck) (dV 3) (dV 4)) (dCons (dOp (gIxT ck) (dV 3) (dOp gSub (dK (.int 1)) (dV 4))) (dCons (dV 4) dNil)))))) (dNot (dTru (dCall f_law_compared [] (dCons (dOp (gIxT ck) (dV 3) (dV 4)) (dCons (dOp (gIxT ck) (dV 3) (dOp gSub (dK (.int 1)) (dV 4))) (dCons (dV 4) dNil))))))) (sRet (dK (.bl false))) sNil) r m := rfl
noncomputable def w_law_2 : Bd :=
  (sSeq (sIf (dOr (dNot (dTru (dCall f_law_made [] (dCons (dV 1) dNil)))) (dNot (dTru (dCall f_law_listed [] (dCons (dV 1) dNil)))))
  (sRet (dK (.bl false)))
  sNil)
  (sSeq (sAsg (dCall f_law_pair [] (dCons (dV 1) dNil)) (gN 3))
  (sFor (dRng1 (dK (.int 2))) (gN 4)
  w_law_1)))
@[simp] theorem w_law_2_run (r : Lc) (m : Mem) : w_law_2 r m = (sSeq (sIf (dOr (dNot (dTru (dCall f_law_made [] (dCons (dV 1) dNil)))) (dNot (dTru (dCall f_law_listed [] (dCons (dV 1) dNil))))) (sRet (dK (.bl false))) sNil) (sSeq (sAsg (dCall f_law_pair [] (dCons (dV 1) dNil)) (gN 3)) (sFor (dRng1 (dK (.int 2))) (gN 4) w_law_1))) r m := rfl
noncomputable def b_law : Bd :=
  (sSeq (sAsg (dCall f_law_bag [] (dCons (dV 0) dNil)) (gN 1))
  (sSeq (sFor (dRng1 (dK (.int 9))) (gN 2)
  w_law_2)
  (sRet (dK (.bl true)))))
noncomputable def f_law : Fn := fnD 1 5 b_law
end
end P_k01
/-! each def computes this (printed by gen2.py) -/
namespace P_k01
open PySem L2 PySem.Spec PyProof.Rows LN LamX NdefX
def top (i : Nat) : Stmt := PySem.Challenge.pw_lookingnets_k01_fractions_worked.main.body.getD i (.Pass ⟨0, 0, 0, 0⟩)
abbrev s_below : Stmt := top 11
abbrev s_floor_of : Stmt := top 12
abbrev s_ascending : Stmt := top 13
abbrev s_law_bag : Stmt := top 16
abbrev s_law_draw : Stmt := top 17
abbrev s_law_like : Stmt := top 19
abbrev s_law_low : Stmt := top 20
abbrev s_law_order : Stmt := top 21
abbrev s_law_ask : Stmt := top 26
abbrev s_law_of : Stmt := top 18
abbrev s_law_exact : Stmt := top 25
abbrev s_fraction : Stmt := top 6
abbrev s_law_number : Stmt := top 22
abbrev s_plus : Stmt := top 7
abbrev s_minus : Stmt := top 8
abbrev s_times : Stmt := top 9
abbrev s_quotient : Stmt := top 10
abbrev s_law_some : Stmt := top 23
abbrev s_mean_of : Stmt := top 14
abbrev s_law_pair : Stmt := top 24
abbrev s_law_made : Stmt := top 27
abbrev s_law_compared : Stmt := top 29
abbrev s_law_joined : Stmt := top 28
abbrev s_law_listed : Stmt := top 30
abbrev s_law : Stmt := top 31
abbrev id_BadValue : IniD := ⟨"BadValue", "BadValue.__init__", defArgs (clsIni (top 3)), defBody (clsIni (top 3)), defScope (clsIni (top 3))⟩
abbrev FnP (K : PySem.W.Frag) (x : Str) (st : Stmt) (dvs : List V) (f : Addr) (fd : FuncData) : Prop := FunD K x x (defArgs st) (defBody st) (defScope st) dvs [] f fd
end P_k01
namespace P_k01
open PySem PySem.Spec PyProof.Rows L2 LN LamX NdefX
def dd_below : He.DefD := ⟨("below", none), "below", "below", defArgs s_below, defBody s_below, defScope s_below, [], []⟩
def dd_floor_of : He.DefD := ⟨("floor_of", none), "floor_of", "floor_of", defArgs s_floor_of, defBody s_floor_of, defScope s_floor_of, [], []⟩
def dd_ascending : He.DefD := ⟨("ascending", none), "ascending", "ascending", defArgs s_ascending, defBody s_ascending, defScope s_ascending, [], []⟩
def dd_law_bag : He.DefD := ⟨("_law_bag", none), "_law_bag", "_law_bag", defArgs s_law_bag, defBody s_law_bag, defScope s_law_bag, [], []⟩
def dd_law_draw : He.DefD := ⟨("_law_draw", none), "_law_draw", "_law_draw", defArgs s_law_draw, defBody s_law_draw, defScope s_law_draw, [], []⟩
def dd_law_like : He.DefD := ⟨("_law_like", none), "_law_like", "_law_like", defArgs s_law_like, defBody s_law_like, defScope s_law_like, [], []⟩
def dd_law_low : He.DefD := ⟨("_law_low", none), "_law_low", "_law_low", defArgs s_law_low, defBody s_law_low, defScope s_law_low, [], []⟩
def dd_law_order : He.DefD := ⟨("_law_order", none), "_law_order", "_law_order", defArgs s_law_order, defBody s_law_order, defScope s_law_order, [], []⟩
def dd_law_ask : He.DefD := ⟨("_law_ask", none), "_law_ask", "_law_ask", defArgs s_law_ask, defBody s_law_ask, defScope s_law_ask, [], []⟩
def dd_law_of : He.DefD := ⟨("_law_of", none), "_law_of", "_law_of", defArgs s_law_of, defBody s_law_of, defScope s_law_of, [], []⟩
def dd_law_exact : He.DefD := ⟨("_law_exact", none), "_law_exact", "_law_exact", defArgs s_law_exact, defBody s_law_exact, defScope s_law_exact, [], []⟩
def dd_fraction : He.DefD := ⟨("fraction", none), "fraction", "fraction", defArgs s_fraction, defBody s_fraction, defScope s_fraction, [.int 1], []⟩
def dd_law_number : He.DefD := ⟨("_law_number", none), "_law_number", "_law_number", defArgs s_law_number, defBody s_law_number, defScope s_law_number, [], []⟩
def dd_plus : He.DefD := ⟨("plus", none), "plus", "plus", defArgs s_plus, defBody s_plus, defScope s_plus, [], []⟩
def dd_minus : He.DefD := ⟨("minus", none), "minus", "minus", defArgs s_minus, defBody s_minus, defScope s_minus, [], []⟩
def dd_times : He.DefD := ⟨("times", none), "times", "times", defArgs s_times, defBody s_times, defScope s_times, [], []⟩
def dd_quotient : He.DefD := ⟨("quotient", none), "quotient", "quotient", defArgs s_quotient, defBody s_quotient, defScope s_quotient, [], []⟩
def dd_law_some : He.DefD := ⟨("_law_some", none), "_law_some", "_law_some", defArgs s_law_some, defBody s_law_some, defScope s_law_some, [], []⟩
def dd_mean_of : He.DefD := ⟨("mean_of", none), "mean_of", "mean_of", defArgs s_mean_of, defBody s_mean_of, defScope s_mean_of, [], []⟩
def dd_law_pair : He.DefD := ⟨("_law_pair", none), "_law_pair", "_law_pair", defArgs s_law_pair, defBody s_law_pair, defScope s_law_pair, [], []⟩
def dd_law_made : He.DefD := ⟨("_law_made", none), "_law_made", "_law_made", defArgs s_law_made, defBody s_law_made, defScope s_law_made, [], []⟩
def dd_law_compared : He.DefD := ⟨("_law_compared", none), "_law_compared", "_law_compared", defArgs s_law_compared, defBody s_law_compared, defScope s_law_compared, [], []⟩
def dd_law_joined : He.DefD := ⟨("_law_joined", none), "_law_joined", "_law_joined", defArgs s_law_joined, defBody s_law_joined, defScope s_law_joined, [], []⟩
def dd_law_listed : He.DefD := ⟨("_law_listed", none), "_law_listed", "_law_listed", defArgs s_law_listed, defBody s_law_listed, defScope s_law_listed, [], []⟩
def dd_law : He.DefD := ⟨("law", none), "law", "law", defArgs s_law, defBody s_law, defScope s_law, [], []⟩
def hfn : List He.DefD := [dd_below, dd_floor_of, dd_ascending, dd_law_bag, dd_law_draw, dd_law_like, dd_law_low, dd_law_order, dd_law_ask, dd_law_of, dd_law_exact, dd_fraction, dd_law_number, dd_plus, dd_minus, dd_times, dd_quotient, dd_law_some, dd_mean_of, dd_law_pair, dd_law_made, dd_law_compared, dd_law_joined, dd_law_listed, dd_law]
def hfa : List He.Fa := [.glo "below", .glo "floor_of", .glo "ascending", .glo "_law_bag", .glo "_law_draw", .glo "_law_like", .glo "_law_low", .glo "_law_order", .glo "_law_ask", .glo "_law_of", .glo "_law_exact", .glo "fraction", .glo "_law_number", .glo "plus", .glo "minus", .glo "times", .glo "quotient", .glo "_law_some", .glo "mean_of", .glo "_law_pair", .glo "_law_made", .glo "_law_compared", .glo "_law_joined", .glo "_law_listed", .glo "law", .free "abs", .free "all", .free "bool", .free "int", .free "isinstance", .free "len", .free "list", .free "max", .free "range", .free "sorted", .free "str", .free "sum", .free "tuple", .free "zip", .free "super", .glo "NetError", .exm "BadValue" "NetError" true]
def hcs : List (List V) := [[.int 0, .int 1]]
def htq : List (He.Defn × Str) := [(("ascending", none), ((("ascending" : Str) ++ ".<locals>.") ++ "<lambda>")), (("_law_made", none), ((("_law_made" : Str) ++ ".<locals>.") ++ "<lambda>")), (("_law_joined", none), ((("_law_joined" : Str) ++ ".<locals>.") ++ "<lambda>")), (("_law_listed", none), ((("_law_listed" : Str) ++ ".<locals>.") ++ "<lambda>"))]
def htf : List He.Defn := htq.map (·.1)
def hins : List IniD := [id_BadValue]
def hts : List He.Tab := []
def hfile : Str := (PySem.Challenge.pw_lookingnets_k01_fractions_worked.main.file : Str)
def hex (K : PySem.W.Frag) : Bool := bltX K "gcd" "math.gcd" && (bltX K "lcm" "math.lcm" && (conX K "ZERO" 3 c_ZERO hcs && (clsB hfile xbV K "BadValue" ["value", "code"] && (tabNd K htq))))
abbrev hR : PySem.W.OpenRow := PySem.W.OpenLaw.row PySem.Challenge.rw_lookingnets_k01_fractions_worked
abbrev hkX : PySem.W.Hook := hookZ 4 hfa hfn hts htf hins hex
def hob (s : PySem.W.SharedT) : AlZ := obsZ 4 hfa hfn hts htf hins hex (HandSHeadRun.getT s)
theorem hob_eq (s : PySem.W.SharedT) : hob s = hkX.obs s.abs := obsZ_eq (HandSHeadRun.getT_eq s)
def hn0 : List Str := ["NetError", "BadValue", "ZERO", "fraction", "plus", "minus", "times", "quotient", "below", "floor_of", "ascending", "mean_of", "_law_bag", "_law_draw", "_law_of", "_law_like", "_law_low", "_law_order", "_law_number", "_law_some", "_law_pair", "_law_exact", "_law_ask", "_law_made", "_law_joined", "_law_compared", "_law_listed"]
def hnames : List Str := hn0
theorem hrun (w : World) : HandSHeadRun.RunEqI hR (PySem.W.view hR.prog [0, 31]) hkX hob 6000 hnames w := by
  unfold HandSHeadRun.RunEqI
  kernel_rfl
end P_k01
/-! LNv: statements, operators, subscripts by simp. -/
namespace LN
open PySem L2 PySem.Spec PyProof.Rows

/-! ### statements -/
section
variable {ρ ρ' : Lc} {m m' : Mem} {d : D} {a b : Bd} {f : Ev} {g : Tg} {fs : EvG (List D)} {t : EvG Bool}
def kS (b : Bd) (R : Rs Fl) : Rs Fl := match R with
  | .ok (.nx ρ') m' => b ρ' m'
  | r => r
@[simp] theorem sSeq_run : sSeq a b ρ m = kS b (a ρ m) := rfl
@[simp] theorem kS_nx : kS b (.ok (.nx ρ') m') = b ρ' m' := rfl
@[simp] theorem kS_rt : kS b (.ok (.rt d) m') = .ok (.rt d) m' := rfl
@[simp] theorem kS_bk : kS b (.ok (.bk ρ) m') = .ok (.bk ρ) m' := rfl
@[simp] theorem kS_ct : kS b (.ok (.ct ρ) m') = .ok (.ct ρ) m' := rfl
def kRet (d : D) (m : Mem) : Rs Fl := .ok (.rt d) m
def kNx (ρ : Lc) (_ : D) (m : Mem) : Rs Fl := .ok (.nx ρ) m
def kNx2 (ρ' : Lc) (m : Mem) : Rs Fl := .ok (.nx ρ') m
def kIf (a b : Bd) (ρ : Lc) (k : Bool) (m : Mem) : Rs Fl := if k = true then a ρ m else b ρ m
@[simp] theorem sNil_run : sNil ρ m = .ok (.nx ρ) m := rfl
@[simp] theorem sBrk_run : sBrk ρ m = .ok (.bk ρ) m := rfl
@[simp] theorem sCnt_run : sCnt ρ m = .ok (.ct ρ) m := rfl
@[simp] theorem sRetN_run : sRetN ρ m = .ok (.rt .non) m := rfl
@[simp] theorem sNever_run : sNever ρ m = .stuck := rfl
@[simp] theorem sRet_run : sRet f ρ m = (f ρ m).bind kRet := rfl
@[simp] theorem kRet_run : kRet d m = .ok (.rt d) m := rfl
@[simp] theorem sExpr_run : sExpr f ρ m = (f ρ m).bind (kNx ρ) := rfl
@[simp] theorem kNx_run : kNx ρ d m = .ok (.nx ρ) m := rfl
@[simp] theorem kNx2_run : kNx2 ρ m = .ok (.nx ρ) m := rfl
@[simp] theorem sIf_run : sIf t a b ρ m = (t ρ m).bind (kIf a b ρ) := rfl
@[simp] theorem kIf_t : kIf a b ρ true m = a ρ m := rfl
@[simp] theorem kIf_f : kIf a b ρ false m = b ρ m := rfl
def kAsg (g : Tg) (ρ : Lc) (d : D) (m : Mem) : Rs Fl := (g d ρ m).bind kNx2
@[simp] theorem sAsg_run : sAsg f g ρ m = (f ρ m).bind (kAsg g ρ) := rfl
@[simp] theorem kAsg_run : kAsg g ρ d m = (g d ρ m).bind kNx2 := rfl
@[simp] theorem gN_run {i : Nat} : gN i d ρ m = .ok (ρ.set i (some d)) m := rfl
variable {gs : Tgs} {ds : List D}
def kGs (gs : Tgs) (r : List D) (ρ : Lc) (m : Mem) : Rs Lc := gs r ρ m
@[simp] theorem gT_run : gT gs (.tup ds) ρ m = gs ds ρ m := rfl
@[simp] theorem gsNil_run : gsNil [] ρ m = .ok ρ m := rfl
@[simp] theorem gsCons_run : gsCons g gs (d :: ds) ρ m = (g d ρ m).bind (gs ds) := rfl
def kPar (i j : Nat) (ρ : Lc) (ds : List D) (m : Mem) : Rs Fl := match ds with
  | [d1, d2] => .ok (.nx ((ρ.set i (some d1)).set j (some d2))) m
  | _ => .stuck
@[simp] theorem sPar_run {i j : Nat} : sPar i j fs ρ m = (fs ρ m).bind (kPar i j ρ) := by
  unfold sPar
  congr 1
@[simp] theorem kPar_run {i j : Nat} {x y : D} : kPar i j ρ [x, y] m = .ok (.nx ((ρ.set i (some x)).set j (some y))) m := rfl
variable {fo fi : Ev} {st : D → D → D → Mem → Rs Unit} {o x : D}
def kG1 (st : D → D → D → Mem → Rs Unit) (fi : Ev) (d : D) (ρ : Lc) (o : D) (m : Mem) : Rs Lc := (fi ρ m).bind fun di m2 => (st o di d m2).bind fun _ m3 => .ok ρ m3
def kG2 (st : D → D → D → Mem → Rs Unit) (d : D) (ρ : Lc) (o i : D) (m : Mem) : Rs Lc := (st o i d m).bind fun _ m3 => .ok ρ m3
def kG3 (ρ : Lc) (_ : Unit) (m : Mem) : Rs Lc := .ok ρ m
@[simp] theorem gSub_run : gSub' fo fi st d ρ m = (fo ρ m).bind (kG1 st fi d ρ) := rfl
@[simp] theorem kG1_run : kG1 st fi d ρ o m = (fi ρ m).bind (kG2 st d ρ o) := rfl
@[simp] theorem kG2_run : kG2 st d ρ o x m = (st o x d m).bind (kG3 ρ) := rfl
@[simp] theorem kG3_run : kG3 ρ () m = .ok ρ m := rfl
variable {fwk : EvG Wk} {ck : Mem → Prop}
noncomputable def kFor (g : Tg) (b : Bd) (ρ : Lc) (wk : Wk) (m : Mem) : Rs Fl := forD wk.ck g b wk.ds ρ m
@[simp] theorem sFor_run : sFor fwk g b ρ m = (fwk ρ m).bind (kFor g b ρ) := rfl
@[simp] theorem kFor_run : kFor g b ρ ⟨ds, ck⟩ m = forD ck g b ds ρ m := rfl
@[simp] theorem kFor_of : kFor g b ρ (.of ds) m = forD (fun _ => True) g b ds ρ m := rfl
theorem forD_nil (h : ck m) : forD ck g b [] ρ m = .ok (.nx ρ) m := by rw [forD, if_pos h]
theorem forD_step {ρ1 ρ2 : Lc} {m1 m2 : Mem} (h : ck m) (h1 : g d ρ m = .ok ρ1 m1) (h2 : b ρ1 m1 = .ok (.nx ρ2) m2) : forD ck g b (d :: ds) ρ m = forD ck g b ds ρ2 m2 := by
  rw [forD, if_pos h, h1, Rs.bind_ok, h2]
theorem forD_stepC {ρ1 ρ2 : Lc} {m1 m2 : Mem} (h : ck m) (h1 : g d ρ m = .ok ρ1 m1) (h2 : b ρ1 m1 = .ok (.ct ρ2) m2) : forD ck g b (d :: ds) ρ m = forD ck g b ds ρ2 m2 := by
  rw [forD, if_pos h, h1, Rs.bind_ok, h2]
theorem forD_brk {ρ1 ρ2 : Lc} {m1 m2 : Mem} (h : ck m) (h1 : g d ρ m = .ok ρ1 m1) (h2 : b ρ1 m1 = .ok (.bk ρ2) m2) : forD ck g b (d :: ds) ρ m = .ok (.nx ρ2) m2 := by
  rw [forD, if_pos h, h1, Rs.bind_ok, h2]
theorem forD_ret {ρ1 : Lc} {m1 m2 : Mem} {x : D} (h : ck m) (h1 : g d ρ m = .ok ρ1 m1) (h2 : b ρ1 m1 = .ok (.rt x) m2) : forD ck g b (d :: ds) ρ m = .ok (.rt x) m2 := by
  rw [forD, if_pos h, h1, Rs.bind_ok, h2]
/-- each turn takes I (of what is left) to I of the rest -/
theorem forD_ind (I : List D → Lc → Mem → Prop) : ∀ (ds : List D) (ρ : Lc) (m : Mem), I ds ρ m → (∀ ds ρ m, I ds ρ m → ck m) →
    (∀ d ds ρ m, I (d :: ds) ρ m → ∃ ρ1 m1 ρ2 m2, g d ρ m = .ok ρ1 m1 ∧ (b ρ1 m1 = .ok (.nx ρ2) m2 ∨ b ρ1 m1 = .ok (.ct ρ2) m2) ∧ I ds ρ2 m2) →
    ∃ ρ' m', forD ck g b ds ρ m = .ok (.nx ρ') m' ∧ I [] ρ' m'
  | [], ρ, m, h, hc, _ => ⟨ρ, m, forD_nil (hc _ _ _ h), h⟩
  | d :: ds, ρ, m, h, hc, hs => by
    obtain ⟨ρ1, m1, ρ2, m2, e1, e2, h2⟩ := hs d ds ρ m h
    obtain ⟨ρ', m', e3, h3⟩ := forD_ind I ds ρ2 m2 h2 hc hs
    refine ⟨ρ', m', ?_, h3⟩
    rcases e2 with e2 | e2
    · rw [forD_step (hc _ _ _ h) e1 e2, e3]
    · rw [forD_stepC (hc _ _ _ h) e1 e2, e3]
end
/-! ### loops that are folds -/
section
variable {ck : Mem → Prop} {g : Tg} {b : Bd} {t : EvG Bool} {f : Ev}
theorem forD_fold {σ α : Type} (R : σ → Lc) (M : σ → Mem) (e : α → D) (step : σ → α → σ) (J : σ → Prop) : ∀ (xs : List α) (s : σ), J s → (∀ s, J s → ck (M s)) →
    (∀ s x, x ∈ xs → J s → J (step s x) ∧ ∃ ρ1 m1, g (e x) (R s) (M s) = .ok ρ1 m1 ∧ (b ρ1 m1 = .ok (.nx (R (step s x))) (M (step s x)) ∨ b ρ1 m1 = .ok (.ct (R (step s x))) (M (step s x)))) →
    forD ck g b (xs.map e) (R s) (M s) = .ok (.nx (R (xs.foldl step s))) (M (xs.foldl step s)) ∧ J (xs.foldl step s)
  | [], s, j, hc, _ => ⟨forD_nil (hc _ j), j⟩
  | x :: xs, s, j, hc, hs => by
    obtain ⟨j2, ρ1, m1, e1, e2⟩ := hs s x (by simp) j
    have ih := forD_fold R M e step J xs (step s x) j2 hc fun s y hy => hs s y (by simp [hy])
    refine ⟨?_, ih.2⟩
    rw [List.map_cons, List.foldl_cons]
    rcases e2 with e2 | e2
    · rw [forD_step (hc _ j) e1 e2, ih.1]
    · rw [forD_stepC (hc _ j) e1 e2, ih.1]
theorem forD_stepB {ρ ρ2 : Lc} {m m2 : Mem} {d : D} {ds : List D} (h : ck m) (h1 : (g d ρ m).bind b = .ok (.nx ρ2) m2) : forD ck g b (d :: ds) ρ m = forD ck g b ds ρ2 m2 := by
  rw [forD, if_pos h]
  cases hg : g d ρ m with
  | stuck => rw [hg] at h1; cases h1
  | err e m1 => rw [hg] at h1; cases h1
  | ok ρ1 m1 =>
    rw [hg] at h1
    have h1 : b ρ1 m1 = _ := h1
    rw [Rs.bind_ok, h1]
/-- a loop whose turns are steps of a function; z is what its turns leave behind -/
theorem forD_pure {σ α ζ : Type} (R : σ → ζ → Lc) (M : σ → Mem) (e : α → D) (step : σ → α → σ) (J : List α → σ → Prop) : ∀ (xs : List α) (s : σ) (z : ζ), J xs s → (∀ xs s, J xs s → ck (M s)) →
    (∀ x xs s z, J (x :: xs) s → J xs (step s x) ∧ ∃ z', (g (e x) (R s z) (M s)).bind b = .ok (.nx (R (step s x) z')) (M (step s x))) →
    ∃ z', forD ck g b (xs.map e) (R s z) (M s) = .ok (.nx (R (xs.foldl step s) z')) (M (xs.foldl step s)) ∧ J [] (xs.foldl step s)
  | [], s, z, j, hc, _ => ⟨z, forD_nil (hc _ _ j), j⟩
  | x :: xs, s, z, j, hc, hs => by
    obtain ⟨j2, z', e1⟩ := hs x xs s z j
    obtain ⟨z2, e2, j3⟩ := forD_pure R M e step J xs (step s x) z' j2 hc hs
    exact ⟨z2, by rw [List.map_cons, forD_stepB (hc _ _ j) e1, e2]; rfl, j3⟩
def kFl (ck : Mem → Prop) (g : Tg) (b : Bd) (k : Lc → Mem → Rs Fl) (R : Rs Fl) : Rs Fl := match R with
  | .ok (.nx ρ2) m2 => k ρ2 m2
  | .ok (.ct ρ2) m2 => k ρ2 m2
  | .ok (.bk ρ2) m2 => .ok (.nx ρ2) m2
  | r => r
@[simp] theorem kFl_nx {k : Lc → Mem → Rs Fl} {ρ2 : Lc} {m2 : Mem} : kFl ck g b k (.ok (.nx ρ2) m2) = k ρ2 m2 := rfl
@[simp] theorem kFl_ct {k : Lc → Mem → Rs Fl} {ρ2 : Lc} {m2 : Mem} : kFl ck g b k (.ok (.ct ρ2) m2) = k ρ2 m2 := rfl
@[simp] theorem kFl_bk {k : Lc → Mem → Rs Fl} {ρ2 : Lc} {m2 : Mem} : kFl ck g b k (.ok (.bk ρ2) m2) = .ok (.nx ρ2) m2 := rfl
@[simp] theorem kFl_rt {k : Lc → Mem → Rs Fl} {d : D} {m2 : Mem} : kFl ck g b k (.ok (.rt d) m2) = .ok (.rt d) m2 := rfl
theorem forD_cons {ρ : Lc} {m : Mem} {d : D} {ds : List D} (h : ck m) : forD ck g b (d :: ds) ρ m = kFl ck g b (forD ck g b ds) ((g d ρ m).bind b) := by
  rw [forD, if_pos h]
  cases hg : g d ρ m with
  | stuck => rfl
  | err e m1 => rfl
  | ok ρ1 m1 =>
    show (match b ρ1 m1 with
      | .ok (.nx ρ2) m2 => forD ck g b ds ρ2 m2
      | .ok (.ct ρ2) m2 => forD ck g b ds ρ2 m2
      | .ok (.bk ρ2) m2 => .ok (.nx ρ2) m2
      | r => r) = kFl ck g b (forD ck g b ds) (b ρ1 m1)
    rcases b ρ1 m1 with _ | ⟨fl, m2⟩ | ⟨e, m2⟩
    · rfl
    · cases fl <;> rfl
    · rfl
@[simp] theorem forD_consT {ρ : Lc} {m : Mem} {d : D} {ds : List D} : forD (fun _ => True) g b (d :: ds) ρ m = kFl (fun _ => True) g b (forD (fun _ => True) g b ds) ((g d ρ m).bind b) := forD_cons trivial
@[simp] theorem forD_nilT {ρ : Lc} {m : Mem} : forD (fun _ => True) g b [] ρ m = .ok (.nx ρ) m := forD_nil trivial
theorem lcD_nil {ρ : Lc} {m : Mem} (h : ck m) : lcD ck g t f [] ρ m = .ok [] m := by rw [lcD, if_pos h]
theorem lcD_put {ρ ρ1 : Lc} {m m1 m2 m3 : Mem} {d y : D} {ds : List D} (h : ck m) (h1 : g d ρ m = .ok ρ1 m1) (h2 : t ρ1 m1 = .ok true m2) (h3 : f ρ1 m2 = .ok y m3) :
    lcD ck g t f (d :: ds) ρ m = (lcD ck g t f ds ρ m3).bind fun ys m4 => .ok (y :: ys) m4 := by
  rw [lcD, if_pos h, h1]
  simp only [Rs.nox, Rs.bind_ok, h2, if_true, h3]
theorem lcD_skip {ρ ρ1 : Lc} {m m1 m2 : Mem} {d : D} {ds : List D} (h : ck m) (h1 : g d ρ m = .ok ρ1 m1) (h2 : t ρ1 m1 = .ok false m2) :
    lcD ck g t f (d :: ds) ρ m = lcD ck g t f ds ρ m2 := by
  rw [lcD, if_pos h, h1]
  simp [Rs.nox, h2]
/-- a comprehension that leaves the memory as it is -/
theorem lcD_fm {α : Type} (e : α → D) (h : α → Option D) {ρ : Lc} {m : Mem} : ∀ (xs : List α), ck m →
    (∀ x, x ∈ xs → ∃ ρ1, g (e x) ρ m = .ok ρ1 m ∧ ((h x = none ∧ t ρ1 m = .ok false m) ∨ ∃ y, h x = some y ∧ t ρ1 m = .ok true m ∧ f ρ1 m = .ok y m)) →
    lcD ck g t f (xs.map e) ρ m = .ok (xs.filterMap h) m
  | [], hc, _ => lcD_nil hc
  | x :: xs, hc, hs => by
    obtain ⟨ρ1, e1, e2⟩ := hs x (by simp)
    have ih := lcD_fm e h xs hc fun y hy => hs y (by simp [hy])
    rw [List.map_cons, List.filterMap_cons]
    rcases e2 with ⟨h1, h2⟩ | ⟨y, h1, h2, h3⟩
    · rw [lcD_skip hc e1 h2, h1, ih]
    · rw [lcD_put hc e1 h2 h3, h1, ih]; rfl
theorem lcD_map {α : Type} (e : α → D) (h : α → D) {ρ : Lc} {m : Mem} (xs : List α) (hc : ck m) (hs : ∀ x, x ∈ xs → ∃ ρ1, g (e x) ρ m = .ok ρ1 m ∧ t ρ1 m = .ok true m ∧ f ρ1 m = .ok (h x) m) :
    lcD ck g t f (xs.map e) ρ m = .ok (xs.map h) m := by
  have := lcD_fm (ck := ck) (g := g) (t := t) (f := f) e (fun x => some (h x)) (ρ := ρ) (m := m) xs hc fun x hx => by
    obtain ⟨ρ1, e1, e2, e3⟩ := hs x hx
    exact ⟨ρ1, e1, .inr ⟨_, rfl, e2, e3⟩⟩
  rw [this]
  simp
/-- a comprehension that changes the memory: I is of what is made -/
theorem lcD_ind {α : Type} (e : α → D) {ρ : Lc} (I : List α → List D → Mem → Prop) : ∀ (xs : List α) (zs : List D) (m : Mem), I xs zs m → (∀ xs zs m, I xs zs m → ck m) →
    (∀ x xs zs m, I (x :: xs) zs m → ∃ ρ1 m1 y m2, g (e x) ρ m = .ok ρ1 m1 ∧ t ρ1 m1 = .ok true m1 ∧ f ρ1 m1 = .ok y m2 ∧ I xs (zs ++ [y]) m2) →
    ∃ ys m', lcD ck g t f (xs.map e) ρ m = .ok ys m' ∧ I [] (zs ++ ys) m'
  | [], zs, m, h, hc, _ => ⟨[], m, lcD_nil (hc _ _ _ h), by rw [List.append_nil]; exact h⟩
  | x :: xs, zs, m, h, hc, hs => by
    obtain ⟨ρ1, m1, y, m2, e1, e2, e3, h2⟩ := hs x xs zs m h
    obtain ⟨ys, m', e4, h4⟩ := lcD_ind e I xs (zs ++ [y]) m2 h2 hc hs
    refine ⟨y :: ys, m', ?_, by simpa using h4⟩
    rw [List.map_cons, lcD_put (hc _ _ _ h) e1 e2 e3, e4]; rfl
end
section
variable {ρ ρ' : Lc} {m m' : Mem} {d : D} {f : Ev} {g : Tg} {t : EvG Bool} {fin : List D → Mem → Rs D} {fi : EvG Wk} {vs : List Nat} {ds : List D} {ck : Mem → Prop}
noncomputable def kLc (g : Tg) (t : EvG Bool) (f : Ev) (fin : List D → Mem → Rs D) (ρ : Lc) (wk : Wk) (m : Mem) : Rs D := (lcD wk.ck g t f wk.ds ρ m).bind fin
@[simp] theorem dLc_run : dLc fin fi vs g t f ρ m = (fi ρ m).bind (kLc g t f fin (wipeD ρ vs)) := rfl
@[simp] theorem kLc_run : kLc g t f fin ρ ⟨ds, ck⟩ m = (lcD ck g t f ds ρ m).bind fin := rfl
@[simp] theorem kLc_of : kLc g t f fin ρ (.of ds) m = (lcD (fun _ => True) g t f ds ρ m).bind fin := rfl
@[simp] theorem wipeD_nil : wipeD ρ [] = ρ := rfl
@[simp] theorem wipeD_cons {v : Nat} : wipeD ρ (v :: vs) = (wipeD ρ vs).set v none := rfl
@[simp] theorem tAll_run : tAll ρ m = .ok true m := rfl
@[simp] theorem finF_run : finF ds m = if lineOk ds.length = true then .ok (.lst ds) m else .stuck := rfl
@[simp] theorem finM_run : finM ds m = if lineOk ds.length = true then newObj (.lst ds) m else .stuck := rfl
@[simp] theorem finKF_run {ks : List L2.Key} : finKF ks ds m = .ok (.dk ks ds) m := rfl
@[simp] theorem finKM_run {ks : List L2.Key} : finKM ks ds m = newObj (.dk ks ds) m := rfl
/-! walks -/
def kWalk (d : D) (m1 : Mem) : Rs Wk := match d with
  | .str s => .ok (.of (signs s)) m1
  | .loc f i => match m1.get f i with
    | some (.lst xs) => .ok ⟨xs, fun m2 => m2.get f i = some (.lst xs)⟩ m1
    | _ => .stuck
  | d => match vwS m1 d with
    | some xs => .ok (.of xs) m1
    | none => .stuck
@[simp] theorem dWalk_run : dWalk f ρ m = (f ρ m).bind kWalk := by
  unfold dWalk
  congr 1
@[simp] theorem kWalk_lst : kWalk (.lst ds) m = .ok (.of ds) m := rfl
@[simp] theorem kWalk_tup : kWalk (.tup ds) m = .ok (.of ds) m := rfl
@[simp] theorem kWalk_scr {xs : List Int} : kWalk (.scr xs) m = .ok (.of (xs.map .int)) m := rfl
theorem kWalk_loc {i j : Nat} (h : m.get i j = some (.lst ds)) : kWalk (.loc i j) m = .ok ⟨ds, fun m2 => m2.get i j = some (.lst ds)⟩ m := by
  unfold kWalk
  dsimp only
  rw [h]
def ckL (i j : Nat) (ds : List D) (m : Mem) : Prop := m.get i j = some (.lst ds)
def gW (i j : Nat) (o : Option MO) (m : Mem) : Rs Wk := match o with
  | some (.lst ds) => .ok ⟨ds, ckL i j ds⟩ m
  | _ => .stuck
@[simp] theorem gW_run {i j : Nat} : gW i j (some (.lst ds)) m = .ok ⟨ds, ckL i j ds⟩ m := rfl
@[simp] theorem kWalk_loc' {i j : Nat} : kWalk (.loc i j) m = gW i j (m.get i j) m := by
  unfold kWalk gW
  dsimp only
  cases h : m.get i j with
  | none => rfl
  | some o => cases o <;> rfl
def kRng1 (d : D) (m : Mem) : Rs Wk := match d with
  | .int n => if n < 2 ^ 62 ∧ -(2 ^ 62) ≤ n then .ok (.of ((List.range n.toNat).map fun (i : Nat) => D.int (i : Int))) m else .stuck
  | _ => .stuck
@[simp] theorem dRng1_run : dRng1 f ρ m = (f ρ m).bind kRng1 := by
  unfold dRng1
  congr 1
def rngOk (n : Int) : Bool := decide (n < 2 ^ 62 ∧ -(2 ^ 62) ≤ n)
@[simp] theorem kRng1_run {n : Int} : kRng1 (.int n) m = if rngOk n = true then .ok (.of ((List.range n.toNat).map fun (i : Nat) => D.int (i : Int))) m else .stuck := by
  unfold kRng1 rngOk
  simp only [decide_eq_true_eq]
theorem rngOk_of {n : Int} (h0 : 0 ≤ n) (h : n < 1000000000) : rngOk n = true := by
  unfold rngOk
  rw [decide_eq_true_eq]
  omega
end

/-! ### operators -/
section
variable {m : Mem} {i j : Int} {b c neg : Bool} {xs ys ds : List D} {fin : List D → Mem → Rs D} {x y : Str} {p : Int → Int → Bool} {ck : NK → Bool} {d : D}
@[simp] theorem gAdd_int : gAdd fin (.int i) (.int j) m = .ok (.int (i + j)) m := rfl
@[simp] theorem gAdd_tup : gAdd fin (.tup xs) (.tup ys) m = if lineOk (xs.length + ys.length) = true then .ok (.tup (xs ++ ys)) m else .stuck := rfl
@[simp] theorem gAdd_lst : gAdd fin (.lst xs) (.lst ys) m = fin (xs ++ ys) m := rfl
def gA2 (fin : List D → Mem → Rs D) (a b : Option (List D)) (m : Mem) : Rs D := match a, b with
  | some xs, some ys => fin (xs ++ ys) m
  | _, _ => .stuck
@[simp] theorem gA2_run : gA2 fin (some xs) (some ys) m = fin (xs ++ ys) m := rfl
@[simp] theorem gAdd_ll {f n : Nat} : gAdd fin (.loc f n) (.lst ys) m = gA2 fin (vwL m (.loc f n)) (some ys) m := rfl
@[simp] theorem gAdd_lr {f n : Nat} : gAdd fin (.lst xs) (.loc f n) m = gA2 fin (some xs) (vwL m (.loc f n)) m := rfl
@[simp] theorem gAdd_lo {f n f' n' : Nat} : gAdd fin (.loc f' n') (.loc f n) m = gA2 fin (vwL m (.loc f' n')) (vwL m (.loc f n)) m := rfl
@[simp] theorem gAdd_str : gAdd fin (.str x) (.str y) m = if lineOk (x.length + y.length) = true then .ok (.str (x ++ y)) m else .stuck := rfl
@[simp] theorem gSub_int : gSub (.int i) (.int j) m = .ok (.int (i - j)) m := rfl
@[simp] theorem gMul_int : gMul (.int i) (.int j) m = if mulOk i j = true then .ok (.int (i * j)) m else .stuck := rfl
@[simp] theorem gFdiv_int : gFdiv (.int i) (.int j) m = if divOk j = true then .ok (.int (i.fdiv j)) m else .stuck := rfl
@[simp] theorem gMod_int : gMod (.int i) (.int j) m = if j ≠ 0 then .ok (.int (i.fmod j)) m else .stuck := rfl
@[simp] theorem gPow_int : gPow (.int i) (.int j) m = if powOk i j = true then .ok (.int (i ^ j.toNat)) m else .stuck := rfl
@[simp] theorem gCmp_int : gCmp p (.int i) (.int j) m = .ok (.bl (p i j)) m := rfl
@[simp] theorem gNeg_int : gNeg (.int i) m = .ok (.int (-i)) m := rfl
@[simp] theorem gIsN_nn : gIsN neg .non .non m = .ok (.bl (!neg)) m := rfl
@[simp] theorem gIsN_i : gIsN neg (.int i) .non m = .ok (.bl neg) m := rfl
@[simp] theorem gIsN_t : gIsN neg (.tup xs) .non m = .ok (.bl neg) m := rfl
@[simp] theorem gIsN_l : gIsN neg (.lst xs) .non m = .ok (.bl neg) m := rfl
@[simp] theorem gIsN_s : gIsN neg (.str x) .non m = .ok (.bl neg) m := rfl
@[simp] theorem gIsN_b : gIsN neg (.bl b) .non m = .ok (.bl neg) m := rfl
@[simp] theorem gIsN_o {f n : Nat} : gIsN neg (.loc f n) .non m = .ok (.bl neg) m := rfl
@[simp] theorem bInt_int : bInt [.int i] m = .ok (.int i) m := rfl
@[simp] theorem bAbs_int : bAbs [.int i] m = .ok (.int i.natAbs) m := by
  show Rs.ok (D.int _) m = _
  congr 2
  omega
@[simp] theorem bMax2_run : bMax2 [.int i, .int j] m = .ok (.int (max i j)) m := by
  show Rs.ok (D.int _) m = _
  congr 2
  omega
@[simp] theorem bMin2_run : bMin2 [.int i, .int j] m = .ok (.int (min i j)) m := by
  show Rs.ok (D.int _) m = _
  congr 2
  omega
@[simp] theorem bGcd_run : bGcd [.int i, .int j] m = .ok (.int ((Nat.gcd i.natAbs j.natAbs : Nat) : Int)) m := rfl
@[simp] theorem bLen_str : bLen [.str x] m = if lineOk x.length = true then .ok (.int x.length) m else .stuck := rfl
@[simp] theorem bLen_tup : bLen [.tup xs] m = .ok (.int xs.length) m := rfl
@[simp] theorem bLen_lst : bLen [.lst xs] m = .ok (.int xs.length) m := rfl
@[simp] theorem bLen_scr {xs : List Int} : bLen [.scr xs] m = .ok (.int xs.length) m := by
  show Rs.ok (D.int _) m = _
  simp
def gLen : Option (List D) → Mem → Rs D
  | some xs, m => .ok (.int xs.length) m
  | none, _ => .stuck
@[simp] theorem gLen_run : gLen (some xs) m = .ok (.int xs.length) m := rfl
@[simp] theorem bLen_loc {f n : Nat} : bLen [.loc f n] m = gLen (vwL m (.loc f n)) m := by
  show (match vwL m (.loc f n) with
    | some xs => Rs.ok (D.int xs.length) m
    | none => .stuck) = _
  cases vwL m (.loc f n) <;> rfl
def vO : Option MO → Option (List D)
  | some (.lst xs) => some xs
  | _ => none
@[simp] theorem vO_lst : vO (some (.lst xs)) = some xs := rfl
@[simp] theorem vO_dk {ks} : vO (some (.dk ks xs)) = none := rfl
@[simp] theorem vO_dt {ks} : vO (some (.dt ks xs)) = none := rfl
@[simp] theorem vO_fk {ks} : vO (some (.fk ks xs)) = none := rfl
@[simp] theorem vO_ft {ks} : vO (some (.ft ks xs)) = none := rfl
@[simp] theorem vwL_loc {f n : Nat} : vwL m (.loc f n) = vO (m.get f n) := by
  unfold vwL vO
  dsimp only
  try
    cases h : m.get f n with
    | none => rfl
    | some o => cases o <;> rfl
@[simp] theorem vwL_lst : vwL m (.lst xs) = some xs := rfl
@[simp] theorem vwS_lst : vwS m (.lst xs) = some xs := rfl
@[simp] theorem vwS_tup : vwS m (.tup xs) = some xs := rfl
@[simp] theorem vwS_scr {xs : List Int} : vwS m (.scr xs) = some (xs.map .int) := rfl
@[simp] theorem vwS_loc {f n : Nat} : vwS m (.loc f n) = vO (m.get f n) := by rw [← vwL_loc]; rfl
def gTup : Option (List D) → Mem → Rs D
  | some xs, m => .ok (.tup xs) m
  | none, _ => .stuck
@[simp] theorem gTup_run : gTup (some xs) m = .ok (.tup xs) m := rfl
@[simp] theorem bTup_tup : bTup [.tup xs] m = .ok (.tup xs) m := rfl
@[simp] theorem bTup_lst : bTup [.lst xs] m = .ok (.tup xs) m := rfl
@[simp] theorem bTup_loc {f n : Nat} : bTup [.loc f n] m = gTup (vwL m (.loc f n)) m := by
  show (match vwL m (.loc f n) with
    | some xs => Rs.ok (D.tup xs) m
    | none => .stuck) = _
  cases vwL m (.loc f n) <;> rfl
theorem ixN_nat {n k : Nat} (h : k < n) : ixN n (k : Int) = some k := by
  unfold ixN
  rw [if_pos (by omega), if_pos (by omega)]; simp
/-! slices -/
section
variable {lo hi : Option Int}
@[simp] theorem gSl_tup : gSl fin (.tup xs) lo hi m = .ok (.tup (cutL xs lo hi)) m := rfl
@[simp] theorem gSl_lst : gSl fin (.lst xs) lo hi m = fin (cutL xs lo hi) m := rfl
@[simp] theorem gSl_scr {xs : List Int} : gSl fin (.scr xs) lo hi m = fin ((cutL xs lo hi).map .int) m := rfl
@[simp] theorem gSl_str : gSl fin (.str x) lo hi m = if lineOk x.length = true then .ok (.str (cutS x lo hi)) m else .stuck := rfl
def gSlO (fin : List D → Mem → Rs D) (lo hi : Option Int) (m : Mem) : Option (List D) → Rs D
  | some xs => fin (cutL xs lo hi) m
  | none => .stuck
@[simp] theorem gSlO_run : gSlO fin lo hi m (some xs) = fin (cutL xs lo hi) m := rfl
@[simp] theorem gSl_loc {f n : Nat} : gSl fin (.loc f n) lo hi m = gSlO fin lo hi m (vwL m (.loc f n)) := by
  show (match vwL m (.loc f n) with
    | some xs => fin (cutL xs lo hi) m
    | none => .stuck) = _
  cases vwL m (.loc f n) <;> rfl
theorem cutL_to {α : Type} {l : List α} {k : Nat} : cutL l none (some (k : Int)) = l.take k := by
  unfold cutL
  rw [HT.sIx_none, HT.sIx_nat, List.drop_zero, Nat.sub_zero]
  by_cases h : k ≤ l.length
  · rw [Nat.min_eq_left h]
  · rw [Nat.min_eq_right (by omega), List.take_length, List.take_of_length_le (by omega)]
theorem cutL_from {α : Type} {l : List α} {k : Nat} : cutL l (some (k : Int)) none = l.drop k := by
  unfold cutL
  rw [HT.sIx_none, HT.sIx_nat]
  by_cases h : k ≤ l.length
  · rw [Nat.min_eq_left h, List.take_of_length_le (by simp)]
  · rw [Nat.min_eq_right (by omega), List.drop_eq_nil_of_le (by omega), List.drop_eq_nil_of_le (by omega), List.take_nil]
theorem cutL_n1 {α : Type} {l : List α} : cutL l none (some (-1)) = l.dropLast := by
  unfold cutL
  rw [HT.sIx_none]
  have : HT.sIx l.length l.length (some (-1)) = l.length - 1 := by
    show (if (-1 : Int) < 0 then ((-1 : Int) + (l.length : Int)).toNat else min (-1 : Int).toNat l.length) = _
    rw [if_pos (by omega)]
    omega
  rw [this, List.drop_zero, Nat.sub_zero, List.dropLast_eq_take]
end
def gLst (fin : List D → Mem → Rs D) (m : Mem) : Option (List D) → Rs D
  | some xs => fin xs m
  | none => .stuck
@[simp] theorem gLst_run : gLst fin m (some xs) = fin xs m := rfl
@[simp] theorem bLstA_tup : bLstA fin [.tup xs] m = fin xs m := rfl
@[simp] theorem bLstA_lst : bLstA fin [.lst xs] m = fin xs m := rfl
@[simp] theorem bLstA_scr {xs : List Int} : bLstA fin [.scr xs] m = fin (xs.map .int) m := rfl
def gLstO (fin : List D → Mem → Rs D) (m : Mem) : Option MO → Rs D
  | some (.lst xs) => fin xs m
  | some (.dk ks _) => fin (ks.map dKey) m
  | some (.fk ks _) => fin (ks.map dKey) m
  | some (.dt ks _) => fin (ks.map dKeyT) m
  | some (.ft ks _) => fin (ks.map dKeyT) m
  | _ => .stuck
@[simp] theorem gLstO_lst : gLstO fin m (some (.lst xs)) = fin xs m := rfl
@[simp] theorem gLstO_dk {ks} : gLstO fin m (some (.dk ks xs)) = fin (ks.map dKey) m := rfl
@[simp] theorem gLstO_dt {ks} : gLstO fin m (some (.dt ks xs)) = fin (ks.map dKeyT) m := rfl
@[simp] theorem bLstA_dk {ks} : bLstA fin [.dk ks xs] m = fin (ks.map dKey) m := rfl
@[simp] theorem bLstA_loc {f n : Nat} : bLstA fin [.loc f n] m = gLstO fin m (m.get f n) := by
  unfold bLstA gLstO dkeysD
  dsimp only [vwS, vwL, vwKA, vwTA]
  cases h : m.get f n with
  | none => rfl
  | some o => cases o <;> rfl
/-! methods of lists -/
def gChO (h : List D → List D → Option (List D × D)) (f n : Nat) (ds : List D) (m : Mem) (o : Option MO) : Rs D := match o with
  | some (.lst xs) => match h xs ds with
    | some (ys, z) => if D.lts (f + 1) ys = true ∧ lineOk ys.length = true then .ok z (m.put f n (.lst ys)) else .stuck
    | none => .stuck
  | _ => .stuck
@[simp] theorem gChg_loc {h : List D → List D → Option (List D × D)} {f n : Nat} : gChg h (.loc f n) ds m = gChO h f n ds m (m.get f n) := rfl
def kCh (f n : Nat) (m : Mem) : Option (List D × D) → Rs D
  | some (ys, z) => if D.lts (f + 1) ys = true ∧ lineOk ys.length = true then .ok z (m.put f n (.lst ys)) else .stuck
  | none => .stuck
@[simp] theorem gChO_run {h : List D → List D → Option (List D × D)} {f n : Nat} : gChO h f n ds m (some (.lst xs)) = kCh f n m (h xs ds) := by
  unfold gChO kCh
  dsimp only
@[simp] theorem kCh_run {f n : Nat} : kCh f n m (some (ys, d)) = if D.lts (f + 1) ys = true ∧ lineOk ys.length = true then .ok d (m.put f n (.lst ys)) else .stuck := rfl
@[simp] theorem hApp_run : hApp xs [d] = some (xs ++ [d], .non) := rfl
@[simp] theorem hRev_run : hRev xs [] = some (xs.reverse, .non) := rfl
@[simp] theorem hPop_last : hPop (xs ++ [d]) [] = some (xs, d) := by
  unfold hPop
  simp
theorem hPop_at {k : Nat} {x : D} (h : xs[k]? = some x) : hPop xs [.int k] = some (xs.eraseIdx k, x) := by
  have hk : k < xs.length := (List.getElem?_eq_some_iff.mp h).1
  show (match ixN xs.length (k : Int) with
    | some k => (match xs[k]? with
      | some x => some (xs.eraseIdx k, x)
      | none => none)
    | none => none) = _
  rw [ixN_nat hk]
  dsimp only
  rw [h]
theorem hPop_end {x : D} (h : xs[xs.length - 1]? = some x) : hPop xs [] = some (xs.dropLast, x) := by
  unfold hPop
  dsimp only
  rw [h]
@[simp] theorem isL_lst : isL m (.lst xs) = true := rfl
@[simp] theorem isL_loc {f n : Nat} : isL m (.loc f n) = (vO (m.get f n)).isSome := by
  unfold isL
  rw [vwL_loc]
/-! sequences at a place -/
def kIx : Option D → Mem → Rs D
  | some x, m => .ok x m
  | none, _ => .stuck
@[simp] theorem kIx_run : kIx (some d) m = .ok d m := rfl
@[simp] theorem gIxT_tup : gIxT ck (.tup xs) (.int i) m = kIx (atI xs i) m := by
  unfold gIxT dlk gIx
  dsimp only [vwKA, vwTA, vwS, vwL]
  generalize atI _ i = o
  cases o <;> rfl
@[simp] theorem gIxT_lst : gIxT ck (.lst xs) (.int i) m = kIx (atI xs i) m := by
  unfold gIxT dlk gIx
  dsimp only [vwKA, vwTA, vwS, vwL]
  generalize atI _ i = o
  cases o <;> rfl
@[simp] theorem gIxT_scr {xs : List Int} : gIxT ck (.scr xs) (.int i) m = kIx (atI (xs.map .int) i) m := by
  unfold gIxT dlk gIx
  dsimp only [vwKA, vwTA, vwS, vwL]
  generalize atI _ i = o
  cases o <;> rfl
def gIxO (ck : NK → Bool) (o : Option MO) (y : D) (m : Mem) : Rs D := match o with
  | some (.lst xs) => match y with
    | .int i => kIx (atI xs i) m
    | _ => .stuck
  | some (.dk ks xs) => match keyD y with
    | some k => kIx (lookD ks xs k) m
    | none => .stuck
  | some (.fk ks xs) => match keyD y with
    | some k => kIx (lookD ks xs k) m
    | none => .stuck
  | some (.dt ks xs) => match keyT y with
    | some k => if ck k = true then kIx (lookD ks xs k) m else .stuck
    | none => .stuck
  | some (.ft ks xs) => match keyT y with
    | some k => if ck k = true then kIx (lookD ks xs k) m else .stuck
    | none => .stuck
  | _ => .stuck
theorem atI_natE {α : Type} {xs : List α} {k : Nat} : atI xs (k : Int) = xs[k]? := by
  unfold atI ixN
  rw [if_pos (by omega)]
  by_cases h : k < xs.length
  · rw [if_pos (by omega)]; simp
  · rw [if_neg (by omega)]
    simp [List.getElem?_eq_none (by omega : xs.length ≤ k)]
@[simp] theorem atI_0 {α : Type} {a : α} {xs : List α} : atI (a :: xs) 0 = some a := atI_natE (k := 0)
@[simp] theorem atI_1 {α : Type} {a b : α} {xs : List α} : atI (a :: b :: xs) 1 = some b := atI_natE (k := 1)
@[simp] theorem atI_2 {α : Type} {a b c : α} {xs : List α} : atI (a :: b :: c :: xs) 2 = some c := atI_natE (k := 2)
@[simp] theorem atI_3 {α : Type} {a b c d : α} {xs : List α} : atI (a :: b :: c :: d :: xs) 3 = some d := atI_natE (k := 3)
@[simp] theorem atI_4 {α : Type} {a b c d e : α} {xs : List α} : atI (a :: b :: c :: d :: e :: xs) 4 = some e := atI_natE (k := 4)
@[simp] theorem atI_5 {α : Type} {a b c d e f : α} {xs : List α} : atI (a :: b :: c :: d :: e :: f :: xs) 5 = some f := atI_natE (k := 5)
theorem atI_neg1 {α : Type} {xs : List α} : atI xs (-1) = xs[xs.length - 1]? := by
  unfold atI ixN
  rw [if_neg (by omega)]
  by_cases h : xs.length = 0
  · rw [if_neg (by omega)]
    rw [List.getElem?_eq_none (by omega)]
    rfl
  · rw [if_pos (by omega)]
    show xs[_]? = _
    congr 1
    omega
@[simp] theorem atI_n1 {α : Type} {a : α} {xs : List α} : atI (xs ++ [a]) (-1) = some a := by rw [atI_neg1]; simp
@[simp] theorem gIxT_loc {f n : Nat} : gIxT ck (.loc f n) (.int i) m = gIxO ck (m.get f n) (.int i) m := by
  unfold gIxT dlk gIxO gIx
  dsimp only [vwKA, vwTA, keyD, keyT, vwS, vwL]
  cases h : m.get f n with
  | none => rfl
  | some o =>
    cases o with
    | lst xs =>
      dsimp only
      generalize atI xs i = o
      cases o <;> rfl
    | dk ks xs => dsimp only; cases lookD ks xs (.inl i) <;> rfl
    | fk ks xs => dsimp only; cases lookD ks xs (.inl i) <;> rfl
    | dt ks xs => rfl
    | ft ks xs => rfl
    | dead => rfl
@[simp] theorem gIxO_lst : gIxO ck (some (.lst xs)) (.int i) m = kIx (atI xs i) m := rfl
@[simp] theorem gIxO_dk {ks} : gIxO ck (some (.dk ks xs)) (.int i) m = kIx (lookD ks xs (.inl i)) m := rfl
@[simp] theorem gIxO_fk {ks} : gIxO ck (some (.fk ks xs)) (.int i) m = kIx (lookD ks xs (.inl i)) m := rfl
@[simp] theorem gIxT_dk {ks} : gIxT ck (.dk ks xs) (.int i) m = kIx (lookD ks xs (.inl i)) m := by
  unfold gIxT dlk
  dsimp only [vwKA, keyD]
  cases lookD ks xs (.inl i) <;> rfl
/-! stores -/
def gStO (ck : NK → Bool) (o : Option MO) (f n : Nat) (y z : D) (m : Mem) : Rs Unit := match o with
  | some (.lst xs) => match y with
    | .int k => match ixN xs.length k with
      | some j => .ok () (m.put f n (.lst (xs.set j z)))
      | none => .stuck
    | _ => .stuck
  | some (.dk ks xs) => match keyD y with
    | some k => if ks.Nodup ∧ ks.length < 16777216 then .ok () (m.put f n (.dk (putD ks xs k z).1 (putD ks xs k z).2)) else .stuck
    | none => .stuck
  | some (.dt ks xs) => match keyT y with
    | some k => if (ks.Nodup ∧ ks.length < 16777216) ∧ ck k = true then .ok () (m.put f n (.dt (putD ks xs k z).1 (putD ks xs k z).2)) else .stuck
    | none => .stuck
  | _ => .stuck
theorem gSetT_loc {f n : Nat} {y z : D} (h : D.lt (f + 1) z = true) : gSetT ck (.loc f n) y z m = gStO ck (m.get f n) f n y z m := by
  unfold gSetT gStO
  dsimp only
  rw [if_pos h]
  try rfl
@[simp] theorem gSetT_loc' {f n : Nat} {y z : D} : gSetT ck (.loc f n) y z m = if D.lt (f + 1) z = true then gStO ck (m.get f n) f n y z m else .stuck := by
  by_cases h : D.lt (f + 1) z = true
  · rw [if_pos h, gSetT_loc h]
  · rw [if_neg h]; unfold gSetT; dsimp only; rw [if_neg h]
def kStL (xs : List D) (f n : Nat) (z : D) (m : Mem) : Option Nat → Rs Unit
  | some j => .ok () (m.put f n (.lst (xs.set j z)))
  | none => .stuck
@[simp] theorem kStL_run {f n j : Nat} : kStL xs f n d m (some j) = .ok () (m.put f n (.lst (xs.set j d))) := rfl
@[simp] theorem gStO_lst {f n : Nat} : gStO ck (some (.lst xs)) f n (.int i) d m = kStL xs f n d m (ixN xs.length i) := by
  unfold gStO kStL
  dsimp only
@[simp] theorem gStO_dk {f n : Nat} {ks} : gStO ck (some (.dk ks xs)) f n (.int i) d m = if ks.Nodup ∧ ks.length < 16777216 then .ok () (m.put f n (.dk (putD ks xs (.inl i) d).1 (putD ks xs (.inl i) d).2)) else .stuck := rfl
@[simp] theorem ixN_0 {n : Nat} : ixN (n + 1) 0 = some 0 := ixN_nat (k := 0) (by omega)
@[simp] theorem ixN_1 {n : Nat} : ixN (n + 2) 1 = some 1 := ixN_nat (k := 1) (by omega)
@[simp] theorem ixN_2 {n : Nat} : ixN (n + 3) 2 = some 2 := ixN_nat (k := 2) (by omega)
@[simp] theorem ixN_3 {n : Nat} : ixN (n + 4) 3 = some 3 := ixN_nat (k := 3) (by omega)
@[simp] theorem ixN_4 {n : Nat} : ixN (n + 5) 4 = some 4 := ixN_nat (k := 4) (by omega)
@[simp] theorem gInT_dk {ks} : gInT ck neg (.int i) (.dk ks xs) m = .ok (.bl (neg ^^ (lookD ks xs (.inl i)).isSome)) m := rfl
def gInO (neg : Bool) (i : Int) (o : Option MO) (m : Mem) : Rs D := match o with
  | some (.dk ks xs) => .ok (.bl (neg ^^ (lookD ks xs (.inl i)).isSome)) m
  | some (.fk ks xs) => .ok (.bl (neg ^^ (lookD ks xs (.inl i)).isSome)) m
  | _ => .stuck
@[simp] theorem gInO_dk {ks} : gInO neg i (some (.dk ks xs)) m = .ok (.bl (neg ^^ (lookD ks xs (.inl i)).isSome)) m := rfl
@[simp] theorem gInO_fk {ks} : gInO neg i (some (.fk ks xs)) m = .ok (.bl (neg ^^ (lookD ks xs (.inl i)).isSome)) m := rfl
@[simp] theorem gInT_loc {f n : Nat} : gInT ck neg (.int i) (.loc f n) m = gInO neg i (m.get f n) m := by
  unfold gInT dlk gInO
  dsimp only [vwKA, vwTA, keyD, keyT]
  cases h : m.get f n with
  | none => rfl
  | some o => cases o <;> rfl
/-! o[i] op= e -/
def kA1 (fi fe : Ev) (g : D → D → Mem → Rs D) (ρ : Lc) (d0 : D) (m1 : Mem) : Rs Fl := (fi ρ m1).bind fun di m2 => (gIxL d0 di m2).bind fun x m3 => (fe ρ m3).bind fun y m4 => (g x y m4).bind fun z m5 => (gSet d0 di z m5).bind fun _ m6 => .ok (.nx ρ) m6
def kA2 (fe : Ev) (g : D → D → Mem → Rs D) (ρ : Lc) (d0 di : D) (m2 : Mem) : Rs Fl := (gIxL d0 di m2).bind fun x m3 => (fe ρ m3).bind fun y m4 => (g x y m4).bind fun z m5 => (gSet d0 di z m5).bind fun _ m6 => .ok (.nx ρ) m6
def kA3 (fe : Ev) (g : D → D → Mem → Rs D) (ρ : Lc) (d0 di x : D) (m3 : Mem) : Rs Fl := (fe ρ m3).bind fun y m4 => (g x y m4).bind fun z m5 => (gSet d0 di z m5).bind fun _ m6 => .ok (.nx ρ) m6
def kA4 (g : D → D → Mem → Rs D) (ρ : Lc) (d0 di x y : D) (m4 : Mem) : Rs Fl := (g x y m4).bind fun z m5 => (gSet d0 di z m5).bind fun _ m6 => .ok (.nx ρ) m6
def kA5 (ρ : Lc) (d0 di z : D) (m5 : Mem) : Rs Fl := (gSet d0 di z m5).bind fun _ m6 => .ok (.nx ρ) m6
def kA6 (ρ : Lc) (_ : Unit) (m6 : Mem) : Rs Fl := .ok (.nx ρ) m6
section
variable {fo fi fe : Ev} {g : D → D → Mem → Rs D} {ρ : Lc} {d0 di y z : D}
def gSeO (m : Mem) (f n : Nat) (i : Int) (z : D) : Option MO → Rs Unit
  | some (.lst xs) => kStL xs f n z m (ixN xs.length i)
  | some (.dk ks xs) => if ks.Nodup ∧ ks.length < 16777216 then .ok () (m.put f n (.dk (putD ks xs (.inl i) z).1 (putD ks xs (.inl i) z).2)) else .stuck
  | _ => .stuck
@[simp] theorem gSeO_lst {f n : Nat} : gSeO m f n i z (some (.lst xs)) = kStL xs f n z m (ixN xs.length i) := rfl
theorem sAugS_run : sAugS fo fi fe g ρ m = (fo ρ m).bind (kA1 fi fe g ρ) := rfl
@[simp] theorem kA1_run : kA1 fi fe g ρ d0 m = (fi ρ m).bind (kA2 fe g ρ d0) := rfl
@[simp] theorem kA2_run : kA2 fe g ρ d0 di m = (gIxL d0 di m).bind (kA3 fe g ρ d0 di) := rfl
@[simp] theorem kA3_run : kA3 fe g ρ d0 di d m = (fe ρ m).bind (kA4 g ρ d0 di d) := rfl
@[simp] theorem kA4_run : kA4 g ρ d0 di d y m = (g d y m).bind (kA5 ρ d0 di) := rfl
@[simp] theorem kA5_run : kA5 ρ d0 di z m = (gSet d0 di z m).bind (kA6 ρ) := rfl
@[simp] theorem kA6_run : kA6 ρ () m = .ok (.nx ρ) m := rfl
@[simp] theorem gAddI_int : gAddI (.int i) (.int j) m = .ok (.int (i + j)) m := rfl
@[simp] theorem gSubI_int : gSubI (.int i) (.int j) m = .ok (.int (i - j)) m := rfl
def gIxLO (m : Mem) (i : Int) : Option MO → Rs D
  | some (.lst xs) => kIx (atI xs i) m
  | _ => .stuck
@[simp] theorem gIxLO_run : gIxLO m i (some (.lst xs)) = kIx (atI xs i) m := rfl
@[simp] theorem gIxL_loc {f n : Nat} : gIxL (.loc f n) (.int i) m = gIxLO m i (m.get f n) := by
  unfold gIxL
  rw [vwL_loc]
  cases h : m.get f n with
  | none => rfl
  | some o =>
    cases o with
    | lst xs =>
      show (match atI xs i with
        | some x => Rs.ok x m
        | none => .stuck) = kIx (atI xs i) m
      cases atI xs i <;> rfl
    | _ => rfl
@[simp] theorem gSet_loc {f n : Nat} : gSet (.loc f n) (.int i) z m = if D.lt (f + 1) z = true then gSeO m f n i z (m.get f n) else .stuck := by
  unfold gSet gSeO
  dsimp only
  split
  · cases h : m.get f n with
    | none => rfl
    | some o => cases o <;> rfl
  · rfl
end
end
end LN
/-! LNw: calls, plain equality, more built-ins by simp. -/
namespace LN
open PySem L2 PySem.Spec PyProof.Rows

section
variable {n np nl : Nat} {d : D} {m : Mem} {b : Bd} {ds : List D} {ρ : Lc}
theorem lv_rt (h : D.lt n d = true) : lv n (.ok (.rt d) m) = .ok d (m.take n) := by
  unfold lv fzl
  dsimp only
  rw [if_pos h, if_pos h]
def kLv (n : Nat) (d : D) (m : Mem) (k : Bool) : Rs D := if k = true then .ok d (m.take n) else (if D.lt n (fzl n m d) = true then .ok (fzl n m d) (m.take n) else .stuck)
@[simp] theorem lv_rtk : lv n (.ok (.rt d) m) = kLv n d m (D.lt n d) := by
  unfold kLv
  split
  · rename_i h; exact lv_rt h
  · rfl
@[simp] theorem kLv_t : kLv n d m true = .ok d (m.take n) := rfl
@[simp] theorem lv_nx : lv n (.ok (.nx ρ) m) = .ok .non (m.take n) := rfl
theorem fzl_of (h : D.lt n d = true) : fzl n m d = d := by unfold fzl; rw [if_pos h]
def kFz (n : Nat) (m : Mem) (d : D) (k : Bool) : D := if k = true then d else fz 8 n m d
@[simp] theorem fzl_k : fzl n m d = kFz n m d (D.lt n d) := rfl
@[simp] theorem kFz_t : kFz n m d true = d := rfl
def kLvM (n f i : Nat) (m : Mem) (o : Option MO) : Rs D := match o with
  | some o => if (o.alive = true ∧ o.lkd = false) ∧ n ≠ 0 ∧ n ≤ m.length ∧ (o.map (fzl n (m.put f i .dead))).lt n = true then .ok (Mem.nx (m.take n)) (Mem.new (m.take n) (o.map (fzl n (m.put f i .dead)))) else .stuck
  | none => .stuck
theorem lvM_loc {i : Nat} : lvM n (.ok (.rt (.loc n i)) m) = kLvM n n i m (m.get n i) := by
  unfold lvM kLvM
  dsimp only
  rw [if_pos rfl]
  try rfl
@[simp] theorem kLvM_lst {f i : Nat} {xs : List D} : kLvM n f i m (some (.lst xs)) = if n ≠ 0 ∧ n ≤ m.length ∧ D.lts n (xs.map (fzl n (m.put f i .dead))) = true then .ok (Mem.nx (m.take n)) (Mem.new (m.take n) (.lst (xs.map (fzl n (m.put f i .dead))))) else .stuck := by
  unfold kLvM
  dsimp only [MO.map, MO.lt]
  have : MO.alive (.lst xs) = true ∧ MO.lkd (.lst xs) = false := ⟨rfl, rfl⟩
  simp only [this, and_self, true_and]
theorem map_fzl {m' : Mem} (h : D.lts n ds = true) : ds.map (fzl n m') = ds := by
  have := D.lts_iff.mp h
  conv => rhs; rw [← List.map_id ds]
  exact List.map_congr_left fun d hd => fzl_of (this d hd)
theorem lvM_lv (h : ∀ f i, d ≠ .loc f i) : lvM n (.ok (.rt d) m) = lv n (.ok (.rt d) m) := by
  cases d <;> first | rfl | exact absurd rfl (h _ _)
theorem fnD_run (h : ds.length = np) : fnD np nl b ds m = lv m.length (b (ds.map some ++ List.replicate (nl - np) none) (m ++ [[]])) := by
  unfold fnD
  rw [if_pos h]
theorem fnM_run (h : ds.length = np) : fnM np nl b ds m = lvM m.length (b (ds.map some ++ List.replicate (nl - np) none) (m ++ [[]])) := by
  unfold fnM
  rw [if_pos h]
end

section
variable {nl : Nat} {m : Mem} {b : Bd} {x y z u v : D}
theorem fnD1 : fnD 1 nl b [x] m = lv m.length (b (some x :: List.replicate (nl - 1) none) (m ++ [[]])) := rfl
theorem fnD2 : fnD 2 nl b [x, y] m = lv m.length (b (some x :: some y :: List.replicate (nl - 2) none) (m ++ [[]])) := rfl
theorem fnD3 : fnD 3 nl b [x, y, z] m = lv m.length (b (some x :: some y :: some z :: List.replicate (nl - 3) none) (m ++ [[]])) := rfl
theorem fnD4 : fnD 4 nl b [x, y, z, u] m = lv m.length (b (some x :: some y :: some z :: some u :: List.replicate (nl - 4) none) (m ++ [[]])) := rfl
theorem fnD5 : fnD 5 nl b [x, y, z, u, v] m = lv m.length (b (some x :: some y :: some z :: some u :: some v :: List.replicate (nl - 5) none) (m ++ [[]])) := rfl
theorem fnM1 : fnM 1 nl b [x] m = lvM m.length (b (some x :: List.replicate (nl - 1) none) (m ++ [[]])) := rfl
theorem fnM2 : fnM 2 nl b [x, y] m = lvM m.length (b (some x :: some y :: List.replicate (nl - 2) none) (m ++ [[]])) := rfl
theorem fnM3 : fnM 3 nl b [x, y, z] m = lvM m.length (b (some x :: some y :: some z :: List.replicate (nl - 3) none) (m ++ [[]])) := rfl
end
/-! ### plain data without truth values: equality is identity -/
mutual
def plD : Nat → D → Bool
  | _, .non => true
  | _, .int _ => true
  | _, .str x => PyData.strOk x
  | k + 1, .tup xs => plDs k xs
  | k + 1, .lst xs => plDs k xs
  | _, _ => false
def plDs : Nat → List D → Bool
  | _, [] => true
  | k, x :: xs => plD k x && plDs k xs
end
@[simp] theorem plD_non {k} : plD k .non = true := by simp [plD]
@[simp] theorem plD_int {k i} : plD k (.int i) = true := by simp [plD]
@[simp] theorem plD_str {k x} : plD k (.str x) = PyData.strOk x := by simp [plD]
@[simp] theorem plD_tup {k xs} : plD (k + 1) (.tup xs) = plDs k xs := by simp [plD]
@[simp] theorem plD_lst {k xs} : plD (k + 1) (.lst xs) = plDs k xs := by simp [plD]
@[simp] theorem plDs_nil {k} : plDs k [] = true := by simp [plDs]
@[simp] theorem plDs_cons {k x xs} : plDs k (x :: xs) = (plD k x && plDs k xs) := by simp [plDs]
theorem plDs_iff {k : Nat} : ∀ {xs : List D}, plDs k xs = true ↔ ∀ d ∈ xs, plD k d = true
  | [] => by simp
  | x :: xs => by simp [plDs_iff (xs := xs)]
@[simp] theorem plDs_app {k : Nat} {xs ys : List D} : plDs k (xs ++ ys) = (plDs k xs && plDs k ys) := by
  induction xs with
  | nil => simp
  | cons x xs ih => simp [ih, Bool.and_assoc]
theorem plDs_map {k : Nat} {α : Type} {g : α → D} {l : List α} (h : ∀ a ∈ l, plD k (g a) = true) : plDs k (l.map g) = true := by
  rw [plDs_iff]
  intro d hd
  obtain ⟨a, h1, rfl⟩ := List.mem_map.mp hd
  exact h a h1
/-- what the comparisons see -/
structure PyOk (k : Nat) (d : D) (e : PyData) : Prop where
  py : py d = some e
  lay : e.canLay0 = true
  dep : e.depth ≤ k
structure PysOk (k : Nat) (d : List D) (e : List PyData) : Prop where
  py : pys d = some e
  lay : PyData.canLayAll0 e = true
  dep : PyData.depthAll e ≤ k
mutual
theorem plD_py : ∀ {k : Nat} {d : D}, plD k d = true → ∃ e, PyOk k d e
  | k, .non, _ => ⟨_, rfl, rfl, Nat.zero_le _⟩
  | k, .int i, _ => ⟨_, rfl, rfl, Nat.zero_le _⟩
  | k, .str x, h => ⟨_, rfl, by simpa [PyData.canLay0] using h, Nat.zero_le _⟩
  | k + 1, .tup xs, h => by
    obtain ⟨e, h1, h2, h3⟩ := plDs_py (k := k) (xs := xs) (by simpa using h)
    exact ⟨.tuple e, by simp only [py, h1], by simpa only [PyData.canLay0] using h2, by simp only [PyData.depth]; omega⟩
  | k + 1, .lst xs, h => by
    obtain ⟨e, h1, h2, h3⟩ := plDs_py (k := k) (xs := xs) (by simpa using h)
    exact ⟨.list e, by simp only [py, h1], by simpa only [PyData.canLay0] using h2, by simp only [PyData.depth]; omega⟩
  | 0, .tup xs, h => by simp [plD] at h
  | 0, .lst xs, h => by simp [plD] at h
  | k, .bl _, h => by simp [plD] at h
  | k, .ty _, h => by simp [plD] at h
  | k, .cls _, h => by simp [plD] at h
  | k, .dk _ _, h => by simp [plD] at h
  | k, .dt _ _, h => by simp [plD] at h
  | k, .loc _ _, h => by simp [plD] at h
  | k, .scr _, h => by simp [plD] at h
theorem plDs_py : ∀ {k : Nat} {xs : List D}, plDs k xs = true → ∃ e, PysOk k xs e
  | k, [], _ => ⟨[], rfl, rfl, Nat.zero_le _⟩
  | k, x :: xs, h => by
    simp only [plDs_cons, Bool.and_eq_true] at h
    obtain ⟨e, h1, h2, h3⟩ := plD_py h.1
    obtain ⟨es, k1, k2, k3⟩ := plDs_py h.2
    exact ⟨e :: es, by simp only [pys, h1, k1], by simp only [PyData.canLayAll0, h2, k2, Bool.and_self], by simp only [PyData.depthAll]; omega⟩
end
open Classical in
mutual
theorem plD_eqv : ∀ {k j : Nat} {d d' : D} {e e' : PyData}, plD k d = true → plD j d' = true → py d = some e → py d' = some e' → PyData.eqv e e' = decide (d = d')
  | k, j, d, d', e, e', h, h', p, p' => by
    cases d with
    | non => cases d' <;> simp [plD] at h' <;> simp only [py] at p p' <;> (try split at p') <;> simp_all <;> subst p <;> subst p' <;> simp [PyData.eqv]
    | int i => cases d' <;> simp [plD] at h' <;> simp only [py] at p p' <;> (try split at p') <;> simp_all <;> subst p <;> subst p' <;> simp [PyData.eqv] <;> (try rfl)
    | str x => cases d' <;> simp [plD] at h' <;> simp only [py] at p p' <;> (try split at p') <;> simp_all <;> subst p <;> subst p' <;> simp [PyData.eqv] <;> (try rfl)
    | tup xs =>
      cases k with
      | zero => simp [plD] at h
      | succ k =>
        simp only [py] at p
        split at p
        case h_2 => cases p
        rename_i ys hy
        cases p
        cases d' with
        | tup xs' =>
          cases j with
          | zero => simp [plD] at h'
          | succ j =>
            simp only [py] at p'
            split at p'
            case h_2 => cases p'
            rename_i ys' hy'
            cases p'
            simp only [PyData.eqv]
            rw [plDs_eqv (by simpa using h) (by simpa using h') hy hy']
            simp
        | non => cases p'; simp [PyData.eqv]
        | int i => cases p'; simp [PyData.eqv]
        | str x => cases p'; simp [PyData.eqv]
        | lst xs' =>
          simp only [py] at p'
          split at p'
          · cases p'; simp [PyData.eqv]
          · cases p'
        | _ => simp [plD] at h'
    | lst xs =>
      cases k with
      | zero => simp [plD] at h
      | succ k =>
        simp only [py] at p
        split at p
        case h_2 => cases p
        rename_i ys hy
        cases p
        cases d' with
        | lst xs' =>
          cases j with
          | zero => simp [plD] at h'
          | succ j =>
            simp only [py] at p'
            split at p'
            case h_2 => cases p'
            rename_i ys' hy'
            cases p'
            simp only [PyData.eqv]
            rw [plDs_eqv (by simpa using h) (by simpa using h') hy hy']
            simp
        | non => cases p'; simp [PyData.eqv]
        | int i => cases p'; simp [PyData.eqv]
        | str x => cases p'; simp [PyData.eqv]
        | tup xs' =>
          simp only [py] at p'
          split at p'
          · cases p'; simp [PyData.eqv]
          · cases p'
        | _ => simp [plD] at h'
    | _ => simp [plD] at h
theorem plDs_eqv : ∀ {k j : Nat} {d d' : List D} {e e' : List PyData}, plDs k d = true → plDs j d' = true → pys d = some e → pys d' = some e' → PyData.eqvAll e e' = decide (d = d')
  | k, j, [], [], e, e', _, _, p, p' => by cases p; cases p'; simp [PyData.eqvAll]
  | k, j, [], y :: ys, e, e', _, _, p, p' => by
    cases p
    simp only [pys] at p'
    split at p'
    · cases p'; simp [PyData.eqvAll]
    · cases p'
  | k, j, x :: xs, [], e, e', _, _, p, p' => by
    cases p'
    simp only [pys] at p
    split at p
    · cases p; simp [PyData.eqvAll]
    · cases p
  | k, j, x :: xs, y :: ys, e, e', h, h', p, p' => by
    simp only [plDs_cons, Bool.and_eq_true] at h h'
    simp only [pys] at p p'
    split at p
    case h_2 => cases p
    rename_i a as ha has
    cases p
    split at p'
    case h_2 => cases p'
    rename_i b bs hb hbs
    cases p'
    simp only [PyData.eqvAll]
    rw [plD_eqv h.1 h'.1 ha hb, plDs_eqv h.2 h'.2 has hbs]
    simp
end
theorem shaped_of {k : Nat} {d : D} {e : PyData} (h : PyOk k d e) (hk : k ≤ 64) : SeqAt.shaped e = true := by
  have h3 := h.dep
  simp only [SeqAt.shaped, h.lay, Bool.true_and, decide_eq_true_eq]
  omega
theorem toPy_pl {m : Mem} {d : D} {k : Nat} (h : plD k d = true) : toPy m d = py d := by
  cases d <;> first | rfl | simp [plD] at h
theorem vwKA_pl {m : Mem} {d : D} {k : Nat} (h : plD k d = true) : vwKA m d = none := by
  cases d <;> first | rfl | simp [plD] at h
open Classical in
theorem gEqA_pl {neg : Bool} {m : Mem} {d d' : D} (h : plD 60 d = true) (h' : plD 60 d' = true) : gEqA neg d d' m = .ok (.bl (neg ^^ decide (d = d'))) m := by
  obtain ⟨e, h1⟩ := plD_py h
  obtain ⟨e', h1'⟩ := plD_py h'
  unfold gEqA
  rw [vwKA_pl h, vwKA_pl h']
  dsimp only
  unfold gEq
  rw [toPy_pl h, toPy_pl h', h1.py, h1'.py]
  dsimp only
  rw [if_pos ⟨shaped_of h1 (by omega), shaped_of h1' (by omega)⟩, plD_eqv h h' h1.py h1'.py]
@[simp] theorem gEqA_int {neg : Bool} {m : Mem} {i j : Int} : gEqA neg (.int i) (.int j) m = .ok (.bl (neg ^^ decide (i = j))) m := by
  rw [gEqA_pl (by simp) (by simp)]
  simp
@[simp] theorem gEqA_bl {neg : Bool} {m : Mem} {i j : Bool} : gEqA neg (.bl i) (.bl j) m = .ok (.bl (neg ^^ decide (i = j))) m := by
  unfold gEqA vwKA gEq toPy py
  dsimp only
  rw [if_pos ⟨rfl, rfl⟩]
  congr 3
/-- a list of our own, read -/
def rdD (m : Mem) : D → D
  | .loc f i => match m.get f i with
    | some (.lst xs) => .lst xs
    | _ => .loc f i
  | d => d
theorem toPy_rd {m : Mem} {d : D} {k : Nat} (h : plD k (rdD m d) = true) : toPy m d = py (rdD m d) := by
  cases d with
  | loc f i =>
    unfold rdD at h ⊢
    unfold toPy
    dsimp only at h ⊢
    split at h
    · rename_i hg
      first
        | (rw [hg]; rfl)
        | (simp only [py]; done)
        | rfl
    · simp [plD] at h
  | _ => rfl
theorem vwKA_rd {m : Mem} {d : D} {k : Nat} (h : plD k (rdD m d) = true) : vwKA m d = none := by
  cases d with
  | loc f i =>
    unfold rdD at h
    unfold vwKA
    dsimp only at h ⊢
    split at h
    · rename_i hg; rw [hg]
    · simp [plD] at h
  | _ => exact vwKA_pl h
open Classical in
theorem gEqA_rd {neg : Bool} {m : Mem} {d d' : D} (h : plD 60 (rdD m d) = true) (h' : plD 60 (rdD m d') = true) : gEqA neg d d' m = .ok (.bl (neg ^^ decide (rdD m d = rdD m d'))) m := by
  obtain ⟨e, h1⟩ := plD_py h
  obtain ⟨e', h1'⟩ := plD_py h'
  unfold gEqA
  rw [vwKA_rd h, vwKA_rd h']
  dsimp only
  unfold gEq
  rw [toPy_rd h, toPy_rd h', h1.py, h1'.py]
  dsimp only
  rw [if_pos ⟨shaped_of h1 (by omega), shaped_of h1' (by omega)⟩, plD_eqv h h' h1.py h1'.py]
/-! what is in a list -/
theorem pys_mem {k : Nat} : ∀ {xs : List D} {es : List PyData}, plDs k xs = true → pys xs = some es → ∀ {d : D} {e : PyData}, plD 60 d = true → py d = some e → ((es.any fun z => PyData.eqv z e) = true ↔ d ∈ xs)
  | [], es, _, p, d, e, _, _ => by cases p; simp
  | x :: xs, es, h, p, d, e, hd, pd => by
    simp only [plDs_cons, Bool.and_eq_true] at h
    simp only [pys] at p
    split at p
    case h_2 => cases p
    rename_i a as ha has
    cases p
    have ih := pys_mem h.2 has hd pd
    rw [List.any_cons, Bool.or_eq_true, ih, plD_eqv h.1 hd ha pd, List.mem_cons]
    simp only [decide_eq_true_eq]
    exact or_congr ⟨Eq.symm, Eq.symm⟩ Iff.rfl
open Classical in
theorem gIn_rd {neg : Bool} {m : Mem} {d l : D} {xs : List D} (hl : rdD m l = .lst xs) (h : plD 60 d = true) (h' : plDs 59 xs = true) : gIn neg d l m = .ok (.bl (neg ^^ decide (d ∈ xs))) m := by
  obtain ⟨e, h1⟩ := plD_py h
  have h'' : plD 60 (rdD m l) = true := by rw [hl]; simpa using h'
  obtain ⟨e', h1'⟩ := plD_py h''
  have hp := h1'.py
  rw [hl] at hp
  simp only [py] at hp
  split at hp
  case h_2 => cases hp
  rename_i es hes
  cases hp
  unfold gIn
  rw [toPy_pl h, toPy_rd h'', h1.py, h1'.py]
  dsimp only
  rw [if_pos ⟨shaped_of h1 (by omega), shaped_of h1' (by omega)⟩]
  congr 3
  have := pys_mem h' hes h h1.py
  by_cases hm : d ∈ xs
  · rw [this.mpr hm]; simp [hm]
  · cases hb : (es.any fun z => PyData.eqv z e) with
    | true => exact absurd (this.mp hb) hm
    | false => simp [hm]
/-! ### dicts by tuples, d.get(k, x) -/
section
variable {ck : NK → Bool} {ks : List L2.Key} {kt : List NK} {xs ys : List D} {m : Mem} {ρ : Lc} {fo fi fx : Ev} {d i x : D} {f n : Nat} {k : Int} {neg : Bool} {q : Str}
/-- a tuple of things as a key -/
def keyDs (xs : List D) : Option NK := nkD (.tup xs)
theorem keyDs_eq : keyDs xs = (nkDs xs).map .tup := by
  unfold keyDs
  simp only [nkD]
  cases nkDs xs <;> rfl
@[simp] theorem keyDs_nil : keyDs [] = some (.tup []) := by simp [keyDs, nkD, nkDs]
@[simp] theorem nkDs_nil : nkDs [] = some [] := by simp only [nkDs]
@[simp] theorem nkDs_cons : nkDs (d :: xs) = (nkD d).bind fun k => (nkDs xs).map fun r => k :: r := by
  simp only [nkDs]
  cases nkD d <;> cases nkDs xs <;> rfl
@[simp] theorem nkD_int : nkD (.int k) = some (.num k) := by simp only [nkD]
@[simp] theorem nkD_str : nkD (.str q) = some (.text q) := by simp only [nkD]
@[simp] theorem nkD_non : nkD .non = some .none := by simp only [nkD]
@[simp] theorem nkD_tup : nkD (.tup xs) = keyDs xs := rfl
theorem nkDs_ints (ns : List Int) : nkDs (ns.map .int) = some (ns.map .num) := by
  induction ns with
  | nil => simp
  | cons n ns ih => rw [List.map_cons, nkDs_cons, ih]; simp
theorem keyDs_ints (ns : List Int) : keyDs (ns.map .int) = some (.tup (ns.map .num)) := by
  rw [keyDs_eq, nkDs_ints]; rfl
def dlO (ck : NK → Bool) (o : Option MO) (i : D) : Option (Option D) := match o with
  | some (.dk ks xs) => match keyD i with
    | some k => some (lookD ks xs k)
    | none => none
  | some (.fk ks xs) => match keyD i with
    | some k => some (lookD ks xs k)
    | none => none
  | some (.dt ks xs) => match keyT i with
    | some k => if ck k = true then some (lookD ks xs k) else none
    | none => none
  | some (.ft ks xs) => match keyT i with
    | some k => if ck k = true then some (lookD ks xs k) else none
    | none => none
  | _ => none
@[simp] theorem dlk_loc : dlk ck m (.loc f n) i = dlO ck (m.get f n) i := by
  unfold dlk dlO
  dsimp only [vwKA, vwTA]
  cases h : m.get f n with
  | none => rfl
  | some o => cases o <;> rfl
@[simp] theorem dlO_dk : dlO ck (some (.dk ks xs)) (.int k) = some (lookD ks xs (.inl k)) := rfl
@[simp] theorem dlO_dks : dlO ck (some (.dk ks xs)) (.str q) = some (lookD ks xs (.inr q)) := rfl
@[simp] theorem dlO_fk : dlO ck (some (.fk ks xs)) (.int k) = some (lookD ks xs (.inl k)) := rfl
def dlT (ck : NK → Bool) (kt : List NK) (xs : List D) : Option NK → Option (Option D)
  | some k => if ck k = true then some (lookD kt xs k) else none
  | none => none
@[simp] theorem dlT_run {k : NK} : dlT ck kt xs (some k) = if ck k = true then some (lookD kt xs k) else none := rfl
@[simp] theorem dlO_dt : dlO ck (some (.dt kt xs)) (.tup ys) = dlT ck kt xs (keyDs ys) := by
  unfold dlO dlT
  simp only [keyT, nkD_tup]
  try (cases keyDs ys <;> rfl)
@[simp] theorem dlk_dk : dlk ck m (.dk ks xs) (.int k) = some (lookD ks xs (.inl k)) := rfl
def isDO : Option MO → Bool
  | some (.dk _ _) => true
  | some (.fk _ _) => true
  | _ => false
@[simp] theorem isDict_loc : isDict m (.loc f n) = isDO (m.get f n) := by
  unfold isDict isDO
  dsimp only [vwKA]
  cases h : m.get f n with
  | none => rfl
  | some o => cases o <;> rfl
@[simp] theorem isDict_dk : isDict m (.dk ks xs) = true := rfl
@[simp] theorem isDO_dk : isDO (some (.dk ks xs)) = true := rfl
@[simp] theorem isDO_dt : isDO (some (.dt kt xs)) = false := rfl
@[simp] theorem dlkA_loc : dlkA ck m (.loc f n) i = if isDO (m.get f n) = true then dlO ck (m.get f n) i else none := by
  unfold dlkA
  rw [isDict_loc, dlk_loc]
@[simp] theorem dlkA_dk : dlkA ck m (.dk ks xs) (.int k) = some (lookD ks xs (.inl k)) := rfl
def gGe : Option (Option D) → D → Mem → Rs D
  | some r, x, m => .ok (r.getD x) m
  | none, _, _ => .stuck
@[simp] theorem gGe_run {r : Option D} : gGe (some r) x m = .ok (r.getD x) m := rfl
def kGe1 (ck : NK → Bool) (fi fx : Ev) (ρ : Lc) (d : D) (m1 : Mem) : Rs D := if isDict m1 d = true then (fi ρ m1).bind fun i m2 => (fx ρ m2).bind fun x m3 => match dlkA ck m3 d i with
  | some r => .ok (r.getD x) m3
  | none => .stuck else .stuck
def kGe2 (ck : NK → Bool) (fx : Ev) (ρ : Lc) (d i : D) (m2 : Mem) : Rs D := (fx ρ m2).bind fun x m3 => match dlkA ck m3 d i with
  | some r => .ok (r.getD x) m3
  | none => .stuck
def kGe3 (ck : NK → Bool) (d i x : D) (m3 : Mem) : Rs D := match dlkA ck m3 d i with
  | some r => .ok (r.getD x) m3
  | none => .stuck
@[simp] theorem dGet2_run : dGet2 ck fo fi fx ρ m = (fo ρ m).bind (kGe1 ck fi fx ρ) := rfl
@[simp] theorem kGe1_run : kGe1 ck fi fx ρ d m = if isDict m d = true then (fi ρ m).bind (kGe2 ck fx ρ d) else .stuck := rfl
@[simp] theorem kGe2_run : kGe2 ck fx ρ d i m = (fx ρ m).bind (kGe3 ck d i) := rfl
@[simp] theorem kGe3_run : kGe3 ck d i x m = gGe (dlkA ck m d i) x m := by
  unfold kGe3 gGe
  cases dlkA ck m d i <;> rfl
def gIxOT (ck : NK → Bool) (kt : List NK) (xs : List D) (m : Mem) : Option NK → Rs D
  | some k => if ck k = true then kIx (lookD kt xs k) m else .stuck
  | none => .stuck
@[simp] theorem gIxOT_run {k : NK} : gIxOT ck kt xs m (some k) = if ck k = true then kIx (lookD kt xs k) m else .stuck := rfl
@[simp] theorem gIxT_locT : gIxT ck (.loc f n) (.tup ys) m = gIxO ck (m.get f n) (.tup ys) m := by
  unfold gIxT dlk gIxO gIx
  simp only [vwKA, vwTA, keyD, keyT, nkD_tup]
  cases h : m.get f n with
  | none => rfl
  | some o =>
    cases o with
    | dt ks xs =>
      dsimp only
      cases keyDs ys with
      | none => rfl
      | some k =>
        dsimp only
        by_cases hc : ck k = true
        · rw [if_pos hc, if_pos hc]
          cases lookD ks xs k <;> rfl
        · rw [if_neg hc, if_neg hc]
    | ft ks xs =>
      dsimp only
      cases keyDs ys with
      | none => rfl
      | some k =>
        dsimp only
        by_cases hc : ck k = true
        · rw [if_pos hc, if_pos hc]
          cases lookD ks xs k <;> rfl
        · rw [if_neg hc, if_neg hc]
    | _ => rfl
@[simp] theorem gIxO_dt : gIxO ck (some (.dt kt xs)) (.tup ys) m = gIxOT ck kt xs m (keyDs ys) := by
  unfold gIxO gIxOT
  simp only [keyT, nkD_tup]
  try (cases keyDs ys <;> rfl)
def kStT (ck : NK → Bool) (kt : List NK) (xs : List D) (f n : Nat) (z : D) (m : Mem) : Option NK → Rs Unit
  | some k => if (kt.Nodup ∧ kt.length < 16777216) ∧ ck k = true then .ok () (m.put f n (.dt (putD kt xs k z).1 (putD kt xs k z).2)) else .stuck
  | none => .stuck
@[simp] theorem kStT_run {k : NK} {z : D} : kStT ck kt xs f n z m (some k) = if (kt.Nodup ∧ kt.length < 16777216) ∧ ck k = true then .ok () (m.put f n (.dt (putD kt xs k z).1 (putD kt xs k z).2)) else .stuck := rfl
@[simp] theorem gStO_dt {z : D} : gStO ck (some (.dt kt xs)) f n (.tup ys) z m = kStT ck kt xs f n z m (keyDs ys) := by
  unfold gStO kStT
  simp only [keyT, nkD_tup]
  try (cases keyDs ys <;> rfl)
/-! len, of dicts too -/
@[simp] theorem bLenA_tup : bLenA [.tup xs] m = .ok (.int xs.length) m := rfl
@[simp] theorem bLenA_lst : bLenA [.lst xs] m = .ok (.int xs.length) m := rfl
@[simp] theorem bLenA_str {x : Str} : bLenA [.str x] m = if lineOk x.length = true then .ok (.int x.length) m else .stuck := rfl
@[simp] theorem bLenA_scr {l : List Int} : bLenA [.scr l] m = .ok (.int l.length) m := bLen_scr
@[simp] theorem bLenA_dk : bLenA [.dk ks xs] m = .ok (.int ks.length) m := rfl
def gLenO (m : Mem) : Option MO → Rs D
  | some (.lst xs) => .ok (.int xs.length) m
  | some (.dk ks _) => .ok (.int ks.length) m
  | some (.dt ks _) => .ok (.int ks.length) m
  | _ => .stuck
@[simp] theorem gLenO_lst : gLenO m (some (.lst xs)) = .ok (.int xs.length) m := rfl
@[simp] theorem gLenO_dk : gLenO m (some (.dk ks xs)) = .ok (.int ks.length) m := rfl
@[simp] theorem bLenA_loc : bLenA [.loc f n] m = gLenO m (m.get f n) := by
  unfold bLenA dictLen
  dsimp only
  rw [bLen_loc, vwL_loc]
  cases h : m.get f n with
  | none => rfl
  | some o => cases o <;> rfl
/-! list(d.keys()) -/
def kLk (fin : List D → Mem → Rs D) (d : D) (m1 : Mem) : Rs D := match dkeysD m1 d with
  | some xs => if unlk m1 d = true then fin xs m1 else .stuck
  | none => .stuck
def kLkO (fin : List D → Mem → Rs D) (m : Mem) : Option MO → Rs D
  | some (.dk ks _) => fin (ks.map dKey) m
  | some (.dt ks _) => fin (ks.map dKeyT) m
  | _ => .stuck
variable {fin : List D → Mem → Rs D} {g : Ev}
@[simp] theorem dLstK_run : dLstK fin g ρ m = (g ρ m).bind (kLk fin) := rfl
@[simp] theorem kLk_loc : kLk fin (.loc f n) m = kLkO fin m (m.get f n) := by
  have : ∀ o, m.get f n = o → kLk fin (.loc f n) m = kLkO fin m o := fun o h => by
    cases o with
    | none => simp only [kLk, kLkO, dkeysD, unlk, vwKA, vwTA, h]
    | some o => cases o <;> simp only [kLk, kLkO, dkeysD, unlk, vwKA, vwTA, h] <;> rfl
  exact this _ rfl
@[simp] theorem kLkO_dk : kLkO fin m (some (.dk ks xs)) = fin (ks.map dKey) m := rfl
@[simp] theorem kLkO_dt : kLkO fin m (some (.dt kt xs)) = fin (kt.map dKeyT) m := rfl
end
/-! last ones of short lists -/
section
variable {α : Type} {a b c d : α}
@[simp] theorem atI_m1 : atI [a] (-1) = some a := rfl
@[simp] theorem atI_m2 : atI [a, b] (-1) = some b := rfl
@[simp] theorem atI_m3 : atI [a, b, c] (-1) = some c := rfl
@[simp] theorem atI_m4 : atI [a, b, c, d] (-1) = some d := rfl
end
/-! walks over locked dicts -/
section
variable {ks : List L2.Key} {kt : List NK} {xs : List D} {m : Mem} {ρ : Lc} {g : Ev} {f n : Nat}
def ckF (f n : Nat) (ks : List L2.Key) (xs : List D) (m : Mem) : Prop := m.get f n = some (.fk ks xs)
def kKw (d : D) (m1 : Mem) : Rs Wk := match d with
  | .loc g n => match m1.get g n with
    | some (.fk ks xs) => .ok ⟨ks.map dKey, fun m2 => m2.get g n = some (.fk ks xs)⟩ m1
    | some (.ft ks xs) => .ok ⟨ks.map dKeyT, fun m2 => m2.get g n = some (.ft ks xs)⟩ m1
    | _ => .stuck
  | _ => .stuck
def kKwO (f n : Nat) (m : Mem) : Option MO → Rs Wk
  | some (.fk ks xs) => .ok ⟨ks.map dKey, ckF f n ks xs⟩ m
  | some (.ft ks xs) => .ok ⟨ks.map dKeyT, fun m2 => m2.get f n = some (.ft ks xs)⟩ m
  | _ => .stuck
@[simp] theorem dKeysW_run : dKeysW g ρ m = (g ρ m).bind kKw := by
  unfold dKeysW
  congr 1
@[simp] theorem kKw_loc : kKw (.loc f n) m = kKwO f n m (m.get f n) := by
  unfold kKw kKwO
  dsimp only
  cases h : m.get f n with
  | none => rfl
  | some o => cases o <;> rfl
@[simp] theorem kKwO_fk : kKwO f n m (some (.fk ks xs)) = .ok ⟨ks.map dKey, ckF f n ks xs⟩ m := rfl
/-- a comprehension or loop that walks over a dict of its own frame -/
theorem lockV_run {α : Type} {i f n : Nat} {b : EvG α} {ρ : Lc} {m : Mem} {a : α} (h1 : ρ[i]? = some (some (.loc f n))) (h2 : m.get f n = some (.dk ks xs)) (h3 : b ρ (m.put f n (.fk ks xs)) = .ok a (m.put f n (.fk ks xs))) : lockV i b ρ m = .ok a m := by
  have hg := Mem.get_put (o := .fk ks xs) h2 f n
  rw [if_pos ⟨rfl, rfl⟩] at hg
  have hp : (m.put f n (.fk ks xs)).put f n (.dk ks xs) = m := by
    unfold Mem.put Mem.get at *
    apply List.ext_getElem?
    intro j
    rw [List.getElem?_modify, List.getElem?_modify]
    by_cases hj : f = j
    · subst hj
      cases e : m[f]? with
      | none => rfl
      | some fr =>
        rw [e] at h2
        have h2 : fr[n]? = some (.dk ks xs) := h2
        simp only [if_true, Option.map_some, Option.some.injEq]
        show some ((fr.set n (MO.fk ks xs)).set n (MO.dk ks xs)) = some fr
        rw [List.set_set]
        have hn := (List.getElem?_eq_some_iff.mp h2)
        obtain ⟨hn1, hn2⟩ := hn
        rw [← hn2, List.set_getElem_self]
    · cases e : m[j]? with
      | none => rfl
      | some fr => simp [hj]
  unfold lockV
  rw [h1]
  dsimp only
  rw [h2]
  dsimp only [MO.lock]
  rw [h3]
  unfold unl
  dsimp only
  rw [if_pos hg, hp]
theorem lockV_run2 {α : Type} {i f n : Nat} {b : EvG α} {ρ : Lc} {m m2 : Mem} {a : α} (h1 : ρ[i]? = some (some (.loc f n))) (h2 : m.get f n = some (.dk ks xs)) (h3 : b ρ (m.put f n (.fk ks xs)) = .ok a m2) (h4 : m2.get f n = some (.fk ks xs)) : lockV i b ρ m = .ok a (m2.put f n (.dk ks xs)) := by
  unfold lockV
  rw [h1]
  dsimp only
  rw [h2]
  dsimp only [MO.lock]
  rw [h3]
  unfold unl
  dsimp only
  rw [if_pos h4]
def kIw (d : D) (m1 : Mem) : Rs Wk := match d with
  | .loc g n => match m1.get g n with
    | some (.fk ks xs) => .ok ⟨(ks.zip xs).map fun kx => .tup [dKey kx.1, kx.2], fun m2 => m2.get g n = some (.fk ks xs)⟩ m1
    | _ => .stuck
  | _ => .stuck
def kIwO (f n : Nat) (m : Mem) : Option MO → Rs Wk
  | some (.fk ks xs) => .ok ⟨(ks.zip xs).map fun kx => .tup [dKey kx.1, kx.2], ckF f n ks xs⟩ m
  | _ => .stuck
@[simp] theorem dItemsW_run : dItemsW g ρ m = (g ρ m).bind kIw := by
  unfold dItemsW
  congr 1
@[simp] theorem kIw_loc : kIw (.loc f n) m = kIwO f n m (m.get f n) := by
  unfold kIw kIwO
  dsimp only
  cases h : m.get f n with
  | none => rfl
  | some o => cases o <;> rfl
@[simp] theorem kIwO_fk : kIwO f n m (some (.fk ks xs)) = .ok ⟨(ks.zip xs).map fun kx => .tup [dKey kx.1, kx.2], ckF f n ks xs⟩ m := rfl
end
/-! zip, enumerate -/
section
variable {f g h : Ev} {ρ : Lc} {m : Mem} {d e u : D} {xs ys zs : List D} {c1 c2 c3 : Mem → Prop} {k1 k2 k3 : Bool} {i j : Nat}
def vwO (i j : Nat) : Option MO → Option (Bool × List D × (Mem → Prop))
  | some (.lst xs) => some (true, xs, ckL i j xs)
  | _ => none
@[simp] theorem vwO_lst : vwO i j (some (.lst xs)) = some (true, xs, ckL i j xs) := rfl
@[simp] theorem vwW_tup : vwW m (.tup xs) = some (false, xs, fun _ => True) := rfl
@[simp] theorem vwW_lst : vwW m (.lst xs) = some (true, xs, fun _ => True) := rfl
@[simp] theorem vwW_scr {xs : List Int} : vwW m (.scr xs) = some (true, xs.map .int, fun _ => True) := rfl
@[simp] theorem vwW_loc : vwW m (.loc i j) = vwO i j (m.get i j) := by
  unfold vwW vwO
  dsimp only
  cases h : m.get i j with
  | none => rfl
  | some o => cases o <;> rfl
abbrev VW := Option (Bool × List D × (Mem → Prop))
def gZip (a b : VW) (m : Mem) : Rs Wk := match a, b with
  | some (_, xs, c1), some (_, ys, c2) => .ok ⟨(xs.zip ys).map fun p => .tup [p.1, p.2], fun m3 => c1 m3 ∧ c2 m3⟩ m
  | _, _ => .stuck
def kZ1 (g : Ev) (ρ : Lc) (d : D) (m : Mem) : Rs Wk := (g ρ m).bind fun e m2 => gZip (vwW m2 d) (vwW m2 e) m2
def kZ2 (d e : D) (m2 : Mem) : Rs Wk := gZip (vwW m2 d) (vwW m2 e) m2
@[simp] theorem dZip2_run : dZip2 f g ρ m = (f ρ m).bind (kZ1 g ρ) := rfl
@[simp] theorem kZ1_run : kZ1 g ρ d m = (g ρ m).bind (kZ2 d) := rfl
@[simp] theorem kZ2_run : kZ2 d e m = gZip (vwW m d) (vwW m e) m := rfl
@[simp] theorem gZip_run : gZip (some (k1, xs, c1)) (some (k2, ys, c2)) m = .ok ⟨(xs.zip ys).map fun p => .tup [p.1, p.2], fun m3 => c1 m3 ∧ c2 m3⟩ m := rfl
def gZip3 (a b c : VW) (m : Mem) : Rs Wk := match a, b, c with
  | some (_, xs, c1), some (_, ys, c2), some (_, zs, c3) => .ok ⟨(xs.zip (ys.zip zs)).map fun p => .tup [p.1, p.2.1, p.2.2], fun m4 => c1 m4 ∧ c2 m4 ∧ c3 m4⟩ m
  | _, _, _ => .stuck
def kY1 (g h : Ev) (ρ : Lc) (d : D) (m : Mem) : Rs Wk := (g ρ m).bind fun e m2 => (h ρ m2).bind fun u m3 => gZip3 (vwW m3 d) (vwW m3 e) (vwW m3 u) m3
def kY2 (h : Ev) (ρ : Lc) (d e : D) (m : Mem) : Rs Wk := (h ρ m).bind fun u m3 => gZip3 (vwW m3 d) (vwW m3 e) (vwW m3 u) m3
def kY3 (d e u : D) (m3 : Mem) : Rs Wk := gZip3 (vwW m3 d) (vwW m3 e) (vwW m3 u) m3
@[simp] theorem dZip3_run : dZip3 f g h ρ m = (f ρ m).bind (kY1 g h ρ) := rfl
@[simp] theorem kY1_run : kY1 g h ρ d m = (g ρ m).bind (kY2 h ρ d) := rfl
@[simp] theorem kY2_run : kY2 h ρ d e m = (h ρ m).bind (kY3 d e) := rfl
@[simp] theorem kY3_run : kY3 d e u m = gZip3 (vwW m d) (vwW m e) (vwW m u) m := rfl
@[simp] theorem gZip3_run : gZip3 (some (k1, xs, c1)) (some (k2, ys, c2)) (some (k3, zs, c3)) m = .ok ⟨(xs.zip (ys.zip zs)).map fun p => .tup [p.1, p.2.1, p.2.2], fun m4 => c1 m4 ∧ c2 m4 ∧ c3 m4⟩ m := rfl
def kEn (d : D) (m1 : Mem) : Rs Wk := match vwW m1 d with
  | some (true, xs, ck) => .ok ⟨enumD 0 xs, ck⟩ m1
  | _ => .stuck
def gEn : VW → Mem → Rs Wk
  | some (true, xs, ck), m => .ok ⟨enumD 0 xs, ck⟩ m
  | _, _ => .stuck
@[simp] theorem dEnum_run : dEnum f ρ m = (f ρ m).bind kEn := rfl
@[simp] theorem kEn_run : kEn d m = gEn (vwW m d) m := by
  unfold kEn gEn
  rcases vwW m d with _ | ⟨b, xs, ck⟩
  · rfl
  · cases b <;> rfl
@[simp] theorem gEn_run : gEn (some (true, xs, c1)) m = .ok ⟨enumD 0 xs, c1⟩ m := rfl
end
/-! isinstance -/
section
variable {m : Mem} {x : D} {n t : String} {ns : List String} {ts xs : List D} {i j : Nat}
def kIsi (n : String) (m : Mem) : Option String → Rs D
  | some t => if n ∈ known then .ok (.bl (isTy t n)) m else .stuck
  | none => .stuck
@[simp] theorem kIsi_run : kIsi n m (some t) = if n ∈ known then .ok (.bl (isTy t n)) m else .stuck := rfl
@[simp] theorem bIsi_ty : bIsi [x, .ty n] m = kIsi n m (tyN m x) := by
  show (match tyN m x with
    | some t => if n ∈ known then Rs.ok (D.bl (isTy t n)) m else .stuck
    | none => .stuck) = _
  cases tyN m x <;> rfl
def kIsis (m : Mem) : Option String → Option (List String) → Rs D
  | some t, some ns => if ∀ n ∈ ns, n ∈ known then .ok (.bl (ns.any (isTy t))) m else .stuck
  | _, _ => .stuck
@[simp] theorem kIsis_run : kIsis m (some t) (some ns) = if ∀ n ∈ ns, n ∈ known then .ok (.bl (ns.any (isTy t))) m else .stuck := rfl
@[simp] theorem bIsi_tup : bIsi [x, .tup ts] m = kIsis m (tyN m x) (tys ts) := by
  show (match tyN m x, tys ts with
    | some t, some ns => if ∀ n ∈ ns, n ∈ known then Rs.ok (D.bl (ns.any (isTy t))) m else .stuck
    | _, _ => .stuck) = _
  cases tyN m x <;> cases tys ts <;> rfl
@[simp] theorem tys_nil : tys [] = some [] := rfl
@[simp] theorem tys_cons : tys (.ty n :: ts) = (tys ts).map (n :: ·) := rfl
@[simp] theorem tyN_non : tyN m .non = some "NoneType" := rfl
@[simp] theorem tyN_bl {b} : tyN m (.bl b) = some "bool" := rfl
@[simp] theorem tyN_int {b} : tyN m (.int b) = some "int" := rfl
@[simp] theorem tyN_str {b} : tyN m (.str b) = some "str" := rfl
@[simp] theorem tyN_tup : tyN m (.tup xs) = some "tuple" := rfl
@[simp] theorem tyN_lst : tyN m (.lst xs) = some "list" := rfl
@[simp] theorem tyN_dk {ks} : tyN m (.dk ks xs) = some "dict" := rfl
def tyO : Option MO → Option String
  | some (.lst _) => some "list"
  | some (.dk _ _) => some "dict"
  | _ => none
@[simp] theorem tyO_lst : tyO (some (.lst xs)) = some "list" := rfl
@[simp] theorem tyO_dk {ks} : tyO (some (.dk ks xs)) = some "dict" := rfl
@[simp] theorem tyN_loc : tyN m (.loc i j) = tyO (m.get i j) := by
  unfold tyN tyO
  dsimp only
  try
    cases h : m.get i j with
    | none => rfl
    | some o => cases o <;> rfl
@[simp] theorem kn_int : "int" ∈ known := by decide
@[simp] theorem kn_bool : "bool" ∈ known := by decide
@[simp] theorem kn_str : "str" ∈ known := by decide
@[simp] theorem kn_list : "list" ∈ known := by decide
@[simp] theorem kn_tuple : "tuple" ∈ known := by decide
@[simp] theorem kn_dict : "dict" ∈ known := by decide
@[simp] theorem isTy_eq : isTy t n = (t == n || (t == "bool" && n == "int")) := rfl
end
theorem dBools_map {α : Type} (l : List α) (h : α → Bool) : dBools (l.map fun a => .bl (h a)) = some (l.map h) := by
  induction l with
  | nil => rfl
  | cons a l ih => simp only [List.map_cons, dBools, ih]; rfl
theorem bAll_map {α : Type} {l : List α} {h : α → Bool} {m : Mem} : bAll [.lst (l.map fun a => .bl (h a))] m = .ok (.bl (l.all h)) m := by
  unfold bAll
  dsimp only [vwL]
  rw [dBools_map]
  simp [List.all_map]
theorem bAny_map {α : Type} {l : List α} {h : α → Bool} {m : Mem} : bAny [.lst (l.map fun a => .bl (h a))] m = .ok (.bl (l.any h)) m := by
  unfold bAny
  dsimp only [vwL]
  rw [dBools_map]
  simp [List.any_map]
theorem bSum_ints {ns : List Int} {m : Mem} {d : D} (h : vwL m d = some (ns.map .int)) (hi : dInts (ns.map .int) = some ns) : bSum [d] m = .ok (.int ns.sum) m := by
  unfold bSum
  dsimp only
  rw [h]
  dsimp only
  rw [hi]
/-! the law's comparison -/
mutual
def lkD : Nat → D → Bool
  | _, .non => true
  | _, .int _ => true
  | _, .bl _ => true
  | _, .str x => PyData.strOk x
  | k + 1, .tup xs => decide (xs.length ≤ 16777216) && lkDs k xs
  | k + 1, .lst xs => decide (xs.length ≤ 16777216) && lkDs k xs
  | _, _ => false
def lkDs : Nat → List D → Bool
  | _, [] => true
  | k, x :: xs => lkD k x && lkDs k xs
end
theorem lkDs_iff {k : Nat} : ∀ {xs : List D}, lkDs k xs = true ↔ ∀ d ∈ xs, lkD k d = true
  | [] => by simp [lkDs]
  | x :: xs => by simp [lkDs, lkDs_iff (xs := xs)]
/-! a[::-1] -/
section
variable {fin : List D → Mem → Rs D} {f : Ev} {fs : EvG (Option Int)} {ρ : Lc} {m : Mem} {d : D} {xs : List D} {i j : Nat}
def kRv1 (fin : List D → Mem → Rs D) (fs : EvG (Option Int)) (ρ : Lc) (d : D) (m : Mem) : Rs D := (fs ρ m).bind fun o m2 => if o = some (-1) then gRv fin d m2 else .stuck
def kRv2 (fin : List D → Mem → Rs D) (d : D) (o : Option Int) (m : Mem) : Rs D := if o = some (-1) then gRv fin d m else .stuck
def gRvO (fin : List D → Mem → Rs D) (m : Mem) : Option (List D) → Rs D
  | some xs => fin xs.reverse m
  | none => .stuck
@[simp] theorem gRvO_run : gRvO fin m (some xs) = fin xs.reverse m := rfl
@[simp] theorem dRev_run : dRev fin f fs ρ m = (f ρ m).bind (kRv1 fin fs ρ) := rfl
@[simp] theorem kRv1_run : kRv1 fin fs ρ d m = (fs ρ m).bind (kRv2 fin d) := rfl
@[simp] theorem kRv2_run : kRv2 fin d (some (-1)) m = gRv fin d m := if_pos rfl
@[simp] theorem gRv_tup : gRv fin (.tup xs) m = .ok (.tup xs.reverse) m := rfl
@[simp] theorem gRv_lst : gRv fin (.lst xs) m = fin xs.reverse m := rfl
@[simp] theorem gRv_loc : gRv fin (.loc i j) m = gRvO fin m (vwL m (.loc i j)) := by
  show (match vwL m (.loc i j) with
    | some xs => fin xs.reverse m
    | none => .stuck) = _
  cases vwL m (.loc i j) <;> rfl
end
/-! dicts that are displayed, lists that are unpacked -/
section
variable {fin : List L2.Key → List D → Mem → Rs D} {f g : Ev} {fs : List (Ev × Ev)} {ρ : Lc} {m : Mem} {d x : D} {ps : List (D × D)} {xs : List D} {i : Int} {j k : Nat} {gs : Tgs}
def kP1 (g : Ev) (fs : List (Ev × Ev)) (ρ : Lc) (k : D) (m1 : Mem) : Rs (List (D × D)) := (g ρ m1).bind fun x m2 => (dPrs fs ρ m2).bind fun ps m3 => .ok ((k, x) :: ps) m3
def kP2 (fs : List (Ev × Ev)) (ρ : Lc) (k x : D) (m2 : Mem) : Rs (List (D × D)) := (dPrs fs ρ m2).bind fun ps m3 => .ok ((k, x) :: ps) m3
def kP3 (k x : D) (ps : List (D × D)) (m3 : Mem) : Rs (List (D × D)) := .ok ((k, x) :: ps) m3
@[simp] theorem dDisp_run : dDisp fin fs ρ m = (dPrs fs ρ m).bind (mkDisp fin) := rfl
@[simp] theorem dPrs_nil : dPrs [] ρ m = .ok [] m := rfl
@[simp] theorem dPrs_cons : dPrs ((f, g) :: fs) ρ m = (f ρ m).bind (kP1 g fs ρ) := rfl
@[simp] theorem kP1_run : kP1 g fs ρ d m = (g ρ m).bind (kP2 fs ρ d) := rfl
@[simp] theorem kP2_run : kP2 fs ρ d x m = (dPrs fs ρ m).bind (kP3 d x) := rfl
@[simp] theorem kP3_run : kP3 d x ps m = .ok ((d, x) :: ps) m := rfl
def mkDispO (fin : List L2.Key → List D → Mem → Rs D) (m : Mem) : Option (List (L2.Key × D)) → Rs D
  | some kx => if kx.length ≤ 15 then fin (mergeD kx [] []).1 (mergeD kx [] []).2 m else .stuck
  | none => .stuck
@[simp] theorem mkDisp_run : mkDisp fin ps m = mkDispO fin m (keyPs ps) := by
  unfold mkDisp mkDispO
  cases keyPs ps <;> rfl
theorem mkDispO_run {kx : List (L2.Key × D)} : mkDispO fin m (some kx) = if kx.length ≤ 15 then fin (mergeD kx [] []).1 (mergeD kx [] []).2 m else .stuck := rfl
theorem keyPs_int : keyPs ((.int i, x) :: ps) = (keyPs ps).map (fun r => (.inl i, x) :: r) := by
  simp only [keyPs, keyD]
  cases keyPs ps <;> rfl
@[simp] theorem keyPs_nil : keyPs [] = some [] := rfl
def gTLO (gs : Tgs) (ρ : Lc) (m : Mem) : Option (List D) → Rs Lc
  | some ds => gs ds ρ m
  | none => .stuck
@[simp] theorem gTLO_run : gTLO gs ρ m (some xs) = gs xs ρ m := rfl
@[simp] theorem gTL_run : gTL gs d ρ m = gTLO gs ρ m (vwL m d) := by
  unfold gTL gTLO
  cases vwL m d <;> rfl
end
end LN
/-! LNx: fractions as data. -/
namespace LN
open PySem L2 PySem.Spec PyProof.Rows

def fr (q : Rat) : D := .tup [.int q.num, .int (q.den : Int)]
@[simp] theorem dlt_fr {n : Nat} {q : Rat} : D.lt n (fr q) = true := by simp [fr]
@[simp] theorem plD_fr {k : Nat} {q : Rat} : plD (k + 1) (fr q) = true := by simp [fr]
theorem fr_inj {a b : Rat} : fr a = fr b ↔ a = b := by
  constructor
  · intro h
    simp only [fr, D.tup.injEq, List.cons.injEq, D.int.injEq, and_true] at h
    exact Rat.ext h.1 (by omega)
  · rintro rfl; rfl
theorem fr_one : fr 1 = .tup [.int 1, .int 1] := rfl
theorem fr_zero : fr 0 = .tup [.int 0, .int 1] := rfl
theorem fr_int (i : Int) : fr (i : Rat) = .tup [.int i, .int 1] := rfl
def Sz (n : Nat) (q : Rat) : Prop := q.num.natAbs < 2 ^ n ∧ q.den < 2 ^ n
theorem log2_le_of_lt {x n : Nat} (h : x < 2 ^ n) : x.log2 ≤ n := by
  by_cases hx : x = 0
  · subst hx; simp
  · have := (Nat.log2_lt hx).mpr h
    omega
theorem mulOk_of {i j : Int} {a b : Nat} (hi : i.natAbs < 2 ^ a) (hj : j.natAbs < 2 ^ b) (h : a + b < 1000000) : mulOk i j = true := by
  unfold mulOk
  have h1 := log2_le_of_lt hi
  have h2 := log2_le_of_lt hj
  simp only [decide_eq_true_eq]
  omega
theorem divOk_of {j : Int} {n : Nat} (h0 : j ≠ 0) (h : j.natAbs < 2 ^ n) (hn : n ≤ 9000) : divOk j = true := by
  unfold divOk
  have : j.natAbs.log2 < n := (Nat.log2_lt (by omega)).mpr h
  simp only [decide_eq_true_eq]
  exact ⟨h0, by omega⟩
theorem powb {a b x y : Nat} (hx : x < 2 ^ a) (hy : y < 2 ^ b) : x * y < 2 ^ (a + b) := by
  rw [Nat.pow_add]
  exact Nat.mul_lt_mul_of_lt_of_lt hx hy
theorem powb_int {a b : Nat} {x y : Int} (hx : x.natAbs < 2 ^ a) (hy : y.natAbs < 2 ^ b) : (x * y).natAbs < 2 ^ (a + b) := by
  rw [Int.natAbs_mul]; exact powb hx hy
theorem powmono {a b x : Nat} (hx : x < 2 ^ a) (h : a ≤ b) : x < 2 ^ b := Nat.lt_of_lt_of_le hx (Nat.pow_le_pow_right (by omega) h)
theorem Sz.mono {a b : Nat} {q : Rat} (h : Sz a q) (k : a ≤ b) : Sz b q := ⟨powmono h.1 k, powmono h.2 k⟩
/-- lowest terms by the common divisor with a sign -/
theorem divInt_parts {p q : Int} (hq : q ≠ 0) : ((Rat.divInt p q).num = p.fdiv (q.sign * (Nat.gcd p.natAbs q.natAbs : Nat))) ∧ (((Rat.divInt p q).den : Int) = q.fdiv (q.sign * (Nat.gcd p.natAbs q.natAbs : Nat))) := by
  have hg : ((Nat.gcd p.natAbs q.natAbs : Nat) : Int) ≠ 0 := by
    have : Nat.gcd p.natAbs q.natAbs ≠ 0 := fun h => by
      have := Nat.eq_zero_of_gcd_eq_zero_right h
      omega
    omega
  have d1 : ((Nat.gcd p.natAbs q.natAbs : Nat) : Int) ∣ p := Int.ofNat_dvd_left.mpr (Nat.gcd_dvd_left _ _)
  have d2 : ((Nat.gcd p.natAbs q.natAbs : Nat) : Int) ∣ q := Int.ofNat_dvd_left.mpr (Nat.gcd_dvd_right _ _)
  have e : (q.gcd p : Int) = ((Nat.gcd p.natAbs q.natAbs : Nat) : Int) := by
    unfold Int.gcd; rw [Nat.gcd_comm]
  rw [Rat.num_divInt, Rat.den_divInt, if_neg hq, e]
  obtain ⟨u, hu⟩ := d1
  obtain ⟨v, hv⟩ := d2
  generalize hG : ((Nat.gcd p.natAbs q.natAbs : Nat) : Int) = G at *
  have hs : q.sign * q.sign = 1 := by
    rcases Int.lt_trichotomy q 0 with h | h | h
    · rw [Int.sign_eq_neg_one_of_neg h]; rfl
    · exact absurd h hq
    · rw [Int.sign_eq_one_of_pos h]; rfl
  have hs0 : q.sign * G ≠ 0 := by
    intro h
    rcases Int.mul_eq_zero.mp h with h | h
    · rw [h] at hs; simp at hs
    · exact hg h
  constructor
  · have : p = (q.sign * G) * (q.sign * u) := by
      rw [Int.mul_assoc, Int.mul_left_comm G, ← Int.mul_assoc, hs, Int.one_mul]; exact hu
    rw [show q.sign * p = G * (q.sign * u) by rw [hu, Int.mul_left_comm], Int.mul_ediv_cancel_left _ hg]
    conv => rhs; rw [this]
    rw [Int.mul_fdiv_cancel_left _ hs0]
  · have : q = (q.sign * G) * (q.sign * v) := by
      rw [Int.mul_assoc, Int.mul_left_comm G, ← Int.mul_assoc, hs, Int.one_mul]; exact hv
    have e2 : ((q.natAbs / q.gcd p : Nat) : Int) = q.sign * v := by
      have h1 : (q.natAbs : Int) = q.sign * q := by
        rcases Int.lt_trichotomy q 0 with h | h | h
        · rw [Int.sign_eq_neg_one_of_neg h]; omega
        · exact absurd h hq
        · rw [Int.sign_eq_one_of_pos h]; omega
      rw [Int.natCast_ediv, h1, e, show q.sign * q = G * (q.sign * v) by conv => lhs; rw [hv, Int.mul_left_comm]; rw [← hv]]
      rw [Int.mul_ediv_cancel_left _ hg]
    rw [e2]
    conv => rhs; arg 1; rw [this]
    rw [Int.mul_fdiv_cancel_left _ hs0]
theorem fr_divInt {p q : Int} (hq : q ≠ 0) : fr (Rat.divInt p q) = .tup [.int (p.fdiv (q.sign * (Nat.gcd p.natAbs q.natAbs : Nat))), .int (q.fdiv (q.sign * (Nat.gcd p.natAbs q.natAbs : Nat)))] := by
  unfold fr
  rw [(divInt_parts hq).1, (divInt_parts hq).2]
theorem add_parts (a b : Rat) : a + b = Rat.divInt (a.num * b.den + b.num * a.den) (a.den * b.den) := by
  have h1 : a = Rat.divInt a.num a.den := (Rat.num_divInt_den a).symm
  have h2 : b = Rat.divInt b.num b.den := (Rat.num_divInt_den b).symm
  conv => lhs; rw [h1, h2]
  rw [Rat.divInt_add_divInt _ _ (by simpa using a.den_nz) (by simpa using b.den_nz)]
theorem mul_parts (a b : Rat) : a * b = Rat.divInt (a.num * b.num) (a.den * b.den) := by
  have h1 : a = Rat.divInt a.num a.den := (Rat.num_divInt_den a).symm
  have h2 : b = Rat.divInt b.num b.den := (Rat.num_divInt_den b).symm
  conv => lhs; rw [h1, h2]
  rw [Rat.divInt_mul_divInt]
theorem divInt_le {p q : Int} (hq : q ≠ 0) : (Rat.divInt p q).num.natAbs ≤ p.natAbs ∧ (Rat.divInt p q).den ≤ q.natAbs := by
  rw [Rat.num_divInt, Rat.den_divInt, if_neg hq]
  constructor
  · refine Nat.le_trans (Int.natAbs_ediv_le_natAbs _ _) ?_
    rw [Int.natAbs_mul]
    have : q.sign.natAbs ≤ 1 := by
      rcases Int.lt_trichotomy q 0 with h | h | h
      · rw [Int.sign_eq_neg_one_of_neg h]; decide
      · exact absurd h hq
      · rw [Int.sign_eq_one_of_pos h]; decide
    calc q.sign.natAbs * p.natAbs ≤ 1 * p.natAbs := Nat.mul_le_mul_right _ this
      _ = p.natAbs := Nat.one_mul _
  · exact Nat.div_le_self _ _
theorem Sz.add {a b : Nat} {x y : Rat} (h : Sz a x) (k : Sz b y) : Sz (a + b + 1) (x + y) := by
  rw [add_parts]
  have hd : ((x.den : Int) * y.den) ≠ 0 := by
    have := x.den_nz; have := y.den_nz
    exact Int.mul_ne_zero (by omega) (by omega)
  have := divInt_le (p := x.num * y.den + y.num * x.den) hd
  have h1 := powb_int (x := x.num) (y := y.den) h.1 (by simpa using k.2)
  have h2 := powb_int (x := y.num) (y := x.den) k.1 (by simpa using h.2)
  have h3 := powb h.2 k.2
  have e : 2 ^ (a + b + 1) = 2 ^ (a + b) + 2 ^ (a + b) := by rw [Nat.pow_succ]; omega
  rw [Nat.add_comm b a] at h2
  refine ⟨?_, ?_⟩
  · refine Nat.lt_of_le_of_lt this.1 ?_
    rw [e]
    have := Int.natAbs_add_le (x.num * y.den) (y.num * x.den)
    omega
  · refine Nat.lt_of_le_of_lt this.2 ?_
    rw [Int.natAbs_mul]
    simp only [Int.natAbs_natCast]
    omega
theorem Sz.mul {a b : Nat} {x y : Rat} (h : Sz a x) (k : Sz b y) : Sz (a + b) (x * y) := by
  rw [mul_parts]
  have hd : ((x.den : Int) * y.den) ≠ 0 := by
    have := x.den_nz; have := y.den_nz
    exact Int.mul_ne_zero (by omega) (by omega)
  have := divInt_le (p := x.num * y.num) hd
  have h1 := powb_int h.1 k.1
  have h3 := powb h.2 k.2
  refine ⟨Nat.lt_of_le_of_lt this.1 h1, Nat.lt_of_le_of_lt this.2 ?_⟩
  rw [Int.natAbs_mul]
  simpa using h3
/-- Euclid by remainders -/
def euc : Nat → Int → Int → Int
  | 0, a, _ => a
  | n + 1, a, b => if b = 0 then a else euc n b (a.fmod b)
theorem euc_gcd : ∀ (n : Nat) (a b : Int), 0 ≤ a → 0 ≤ b → b < n → euc n a b = (Nat.gcd a.natAbs b.natAbs : Nat)
  | 0, a, b, _, h, k => by omega
  | n + 1, a, b, ha, hb, hn => by
    unfold euc
    by_cases h : b = 0
    · rw [if_pos h, h]
      simp; omega
    · rw [if_neg h]
      have hp : 0 < b := by omega
      have h1 : 0 ≤ a.fmod b := Int.fmod_nonneg_of_pos a hp
      have h2 : a.fmod b < b := Int.fmod_lt_of_pos a hp
      rw [euc_gcd n b (a.fmod b) hb h1 (by omega), Nat.gcd_comm a.natAbs b.natAbs, Nat.gcd_rec b.natAbs a.natAbs, Nat.gcd_comm (a.natAbs % b.natAbs)]
      have e3 : a.fmod b = a % b := Int.fmod_eq_emod_of_nonneg a hb
      rw [e3] at h1 ⊢
      have e1 : (a.natAbs : Int) = a := Int.natAbs_of_nonneg ha
      have e2 : (b.natAbs : Int) = b := Int.natAbs_of_nonneg hb
      have e4 : (a % b).natAbs = a.natAbs % b.natAbs := by
        have : ((a % b).natAbs : Int) = ((a.natAbs % b.natAbs : Nat) : Int) := by rw [Int.natAbs_of_nonneg h1, Int.natCast_emod, e1, e2]
        omega
      rw [e4]
end LN
/-! LNy: dicts as lists of pairs, sums by keys, normal forms. -/
namespace LN
open PySem L2 PySem.Spec PyProof.Rows

section
variable {α β κ : Type} [DecidableEq α] [DecidableEq κ]
def lkA : List (α × β) → α → Option β
  | [], _ => none
  | p :: r, a => if p.1 = a then some p.2 else lkA r a
def stA : List (α × β) → α → β → List (α × β)
  | [], a, b => [(a, b)]
  | p :: r, a, b => if p.1 = a then (p.1, b) :: r else p :: stA r a b
def keysA (A : List (α × β)) : List α := A.map (·.1)
theorem lookD_map {K : α → κ} (hK : ∀ a b, K a = K b → a = b) (v : β → D) (a : α) : ∀ A : List (α × β), lookD (A.map fun p => K p.1) (A.map fun p => v p.2) (K a) = (lkA A a).map v
  | [] => rfl
  | p :: r => by
    simp only [List.map_cons, lookD, lkA]
    by_cases h : p.1 = a
    · rw [if_pos (by rw [h]), if_pos h]; rfl
    · rw [if_neg (fun z => h (hK _ _ z)), if_neg h, lookD_map hK v a r]
theorem putD_map {K : α → κ} (hK : ∀ a b, K a = K b → a = b) (v : β → D) (a : α) (b : β) : ∀ A : List (α × β), putD (A.map fun p => K p.1) (A.map fun p => v p.2) (K a) (v b) = ((stA A a b).map (fun p => K p.1), (stA A a b).map fun p => v p.2)
  | [] => rfl
  | p :: r => by
    simp only [List.map_cons, putD, stA]
    by_cases h : p.1 = a
    · rw [if_pos (by rw [h]), if_pos h]; rfl
    · rw [if_neg (fun z => h (hK _ _ z)), if_neg h, putD_map hK v a b r]; rfl
theorem lkA_stA (a c : α) (b : β) : ∀ A : List (α × β), lkA (stA A a b) c = if a = c then some b else lkA A c
  | [] => by simp [stA, lkA]
  | p :: r => by
    simp only [stA]
    by_cases h : p.1 = a
    · rw [if_pos h]
      simp only [lkA]
      by_cases h2 : a = c
      · rw [if_pos (h.trans h2), if_pos h2]
      · rw [if_neg (fun z => h2 (h.symm.trans z)), if_neg h2, if_neg (fun z => h2 (h.symm.trans z))]
    · rw [if_neg h]
      simp only [lkA]
      by_cases h2 : p.1 = c
      · rw [if_pos h2, if_pos h2, if_neg (fun z => h (h2.trans z.symm))]
      · rw [if_neg h2, if_neg h2, lkA_stA a c b r]
theorem keysA_stA (a : α) (b : β) : ∀ A : List (α × β), keysA (stA A a b) = if a ∈ keysA A then keysA A else keysA A ++ [a]
  | [] => by simp [stA, keysA]
  | p :: r => by
    simp only [stA]
    have ih := keysA_stA a b r
    unfold keysA at ih ⊢
    by_cases h : p.1 = a
    · rw [if_pos h, if_pos (by simp [h])]; rfl
    · rw [if_neg h]
      have h' : ¬ a = p.1 := fun z => h z.symm
      simp only [List.map_cons, ih, List.mem_cons, h', false_or]
      split <;> simp_all
theorem nodup_stA {A : List (α × β)} {a : α} {b : β} (h : (keysA A).Nodup) : (keysA (stA A a b)).Nodup := by
  rw [keysA_stA]
  split
  · exact h
  · rename_i hn
    rw [List.nodup_append]
    exact ⟨h, by simp, fun x hx y hy => by rintro rfl; simp at hy; subst hy; exact hn hx⟩
theorem len_stA {A : List (α × β)} {a : α} {b : β} : (stA A a b).length ≤ A.length + 1 := by
  have := congrArg List.length (keysA_stA a b A)
  unfold keysA at this
  simp only [List.length_map] at this
  rw [this]
  split <;> simp
theorem lkA_mem {a : α} {b : β} : ∀ {A : List (α × β)}, lkA A a = some b → (a, b) ∈ A
  | p :: r, h => by
    simp only [lkA] at h
    split at h
    · rename_i e; cases h; subst e; simp
    · exact List.mem_cons_of_mem _ (lkA_mem h)
theorem lkA_none {a : α} : ∀ {A : List (α × β)}, lkA A a = none ↔ a ∉ keysA A
  | [] => by simp [lkA, keysA]
  | p :: r => by
    simp only [lkA, keysA, List.map_cons, List.mem_cons, not_or]
    by_cases h : p.1 = a
    · rw [if_pos h]; simp [h]
    · rw [if_neg h, lkA_none (A := r)]
      exact ⟨fun z => ⟨fun e => h e.symm, z⟩, fun z => z.2⟩
theorem lkA_some {a : α} {A : List (α × β)} (h : a ∈ keysA A) : ∃ b, lkA A a = some b := by
  cases e : lkA A a with
  | none => exact absurd h (lkA_none.mp e)
  | some b => exact ⟨b, rfl⟩
theorem nodup_K {K : α → κ} (hK : ∀ a b, K a = K b → a = b) {A : List (α × β)} (h : (keysA A).Nodup) : (A.map fun p => K p.1).Nodup := by
  have : (A.map fun p => K p.1) = (keysA A).map K := by unfold keysA; rw [List.map_map]; rfl
  rw [this]
  exact List.Pairwise.map K (fun a b hab e => hab (hK _ _ e)) h
theorem mem_stA {A : List (α × β)} {a : α} {b : β} : ∀ {p : α × β}, p ∈ stA A a b → p = (a, b) ∨ p ∈ A := by
  induction A with
  | nil => intro p h; simp [stA] at h; exact .inl h
  | cons x r ih =>
    intro p h
    simp only [stA] at h
    split at h
    · rename_i e
      rcases List.mem_cons.mp h with h | h
      · left; rw [h, ← e]
      · right; simp [h]
    · rcases List.mem_cons.mp h with h | h
      · right; simp [h]
      · rcases ih h with h | h
        · exact .inl h
        · right; simp [h]
end

/-! ### sums by keys -/
section
variable {α : Type} [DecidableEq α]
def addA (A : List (α × Rat)) (e : α × Rat) : List (α × Rat) := stA A e.1 ((lkA A e.1).getD 0 + e.2)
def sumsA (es : List (α × Rat)) : List (α × Rat) := es.foldl addA []
/-- the sum of what belongs to a key -/
def totA (es : List (α × Rat)) (a : α) : Rat := es.foldl (fun s e => if e.1 = a then s + e.2 else s) 0
theorem nodup_addA {A : List (α × Rat)} {e : α × Rat} (h : (keysA A).Nodup) : (keysA (addA A e)).Nodup := nodup_stA h
theorem lk_addA {A : List (α × Rat)} {e : α × Rat} {a : α} : (lkA (addA A e) a).getD 0 = if e.1 = a then (lkA A a).getD 0 + e.2 else (lkA A a).getD 0 := by
  unfold addA
  rw [lkA_stA]
  split
  · rename_i h; rw [h]; rfl
  · rfl
theorem sumsA_tot (es : List (α × Rat)) (a : α) : (lkA (sumsA es) a).getD 0 = totA es a := by
  unfold sumsA totA
  have : ∀ (es : List (α × Rat)) (A : List (α × Rat)) (s : Rat), (lkA A a).getD 0 = s → (lkA (es.foldl addA A) a).getD 0 = es.foldl (fun s e => if e.1 = a then s + e.2 else s) s := by
    intro es
    induction es with
    | nil => intro A s h; exact h
    | cons e es ih =>
      intro A s h
      rw [List.foldl_cons, List.foldl_cons]
      refine ih _ _ ?_
      rw [lk_addA, h]
  exact this es [] 0 rfl
theorem keys_sumsA (es : List (α × Rat)) (a : α) : a ∈ keysA (sumsA es) ↔ a ∈ es.map (·.1) := by
  unfold sumsA
  have : ∀ (es : List (α × Rat)) (A : List (α × Rat)), a ∈ keysA (es.foldl addA A) ↔ a ∈ keysA A ∨ a ∈ es.map (·.1) := by
    intro es
    induction es with
    | nil => intro A; simp
    | cons e es ih =>
      intro A
      rw [List.foldl_cons, ih]
      unfold addA
      rw [keysA_stA]
      split
      · rename_i h
        simp only [List.map_cons, List.mem_cons]
        constructor
        · rintro (h | h)
          · exact .inl h
          · exact .inr (.inr h)
        · rintro (h1 | h1 | h1)
          · exact .inl h1
          · exact .inl (h1 ▸ h)
          · exact .inr h1
      · simp only [List.mem_append, List.map_cons, List.mem_cons, or_assoc, List.not_mem_nil, false_or]
  rw [this es []]
  simp [keysA]
theorem nodup_sumsA (es : List (α × Rat)) : (keysA (sumsA es)).Nodup := by
  unfold sumsA
  have : ∀ (es : List (α × Rat)) (A : List (α × Rat)), (keysA A).Nodup → (keysA (es.foldl addA A)).Nodup := by
    intro es
    induction es with
    | nil => intro A h; exact h
    | cons e es ih => intro A h; exact ih _ (nodup_addA h)
  exact this es [] (by simp [keysA])
theorem len_sumsA (es : List (α × Rat)) : (sumsA es).length ≤ es.length := by
  unfold sumsA
  have : ∀ (es : List (α × Rat)) (A : List (α × Rat)), (es.foldl addA A).length ≤ A.length + es.length := by
    intro es
    induction es with
    | nil => intro A; simp
    | cons e es ih =>
      intro A
      rw [List.foldl_cons]
      have h1 := ih (addA A e)
      have h2 : (addA A e).length ≤ A.length + 1 := len_stA
      simp only [List.length_cons]
      omega
  simpa using this es []
/-- all values are small -/
def SzA (n : Nat) (A : List (α × Rat)) : Prop := ∀ p ∈ A, Sz n p.2
theorem Sz0 : Sz 1 0 := ⟨by decide, by decide⟩
theorem SzA.add {A : List (α × Rat)} {e : α × Rat} {n k : Nat} (h : SzA n A) (he : Sz k e.2) (h1 : 1 ≤ n) : SzA (n + k + 1) (addA A e) := fun p hp => by
  rcases mem_stA hp with h2 | h2
  · rw [h2]
    refine Sz.add ?_ he
    cases e2 : lkA A e.1 with
    | none => exact Sz0.mono h1
    | some q => exact h _ (lkA_mem e2)
  · exact (h p h2).mono (by omega)
theorem SzA.sums {es : List (α × Rat)} {k : Nat} (h : SzA k es) : SzA (1 + (k + 1) * es.length) (sumsA es) := by
  unfold sumsA
  have : ∀ (es : List (α × Rat)) (A : List (α × Rat)) (n : Nat), 1 ≤ n → SzA k es → SzA n A → SzA (n + (k + 1) * es.length) (es.foldl addA A) := by
    intro es
    induction es with
    | nil => intro A n _ _ h; exact h
    | cons e es ih =>
      intro A n hn hs h
      rw [List.foldl_cons]
      have := ih (addA A e) (n + k + 1) (by omega) (fun p hp => hs p (by simp [hp])) (h.add (hs e (by simp)) hn)
      have e2 : n + (k + 1) * (e :: es).length = n + k + 1 + (k + 1) * es.length := by
        rw [List.length_cons, Nat.mul_add, Nat.mul_one]; omega
      rw [e2]; exact this
  exact this es [] 1 (by omega) h (fun p hp => by simp at hp)
end

/-! ### what is sorted -/
theorem dInts_map (ns : List Int) : dInts (ns.map .int) = some ns := by
  induction ns with
  | nil => rfl
  | cons n ns ih => simp only [List.map_cons, dInts, ih]; rfl
theorem dTups_map (ks : List (List Int)) : dTups (ks.map tupI) = some ks := by
  induction ks with
  | nil => rfl
  | cons n ns ih =>
    show (match dInts (n.map .int), dTups (ns.map tupI) with
      | some n, some ns => some (n :: ns)
      | _, _ => none) = _
    rw [dInts_map, ih]
section
variable {fin : List D → Mem → Rs D} {m : Mem}
theorem bSort_ints (ns : List Int) : bSort fin [.lst (ns.map .int)] m = fin ((sortI ns).map .int) m := by
  unfold bSort
  dsimp only [vwL]
  rw [dInts_map]
theorem bSort_tups (ks : List (List Int)) (h : okT ks = true) : bSort fin [.lst (ks.map tupI)] m = fin ((sortT ks).map tupI) m := by
  unfold bSort
  dsimp only [vwL]
  cases ks with
  | nil => simp [dInts, sortI, sortT]
  | cons k r =>
    have : dInts ((k :: r).map tupI) = none := rfl
    rw [this, dTups_map]
    dsimp only
    rw [if_pos h]
end
theorem lexLe_one {a b : Int} : lexLe [a] [b] = true ↔ a ≤ b := by
  simp [lexLe]
  omega
theorem sortT_one (ns : List Int) : sortT (ns.map fun n => [n]) = (sortI ns).map fun n => [n] := by
  refine perm_unique (le := fun a b => lexLe a b = true) (fun a b => lexLe_anti) ?_ (sortT_pw _) ?_
  · exact (sortT_perm _).trans ((sortI_perm ns).symm.map _)
  · exact List.Pairwise.map _ (fun a b h => lexLe_one.mpr h) (sortI_pw ns)
theorem sortI_mem {ns : List Int} {n : Int} : n ∈ sortI ns ↔ n ∈ ns := (sortI_perm ns).mem_iff
theorem sortI_len {ns : List Int} : (sortI ns).length = ns.length := (sortI_perm ns).length_eq
/-- the normal form: by the keys, without zeros -/
def nfA (A : List (Int × Rat)) : List (Int × Rat) := (sortI (keysA A)).filterMap fun c => if (lkA A c).getD 0 = 0 then none else some (c, (lkA A c).getD 0)
def ent (e : Int × Rat) : D := .tup [.int e.1, fr e.2]
@[simp] theorem dlt_ent {n : Nat} {e : Int × Rat} : D.lt n (ent e) = true := by simp [ent]
@[simp] theorem plD_ent {k : Nat} {e : Int × Rat} : plD (k + 2) (ent e) = true := by simp [ent]
@[simp] theorem dlts_ints {n : Nat} {l : List Int} : D.lts n (l.map .int) = true := dlts_map fun _ _ => rfl
@[simp] theorem dlt_tupI {n : Nat} {l : List Int} : D.lt n (tupI l) = true := by simp [tupI]
@[simp] theorem dlts_tupI {n : Nat} {l : List (List Int)} : D.lts n (l.map tupI) = true := dlts_map fun _ _ => dlt_tupI
@[simp] theorem dlts_ent {n : Nat} {l : List (Int × Rat)} : D.lts n (l.map ent) = true := dlts_map fun _ _ => dlt_ent
theorem plDs_ints {n : Nat} {l : List Int} : plDs n (l.map .int) = true := plDs_map fun _ _ => plD_int
theorem plD_tupI {n : Nat} {l : List Int} : plD (n + 1) (tupI l) = true := by simp [tupI, plDs_ints]
theorem plDs_tupI {n : Nat} {l : List (List Int)} : plDs (n + 1) (l.map tupI) = true := plDs_map fun _ _ => plD_tupI
theorem tupI_inj {a b : List Int} : tupI a = tupI b ↔ a = b := by
  constructor
  · intro h
    simp only [tupI, D.tup.injEq] at h
    have := congrArg dInts h
    rw [dInts_map, dInts_map] at this
    exact Option.some.inj this
  · rintro rfl; rfl
/-! ### a dict of pairs -/
section
variable {β : Type}
theorem dPairs_map (v : β → D) : ∀ A : List (Int × β), dPairs (A.map fun p => .tup [.int p.1, v p.2]) = some (A.map fun p => (.inl p.1, v p.2))
  | [] => rfl
  | p :: r => by
    simp only [List.map_cons, dPairs, keyD, dPairs_map v r]
theorem mergeD_map (v : β → D) : ∀ (ps A : List (Int × β)), mergeD (ps.map fun p => (.inl p.1, v p.2)) (A.map fun p => .inl p.1) (A.map fun p => v p.2) = ((ps.foldl (fun A p => stA A p.1 p.2) A).map (fun p => .inl p.1), (ps.foldl (fun A p => stA A p.1 p.2) A).map fun p => v p.2)
  | [], A => rfl
  | p :: r, A => by
    simp only [List.map_cons, mergeD, List.foldl_cons]
    rw [putD_map (K := fun a : Int => (Sum.inl a : L2.Key)) (fun a b h => by cases h; rfl) v p.1 p.2 A]
    exact mergeD_map v r (stA A p.1 p.2)
def ofA (ps : List (Int × β)) : List (Int × β) := ps.foldl (fun A p => stA A p.1 p.2) []
theorem bDict_map {fin : List L2.Key → List D → Mem → Rs D} {m : Mem} (v : β → D) (ps : List (Int × β)) : bDict fin [.lst (ps.map fun p => .tup [.int p.1, v p.2])] m = fin ((ofA ps).map fun p => .inl p.1) ((ofA ps).map fun p => v p.2) m := by
  unfold bDict
  dsimp only [vwL]
  rw [dPairs_map]
  dsimp only
  have := mergeD_map v ps []
  simp only [List.map_nil] at this
  rw [this]
  rfl
theorem stA_new {α : Type} [DecidableEq α] {a : α} {b : β} : ∀ {A : List (α × β)}, a ∉ keysA A → stA A a b = A ++ [(a, b)]
  | [], _ => rfl
  | p :: r, h => by
    simp only [keysA, List.map_cons, List.mem_cons, not_or] at h
    simp only [stA]
    rw [if_neg (fun z => h.1 z.symm), stA_new (A := r) h.2]
    rfl
theorem foldA_nodup : ∀ (ps A : List (Int × β)), (keysA (A ++ ps)).Nodup → ps.foldl (fun A p => stA A p.1 p.2) A = A ++ ps
  | [], A, _ => by simp
  | p :: r, A, h => by
    have h0 : p.1 ∉ keysA A := by
      unfold keysA at h ⊢
      rw [List.map_append, List.map_cons, List.nodup_append] at h
      exact fun z => h.2.2 _ z _ (by simp) rfl
    rw [List.foldl_cons, stA_new h0, foldA_nodup r _ (by simpa using h)]
    simp
theorem ofA_nodup {ps : List (Int × β)} (h : (keysA ps).Nodup) : ofA ps = ps := by
  unfold ofA
  rw [foldA_nodup ps [] (by simpa using h)]
  rfl
end
theorem sumsA_nodup {es : List (Int × Rat)} (h : (keysA es).Nodup) : sumsA es = es := by
  have : ∀ (es A : List (Int × Rat)), (keysA (A ++ es)).Nodup → es.foldl addA A = A ++ es := by
    intro es
    induction es with
    | nil => intro A _; simp
    | cons e es ih =>
      intro A h
      have h0 : e.1 ∉ keysA A := by
        unfold keysA at h ⊢
        rw [List.map_append, List.map_cons, List.nodup_append] at h
        exact fun z => h.2.2 _ z _ (by simp) rfl
      have e0 : addA A e = A ++ [e] := by
        unfold addA
        rw [lkA_none.mpr h0, stA_new h0]
        simp [Rat.zero_add]
      rw [List.foldl_cons, e0, ih _ (by simpa using h)]
      simp
  exact (this es [] (by simpa using h)).trans (by simp)
theorem lkA_of_mem {β : Type} {A : List (Int × β)} (h : (keysA A).Nodup) : ∀ {p : Int × β}, p ∈ A → lkA A p.1 = some p.2 := by
  induction A with
  | nil => intro p hp; simp at hp
  | cons q r ih =>
    intro p hp
    simp only [keysA, List.map_cons, List.nodup_cons] at h
    rcases List.mem_cons.mp hp with e | e
    · subst e; simp [lkA]
    · have hne : q.1 ≠ p.1 := fun z => h.1 (z ▸ List.mem_map_of_mem e)
      simp only [lkA, if_neg hne]
      exact ih h.2 e
/-- different keys, no zeros: the normal form is the entries in another order -/
theorem nfA_perm {es : List (Int × Rat)} (h : (keysA es).Nodup) (h0 : ∀ e ∈ es, e.2 ≠ 0) : (nfA (sumsA es)).Perm es := by
  rw [sumsA_nodup h]
  unfold nfA
  refine ((sortI_perm (keysA es)).filterMap _).trans ?_
  have : (keysA es).filterMap (fun c => if (lkA es c).getD 0 = 0 then none else some (c, (lkA es c).getD 0)) = es := by
    unfold keysA
    rw [List.filterMap_map]
    have hc : ∀ e ∈ es, ((fun c => if (lkA es c).getD 0 = 0 then none else some (c, (lkA es c).getD 0)) ∘ fun x : Int × Rat => x.1) e = some e := fun e he => by
      have h1 := lkA_of_mem h he
      simp only [Function.comp, h1, Option.getD_some, if_neg (h0 e he)]
    have : ∀ l : List (Int × Rat), (∀ e ∈ l, e ∈ es) → l.filterMap ((fun c => if (lkA es c).getD 0 = 0 then none else some (c, (lkA es c).getD 0)) ∘ fun x : Int × Rat => x.1) = l := by
      intro l
      induction l with
      | nil => intro _; rfl
      | cons e l ih =>
        intro hl
        rw [List.filterMap_cons, hc e (hl e (by simp)), ih fun x hx => hl x (by simp [hx])]
    exact this es fun _ h => h
  rw [this]
/-! a dict of fractions -/
def mA (A : List (Int × Rat)) : MO := .dk ((keysA A).map .inl) (A.map fun p => fr p.2)
def mT (A : List (Int × Rat)) : MO := .dt ((keysA A).map fun c => .tup [.num c]) (A.map fun p => fr p.2)
theorem inl_inj : ∀ a b : Int, (Sum.inl a : L2.Key) = Sum.inl b → a = b := fun a b h => by cases h; rfl
theorem tup1_inj : ∀ a b : Int, (.tup [.num a] : NK) = .tup [.num b] → a = b := fun a b h => by injection h with h; injection h with h; injection h
section
variable {κ β : Type} [DecidableEq κ]
theorem lookD_keys {K : Int → κ} (hK : ∀ a b, K a = K b → a = b) (v : β → D) (a : Int) (A : List (Int × β)) : lookD ((keysA A).map K) (A.map fun p => v p.2) (K a) = (lkA A a).map v := by
  unfold keysA
  rw [List.map_map]
  exact lookD_map hK v a A
theorem putD_keys {K : Int → κ} (hK : ∀ a b, K a = K b → a = b) (v : β → D) (a : Int) (b : β) (A : List (Int × β)) : putD ((keysA A).map K) (A.map fun p => v p.2) (K a) (v b) = ((keysA (stA A a b)).map K, (stA A a b).map fun p => v p.2) := by
  unfold keysA
  rw [List.map_map, List.map_map]
  exact putD_map hK v a b A
theorem nodup_keys {K : Int → κ} (hK : ∀ a b, K a = K b → a = b) {A : List (Int × β)} (h : (keysA A).Nodup) : ((keysA A).map K).Nodup :=
  List.Pairwise.map K (fun a b hab e => hab (hK _ _ e)) h
end
@[simp] theorem dlts_fr {n : Nat} {A : List (Int × Rat)} : D.lts n (A.map fun p => fr p.2) = true := dlts_map fun _ _ => dlt_fr
theorem keysA_len {α β : Type} {A : List (α × β)} : (keysA A).length = A.length := by simp [keysA]
end LN
/-! LNba: fractions over a common denominator, bounded. -/
namespace LN
open PySem L2 PySem.Spec PyProof.Rows

/-- q times L is a whole number, q is at most β -/
def Dn (L β : Nat) (q : Rat) : Prop := ∃ z : Int, q * ((L : Int) : Rat) = (z : Rat) ∧ z.natAbs ≤ β * L
theorem cast_ne {L : Nat} (h : 0 < L) : ((L : Int) : Rat) ≠ 0 := fun e => by
  have : ((L : Int) : Rat) = ((0 : Int) : Rat) := e
  have := Rat.intCast_inj.mp this
  omega
theorem Dn.eq {L β : Nat} {q : Rat} (h : Dn L β q) (h0 : 0 < L) : ∃ z : Int, q = Rat.divInt z L ∧ z.natAbs ≤ β * L := by
  obtain ⟨z, h1, h2⟩ := h
  refine ⟨z, ?_, h2⟩
  rw [Rat.divInt_eq_div, ← h1, Rat.mul_div_cancel (cast_ne h0)]
theorem Dn.sz {L β a b : Nat} {q : Rat} (h : Dn L β q) (h0 : 0 < L) (ha : L < 2 ^ a) (hb : β < 2 ^ b) : Sz (a + b) q := by
  obtain ⟨z, rfl, h2⟩ := h.eq h0
  have hd := divInt_le (p := z) (q := L) (by omega)
  have hz : z.natAbs < 2 ^ (a + b) := by
    refine Nat.lt_of_le_of_lt h2 ?_
    rw [Nat.add_comm a b]
    exact powb hb ha
  exact ⟨Nat.lt_of_le_of_lt hd.1 hz, Nat.lt_of_le_of_lt hd.2 (powmono (by simpa using ha) (by omega))⟩
theorem Dn.mono {L β γ : Nat} {q : Rat} (h : Dn L β q) (k : β ≤ γ) : Dn L γ q := by
  obtain ⟨z, h1, h2⟩ := h
  exact ⟨z, h1, Nat.le_trans h2 (Nat.mul_le_mul_right _ k)⟩
theorem Dn.add {L β γ : Nat} {p q : Rat} (h : Dn L β p) (k : Dn L γ q) : Dn L (β + γ) (p + q) := by
  obtain ⟨z, h1, h2⟩ := h
  obtain ⟨y, k1, k2⟩ := k
  refine ⟨z + y, ?_, ?_⟩
  · rw [Rat.add_mul, h1, k1, Rat.intCast_add]
  · rw [Nat.add_mul]
    have := Int.natAbs_add_le z y
    omega
theorem Dn.mul {L M β γ : Nat} {p q : Rat} (h : Dn L β p) (k : Dn M γ q) : Dn (L * M) (β * γ) (p * q) := by
  obtain ⟨z, h1, h2⟩ := h
  obtain ⟨y, k1, k2⟩ := k
  refine ⟨z * y, ?_, ?_⟩
  · have e : (((L * M : Nat) : Int) : Rat) = ((L : Int) : Rat) * ((M : Int) : Rat) := by rw [Int.natCast_mul, Rat.intCast_mul]
    rw [e, Rat.intCast_mul, ← h1, ← k1]
    grind
  · rw [Int.natAbs_mul]
    calc z.natAbs * y.natAbs ≤ (β * L) * (γ * M) := Nat.mul_le_mul h2 k2
      _ = β * γ * (L * M) := by simp only [Nat.mul_assoc, Nat.mul_left_comm]
theorem Dn.dvd {L M β : Nat} {q : Rat} (h : Dn L β q) (k : L ∣ M) : Dn M β q := by
  obtain ⟨z, h1, h2⟩ := h
  obtain ⟨c, rfl⟩ := k
  refine ⟨z * c, ?_, ?_⟩
  · have e : (((L * c : Nat) : Int) : Rat) = ((L : Int) : Rat) * ((c : Int) : Rat) := by rw [Int.natCast_mul, Rat.intCast_mul]
    rw [e, Rat.intCast_mul, ← h1]
    grind
  · rw [Int.natAbs_mul]
    simp only [Int.natAbs_natCast]
    calc z.natAbs * c ≤ (β * L) * c := Nat.mul_le_mul_right _ h2
      _ = β * (L * c) := Nat.mul_assoc _ _ _
theorem Dn.zero {L β : Nat} : Dn L β 0 := ⟨0, by simp, by simp⟩
theorem Dn.of (q : Rat) : Dn q.den q.num.natAbs q := by
  refine ⟨q.num, ?_, ?_⟩
  · have e : q = (q.num : Rat) / ((q.den : Int) : Rat) := by
      rw [← Rat.divInt_eq_div, Rat.num_divInt_den]
    have e2 : (q.num : Rat) / ((q.den : Int) : Rat) * ((q.den : Int) : Rat) = (q.num : Rat) := Rat.div_mul_cancel (cast_ne q.den_pos)
    rw [← e] at e2
    exact e2
  · calc q.num.natAbs = q.num.natAbs * 1 := (Nat.mul_one _).symm
      _ ≤ q.num.natAbs * q.den := Nat.mul_le_mul_left _ q.den_pos
end LN
/-! LNbb: more runs: range of two, truth of sequences, comparing dicts, sums over numbers. -/
namespace LN
open PySem L2 PySem.Spec PyProof.Rows

section
variable {f g : Ev} {ρ : Lc} {m : Mem} {d e : D} {xs : List D} {i j : Int} {a b : Nat}
def kR2 (d e : D) (m : Mem) : Rs Wk := match d, e with
  | .int a, .int b => if (-(2 ^ 62) ≤ a ∧ a < 2 ^ 62) ∧ (-(2 ^ 62) ≤ b ∧ b < 2 ^ 62) then .ok (.of ((List.range (b - a).toNat).map fun (i : Nat) => D.int (a + (i : Int)))) m else .stuck
  | _, _ => .stuck
def kR1 (g : Ev) (ρ : Lc) (d : D) (m1 : Mem) : Rs Wk := (g ρ m1).bind (kR2 d)
@[simp] theorem dRng2_run : dRng2 f g ρ m = (f ρ m).bind (kR1 g ρ) := by
  unfold dRng2
  congr 1
@[simp] theorem kR1_run : kR1 g ρ d m = (g ρ m).bind (kR2 d) := rfl
def rng2Ok (i j : Int) : Bool := decide ((-(2 ^ 62) ≤ i ∧ i < 2 ^ 62) ∧ (-(2 ^ 62) ≤ j ∧ j < 2 ^ 62))
theorem rng2Ok_of (h1 : -1000000000 ≤ i) (h2 : i ≤ 1000000000) (h3 : -1000000000 ≤ j) (h4 : j ≤ 1000000000) : rng2Ok i j = true := by
  unfold rng2Ok
  simp only [decide_eq_true_eq]
  omega
@[simp] theorem kR2_run : kR2 (.int i) (.int j) m = if rng2Ok i j = true then .ok (.of ((List.range (j - i).toNat).map fun (k : Nat) => D.int (i + (k : Int)))) m else .stuck := by
  show (if _ then _ else _) = _
  unfold rng2Ok
  simp only [decide_eq_true_eq]
@[simp] theorem kTru_tup : kTru (.tup xs) m = .ok (!xs.isEmpty) m := rfl
@[simp] theorem kTru_lst : kTru (.lst xs) m = .ok (!xs.isEmpty) m := rfl
end
/-! ### dicts by whole numbers are equal -/
theorem hits_all {A B : List (Int × Rat)} (h : ∀ p ∈ A, lkA B p.1 = some p.2) : hitsD (B.map fun p => (.inl p.1 : L2.Key)) (B.map fun p => fr p.2) (A.map fun p => .inl p.1) (A.map fun p => fr p.2) = some true := by
  induction A with
  | nil => rfl
  | cons p A ih =>
    have h1 := h p (by simp)
    have hl : lookD (B.map fun p => (Sum.inl p.1 : L2.Key)) (B.map fun p => fr p.2) (.inl p.1) = some (fr p.2) := by
      rw [lookD_map inl_inj fr p.1 B, h1]; rfl
    obtain ⟨e, he⟩ := plD_py (plD_fr (k := 60) (q := p.2))
    have hs := shaped_of he (by omega)
    have heq : PyData.eqv e e = true := by
      rw [plD_eqv (plD_fr (k := 60)) (plD_fr (k := 60)) he.py he.py]; simp
    simp only [List.map_cons, hitsD, hl, he.py, ih fun q hq => h q (by simp [hq])]
    simp [hs, heq]
theorem len_of_lk {A B : List (Int × Rat)} (hA : (keysA A).Nodup) (hB : (keysA B).Nodup) (h : ∀ c, lkA A c = lkA B c) : A.length = B.length := by
  have key : ∀ {A B : List (Int × Rat)}, (keysA A).Nodup → (∀ c, lkA A c = lkA B c) → A.length ≤ B.length := by
    intro A B hA h
    have hsub : keysA A ⊆ keysA B := fun c hc => by
      obtain ⟨v, hv⟩ := lkA_some hc
      rw [h c] at hv
      exact List.mem_map_of_mem (lkA_mem hv)
    have hl : (keysA A).length ≤ (keysA B).length := by
      have h2 : ∀ (l r : List Int), l.Nodup → l ⊆ r → l.length ≤ r.length := by
        intro l
        induction l with
        | nil => intro r _ _; simp
        | cons x l ih =>
          intro r hn hs
          have hx : x ∈ r := hs (by simp)
          have hn' := List.nodup_cons.mp hn
          have : l ⊆ r.erase x := fun y hy => by
            have hy2 : y ∈ r := hs (by simp [hy])
            have hne : y ≠ x := fun e => hn'.1 (e ▸ hy)
            exact (List.mem_erase_of_ne hne).mpr hy2
          have h3 := ih (r.erase x) hn'.2 this
          rw [List.length_erase_of_mem hx] at h3
          have : 0 < r.length := List.length_pos_of_mem hx
          rw [List.length_cons]
          omega
      exact h2 _ _ hA hsub
    rwa [keysA_len, keysA_len] at hl
  exact Nat.le_antisymm (key hA h) (key hB fun c => (h c).symm)
theorem gEqA_dk {neg : Bool} {m : Mem} {A B : List (Int × Rat)} (hA : (keysA A).Nodup) (hB : (keysA B).Nodup) (h : ∀ c, lkA A c = lkA B c) :
    gEqA neg (.dk (A.map fun p => .inl p.1) (A.map fun p => fr p.2)) (.dk (B.map fun p => .inl p.1) (B.map fun p => fr p.2)) m = .ok (.bl (!neg)) m := by
  have hh := hits_all (A := A) (B := B) fun p hp => by rw [← h]; exact lkA_of_mem hA hp
  have hl := len_of_lk hA hB h
  unfold gEqA
  simp only [vwKA, hh, List.length_map, hl]
  cases neg <;> simp
def nzO (o : Option Rat) : Option Rat := if o.getD 0 = 0 then none else some (o.getD 0)
theorem nzO_none : nzO none = none := by simp [nzO]
theorem nzO_some {q : Rat} : nzO (some q) = if q = 0 then none else some q := by simp [nzO]
theorem lk_filter {G : List (Int × Rat)} (h : (keysA G).Nodup) (c : Int) : lkA (G.filter fun e => e.2 ≠ 0) c = nzO (lkA G c) := by
  induction G with
  | nil => exact nzO_none.symm
  | cons p G ih =>
    have hn : p.1 ∉ keysA G ∧ (keysA G).Nodup := by simpa [keysA] using h
    have ih := ih hn.2
    by_cases h0 : p.2 = 0
    · rw [List.filter_cons_of_neg (by simp [h0]), ih]
      simp only [lkA]
      by_cases hc : p.1 = c
      · have : lkA G c = none := lkA_none.mpr (by rw [← hc]; exact hn.1)
        rw [if_pos hc, this, nzO_some, if_pos h0, nzO_none]
      · rw [if_neg hc]
    · rw [List.filter_cons_of_pos (by simp [h0])]
      simp only [lkA]
      by_cases hc : p.1 = c
      · rw [if_pos hc, if_pos hc, nzO_some, if_neg h0]
      · rw [if_neg hc, if_neg hc, ih]
theorem nfA_keys {A : List (Int × Rat)} (h : (keysA A).Nodup) : (keysA (nfA A)).Nodup := by
  have hs : (sortI (keysA A)).Nodup := (sortI_perm _).nodup_iff.mpr h
  unfold nfA
  generalize sortI (keysA A) = l at hs
  induction l with
  | nil => simp [keysA]
  | cons c l ih =>
    have hn := List.nodup_cons.mp hs
    rw [List.filterMap_cons]
    split
    · exact ih hn.2
    · rename_i e he
      split at he
      · cases he
      · cases he
        have ih := ih hn.2
        unfold keysA at ih ⊢
        rw [List.map_cons, List.nodup_cons]
        refine ⟨fun hc => ?_, ih⟩
        obtain ⟨p, hp, e⟩ := List.mem_map.mp hc
        obtain ⟨d, hd, e2⟩ := List.mem_filterMap.mp hp
        split at e2
        · cases e2
        · cases e2
          have e : d = c := e
          exact hn.1 (e ▸ hd)
theorem lk_nfA {A : List (Int × Rat)} (h : (keysA A).Nodup) (c : Int) : lkA (nfA A) c = nzO (lkA A c) := by
  have hk := nfA_keys h
  by_cases h0 : (lkA A c).getD 0 = 0
  · have e : nzO (lkA A c) = none := by unfold nzO; rw [if_pos h0]
    rw [e, lkA_none]
    intro hc
    obtain ⟨p, hp, e⟩ := List.mem_map.mp hc
    obtain ⟨d, hd, e2⟩ := List.mem_filterMap.mp hp
    split at e2
    · cases e2
    · rename_i h1
      cases e2
      dsimp only at e
      exact h1 (e ▸ h0)
  · have e : nzO (lkA A c) = some ((lkA A c).getD 0) := by unfold nzO; rw [if_neg h0]
    rw [e]
    have hc : c ∈ keysA A := by
      refine Classical.byContradiction fun hn => h0 ?_
      rw [lkA_none.mpr hn]; rfl
    have : (c, (lkA A c).getD 0) ∈ nfA A := List.mem_filterMap.mpr ⟨c, sortI_mem.mpr hc, by rw [if_neg h0]⟩
    exact lkA_of_mem hk this
theorem nzO_getD (o : Option Rat) : (nzO o).getD 0 = o.getD 0 := by
  unfold nzO
  by_cases h : o.getD 0 = 0
  · rw [if_pos h, h]; rfl
  · rw [if_neg h]; rfl
theorem nzO_eq {a b : Option Rat} (h : a.getD 0 = b.getD 0) : nzO a = nzO b := by unfold nzO; rw [h]
theorem totA_from (a : Int) : ∀ (es : List (Int × Rat)) (s : Rat), es.foldl (fun s e => if e.1 = a then s + e.2 else s) s = s + totA es a
  | [], s => by simp [totA, Rat.add_zero]
  | e :: es, s => by
    unfold totA
    rw [List.foldl_cons, List.foldl_cons, totA_from a es, totA_from a es]
    by_cases h : e.1 = a
    · rw [if_pos h, if_pos h, Rat.add_assoc, Rat.zero_add]
    · rw [if_neg h, if_neg h, Rat.zero_add]
theorem totA_nil (a : Int) : totA ([] : List (Int × Rat)) a = 0 := rfl
theorem totA_cons (e : Int × Rat) (es : List (Int × Rat)) (a : Int) : totA (e :: es) a = (if e.1 = a then e.2 else 0) + totA es a := by
  conv => lhs; unfold totA
  rw [List.foldl_cons, totA_from]
  by_cases h : e.1 = a
  · rw [if_pos h, if_pos h, Rat.zero_add]
  · rw [if_neg h, if_neg h]
theorem totA_app (xs ys : List (Int × Rat)) (a : Int) : totA (xs ++ ys) a = totA xs a + totA ys a := by
  induction xs with
  | nil => rw [List.nil_append, totA_nil, Rat.zero_add]
  | cons x xs ih => rw [List.cons_append, totA_cons, totA_cons, ih, Rat.add_assoc]
theorem totA_mul (h : Rat) (es : List (Int × Rat)) (a : Int) : totA (es.map fun e => (e.1, h * e.2)) a = h * totA es a := by
  induction es with
  | nil => simp [totA_nil, Rat.mul_zero]
  | cons e es ih =>
    rw [List.map_cons, totA_cons, totA_cons, ih, Rat.mul_add]
    by_cases hc : e.1 = a
    · rw [if_pos hc, if_pos hc]
    · rw [if_neg hc, if_neg hc, Rat.mul_zero]
/-- the sums of sums by keys are the sums -/
theorem totA_nf (es : List (Int × Rat)) (a : Int) : totA (nfA (sumsA es)) a = totA es a := by
  have h1 := sumsA_tot (nfA (sumsA es)) a
  rw [sumsA_nodup (nfA_keys (nodup_sumsA es)), lk_nfA (nodup_sumsA es), nzO_getD, sumsA_tot] at h1
  exact h1.symm
/-! a sum over the first numbers -/
def sumN (f : Nat → Rat) : Nat → Rat
  | 0 => 0
  | n + 1 => sumN f n + f n
theorem sumN_congr {f g : Nat → Rat} : ∀ {n : Nat}, (∀ i, i < n → f i = g i) → sumN f n = sumN g n
  | 0, _ => rfl
  | n + 1, h => by rw [sumN, sumN, sumN_congr fun i hi => h i (by omega), h n (by omega)]
theorem sumN_zero {f : Nat → Rat} : ∀ {n : Nat}, (∀ i, i < n → f i = 0) → sumN f n = 0
  | 0, _ => rfl
  | n + 1, h => by rw [sumN, sumN_zero fun i hi => h i (by omega), h n (by omega), Rat.add_zero]
theorem sumN_add1 {f : Nat → Rat} {k : Nat} {d : Rat} : ∀ {n : Nat}, k < n → sumN (fun i => if i = k then f i + d else f i) n = sumN f n + d
  | 0, h => by omega
  | n + 1, h => by
    rw [sumN, sumN]
    by_cases hk : k = n
    · subst hk
      rw [if_pos rfl, sumN_congr (g := f) fun i hi => by rw [if_neg (by omega)]]
      exact (Rat.add_assoc _ _ _).symm
    · rw [if_neg fun e => hk e.symm, sumN_add1 (n := n) (by omega)]
      rw [Rat.add_assoc, Rat.add_comm d, ← Rat.add_assoc]
/-! max, a repeated list, the place of an item -/
section
variable {fin : List D → Mem → Rs D} {m : Mem} {d : D} {xs : List D} {i j : Int}
theorem bMaxL_run {n : Int} {ns : List Int} (h : vwL m d = some ((n :: ns).map .int)) : bMaxL [d] m = .ok (.int (ns.foldl max n)) m := by
  unfold bMaxL
  dsimp only
  rw [h]
  dsimp only
  rw [dInts_map]
@[simp] theorem gMulA_int : gMulA fin (.int i) (.int j) m = if mulOk i j = true then .ok (.int (i * j)) m else .stuck := rfl
theorem gMulA_rep {k : Nat} (h : xs.length * k ≤ 16777216) (hk : k ≤ 16777216) : gMulA fin (.lst xs) (.int (k : Int)) m = fin (List.replicate k xs).flatten m := by
  unfold gMulA
  dsimp only
  rw [Int.toNat_natCast, if_pos ⟨⟨by omega, by omega⟩, h⟩]
open Classical in
theorem gIdx_run {y l : D} {k : Nat} (hv : vwL m l = some xs) (hl : rdD m l = .lst xs) (hp : plDs 59 xs = true) (hy : xs[k]? = some y) (hf : ∀ j, j < k → xs[j]? ≠ some y) : gIdx l [y] m = .ok (.int (k : Nat)) m := by
  have hyp : plD 59 y = true := plDs_iff.mp hp y (List.mem_of_getElem? hy)
  have hyp' : ∃ e, PyOk 59 y e := plD_py hyp
  obtain ⟨e, h1⟩ := hyp'
  have h'' : plD 60 (rdD m l) = true := by rw [hl]; simpa using hp
  obtain ⟨e', h1'⟩ := plD_py h''
  have hpy := h1'.py
  rw [hl] at hpy
  simp only [py] at hpy
  split at hpy
  case h_2 => cases hpy
  rename_i es hes
  cases hpy
  unfold gIdx
  dsimp only
  rw [hv, toPy_pl hyp, toPy_rd h'', h1.py, h1'.py]
  dsimp only
  rw [if_pos ⟨shaped_of h1' (by omega), shaped_of h1 (by omega)⟩]
  have key : ∀ (xs : List D) (es : List PyData), plDs 59 xs = true → pys xs = some es → xs.length = es.length ∧ ∀ (j : Nat) (z : PyData), es[j]? = some z → ∃ x, xs[j]? = some x ∧ PyData.eqv z e = decide (x = y) := by
    intro xs
    induction xs with
    | nil => intro es _ p; cases p; exact ⟨rfl, fun j z hz => by simp at hz⟩
    | cons x xs ih =>
      intro es h p
      simp only [plDs_cons, Bool.and_eq_true] at h
      simp only [pys] at p
      split at p
      case h_2 => cases p
      rename_i a as ha has
      cases p
      obtain ⟨i1, i2⟩ := ih as h.2 has
      refine ⟨by simp [i1], fun j z hz => ?_⟩
      cases j with
      | zero =>
        simp only [List.getElem?_cons_zero, Option.some.injEq] at hz
        subst hz
        exact ⟨x, rfl, plD_eqv h.1 hyp ha h1.py⟩
      | succ j =>
        obtain ⟨x', k1, k2⟩ := i2 j z (by simpa using hz)
        exact ⟨x', by simpa using k1, k2⟩
  obtain ⟨hle, hat⟩ := key xs es hp hes
  have hkl : k < es.length := by rw [← hle]; exact (List.getElem?_eq_some_iff.mp hy).1
  have hfi : es.findIdx? (fun z => PyData.eqv z e) = some k := by
    rw [List.findIdx?_eq_some_iff_getElem]
    refine ⟨hkl, ?_, fun j hj => ?_⟩
    · obtain ⟨x, k1, k2⟩ := hat k _ (List.getElem?_eq_getElem hkl)
      rw [hy] at k1; cases k1
      rw [k2]; simp
    · obtain ⟨x, k1, k2⟩ := hat j _ (List.getElem?_eq_getElem (by omega))
      have : x ≠ y := fun e => hf j hj (e ▸ k1)
      rw [k2]; simp [this]
  rw [hfi]
end
/-! enumerate of a list or a tuple -/
section
variable {f : Ev} {ρ : Lc} {m : Mem} {d : D} {xs : List D} {c1 : Mem → Prop} {k : Bool}
def gEnA : VW → Mem → Rs Wk
  | some (_, xs, ck), m => .ok ⟨enumD 0 xs, ck⟩ m
  | _, _ => .stuck
def kEnA (d : D) (m1 : Mem) : Rs Wk := gEnA (vwW m1 d) m1
@[simp] theorem dEnumA_run : dEnumA f ρ m = (f ρ m).bind kEnA := by
  unfold dEnumA
  congr 1
  funext d m1
  unfold kEnA gEnA
  cases vwW m1 d <;> rfl
@[simp] theorem kEnA_run : kEnA d m = gEnA (vwW m d) m := rfl
@[simp] theorem gEnA_run : gEnA (some (k, xs, c1)) m = .ok ⟨enumD 0 xs, c1⟩ m := rfl
theorem enum_range {f : Nat → D} : ∀ (n k : Nat), enumD k ((List.range n).map fun i => f (k + i)) = (List.range n).map fun i => .tup [.int ((k + i : Nat) : Int), f (k + i)]
  | 0, _ => rfl
  | n + 1, k => by
    rw [List.range_succ_eq_map, List.map_cons, List.map_cons, enumD, List.map_map, List.map_map]
    have ih := enum_range (f := f) n (k + 1)
    have e1 : (List.range n).map ((fun i => f (k + i)) ∘ Nat.succ) = (List.range n).map fun i => f (k + 1 + i) := List.map_congr_left fun i _ => by
      show f (k + (i + 1)) = _
      congr 1; omega
    have e2 : (List.range n).map ((fun i => D.tup [.int ((k + i : Nat) : Int), f (k + i)]) ∘ Nat.succ) = (List.range n).map fun i => .tup [.int ((k + 1 + i : Nat) : Int), f (k + 1 + i)] := List.map_congr_left fun i _ => by
      show D.tup [.int ((k + (i + 1) : Nat) : Int), f (k + (i + 1))] = _
      rw [show k + (i + 1) = k + 1 + i by omega]
    rw [e1, e2, ih]
    rfl
end
end LN
/-! LNbc: runs of the words for texts and for a module's dict. -/
namespace LN
open PySem L2 PySem.Spec PyProof.Rows
section
variable {m : Mem} {neg : Bool} {i : Int} {ch : Nat} {a j : Str} {xs : List D} {ys : List Str} {l x : D} {fs fa fx : Ev} {ρ : Lc} {kvs : List (Str × D)}
@[simp] theorem bStr_int : bStr [.int i] m = if decide (i.natAbs.log2 < 1920) = true then .ok (.str (toString i)) m else .stuck := rfl
theorem dStrs_map : ∀ ys : List Str, dStrs (ys.map .str) = some ys
  | [] => rfl
  | y :: ys => by simp [dStrs, dStrs_map ys]
theorem gJoin_run (h : vwS m l = some (ys.map .str)) (hl : (ys.map (·.length)).sum + ys.length * a.length ≤ 16777216) : gJoin (.str a) [l] m = .ok (.str (Txt.join a ys)) m := by
  unfold gJoin
  dsimp only
  rw [h]
  dsimp only
  rw [dStrs_map]
  dsimp only
  rw [if_pos (decide_eq_true hl)]
theorem gInB_sgn : gInB neg (.str ⟨#[ch]⟩) (.str j) m = .ok (.bl (neg ^^ decide (ch ∈ j.cps.toList))) m := by
  unfold gInB
  dsimp only
  rw [if_pos rfl]
@[simp] theorem gInB_lst : gInB neg x (.lst xs) m = gIn neg x (.lst xs) m := by cases x <;> rfl
@[simp] theorem gInB_tup : gInB neg x (.tup xs) m = gInP neg x (.tup xs) m := by cases x <;> rfl
@[simp] theorem gInB_loc {f n : Nat} : gInB neg x (.loc f n) m = gIn neg x (.loc f n) m := by cases x <;> rfl
def kKG1 (kvs : List (Str × D)) : D → D → Mem → Rs D
  | .str k, x, m => .ok ((lkT kvs k).getD x) m
  | _, _, _ => .stuck
@[simp] theorem kKG1_run {k : Str} : kKG1 kvs (.str k) x m = .ok ((lkT kvs k).getD x) m := rfl
def kKG (kvs : List (Str × D)) (fx : Ev) (ρ : Lc) (d : D) (m1 : Mem) : Rs D := (fx ρ m1).bind (kKG1 kvs d)
@[simp] theorem kKG_run {d : D} : kKG kvs fx ρ d m = (fx ρ m).bind (kKG1 kvs d) := rfl
@[simp] theorem dKGet_run : dKGet kvs fa fx ρ m = (fa ρ m).bind (kKG kvs fx ρ) := by
  unfold dKGet kKG
  congr 1
  funext d m1
  congr 1
  funext x m2
  cases d <;> rfl
end
end LN
/-! LNbd: texts that stay sound and short; items in tuples; signs. -/
namespace LN
open PySem L2 PySem.Spec PyProof.Rows

/-- a sound text of at most n signs -/
def Tx (n : Nat) (s : Str) : Prop := PyData.strOk s = true ∧ s.length ≤ n
theorem Tx.mono {n k : Nat} {s : Str} (h : Tx n s) (hk : n ≤ k) : Tx k s := ⟨h.1, Nat.le_trans h.2 hk⟩
theorem strOk_iff {s : Str} : PyData.strOk s = true ↔ ∀ c ∈ s.cps.toList, c < 0x110000 := by
  unfold PyData.strOk
  rw [← Array.all_toList, List.all_eq_true]
  simp only [decide_eq_true_eq]
theorem len_tl {s : Str} : s.length = s.cps.toList.length := by simp [Str.length]
theorem app_tl {a b : Str} : (a ++ b).cps.toList = a.cps.toList ++ b.cps.toList := TL.tl_append a b
theorem app_len {a b : Str} : (a ++ b).length = a.length + b.length := by rw [len_tl, app_tl, List.length_append, ← len_tl, ← len_tl]
theorem Tx.app {n k : Nat} {a b : Str} (h : Tx n a) (h' : Tx k b) : Tx (n + k) (a ++ b) := by
  refine ⟨strOk_iff.mpr fun c hc => ?_, by rw [app_len]; have := h.2; have := h'.2; omega⟩
  rw [app_tl, List.mem_append] at hc
  rcases hc with hc | hc
  · exact strOk_iff.mp h.1 c hc
  · exact strOk_iff.mp h'.1 c hc
theorem Tx.cut {n : Nat} {a : Str} (h : Tx n a) (lo hi : Option Int) : Tx n (cutS a lo hi) := by
  refine ⟨strOk_iff.mpr fun c hc => ?_, Nat.le_trans (cutS_length a lo hi) h.2⟩
  have hc : c ∈ (a.cps.toList.drop (HT.sIx a.length 0 lo)).take (HT.sIx a.length a.length hi - HT.sIx a.length 0 lo) := by
    simpa [cutS] using hc
  exact strOk_iff.mp h.1 c (List.mem_of_mem_drop (List.mem_of_mem_take hc))
theorem Tx.join {n k : Nat} {a : Str} {ys : List Str} (h : Tx n a) (h' : ∀ y ∈ ys, Tx k y) : Tx (ys.length * (n + k)) (Txt.join a ys) := by
  rw [TL.join_eq]
  induction ys with
  | nil => exact ⟨by show PyData.strOk Str.empty = true; decide +kernel, Nat.zero_le _⟩
  | cons y ys ih =>
    have h1 := h' y (by simp)
    cases ys with
    | nil => exact h1.mono (by simp)
    | cons z r =>
      have ih := ih fun x hx => h' x (by simp [hx])
      refine ((h1.app h).app ih).mono ?_
      simp only [List.length_cons, Nat.add_mul]
      omega
theorem sum_le {α : Type} {g : α → Nat} {k : Nat} : ∀ {ys : List α}, (∀ y ∈ ys, g y ≤ k) → (ys.map g).sum ≤ ys.length * k
  | [], _ => by simp
  | y :: ys, h => by
    have h1 := h y (by simp)
    have h2 := sum_le (ys := ys) fun x hx => h x (by simp [hx])
    rw [List.map_cons, List.sum_cons, List.length_cons, Nat.add_mul]
    omega
theorem join_run {m : Mem} {n k : Nat} {a : Str} {ys : List Str} (h : Tx n a) (h' : ∀ y ∈ ys, Tx k y) (hl : ys.length * (n + k) ≤ 16777216) : gJoin (.str a) [.lst (ys.map .str)] m = .ok (.str (Txt.join a ys)) m := by
  refine gJoin_run rfl ?_
  have h1 : (ys.map (·.length)).sum ≤ ys.length * k := sum_le (g := Str.length) (k := k) (ys := ys) fun y hy => (h' y hy).2
  have h2 := Nat.mul_le_mul_left ys.length h.2
  rw [Nat.mul_add] at hl
  omega
theorem joinT_run {m : Mem} {n k : Nat} {a : Str} {ys : List Str} (h : Tx n a) (h' : ∀ y ∈ ys, Tx k y) (hl : ys.length * (n + k) ≤ 16777216) : gJoin (.str a) [.tup (ys.map .str)] m = .ok (.str (Txt.join a ys)) m := by
  refine gJoin_run rfl ?_
  have h1 : (ys.map (·.length)).sum ≤ ys.length * k := sum_le (g := Str.length) (k := k) (ys := ys) fun y hy => (h' y hy).2
  have h2 := Nat.mul_le_mul_left ys.length h.2
  rw [Nat.mul_add] at hl
  omega
section
variable {m : Mem} {neg : Bool} {s : Str} {ws : List Str} {ck : NK → Bool} {i : Int} {ch : Nat}
theorem pl_strs (h : ws.all PyData.strOk = true) : plDs 59 (ws.map .str) = true :=
  plDs_map fun w hw => by simpa using List.all_eq_true.mp h w hw
theorem mem_strs : D.str s ∈ ws.map D.str ↔ s ∈ ws := by
  rw [List.mem_map]
  constructor
  · rintro ⟨w, h, e⟩
    cases e
    exact h
  · exact fun h => ⟨s, h, rfl⟩
theorem gIn_strs (h : PyData.strOk s = true) (h' : ws.all PyData.strOk = true) : gIn neg (.str s) (.lst (ws.map .str)) m = .ok (.bl (neg ^^ decide (s ∈ ws))) m := by
  rw [gIn_rd (xs := ws.map .str) rfl (by simpa using h) (pl_strs h')]
  congr 3
  by_cases hm : s ∈ ws
  · simp [hm, mem_strs]
  · simp [hm, mem_strs]
theorem gIn_strsT (h : PyData.strOk s = true) (h' : ws.all PyData.strOk = true) : gInP neg (.str s) (.tup (ws.map .str)) m = .ok (.bl (neg ^^ decide (s ∈ ws))) m := by
  have hp := pl_strs h'
  have hd : plD 60 (.str s) = true := by simpa using h
  obtain ⟨e, h1⟩ := plD_py hd
  have h'' : plD 60 (.tup (ws.map .str)) = true := by simpa using hp
  obtain ⟨e', h1'⟩ := plD_py h''
  have hq := h1'.py
  simp only [py] at hq
  split at hq
  case h_2 => cases hq
  rename_i es hes
  cases hq
  unfold gInP
  rw [toPy_pl hd, toPy_pl h'', h1.py, h1'.py]
  dsimp only
  rw [if_pos ⟨shaped_of h1 (by omega), shaped_of h1' (by omega)⟩]
  congr 3
  have := pys_mem hp hes hd h1.py
  by_cases hm : s ∈ ws
  · rw [this.mpr (mem_strs.mpr hm)]; simp [hm]
  · cases hb : (es.any fun z => PyData.eqv z e) with
    | true => exact absurd (mem_strs.mp (this.mp hb)) hm
    | false => simp [hm]
theorem gEq_strs {s t : Str} (h : PyData.strOk s = true) (h' : PyData.strOk t = true) : gEqA neg (.str s) (.str t) m = .ok (.bl (neg ^^ decide (s = t))) m := by
  rw [gEqA_pl (by simpa using h) (by simpa using h')]
  congr 3
  by_cases e : s = t
  · subst e; simp
  · simp [e]
def kCh1S (m : Mem) : Option Nat → Rs D
  | some ch => .ok (.str ⟨#[ch]⟩) m
  | none => .stuck
@[simp] theorem kCh1S_run : kCh1S m (some ch) = .ok (.str ⟨#[ch]⟩) m := rfl
theorem gIxT_str : gIxT ck (.str s) (.int i) m = if lineOk s.length = true then kCh1S m (atI s.cps.toList i) else .stuck := by
  unfold gIxT dlk gIx kCh1S
  dsimp only [vwKA, vwTA]
  try
    generalize atI s.cps.toList i = o
    cases o <;> rfl
@[simp] theorem kWalk_str : kWalk (.str s) m = .ok (.of (s.cps.toList.map fun ch => .str ⟨#[ch]⟩)) m := rfl
theorem gInB_strs (h : PyData.strOk s = true) (h' : ws.all PyData.strOk = true) : gInB neg (.str s) (.lst (ws.map .str)) m = .ok (.bl (neg ^^ decide (s ∈ ws))) m := by
  rw [gInB_lst, gIn_strs h h']
theorem gInB_strsT (h : PyData.strOk s = true) (h' : ws.all PyData.strOk = true) : gInB neg (.str s) (.tup (ws.map .str)) m = .ok (.bl (neg ^^ decide (s ∈ ws))) m := by
  rw [gInB_tup, gIn_strsT h h']
theorem sgn_tx {c : Nat} (h : PyData.strOk s = true) (hc : c ∈ s.cps.toList) : Tx 1 ⟨#[c]⟩ :=
  ⟨strOk_iff.mpr fun d hd => by
    have : d = c := by simpa using hd
    subst this
    exact strOk_iff.mp h d hc, by simp [Str.length]⟩
end
end LN
/-! LNrr: errors, asked lambdas, dict comprehensions, sorting by a key: in simp's words -/
namespace LN
open PySem L2 PySem.Spec PyProof.Rows
section
variable {ρ : Lc} {m m1 : Mem} {e : Exn} {b : Bd} {fs : EvG (List D)} {n f told : Str} {names : List Str} {d x y : D} {n1 : Nat} {ct : Str → Option Bool} {h : Xv} {fe : Ev}
@[simp] theorem kS_err : kS b (.err e m) = .err e m := rfl
def kRz (n : Str) (names : List Str) (ds : List D) (m : Mem) : Rs Fl := if ds.length = names.length then .err (exnOf n names ds) m else .stuck
@[simp] theorem sRaise_run : sRaise n names fs ρ m = (fs ρ m).bind (kRz n names) := rfl
@[simp] theorem kRz_1 : kRz n [f] [x] m = .err (exnOf n [f] [x]) m := rfl
@[simp] theorem kRz_0 : kRz n [] [] m = .err (exnOf n [] []) m := rfl
def gLvE (n : Nat) (e : Exn) (m : Mem) : Rs D := if D.lts n (e.fs.map (·.2)) = true then .err e (m.take n) else .stuck
@[simp] theorem lv_err : lv n1 (.err e m) = gLvE n1 e m := rfl
@[simp] theorem gLvE_1 : gLvE n1 (exnOf n [f] [x]) m = if D.lt n1 x = true then .err (exnOf n [f] [x]) (m.take n1) else .stuck := by
  have e1 : ((exnOf n [f] [x]).fs.map (·.2)) = [.str n, x] := rfl
  have e2 : D.lts n1 [.str n, x] = D.lt n1 x := by simp
  unfold gLvE
  rw [e1, e2]
def gAsk (told : Str) (ct : Str → Option Bool) (h : Xv) (R : Rs D) : Rs D := match R with
  | .stuck => .stuck
  | .ok d m1 => .ok (.lst [.str told, d]) m1
  | .err e m1 => match ct e.n with
    | some true => (h e m1).nox
    | _ => .stuck
@[simp] theorem dAsk_run : dAsk told ct h fe ρ m = gAsk told ct h (fe ρ m) := rfl
@[simp] theorem gAsk_ok : gAsk told ct h (.ok d m) = .ok (.lst [.str told, d]) m := rfl
theorem gAsk_err {ds : List D} (hc : ct n = some true) (hx : h (exnOf n names ds) m = .ok d m1) : gAsk told ct h (.err (exnOf n names ds) m) = .ok d m1 := by
  unfold gAsk
  have : (exnOf n names ds).n = n := rfl
  dsimp only
  rw [this, hc, hx]
  rfl
end
/-! a dict with keys that are tuples, walked over -/
section
variable {ks : List NK} {xs : List D} {m : Mem} {ρ : Lc}
theorem put_put {f n : Nat} {o o' : MO} (h2 : m.get f n = some o) : (m.put f n o').put f n o = m := by
  unfold Mem.put Mem.get at *
  apply List.ext_getElem?
  intro j
  rw [List.getElem?_modify, List.getElem?_modify]
  by_cases hj : f = j
  · subst hj
    cases e : m[f]? with
    | none => rfl
    | some fr =>
      rw [e] at h2
      have h2 : fr[n]? = some o := h2
      simp only [if_true, Option.map_some, Option.some.injEq]
      show some ((fr.set n o').set n o) = some fr
      rw [List.set_set]
      have hn := (List.getElem?_eq_some_iff.mp h2)
      obtain ⟨hn1, hn2⟩ := hn
      rw [← hn2, List.set_getElem_self]
  · cases e : m[j]? with
    | none => rfl
    | some fr => simp [hj]
theorem lockT_run {α : Type} {i f n : Nat} {b : EvG α} {a : α} (h1 : ρ[i]? = some (some (.loc f n))) (h2 : m.get f n = some (.dt ks xs)) (h3 : b ρ (m.put f n (.ft ks xs)) = .ok a (m.put f n (.ft ks xs))) : lockV i b ρ m = .ok a m := by
  have hg := Mem.get_put (o := .ft ks xs) h2 f n
  rw [if_pos ⟨rfl, rfl⟩] at hg
  have hp : (m.put f n (.ft ks xs)).put f n (.dt ks xs) = m := put_put h2
  unfold lockV
  rw [h1]
  dsimp only
  rw [h2]
  dsimp only [MO.lock]
  rw [h3]
  unfold unl
  dsimp only
  rw [if_pos hg, hp]
def ckFt (f n : Nat) (ks : List NK) (xs : List D) (m : Mem) : Prop := m.get f n = some (.ft ks xs)
@[simp] theorem kKwO_ft {f n : Nat} : kKwO f n m (some (.ft ks xs)) = .ok ⟨ks.map dKeyT, ckFt f n ks xs⟩ m := rfl
variable {fi : EvG Wk} {vs : List Nat} {g : Tg} {t : EvG Bool} {fk fv : Ev} {ds : List D} {ck : Mem → Prop}
noncomputable def kDc (vs : List Nat) (g : Tg) (t : EvG Bool) (fk fv : Ev) (ρ : Lc) (wk : Wk) (m1 : Mem) : Rs D := (dcD wk.ck g t fk fv wk.ds (wipeD ρ vs) m1 [] []).bind fun kx m2 => newObj (.dt kx.1 kx.2) m2
def kDn (kx : List NK × List D) (m : Mem) : Rs D := newObj (.dt kx.1 kx.2) m
@[simp] theorem dDc_run : dDc fi vs g t fk fv ρ m = (fi ρ m).bind (kDc vs g t fk fv ρ) := rfl
@[simp] theorem kDc_run : kDc vs g t fk fv ρ ⟨ds, ck⟩ m = (dcD ck g t fk fv ds (wipeD ρ vs) m [] []).bind kDn := rfl
@[simp] theorem kDc_of : kDc vs g t fk fv ρ (.of ds) m = (dcD (fun _ => True) g t fk fv ds (wipeD ρ vs) m [] []).bind kDn := rfl
@[simp] theorem kDn_run : kDn (ks, xs) m = newObj (.dt ks xs) m := rfl
theorem dcD_nil {ck : Mem → Prop} (h : ck m) : dcD ck g t fk fv [] ρ m ks xs = .ok (ks, xs) m := by rw [dcD, if_pos h]
theorem dcD_step {ck : Mem → Prop} {d y z : D} {ρ1 : Lc} {ks' : List NK} {xs' : List D} (h : ck m) (h1 : g d ρ m = .ok ρ1 m) (h2 : t ρ1 m = .ok true m) (h3 : fk ρ1 m = .ok y m) (h4 : fv ρ1 m = .ok z m) (h5 : dcAdd ks xs y z = some (ks', xs')) :
    dcD ck g t fk fv (d :: ds) ρ m ks xs = dcD ck g t fk fv ds ρ m ks' xs' := by
  rw [dcD, if_pos h, h1]
  simp only [Rs.nox, Rs.bind_ok, h2, if_true, h3, h4, h5]
end
/-! sorted by a key -/
section
variable {fin : List D → Mem → Rs D} {kf : Lc → List D → Option Int} {ρ : Lc} {m : Mem} {f : Ev} {xs : List D} {d : D} {n : Nat}
def gSrt (fin : List D → Mem → Rs D) (m : Mem) : Option (List (D × Int)) → Rs D
  | some kz => fin (sortK kz) m
  | none => .stuck
def kSk (fin : List D → Mem → Rs D) (kf : Lc → List D → Option Int) (ρ : Lc) (d : D) (m1 : Mem) : Rs D := match vwL m1 d with
  | some xs => match kzip kf ρ xs with
    | some kz => fin (sortK kz) m1
    | none => .stuck
  | none => .stuck
@[simp] theorem dSortK_run : dSortK fin kf f ρ m = (f ρ m).bind (kSk fin kf ρ) := rfl
@[simp] theorem kSk_lst : kSk fin kf ρ (.lst xs) m = gSrt fin m (kzip kf ρ xs) := by
  unfold kSk gSrt
  dsimp only [vwL]
@[simp] theorem gSrt_some {kz : List (D × Int)} : gSrt fin m (some kz) = fin (sortK kz) m := rfl
theorem kzip_map {α : Type} (v : α → List D) (k : α → Int) : ∀ (as : List α), (∀ a ∈ as, kf ρ (v a) = some (k a)) → kzip kf ρ (as.map fun a => .tup (v a)) = some (as.map fun a => (.tup (v a), k a))
  | [], _ => rfl
  | a :: as, h => by
    simp only [List.map_cons, kzip, h a (by simp), kzip_map v k as fun b hb => h b (by simp [hb])]
theorem sortK_map {α : Type} (v : α → D) (k : α → Int) (as : List α) : sortK (as.map fun a => (v a, k a)) = (as.mergeSort fun a b => decide (k a ≤ k b)).map v := by
  unfold sortK
  rw [← List.map_mergeSort (r := fun a b => decide (k a ≤ k b)) (s := fun (p q : D × Int) => decide (p.2 ≤ q.2)) (f := fun a => (v a, k a)) fun _ _ _ _ => rfl, List.map_map]
  rfl
end
def kPar3 (i j l : Nat) (ρ : Lc) (ds : List D) (m : Mem) : Rs Fl := match ds with
  | [d1, d2, d3] => .ok (.nx (((ρ.set i (some d1)).set j (some d2)).set l (some d3))) m
  | _ => .stuck
@[simp] theorem sPar3_run {i j l : Nat} {fs : EvG (List D)} {ρ : Lc} {m : Mem} : sPar3 i j l fs ρ m = (fs ρ m).bind (kPar3 i j l ρ) := by
  unfold sPar3
  congr 1
@[simp] theorem kPar3_run {i j l : Nat} {ρ : Lc} {m : Mem} {x y z : D} : kPar3 i j l ρ [x, y, z] m = .ok (.nx (((ρ.set i (some x)).set j (some y)).set l (some z))) m := rfl
@[simp] theorem bInt_bl {b : Bool} {m : Mem} : bInt [.bl b] m = .ok (.int (if b then 1 else 0)) m := rfl
@[simp] theorem bLcm_run {i j : Int} {m : Mem} : bLcm [.int i, .int j] m = if lcmOk i j = true then .ok (.int ((Nat.lcm i.natAbs j.natAbs : Nat) : Int)) m else .stuck := rfl
end LN
namespace P_k01
open PySem L2 PySem.Spec PyProof.Rows LN

def bagM (ns : List Int) (i g x c : Int) : MO := .lst [.lst (ns.map .int), .int i, .int g, .int x, .int c]
def BagOk (B : Nat) (o : MO) : Prop := ∃ ns i g x c, o = bagM ns i g x c ∧ 0 ≤ i ∧ 0 ≤ g ∧ 0 ≤ x ∧ x < 2147483579 ∧ 0 ≤ c ∧ c + B ≤ 2 ^ 100
theorem BagOk.mono {a b : Nat} {o : MO} (h : BagOk a o) (k : b ≤ a) : BagOk b o := by
  obtain ⟨ns, i, g, x, c, e, h1, h2, h3, h4, h5, h6⟩ := h
  exact ⟨ns, i, g, x, c, e, h1, h2, h3, h4, h5, by omega⟩
theorem fmod_rng {a n : Int} (h : 0 < n) : 0 ≤ a.fmod n ∧ a.fmod n < n := ⟨Int.fmod_nonneg_of_pos a h, Int.fmod_lt_of_pos a h⟩
theorem pow_ok3 {y : Int} (h : y.natAbs < 2 ^ 200) : powOk y 3 = true := by
  unfold powOk
  have := log2_le_of_lt (x := y.natAbs) (n := 200) h
  simp only [decide_eq_true_eq]
  have e : (3 : Int).toNat = 3 := rfl
  rw [e]
  omega
theorem draw_run0 {B : Nat} {o : MO} {n : Int} (h : BagOk (B + 1) o) (hn : 0 < n) (hn2 : n < 1000000000000) :
    ∃ k o', (∀ os rest, f_law_draw [.loc 0 0, .int n] ((o :: os) :: rest) = .ok (.int k) ((o' :: os) :: rest)) ∧ BagOk B o' ∧ 0 ≤ k ∧ k < n := by
  obtain ⟨ns, i, g, x, c, rfl, h1, h2, h3, h4, h5, h6⟩ := h
  have n0 : n ≠ 0 := by omega
  have dn : divOk n = true := divOk_of n0 (n := 200) (by omega) (by omega)
  have mc : mulOk (c + 1) 1299721 = true := mulOk_of (a := 200) (b := 30) (by omega) (by decide) (by omega)
  have dd : divOk 97 = true := by decide
  have pt : powOk 10 18 = true := by decide
  have c8 : c + 1 + B ≤ 2 ^ 100 := by omega
  have fin : ∀ w : Int, 0 ≤ w → w < 2147483579 → mulOk (w.fmod 8009) 59 = true := fun w h1 h2 => by
    have := fmod_rng (a := w) (n := 8009) (by omega)
    exact mulOk_of (a := 20) (b := 10) (by omega) (by decide) (by omega)
  by_cases hg : g = 0
  · subst hg
    by_cases hi : i < (ns.length : Int)
    · obtain ⟨z, hz⟩ : ∃ z, ns[i.toNat]? = some z := ⟨_, List.getElem?_eq_getElem (by omega)⟩
      have ha : atI (ns.map D.int) i = some (.int z) := by
        have : i = (i.toNat : Int) := by omega
        rw [this, atI_natE, List.getElem?_map, hz]; rfl
      by_cases hb : 1000000000000000000 ≤ z
      · have zp : 0 < z := by omega
        have r := fmod_rng (a := z) hn
        refine ⟨z.fmod n, bagM ns (i + 1) (z.fdiv n) x (c + 1), fun os rest => ?_, ⟨_, _, _, _, _, rfl, by omega, Int.fdiv_nonneg (by omega) (by omega), h3, h4, by omega, c8⟩, r.1, r.2⟩
        unfold f_law_draw b_law_draw bagM
        rw [fnD2]
        simp -implicitDefEqProofs [hi, ha, pt, hb, zp, n0, dn]
      · have rz := fmod_rng (a := z) (n := 2147483543) (by omega)
        have m11 : mulOk (z.fmod 2147483543) 4099 = true := mulOk_of (a := 70) (b := 20) (by omega) (by decide) (by omega)
        have m12 : mulOk x 69847 = true := mulOk_of (a := 70) (b := 20) (by omega) (by decide) (by omega)
        generalize hy : (x * 69847 + z.fmod 2147483543 * 4099 + 83).fmod 2147483579 = y
        have ry := fmod_rng (a := x * 69847 + z.fmod 2147483543 * 4099 + 83) (n := 2147483579) (by omega)
        rw [hy] at ry
        have p2 : powOk y 3 = true := pow_ok3 (by omega)
        generalize hw : (y ^ 3 + (c + 1) * 1299721 + 60013).fmod 2147483579 = w
        have rw' := fmod_rng (a := y ^ 3 + (c + 1) * 1299721 + 60013) (n := 2147483579) (by omega)
        rw [hw] at rw'
        have mw := fin w rw'.1 rw'.2
        have r := fmod_rng (a := w.fdiv 97 + w.fmod 8009 * 59) hn
        refine ⟨(w.fdiv 97 + w.fmod 8009 * 59).fmod n, bagM ns (i + 1) 0 w (c + 1), fun os rest => ?_, ⟨_, _, _, _, _, rfl, by omega, by omega, rw'.1, rw'.2, by omega, c8⟩, r.1, r.2⟩
        unfold f_law_draw b_law_draw bagM
        rw [fnD2]
        simp -implicitDefEqProofs [hi, ha, pt, hb, n0, dn, dd, m11, m12, p2, mc, hy, hw, mw]
    · have p2 : powOk x 3 = true := pow_ok3 (by omega)
      generalize hw : (x ^ 3 + (c + 1) * 1299721 + 60013).fmod 2147483579 = w
      have rw' := fmod_rng (a := x ^ 3 + (c + 1) * 1299721 + 60013) (n := 2147483579) (by omega)
      rw [hw] at rw'
      have mw := fin w rw'.1 rw'.2
      have r := fmod_rng (a := w.fdiv 97 + w.fmod 8009 * 59) hn
      refine ⟨(w.fdiv 97 + w.fmod 8009 * 59).fmod n, bagM ns i 0 w (c + 1), fun os rest => ?_, ⟨_, _, _, _, _, rfl, h1, by omega, rw'.1, rw'.2, by omega, c8⟩, r.1, r.2⟩
      unfold f_law_draw b_law_draw bagM
      rw [fnD2]
      simp -implicitDefEqProofs [hi, n0, dn, dd, mc, p2, hw, mw]
  · have gp : 0 < g := by omega
    have r := fmod_rng (a := g) hn
    refine ⟨g.fmod n, bagM ns i (g.fdiv n) x (c + 1), fun os rest => ?_, ⟨_, _, _, _, _, rfl, h1, Int.fdiv_nonneg (by omega) (by omega), h3, h4, by omega, c8⟩, r.1, r.2⟩
    unfold f_law_draw b_law_draw bagM
    rw [fnD2]
    simp -implicitDefEqProofs [hg, gp, n0, dn]
theorem bag_run (xs : List Int) : ∃ o : MO, f_law_bag [.scr xs] [[]] = .ok (.loc 0 0) [[o]] ∧ BagOk (2 ^ 99) o := by
  have hcut : cutL xs none (some 63) = xs.take 63 := cutL_to (k := 63)
  have hl : (xs.take 63).length ≤ 63 := by simp; omega
  generalize xs.take 63 = ns at hcut hl
  obtain ⟨ρ', m', e1, rs, y, z, h1, rfl, rfl, h2, h3⟩ := forD_ind (ck := fun _ => True) (g := gN 2) (b := w_law_bag_1)
    (fun ds ρ m => ∃ (rs : List Int) (y : Int) (z : Option D), ds = rs.map .int ∧ ρ = [some (.scr xs), some (.int y), z] ∧ m = [[], []] ∧ 0 ≤ y ∧ y < 2147483579)
    (ns.map .int) [some (.scr xs), some (.int 14083), none] [[], []] ⟨ns, 14083, none, rfl, rfl, rfl, by omega, by omega⟩ (fun _ _ _ _ => trivial) (by
      rintro d ds ρ m ⟨rs, y, z, h1, rfl, rfl, h2, h3⟩
      cases rs with
      | nil => cases h1
      | cons c rs =>
        cases h1
        have m12 : mulOk y 48611 = true := mulOk_of (a := 70) (b := 20) (by omega) (by decide) (by omega)
        have r := fmod_rng (a := y * 48611 + c.fmod 2147483587 + 409) (n := 2147483579) (by omega)
        refine ⟨_, _, [some (.scr xs), some (.int ((y * 48611 + c.fmod 2147483587 + 409).fmod 2147483579)), some (.int c)], [[], []], rfl, .inl ?_, rs, _, _, rfl, rfl, rfl, r.1, r.2⟩
        simp -implicitDefEqProofs [m12])
  cases rs with
  | cons => cases h1
  | nil =>
    refine ⟨bagM ns 0 0 y 0, ?_, ns, 0, 0, y, 0, rfl, by omega, by omega, h2, h3, by omega, by decide⟩
    have g1 : ns.length ≤ 16777216 := by omega
    unfold f_law_bag b_law_bag
    rw [fnM1]
    simp -implicitDefEqProofs [hcut, g1, e1]
    rw [lvM_loc]
    simp -implicitDefEqProofs [bagM]
/-- with the bag o a call gives d and leaves the bag o' -/
def Gv (F : Mem → Rs D) (o : MO) (d : D) (o' : MO) : Prop := ∀ os rest, F ((o :: os) :: rest) = .ok d ((o' :: os) :: rest)
theorem draw_run {B : Nat} {o : MO} (n : Nat) (h : BagOk (B + 1) o) (hn : 0 < n := by omega) (hn2 : n < 1000000000000 := by omega) :
    ∃ (k : Nat) (o' : MO), Gv (f_law_draw [.loc 0 0, .int n]) o (.int k) o' ∧ BagOk B o' ∧ k < n := by
  obtain ⟨k, o', h1, h2, h3, h4⟩ := draw_run0 (n := n) h (by omega) (by omega)
  obtain ⟨j, rfl⟩ : ∃ j : Nat, k = (j : Int) := ⟨k.toNat, by omega⟩
  exact ⟨j, o', h1, h2, by omega⟩
theorem drawZ {B : Nat} {o : MO} (z : Int) (h : BagOk (B + 1) o) (hn : 0 < z := by omega) (hn2 : z < 1000000000000 := by omega) :
    ∃ (k : Nat) (o' : MO), Gv (f_law_draw [.loc 0 0, .int z]) o (.int k) o' ∧ BagOk B o' ∧ (k : Int) < z := by
  obtain ⟨k, o', h1, h2, h3, h4⟩ := draw_run0 (n := z) h hn hn2
  obtain ⟨j, rfl⟩ : ∃ j : Nat, k = (j : Int) := ⟨k.toNat, by omega⟩
  exact ⟨j, o', h1, h2, h4⟩
/-- one of a list that is not changed -/
theorem of_run {B : Nat} {o : MO} (xs : List D) (h : BagOk (B + 1) o) (hx : 0 < xs.length := by simp) (hl : xs.length ≤ 1000 := by simp) (hp : ∀ x ∈ xs, D.lt 0 x = true := by simp) :
    ∃ x o', x ∈ xs ∧ Gv (f_law_of [.loc 0 0, .lst xs]) o x o' ∧ BagOk B o' := by
  obtain ⟨j, o', d1, d2, hj⟩ := draw_run (B := B) xs.length h
  have hat : atI xs (j : Int) = some xs[j] := by rw [atI_natE, List.getElem?_eq_getElem hj]
  refine ⟨xs[j], o', List.getElem_mem hj, fun os rest => ?_, d2⟩
  have hlt := fun n => D.lt_mono (m := n) (hp xs[j] (List.getElem_mem hj)) (Nat.zero_le _)
  have d1 := fun os rest => d1 os rest
  unfold f_law_of b_law_of
  rw [fnD2]
  simp -implicitDefEqProofs [d1, hat, hlt]
end P_k01
namespace P_k01
open PySem L2 PySem.Spec PyProof.Rows LN

variable {m : Mem}
theorem gcd_nz {p q : Int} (hq : q ≠ 0) : Nat.gcd p.natAbs q.natAbs ≠ 0 := fun h => by
  have := Nat.eq_zero_of_gcd_eq_zero_right h
  omega
theorem gcd_small {p q : Int} {n : Nat} (hq : q ≠ 0) (hb : q.natAbs < 2 ^ n) : Nat.gcd p.natAbs q.natAbs < 2 ^ n := Nat.lt_of_le_of_lt (Nat.le_of_dvd (by omega) (Nat.gcd_dvd_right _ _)) hb
theorem fraction_run {p q : Int} (hq : q ≠ 0) (hb : q.natAbs < 2 ^ 9000) : f_fraction [.int p, .int q] m = .ok (fr (Rat.divInt p q)) m := by
  have hg := gcd_nz (p := p) hq
  have hl := gcd_small (p := p) hq hb
  rw [fr_divInt hq]
  unfold f_fraction b_fraction
  rw [fnD2]
  by_cases h : q < 0
  · have d1 : divOk (-((Nat.gcd p.natAbs q.natAbs : Nat) : Int)) = true := divOk_of (by omega) (by simpa using hl) (Nat.le_refl _)
    simp [hq, h, d1, Int.sign_eq_neg_one_of_neg h]
  · have d1 : divOk ((Nat.gcd p.natAbs q.natAbs : Nat) : Int) = true := divOk_of (by omega) (by simpa using hl) (Nat.le_refl _)
    simp [hq, h, d1, Int.sign_eq_one_of_pos (show 0 < q by omega)]
/-- what BadValue(d) is -/
def bad (d : D) : Exn := exnOf "BadValue" ["value"] [d]
theorem fraction_bad {p : Int} : f_fraction [.int p, .int 0] m = .err (bad (.int 0)) m := by
  unfold f_fraction b_fraction bad
  rw [fnD2]
  simp
theorem ask_bad {d : D} : gAsk "told" ct_law_ask h_law_ask (.err (bad d) m) = .ok (.lst [.str "BadValue", d]) m := by
  unfold bad
  exact gAsk_err rfl rfl
/-! sizes -/
theorem den_pos (a : Rat) : (0 : Int) < a.den := by have := a.den_nz; omega
theorem den_nz (a : Rat) : (a.den : Int) ≠ 0 := by have := a.den_nz; omega
theorem Sz.neg {n : Nat} {a : Rat} (h : Sz n a) : Sz n (-a) := ⟨by rw [Rat.neg_num, Int.natAbs_neg]; exact h.1, by rw [Rat.neg_den]; exact h.2⟩
theorem sub_parts (a b : Rat) : a - b = Rat.divInt (a.num * b.den - b.num * a.den) (a.den * b.den) := by
  rw [Rat.sub_eq_add_neg, add_parts, Rat.neg_num, Rat.neg_den, Int.neg_mul, ← Int.sub_eq_add_neg]
theorem Sz.sub {a b : Nat} {x y : Rat} (h : Sz a x) (k : Sz b y) : Sz (a + b + 1) (x - y) := by
  rw [Rat.sub_eq_add_neg]
  exact Sz.add h (Sz.neg k)
theorem num_nz {b : Rat} (h : b ≠ 0) : b.num ≠ 0 := fun z => h (Rat.num_eq_zero.mp z)
theorem div_parts {a b : Rat} (hb : b ≠ 0) : a / b = Rat.divInt (a.num * b.den) (a.den * b.num) := by
  have h1 : a = Rat.divInt a.num a.den := (Rat.num_divInt_den a).symm
  have h2 : b⁻¹ = Rat.divInt b.den b.num := Rat.inv_def b
  rw [Rat.div_def]
  conv => lhs; rw [h1, h2]
  rw [Rat.divInt_mul_divInt]
theorem Sz.div {a b : Nat} {x y : Rat} (h : Sz a x) (k : Sz b y) (hy : y ≠ 0) : Sz (a + b) (x / y) := by
  rw [div_parts hy]
  have hd : ((x.den : Int) * y.num) ≠ 0 := Int.mul_ne_zero (den_nz x) (num_nz hy)
  have := divInt_le (p := x.num * y.den) hd
  have h1 := powb_int (x := x.num) (y := y.den) h.1 (by simpa using k.2)
  have h3 := powb_int (x := x.den) (y := y.num) (by simpa using h.2) k.1
  exact ⟨Nat.lt_of_le_of_lt this.1 h1, Nat.lt_of_le_of_lt this.2 h3⟩
variable {a b : Rat} {n k : Nat}
section
variable (ha : Sz n a) (hb : Sz k b) (hs : n + k ≤ 8000)
include ha hb hs
theorem mok : mulOk a.num b.den = true ∧ mulOk b.num a.den = true ∧ mulOk a.den b.den = true ∧ mulOk a.num b.num = true ∧ mulOk a.den b.num = true :=
  ⟨mulOk_of ha.1 (by simpa using hb.2) (by omega), mulOk_of hb.1 (by simpa using ha.2) (by omega), mulOk_of (by simpa using ha.2) (by simpa using hb.2) (by omega), mulOk_of ha.1 hb.1 (by omega), mulOk_of (by simpa using ha.2) hb.1 (by omega)⟩
theorem dsm : ((a.den : Int) * b.den).natAbs < 2 ^ 9000 ∧ ((a.den : Int) * b.num).natAbs < 2 ^ 9000 :=
  ⟨powmono (powb_int (by simpa using ha.2) (by simpa using hb.2)) (by omega), powmono (powb_int (by simpa using ha.2) hb.1) (by omega)⟩
theorem plus_run : f_plus [fr a, fr b] m = .ok (fr (a + b)) m := by
  obtain ⟨m1, m2, m3, m4, m5⟩ := mok ha hb hs
  have fr' := fraction_run (p := a.num * b.den + b.num * a.den) (m := m ++ [[]]) (Int.mul_ne_zero (den_nz a) (den_nz b)) (dsm ha hb hs).1
  rw [add_parts]
  unfold f_plus b_plus
  rw [fnD2]
  simp [fr, m1, m2, m3] at fr' ⊢
  simp [fr']
theorem minus_run : f_minus [fr a, fr b] m = .ok (fr (a - b)) m := by
  obtain ⟨m1, m2, m3, m4, m5⟩ := mok ha hb hs
  have fr' := fraction_run (p := a.num * b.den - b.num * a.den) (m := m ++ [[]]) (Int.mul_ne_zero (den_nz a) (den_nz b)) (dsm ha hb hs).1
  rw [sub_parts]
  unfold f_minus b_minus
  rw [fnD2]
  simp [fr, m1, m2, m3] at fr' ⊢
  simp [fr']
theorem times_run : f_times [fr a, fr b] m = .ok (fr (a * b)) m := by
  obtain ⟨m1, m2, m3, m4, m5⟩ := mok ha hb hs
  have fr' := fraction_run (p := a.num * b.num) (m := m ++ [[]]) (Int.mul_ne_zero (den_nz a) (den_nz b)) (dsm ha hb hs).1
  rw [mul_parts]
  unfold f_times b_times
  rw [fnD2]
  simp [fr, m3, m4] at fr' ⊢
  simp [fr']
theorem below_run : f_below [fr a, fr b] m = .ok (.bl (decide (a.num * b.den < b.num * a.den))) m := by
  obtain ⟨m1, m2, m3, m4, m5⟩ := mok ha hb hs
  unfold f_below b_below
  rw [fnD2]
  simp [fr, m1, m2]
end
theorem floor_run (ha : Sz n a) (hs : n ≤ 8000) : f_floor_of [fr a] m = .ok (.int (a.num.fdiv a.den)) m := by
  have d1 : divOk (a.den : Int) = true := divOk_of (den_nz a) (by simpa using ha.2) (by omega)
  unfold f_floor_of b_floor_of
  rw [fnD1]
  simp [fr, d1]
end P_k01
namespace P_k01
open PySem L2 PySem.Spec PyProof.Rows LN

theorem like_run : ∀ (n : Nat) (d : D) (m : Mem), lkD n d = true → r_law_like (n + 1) [d, d] m = .ok (.bl true) m := by
  have seq : ∀ (n : Nat), (∀ (d : D) (m : Mem), lkD n d = true → r_law_like (n + 1) [d, d] m = .ok (.bl true) m) → ∀ (xs : List D) (ρ : Lc) (m : Mem), lkDs n xs = true → ρ.length = 4 →
      lcD (fun _ => True ∧ True) (gT (gsCons (gN 2) (gsCons (gN 3) gsNil))) tAll (dCall (r_law_like (n + 1)) [] (dCons (dV 2) (dCons (dV 3) dNil))) ((xs.zip xs).map fun p => .tup [p.1, p.2]) ρ m = .ok ((xs.zip xs).map fun _ => D.bl true) m := by
    intro n ih xs ρ m h hl
    obtain ⟨a, b, c, d, rfl⟩ : ∃ a b c d, ρ = [a, b, c, d] := by
      match ρ, hl with
      | [a, b, c, d], _ => exact ⟨a, b, c, d, rfl⟩
    refine lcD_map _ _ _ ⟨trivial, trivial⟩ fun p hp => ?_
    have hz : p.1 ∈ xs ∧ p.1 = p.2 := by
      have := List.of_mem_zip hp
      obtain ⟨i, hi⟩ := List.mem_iff_getElem?.mp hp
      rw [List.getElem?_zip_eq_some] at hi
      refine ⟨this.1, ?_⟩
      have := hi.1.symm.trans hi.2
      exact Option.some.inj this
    have := ih p.1 m (lkDs_iff.mp h p.1 hz.1)
    refine ⟨[a, b, some p.1, some p.2], by simp, by simp, ?_⟩
    rw [← hz.2]
    simp [this]
  intro n
  induction n with
  | zero =>
    intro d m h
    cases d with
    | non => rw [r_law_like, fnD2]; simp [b_law_like]
    | int i => rw [r_law_like, fnD2]; simp [b_law_like]
    | bl b => rw [r_law_like, fnD2]; simp [b_law_like]
    | str x =>
      have hx : plD 60 (.str x) = true := by simpa [lkD] using h
      rw [r_law_like, fnD2]; simp [b_law_like, gEqA_pl hx hx]
    | _ => simp [lkD] at h
  | succ n ih =>
    intro d m h
    cases d with
    | non => rw [r_law_like, fnD2]; simp [b_law_like]
    | int i => rw [r_law_like, fnD2]; simp [b_law_like]
    | bl b => rw [r_law_like, fnD2]; simp [b_law_like]
    | str x =>
      have hx : plD 60 (.str x) = true := by simpa [lkD] using h
      rw [r_law_like, fnD2]; simp [b_law_like, gEqA_pl hx hx]
    | tup xs =>
      simp only [lkD, Bool.and_eq_true, decide_eq_true_eq] at h
      have s := seq n ih xs [some (.tup xs), some (.tup xs), none, none] (m ++ [[]]) h.2 rfl
      have hb := bAll_map (l := xs.zip xs) (h := fun _ => true) (m := m ++ [[]])
      have hl : (xs.zip xs).length = xs.length := by simp
      rw [r_law_like, fnD2]
      simp at s hb
      simp [b_law_like, s, hb, h.1]
    | lst xs =>
      simp only [lkD, Bool.and_eq_true, decide_eq_true_eq] at h
      have s := seq n ih xs [some (.lst xs), some (.lst xs), none, none] (m ++ [[]]) h.2 rfl
      have hb := bAll_map (l := xs.zip xs) (h := fun _ => true) (m := m ++ [[]])
      have hl : (xs.zip xs).length = xs.length := by simp
      rw [r_law_like, fnD2]
      simp at s hb
      simp [b_law_like, s, hb, h.1]
    | _ => simp [lkD] at h
end P_k01
namespace P_k01
open PySem L2 PySem.Spec PyProof.Rows LN

variable {m : Mem}
theorem low_run {p q : Int} (hq : q ≠ 0) (hb : q.natAbs < 2 ^ 9000) : f_law_low [.int p, .int q] m = .ok (fr (Rat.divInt p q)) m := by
  have turn : ∀ (n : Nat) (a b : Int), 0 ≤ a → 0 ≤ b → b < n → ∃ z, whileD u_law_low_1 w_law_low_1 n [some (.int p), some (.int q), some (.int a), some (.int b)] (m ++ [[]]) = .ok (.nx [some (.int p), some (.int q), some (.int (euc n a b)), some z]) (m ++ [[]]) := by
    intro n
    induction n with
    | zero => intro a b _ _ _; omega
    | succ n ih =>
      intro a b h1 h2 h3
      by_cases hb : b = 0
      · exact ⟨.int b, by subst hb; simp [whileD, euc]⟩
      · have hp : 0 < b := by omega
        obtain ⟨z, hz⟩ := ih b (a.fmod b) h2 (Int.fmod_nonneg_of_pos a hp) (by have := Int.fmod_lt_of_pos a hp; omega)
        exact ⟨z, by simp [whileD, euc, hb, hp, hz]⟩
  obtain ⟨z, hz⟩ := turn (q.natAbs + 1) p.natAbs q.natAbs (by omega) (by omega) (by omega)
  have hw := sWhile_of (t := u_law_low_1) (b := w_law_low_1) (q.natAbs + 1) (by rw [hz]; exact fun h => by cases h)
  rw [hz, euc_gcd _ _ _ (by omega) (by omega) (by omega)] at hw
  simp at hw
  have hg := gcd_nz (p := p) hq
  have hl := gcd_small (p := p) hq hb
  rw [fr_divInt hq]
  unfold f_law_low b_law_low
  rw [fnD2]
  by_cases h : q < 0
  · have d1 : divOk (-((Nat.gcd p.natAbs q.natAbs : Nat) : Int)) = true := divOk_of (by omega) (by simpa using hl) (Nat.le_refl _)
    simp [h, d1, hw, Int.sign_eq_neg_one_of_neg h]
  · have d1 : divOk ((Nat.gcd p.natAbs q.natAbs : Nat) : Int) = true := divOk_of (by omega) (by simpa using hl) (Nat.le_refl _)
    simp [h, d1, hw, Int.sign_eq_one_of_pos (show 0 < q by omega)]
theorem low_self {x : Rat} {n : Nat} (hx : Sz n x) (hn : n ≤ 8000) : f_law_low [.int x.num, .int x.den] m = .ok (fr x) m := by
  have := low_run (p := x.num) (q := x.den) (m := m) (den_nz x) (powmono (by simpa using hx.2) (by omega))
  rw [Rat.num_divInt_den] at this
  exact this
theorem pl_fr {x : Rat} : plD 60 (fr x) = true := by simp [fr]
theorem lk_fr {x : Rat} : lkD 3 (fr x) = true := by simp [fr, lkD, lkDs]
theorem divInt_cross {x : Rat} {t l : Int} (hl : l ≠ 0) (h : x = Rat.divInt t l) : x.num * l = t * x.den := by
  have e : Rat.divInt x.num x.den = Rat.divInt t l := by rw [Rat.num_divInt_den]; exact h
  exact (Rat.divInt_eq_divInt_iff (den_nz x) hl).mp e
theorem exact_run {x : Rat} {t l : Int} {n : Nat} (hx : Sz n x) (hn : n ≤ 8000) (ht : t.natAbs < 2 ^ 9000) (hl2 : l.natAbs < 2 ^ 9000) (hl : l ≠ 0) (h : x = Rat.divInt t l) : f_law_exact [fr x, .int t, .int l] m = .ok (.bl true) m := by
  have hc := divInt_cross hl h
  have m1 : mulOk x.num l = true := mulOk_of hx.1 hl2 (by omega)
  have m2 : mulOk t x.den = true := mulOk_of ht (by simpa using hx.2) (by omega)
  have hlo := low_self (m := m ++ [[]]) hx hn
  have hd : (1 : Int) ≤ x.den := by have := x.den_nz; omega
  have hp := gEqA_pl (neg := false) (m := m ++ [[]]) (pl_fr (x := x)) (pl_fr (x := x))
  unfold f_law_exact b_law_exact
  rw [fnD3]
  simp [fr] at hlo hp ⊢
  simp [hlo, hp, hd, m1, m2, hc]
theorem order_run {a b : Rat} {n k : Nat} (ha : Sz n a) (hb : Sz k b) (hs : n + k ≤ 8000) (h : a.num * b.den < b.num * a.den) : f_law_order [fr a, fr b] m = .ok (.int (-1)) m := by
  obtain ⟨m1, m2, m3, m4, m5⟩ := mok ha hb hs
  unfold f_law_order b_law_order
  rw [fnD2]
  have h1 : ¬ (b.num * a.den < a.num * b.den) := by omega
  have h2 : a.num * b.den - b.num * a.den < 0 := by omega
  simp [fr, m1, m2, h1, h2]
theorem like_d {d : D} (h : lkD 3 d = true) : f_law_like [d, d] m = .ok (.bl true) m := like_run 3 d m h
/-! what is drawn -/
def SmI (z : Int) : Prop := z.natAbs < 2 ^ 70
theorem number_run {B : Nat} {o : MO} (h : BagOk (B + 5) o) : ∃ (z : Int) (o' : MO), Gv (f_law_number [.loc 0 0]) o (.int z) o' ∧ BagOk B o' ∧ SmI z := by
  obtain ⟨a, o1, d1, b1, l1⟩ := drawZ (B := B + 4) 1000000 h
  obtain ⟨b, o2, d2, b2, l2⟩ := drawZ (B := B + 3) 1000000 b1
  obtain ⟨c, o3, d3, b3, l3⟩ := drawZ (B := B + 2) 1000000 b2
  obtain ⟨e, o4, d4, b4, l4⟩ := drawZ (B := B + 1) 200 b3
  have m1 : mulOk a 1000000000000 = true := mulOk_of (a := 40) (b := 60) (by omega) (by decide) (by omega)
  have m2 : mulOk b 1000000 = true := mulOk_of (a := 40) (b := 60) (by omega) (by decide) (by omega)
  have m3 : mulOk e 12 = true := mulOk_of (a := 40) (b := 60) (by omega) (by decide) (by omega)
  have p1 : powOk 10 6 = true := by decide
  have p2 : powOk 10 12 = true := by decide
  have p3 : powOk 10 18 = true := by decide
  generalize hf : (a : Int) * 1000000000000 + b * 1000000 + c = far
  have hfar : far.natAbs < 2 ^ 62 := by omega
  obtain ⟨x, o5, hx, g5, b5⟩ := of_run (B := B) (o := o4) [.int 0, .int 1, .int e, .int (-e), .int far, .int (-far), .int 999999999999999999, .int (-999999999999999999), .int 2, .int 6, .int (e * 12), .int 9999, .int (-99), .int e] b4
  have hz : ∃ z : Int, x = .int z ∧ SmI z := by
    unfold SmI
    simp only [List.mem_cons, List.not_mem_nil, or_false] at hx
    rcases hx with rfl | rfl | rfl | rfl | rfl | rfl | rfl | rfl | rfl | rfl | rfl | rfl | rfl | rfl <;> exact ⟨_, rfl, by omega⟩
  obtain ⟨z, rfl, sz⟩ := hz
  refine ⟨z, o5, fun os rest => ?_, b5, sz⟩
  have d1 := fun os rest => d1 os rest
  have d2 := fun os rest => d2 os rest
  have d3 := fun os rest => d3 os rest
  have d4 := fun os rest => d4 os rest
  have g5 := fun os rest => g5 os rest
  unfold f_law_number b_law_number
  rw [fnD1]
  simp -implicitDefEqProofs [p1, p2, p3, d1, d2, d3, d4, m1, m2, m3, hf, g5]
end P_k01
namespace P_k01
open PySem L2 PySem.Spec PyProof.Rows LN

variable {m : Mem}
@[simp] theorem ix_fr0 {x : Rat} : gIxT ck (fr x) (.int 0) m = .ok (.int x.num) m := by simp [fr]
@[simp] theorem ix_fr1 {x : Rat} : gIxT ck (fr x) (.int 1) m = .ok (.int x.den) m := by simp [fr]
@[simp] theorem c_ZERO_fr : c_ZERO = fr 0 := rfl
@[simp] theorem eq_fr {x y : Rat} {neg : Bool} : gEqA neg (fr x) (fr y) m = .ok (.bl (neg ^^ decide (x = y))) m := by
  rw [gEqA_pl pl_fr pl_fr]
  simp only [fr_inj]
@[simp] theorem lt_fr {n : Nat} {x : Rat} : D.lt n (fr x) = true := dlt_fr
theorem SmI.big {z : Int} (h : SmI z) : z.natAbs < 2 ^ 9000 := powmono h (by omega)
theorem szDiv {p q : Int} (hp : SmI p) (hq : SmI q) (h0 : q ≠ 0) : Sz 70 (Rat.divInt p q) := by
  have := divInt_le (p := p) h0
  exact ⟨Nat.lt_of_le_of_lt this.1 hp, Nat.lt_of_le_of_lt this.2 hq⟩
theorem szInt {p : Int} (hp : SmI p) : Sz 70 (Rat.divInt p 1) := szDiv hp (by unfold SmI; decide) (by decide)
theorem like_fr {x : Rat} : f_law_like [fr x, fr x] m = .ok (.bl true) m := like_d lk_fr
theorem like_bad {d : D} (h : lkD 2 d = true) : f_law_like [.lst [.str "BadValue", d], .lst [.str "BadValue", d]] m = .ok (.bl true) m := like_d (by
  have e : lkDs 2 [.str "BadValue", d] = true := by
    simp only [lkDs, h, Bool.and_true]
    simp only [lkD]
    decide +kernel
  simp [lkD, e])
theorem pl_told : plD 60 (.str "told") = true := by
  simp only [plD]
  decide +kernel
@[simp] theorem told_eq {neg : Bool} : gEqA neg (.str "told") (.str "told") m = .ok (.bl (!neg)) m := by
  rw [gEqA_pl pl_told pl_told]
  simp
theorem made_run {B : Nat} {o : MO} (h : BagOk (B + 11) o) : ∃ o', Gv (f_law_made [.loc 0 0]) o (.bl true) o' ∧ BagOk B o' := by
  obtain ⟨t, o1, d1, b1, st⟩ := number_run (B := B + 6) h
  obtain ⟨l, o2, d2, b2, sl⟩ := number_run (B := B + 1) b1
  obtain ⟨w, o3, d3, b3, lw⟩ := draw_run (B := B) 4 b2
  have d1 := fun os rest => d1 os rest
  have d2 := fun os rest => d2 os rest
  have d3 := fun os rest => d3 os rest
  simp at d3
  refine ⟨o3, fun os rest => ?_, b3⟩
  by_cases w0 : w = 0
  · subst w0
    have f1 := fun mm => fraction_run (m := mm) (p := t) (q := 1) (by decide) (by decide)
    have f2 := fun mm => fraction_run (m := mm) (p := l) (q := 1) (by decide) (by decide)
    have e1 := fun mm => exact_run (m := mm) (szInt st) (by omega) st.big (l := 1) (by decide) (by decide) rfl
    have e2 := fun mm => exact_run (m := mm) (szInt sl) (by omega) sl.big (l := 1) (by decide) (by decide) rfl
    unfold f_law_made b_law_made
    rw [fnD1]
    simp -implicitDefEqProofs [d1, d2, d3, f1, f2, e1, e2, g_k0]
  · by_cases l0 : l = 0
    · subst l0
      have f1 := fun mm => fraction_bad (m := mm) (p := t)
      have hl := fun mm => like_bad (m := mm) (d := .int 0) (by simp [lkD])
      unfold f_law_made b_law_made
      rw [fnD1]
      by_cases w2 : w = 1
      · subst w2
        simp -implicitDefEqProofs [d1, d2, d3, f1, ask_bad, hl]
      · have w3 : ¬ (w : Int) = 1 := by omega
        simp -implicitDefEqProofs [d1, d2, d3, w0, w2, w3, f1, ask_bad, hl, g_k1]
    · have f1 := fun mm => fraction_run (m := mm) (p := t) (q := l) l0 sl.big
      have e1 := fun mm => exact_run (m := mm) (szDiv st sl l0) (by omega) st.big sl.big l0 rfl
      unfold f_law_made b_law_made
      rw [fnD1]
      by_cases w2 : w = 1
      · subst w2
        simp -implicitDefEqProofs [d1, d2, d3, l0, f1, e1]
      · have w3 : ¬ (w : Int) = 1 := by omega
        simp -implicitDefEqProofs [d1, d2, d3, w0, w2, w3, l0, f1, e1, g_k1]
end P_k01
namespace P_k01
open PySem L2 PySem.Spec PyProof.Rows LN

variable {m : Mem}
theorem some_run {B : Nat} {o : MO} (h : BagOk (B + 10) o) : ∃ (x : Rat) (o' : MO), Gv (f_law_some [.loc 0 0]) o (fr x) o' ∧ BagOk B o' ∧ Sz 70 x := by
  obtain ⟨t, o1, d1, b1, st⟩ := number_run (B := B + 5) h
  obtain ⟨l, o2, d2, b2, sl⟩ := number_run (B := B) b1
  have d1 := fun os rest => d1 os rest
  have d2 := fun os rest => d2 os rest
  generalize hd : max (1 : Int) l.natAbs = d
  have hd1 : d ≠ 0 := by omega
  have hd2 : SmI d := by
    unfold SmI at sl ⊢
    omega
  have f1 := fun mm => low_run (m := mm) (p := t) hd1 hd2.big
  refine ⟨Rat.divInt t d, o2, fun os rest => ?_, b2, szDiv st hd2 hd1⟩
  unfold f_law_some b_law_some
  rw [fnD1]
  simp -implicitDefEqProofs [d1, d2, hd, f1]
theorem neg_fr {x : Rat} : D.tup [.int (-x.num), .int x.den] = fr (-x) := by
  unfold fr
  rw [Rat.neg_num, Rat.neg_den]
theorem szFl {x : Rat} (h : Sz 70 x) : Sz 70 ((x.num.fdiv x.den : Int) : Rat) := by
  have hd : (1 : Int) ≤ x.den := by have := x.den_nz; omega
  have h1 := Int.mul_fdiv_add_fmod x.num x.den
  have h2 := Int.fmod_nonneg_of_pos x.num (show (0 : Int) < x.den by omega)
  have h3 := Int.fmod_lt_of_pos x.num (show (0 : Int) < x.den by omega)
  refine ⟨?_, by show (1 : Nat) < 2 ^ 70; decide⟩
  show (x.num.fdiv x.den).natAbs < 2 ^ 70
  have := h.1
  generalize x.num.fdiv x.den = y at *
  generalize x.num = u at *
  generalize ((x.den : Nat) : Int) = v at *
  have : y.natAbs ≤ u.natAbs := by
    by_cases hy : 0 ≤ y
    · have : y ≤ v * y := by
        have := Int.mul_le_mul_of_nonneg_right hd hy
        omega
      omega
    · have : v * y ≤ y := by
        have := Int.mul_le_mul_of_nonpos_right hd (show y ≤ 0 by omega)
        omega
      have : v * y + u.fmod v = u := h1
      by_cases hv : v = 1
      · subst hv; omega
      · have h5 : (v - 1) * (y + 1) ≤ 0 := Int.mul_nonpos_of_nonneg_of_nonpos (by omega) (by omega)
        have h6 : (v - 1) * (y + 1) = v * y + v - y - 1 := by
          rw [Int.sub_mul, Int.mul_add, Int.mul_one, Int.one_mul]; omega
        omega
  omega
theorem pair_run {B : Nat} {o : MO} (h : BagOk (B + 26) o) : ∃ (x y : Rat) (o' : MO), Gv (f_law_pair [.loc 0 0]) o (.lst [fr x, fr y]) o' ∧ BagOk B o' ∧ Sz 70 x ∧ Sz 70 y := by
  obtain ⟨x, o1, d1, b1, sx⟩ := some_run (B := B + 16) h
  obtain ⟨y, o2, d2, b2, sy⟩ := some_run (B := B + 6) b1
  obtain ⟨w, o3, d3, b3, lw⟩ := draw_run (B := B + 5) 7 b2
  obtain ⟨l, o4, d4, b4, sl⟩ := number_run (B := B) b3
  have d1 := fun os rest => d1 os rest
  have d2 := fun os rest => d2 os rest
  have d3 := fun os rest => d3 os rest
  have d4 := fun os rest => d4 os rest
  simp at d3
  have dd : divOk (x.den : Int) = true := divOk_of (n := 70) (den_nz x) (by simpa using sx.2) (by omega)
  have hc : w = 0 ∨ w = 1 ∨ w = 2 ∨ w = 3 ∨ w = 4 ∨ 5 ≤ w := by omega
  rcases hc with rfl | rfl | rfl | rfl | rfl | hw
  · refine ⟨x, x, o3, fun os rest => ?_, b3.mono (by omega), sx, sx⟩
    unfold f_law_pair b_law_pair
    rw [fnD1]
    simp -implicitDefEqProofs [d1, d2, d3]
  · refine ⟨x, -x, o3, fun os rest => ?_, b3.mono (by omega), sx, Sz.neg sx⟩
    unfold f_law_pair b_law_pair
    rw [fnD1]
    simp -implicitDefEqProofs [d1, d2, d3, neg_fr]
  · have f1 := fun mm => low_run (m := mm) (p := l) (den_nz x) (powmono (a := 70) (by simpa using sx.2) (by omega))
    refine ⟨x, Rat.divInt l x.den, o4, fun os rest => ?_, b4, sx, szDiv sl (by simpa [SmI] using sx.2) (den_nz x)⟩
    unfold f_law_pair b_law_pair
    rw [fnD1]
    simp -implicitDefEqProofs [d1, d2, d3, d4, f1]
  · refine ⟨x, ((x.num.fdiv x.den : Int) : Rat), o3, fun os rest => ?_, b3.mono (by omega), sx, szFl sx⟩
    have e := fr_int (x.num.fdiv x.den)
    unfold f_law_pair b_law_pair
    rw [fnD1]
    simp -implicitDefEqProofs [d1, d2, d3, dd, ← e]
  · refine ⟨x, 0, o3, fun os rest => ?_, b3.mono (by omega), sx, by refine ⟨by decide, by decide⟩⟩
    have e := fr_zero
    unfold f_law_pair b_law_pair
    rw [fnD1]
    simp -implicitDefEqProofs [d1, d2, d3, ← e]
  · refine ⟨x, y, o3, fun os rest => ?_, b3.mono (by omega), sx, sy⟩
    have n0 : ¬ (w : Int) = 0 := by omega
    have n1 : ¬ (w : Int) = 1 := by omega
    have n2 : ¬ (w : Int) = 2 := by omega
    have n3 : ¬ (w : Int) = 3 := by omega
    have n4 : ¬ (w : Int) = 4 := by omega
    have n00 : ¬ w = 0 := by omega
    unfold f_law_pair b_law_pair
    rw [fnD1]
    simp -implicitDefEqProofs [d1, d2, d3, n0, n1, n2, n3, n4, n00]
end P_k01
namespace P_k01
open PySem L2 PySem.Spec PyProof.Rows LN

variable {m : Mem}
theorem like_b {b : Bool} : f_law_like [.bl b, .bl b] m = .ok (.bl true) m := like_d (by simp [lkD])
theorem like_i {i : Int} : f_law_like [.int i, .int i] m = .ok (.bl true) m := like_d (by simp [lkD])
theorem compared_run {a b : Rat} {w : Int} (ha : Sz 70 a) (hb : Sz 70 b) : f_law_compared [fr a, fr b, .int w] m = .ok (.bl true) m := by
  obtain ⟨m1, m2, m3, m4, m5⟩ := mok ha hb (by omega)
  have hd : (1 : Int) ≤ a.den := by have := a.den_nz; omega
  have dd : divOk (a.den : Int) = true := divOk_of (n := 70) (den_nz a) (by simpa using ha.2) (by omega)
  have f1 := fun mm => below_run (m := mm) ha hb (by omega)
  have f2 := fun mm => floor_run (m := mm) ha (by omega)
  have l1 := fun mm b => like_b (m := mm) (b := b)
  have l2 := fun mm i => like_i (m := mm) (i := i)
  have h1 := Int.mul_fdiv_add_fmod a.num a.den
  have h2 := Int.fmod_nonneg_of_pos a.num (show (0 : Int) < a.den by omega)
  have h3 := Int.fmod_lt_of_pos a.num (show (0 : Int) < a.den by omega)
  have sf := (szFl ha).1
  have sf : (a.num.fdiv a.den).natAbs < 2 ^ 70 := sf
  have q1 : mulOk (a.num.fdiv a.den) a.den = true := mulOk_of (a := 70) (b := 70) sf (by simpa using ha.2) (by omega)
  have q2 : mulOk (a.num.fdiv a.den + 1) a.den = true := mulOk_of (a := 71) (b := 70) (by omega) (by simpa using ha.2) (by omega)
  have c1 : a.num.fdiv a.den * a.den ≤ a.num := by rw [Int.mul_comm]; omega
  have c2 : a.num < (a.num.fdiv a.den + 1) * a.den := by rw [Int.add_mul, Int.mul_comm]; omega
  unfold f_law_compared b_law_compared
  rw [fnD3]
  by_cases h : w = 0
  · simp [m1, m2, h, f1, f2, l1, l2, dd, q1, q2, c1, c2]
  · simp [m1, m2, h, f1, f2, l1, l2, dd, q1, q2, c1, c2, g_k6, g_k7]
theorem quotient_run {a b : Rat} {n k : Nat} (ha : Sz n a) (hb : Sz k b) (hs : n + k ≤ 8000) (h0 : b ≠ 0) : f_quotient [fr a, fr b] m = .ok (fr (a / b)) m := by
  obtain ⟨m1, m2, m3, m4, m5⟩ := mok ha hb hs
  have fr' := fraction_run (p := a.num * b.den) (m := m ++ [[]]) (Int.mul_ne_zero (den_nz a) (num_nz h0)) (dsm ha hb hs).2
  rw [div_parts h0]
  unfold f_quotient b_quotient
  rw [fnD2]
  simp [m1, m5, h0, fr']
theorem quotient_bad {a : Rat} : f_quotient [fr a, fr 0] m = .err (bad (fr 0)) m := by
  unfold f_quotient b_quotient bad
  rw [fnD2]
  simp
theorem joined_run {a b : Rat} {w : Int} (ha : Sz 70 a) (hb : Sz 70 b) : f_law_joined [fr a, fr b, .int w] m = .ok (.bl true) m := by
  obtain ⟨m1, m2, m3, m4, m5⟩ := mok ha hb (by omega)
  have hd : ((a.den : Int) * b.den) ≠ 0 := Int.mul_ne_zero (den_nz a) (den_nz b)
  have hd2 := (dsm ha hb (by omega)).1
  have f1 := fun mm => plus_run (m := mm) ha hb (by omega)
  have f2 := fun mm => minus_run (m := mm) ha hb (by omega)
  have f3 := fun mm => times_run (m := mm) ha hb (by omega)
  have s1 := Sz.add ha hb
  have s2 := Sz.sub ha hb
  have s3 := Sz.mul ha hb
  have b1 := powb_int (x := a.num) (y := b.den) (b := 70) ha.1 (by simpa using hb.2)
  have b2 := powb_int (x := b.num) (y := a.den) (b := 70) hb.1 (by simpa using ha.2)
  have b3 := powb_int ha.1 hb.1
  have e1 := fun mm => exact_run (m := mm) s1 (by omega) (t := a.num * b.den + b.num * a.den) (powmono (a := 150) (by omega) (by omega)) hd2 hd (add_parts a b)
  have e2 := fun mm => exact_run (m := mm) s2 (by omega) (t := a.num * b.den - b.num * a.den) (powmono (a := 150) (by omega) (by omega)) hd2 hd (sub_parts a b)
  have e3 := fun mm => exact_run (m := mm) s3 (by omega) (t := a.num * b.num) (powmono b3 (by omega)) hd2 hd (mul_parts a b)
  have g1 := fun mm => minus_run (m := mm) s1 hb (by omega)
  have g2 := fun mm => plus_run (m := mm) hb s2 (by omega)
  have k1 : a + b - b = a := by rw [Rat.sub_eq_add_neg, Rat.add_assoc, ← Rat.sub_eq_add_neg, Rat.sub_self, Rat.add_zero]
  have k2 : b + (a - b) = a := by rw [Rat.sub_eq_add_neg, Rat.add_comm a, ← Rat.add_assoc, ← Rat.sub_eq_add_neg, Rat.sub_self, Rat.zero_add]
  rw [k1] at g1
  rw [k2] at g2
  have l1 := fun mm x => like_fr (m := mm) (x := x)
  unfold f_law_joined b_law_joined
  rw [fnD3]
  by_cases h0 : b = 0
  · have q1 : ∀ mm : Mem, f_quotient [fr a, fr b] mm = .err (bad (fr b)) mm := fun mm => by rw [h0]; exact quotient_bad
    have l2 := fun mm => like_bad (m := mm) (d := fr b) (by simp [fr, lkD, lkDs])
    have z : D.tup [.int 0, .int 1] = fr b := by rw [h0]; rfl
    have hb0 : decide (b = 0) = true := by simp [h0]
    by_cases h : w = 0
    · simp [m1, m2, m3, m4, h, f1, f2, f3, e1, e2, e3, q1, ask_bad, z, l2, g1, g2, l1]
      rw [hb0]
      simp [z, l2, g1, g2, l1]
    · simp [m1, m2, m3, m4, h, f1, f2, f3, e1, e2, e3, q1, ask_bad, z, l2, g1, g2, l1, g_k2, g_k3, g_k4, g_k5]
      rw [hb0]
      simp [z, l2, g1, g2, l1]
  · have q1 := fun mm => quotient_run (m := mm) ha hb (by omega) h0
    have s4 := Sz.div ha hb h0
    have e4 := fun mm => exact_run (m := mm) s4 (by omega) (t := a.num * b.den) (powmono b1 (by omega)) (dsm ha hb (by omega)).2 (Int.mul_ne_zero (den_nz a) (num_nz h0)) (div_parts h0)
    have f4 := fun mm => times_run (m := mm) s4 hb (by omega)
    have k3 : a / b * b = a := Rat.div_mul_cancel h0
    rw [k3] at f4
    have n0 := num_nz h0
    by_cases h : w = 0
    · simp [m1, m2, m3, m4, m5, h, f1, f2, f3, e1, e2, e3, q1, e4, f4, g1, g2, l1, n0]
    · simp [m1, m2, m3, m4, m5, h, f1, f2, f3, e1, e2, e3, q1, e4, f4, g1, g2, l1, n0, g_k2, g_k3, g_k4, g_k5]
end P_k01
namespace P_k01
open PySem L2 PySem.Spec PyProof.Rows LN

/-! ### each once -/
def addQ (A : List Rat) (q : Rat) : List Rat := if q ∈ A then A else A ++ [q]
def ddQ (qs : List Rat) : List Rat := qs.foldl addQ []
theorem addQ_mem {A : List Rat} {q x : Rat} : x ∈ addQ A q ↔ x ∈ A ∨ x = q := by
  unfold addQ
  split
  · constructor
    · exact .inl
    · rintro (h | rfl)
      · exact h
      · assumption
  · simp
theorem addQ_nodup {A : List Rat} {q : Rat} (h : A.Nodup) : (addQ A q).Nodup := by
  unfold addQ
  split
  · exact h
  · rename_i n
    rw [List.nodup_append]
    exact ⟨h, by simp, fun a ha b hb => by rw [List.mem_singleton.mp hb]; rintro rfl; exact n ha⟩
theorem addQ_len {A : List Rat} {q : Rat} : (addQ A q).length ≤ A.length + 1 := by
  unfold addQ
  split
  · omega
  · simp
theorem fold_mem : ∀ (qs A : List Rat) (x : Rat), x ∈ qs.foldl addQ A ↔ x ∈ A ∨ x ∈ qs
  | [], A, x => by simp
  | q :: qs, A, x => by rw [List.foldl_cons, fold_mem qs, addQ_mem]; simp [or_assoc]
theorem fold_nodup : ∀ (qs A : List Rat), A.Nodup → (qs.foldl addQ A).Nodup
  | [], _, h => h
  | q :: qs, A, h => fold_nodup qs _ (addQ_nodup h)
theorem fold_len : ∀ (qs A : List Rat), (qs.foldl addQ A).length ≤ A.length + qs.length
  | [], A => by simp
  | q :: qs, A => by
    have h1 := fold_len qs (addQ A q)
    have h2 := addQ_len (A := A) (q := q)
    simp only [List.foldl_cons, List.length_cons]
    omega
theorem ddQ_mem {qs : List Rat} {x : Rat} : x ∈ ddQ qs ↔ x ∈ qs := by
  unfold ddQ
  rw [fold_mem]; simp
/-! ### as keys -/
def kq (q : Rat) : NK := .tup [.num q.num, .num q.den]
theorem kq_inj {a b : Rat} (h : kq a = kq b) : a = b := by
  unfold kq at h
  injection h with h
  injection h with h1 h2
  injection h2 with h2 _
  injection h1 with h1
  injection h2 with h2
  exact Rat.ext h1 (by omega)
theorem dkey_fr (q : Rat) : dKeyT (kq q) = fr q := by simp [kq, dKeyT, dKeyTs, fr]
theorem key_fr (q : Rat) : keyT (fr q) = some (kq q) := by simp [fr, keyT, keyDs_eq, kq]
theorem kq_depth (q : Rat) : (kq q).depth ≤ 8 := by
  unfold kq
  simp [NestedKey.depth, NestedKey.depthAll]
theorem stA_unit (q : Rat) : ∀ A : List Rat, stA (A.map fun a => (a, ())) q () = (addQ A q).map fun a => (a, ())
  | [] => by simp [stA, addQ]
  | a :: A => by
    have ih := stA_unit q A
    simp only [List.map_cons, stA]
    by_cases h : a = q
    · subst h
      simp [addQ]
    · rw [if_neg h, ih]
      unfold addQ
      have hne : ¬ q = a := fun z => h z.symm
      by_cases h2 : q ∈ A
      · rw [if_pos h2, if_pos (by simp [h2])]; rfl
      · rw [if_neg h2, if_neg (by simp [hne, h2])]; simp
theorem put_kq (A : List Rat) (q : Rat) : putD (A.map kq) (A.map fun _ => D.bl true) (kq q) (.bl true) = ((addQ A q).map kq, (addQ A q).map fun _ => D.bl true) := by
  have h := putD_map (K := kq) (fun a b h => kq_inj h) (fun _ : Unit => D.bl true) q () (A.map fun a => (a, ()))
  rw [stA_unit] at h
  simpa [List.map_map, Function.comp_def] using h
theorem dc_add {A : List Rat} {q : Rat} (h : A.Nodup) (hl : A.length < 16777216) : dcAdd (A.map kq) (A.map fun _ => D.bl true) (fr q) (.bl true) = some ((addQ A q).map kq, (addQ A q).map fun _ => D.bl true) := by
  unfold dcAdd
  rw [key_fr]
  dsimp only
  rw [if_pos ⟨kq_depth q, by simpa using hl, List.Pairwise.map kq (fun a b hab e => hab (kq_inj e)) h⟩, put_kq]
variable {m : Mem}
theorem dc_loop {ρ : Lc} (hρ : ρ.length = 4) : ∀ (qs A : List Rat), A.Nodup → A.length + qs.length < 16777216 →
    dcD (fun _ => True) (gN 3) tAll k_ascending_1 v_ascending_1 (qs.map fr) ρ m (A.map kq) (A.map fun _ => D.bl true) = .ok ((qs.foldl addQ A).map kq, (qs.foldl addQ A).map fun _ => D.bl true) m
  | [], A, _, _ => dcD_nil trivial
  | q :: qs, A, h, hl => by
    have h1 := addQ_len (A := A) (q := q)
    simp only [List.length_cons] at hl
    rw [List.map_cons, dcD_step (ρ1 := ρ.set 3 (some (fr q))) (y := fr q) (z := .bl true) trivial (by simp) rfl (by simp [dV, hρ]) (by simp) (dc_add h (by omega)), dc_loop hρ qs (addQ A q) (addQ_nodup h) (by omega)]
    rfl
/-! ### what all denominators divide -/
def lcmQ (A : List Rat) : Nat := A.foldl (fun w q => Nat.lcm w q.den) 1
theorem lcm_small {w d a b : Nat} (h1 : w < 2 ^ a) (h2 : d < 2 ^ b) : Nat.lcm w d < 2 ^ (a + b) := by
  refine Nat.lt_of_le_of_lt ?_ (powb h1 h2)
  by_cases z : w * d = 0
  · rcases Nat.mul_eq_zero.mp z with z | z <;> subst z <;> simp
  · exact Nat.le_of_dvd (Nat.pos_of_ne_zero z) ⟨Nat.gcd w d, by rw [Nat.mul_comm (Nat.lcm _ _), Nat.gcd_mul_lcm]⟩
theorem lcm_fold_dvd : ∀ (A : List Rat) (w : Nat), w ∣ A.foldl (fun w q => Nat.lcm w q.den) w ∧ ∀ q ∈ A, q.den ∣ A.foldl (fun w q => Nat.lcm w q.den) w
  | [], w => ⟨Nat.dvd_refl _, by simp⟩
  | a :: A, w => by
    obtain ⟨h1, h2⟩ := lcm_fold_dvd A (Nat.lcm w a.den)
    refine ⟨Nat.dvd_trans (Nat.dvd_lcm_left _ _) h1, fun q hq => ?_⟩
    rcases List.mem_cons.mp hq with rfl | hq
    · exact Nat.dvd_trans (Nat.dvd_lcm_right _ _) h1
    · exact h2 q hq
theorem lcm_fold_pos : ∀ (A : List Rat) (w : Nat), 0 < w → 0 < A.foldl (fun w q => Nat.lcm w q.den) w
  | [], w, h => h
  | a :: A, w, h => lcm_fold_pos A _ (Nat.lcm_pos h (Nat.pos_of_ne_zero a.den_nz))
theorem lcm_fold_small : ∀ (A : List Rat) (w k : Nat), w < 2 ^ k → (∀ q ∈ A, Sz 70 q) → A.foldl (fun w q => Nat.lcm w q.den) w < 2 ^ (k + 70 * A.length)
  | [], w, k, h, _ => h
  | a :: A, w, k, h, hs => by
    have := lcm_fold_small A _ (k + 70) (lcm_small h (hs a (by simp)).2) fun q hq => hs q (by simp [hq])
    simp only [List.foldl_cons, List.length_cons]
    rw [show k + 70 * (A.length + 1) = k + 70 + 70 * A.length by omega]
    exact this
theorem lcm_loop {ck : Mem → Prop} {v : D} (f n : Nat) : ∀ (A : List Rat) (w k : Nat) (z : Option D), ck m → w < 2 ^ k → k + 70 * A.length ≤ 12000 → (∀ q ∈ A, Sz 70 q) →
    ∃ z', forD ck (gN 3) w_ascending_2 (A.map fr) [some v, some (.loc f n), some (.int w), z] m = .ok (.nx [some v, some (.loc f n), some (.int (A.foldl (fun w q => Nat.lcm w q.den) w : Nat)), z']) m
  | [], w, k, z, h, _, _, _ => ⟨z, forD_nil h⟩
  | a :: A, w, k, z, h, hw, hk, hs => by
    have ha := (hs a (by simp)).2
    simp only [List.length_cons] at hk
    have ok : lcmOk w a.den = true := by
      unfold lcmOk
      exact decide_eq_true ⟨powmono (by simpa using hw) (by omega), powmono (a := 70) (by simpa using ha) (by omega)⟩
    obtain ⟨z', hz⟩ := lcm_loop f n A (Nat.lcm w a.den) (k + 70) (some (fr a)) h (lcm_small hw ha) (by omega) fun q hq => hs q (by simp [hq])
    refine ⟨z', ?_⟩
    rw [List.map_cons, forD_step (ρ1 := [some v, some (.loc f n), some (.int w), some (fr a)]) (ρ2 := [some v, some (.loc f n), some (.int (Nat.lcm w a.den : Nat)), some (fr a)]) (m1 := m) (m2 := m) h (by simp) (by simp [w_ascending_2, ok]), hz]
    rfl
/-! ### in order -/
def keyQ (W : Nat) (q : Rat) : Int := q.num * (W : Int).fdiv q.den
def srtQ (A : List Rat) : List Rat := A.mergeSort fun a b => decide (keyQ (lcmQ A) a ≤ keyQ (lcmQ A) b)
theorem key_run {A : List Rat} {W : Nat} {v d z : Option D} (hW : W < 2 ^ 12500) (hs : ∀ q ∈ A, Sz 70 q) : kzip (kxMul (kxIx 0) (kxDiv (kxCell 2) (kxIx 1))) [v, d, some (.int W), z] (A.map fr) = some (A.map fun q => (fr q, keyQ W q)) := by
  have := kzip_map (kf := kxMul (kxIx 0) (kxDiv (kxCell 2) (kxIx 1))) (ρ := [v, d, some (.int W), z]) (fun q : Rat => [D.int q.num, D.int q.den]) (fun q => keyQ W q) A fun q hq => by
    have sq := hs q hq
    have dd : divOk (q.den : Int) = true := divOk_of (n := 70) (den_nz q) (by simpa using sq.2) (by omega)
    have hd : (1 : Int) ≤ q.den := by have := q.den_nz; omega
    have hle : ((W : Int).fdiv q.den).natAbs < 2 ^ 12500 := by
      have e : (W : Int).fdiv q.den = ((W / q.den : Nat) : Int) := by
        rw [Int.fdiv_eq_ediv_of_nonneg _ (by omega)]; rfl
      rw [e, Int.natAbs_natCast]
      exact Nat.lt_of_le_of_lt (Nat.div_le_self _ _) hW
    have mm : mulOk q.num ((W : Int).fdiv q.den) = true := mulOk_of sq.1 hle (by omega)
    simp [kxMul, kxDiv, kxIx, kxCell, dd, mm, keyQ]
  exact this
theorem asc_run {qs : List Rat} {d : D} (hd : d = .lst (qs.map fr) ∨ d = .tup (qs.map fr)) (hl : qs.length ≤ 100) (hs : ∀ q ∈ qs, Sz 70 q) : f_ascending [d] m = .ok (.tup ((srtQ (ddQ qs)).map fr)) m := by
  have hA : (ddQ qs).length ≤ 100 := by
    have := fold_len qs []
    unfold ddQ
    simp at this
    omega
  have hsA : ∀ q ∈ ddQ qs, Sz 70 q := fun q hq => hs q (ddQ_mem.mp hq)
  have dl : ∀ (v : Option D), dcD (fun _ => True) (gN 3) tAll k_ascending_1 v_ascending_1 (qs.map fr) [some d, none, none, v] (m ++ [[]]) [] [] = .ok ((ddQ qs).map kq, (ddQ qs).map fun _ => D.bl true) (m ++ [[]]) := fun v =>
    dc_loop (m := m ++ [[]]) (ρ := [some d, none, none, v]) rfl qs [] (by simp) (by simp; omega)
  have lt : (MO.dt ((ddQ qs).map kq) ((ddQ qs).map fun _ => D.bl true)).lt (m.length + 1) = true := by
    rw [molt_dt]
    exact dlts_map fun _ _ => rfl
  have lw : lcmQ (ddQ qs) < 2 ^ 12500 := powmono (lcm_fold_small (ddQ qs) 1 1 (by decide) hsA) (by omega)
  obtain ⟨z', hz⟩ := lcm_loop (ck := ckFt m.length 0 ((ddQ qs).map kq) ((ddQ qs).map fun _ => D.bl true)) (v := d) (m := m ++ [[.ft ((ddQ qs).map kq) ((ddQ qs).map fun _ => D.bl true)]]) m.length 0 (ddQ qs) 1 1 none (by simp [ckFt]) (by decide) (by omega) hsA
  have hk := key_run (A := ddQ qs) (W := lcmQ (ddQ qs)) (v := some d) (d := some (.loc m.length 0)) (z := z') lw hsA
  have hlk := lockT_run (i := 1) (f := m.length) (n := 0) (m := m ++ [[.dt ((ddQ qs).map kq) ((ddQ qs).map fun _ => D.bl true)]]) (ρ := [some d, some (.loc m.length 0), some (.int 1), none]) (ks := (ddQ qs).map kq) (xs := (ddQ qs).map fun _ => D.bl true)
    (b := sFor (dKeysW (dV 1)) (gN 3) w_ascending_2) (a := .nx [some d, some (.loc m.length 0), some (.int (lcmQ (ddQ qs) : Nat)), z']) rfl (by simp) (by
      have hmp : (ddQ qs).map (fun x => dKeyT (kq x)) = (ddQ qs).map fr := List.map_congr_left fun q _ => dkey_fr q
      simp [Function.comp_def, hmp]
      exact hz)
  have hmp : (ddQ qs).map (fun x => dKeyT (kq x)) = (ddQ qs).map fr := List.map_congr_left fun q _ => dkey_fr q
  have hso : sortK ((ddQ qs).map fun q => (fr q, keyQ (lcmQ (ddQ qs)) q)) = (srtQ (ddQ qs)).map fr := sortK_map fr (keyQ (lcmQ (ddQ qs))) (ddQ qs)
  have hlen : (srtQ (ddQ qs)).length ≤ 100 := by unfold srtQ; rw [List.length_mergeSort]; exact hA
  have hlt : D.lts m.length ((srtQ (ddQ qs)).map fr) = true := dlts_map fun _ _ => lt_fr
  have hA2 : (ddQ qs).length ≤ 16777216 := by omega
  have hl2 : (srtQ (ddQ qs)).length ≤ 16777216 := by omega
  unfold f_ascending b_ascending
  rw [fnD1]
  rcases hd with rfl | rfl
  · simp [dl, lt, hlk, Function.comp_def, hmp, hk, hso, hA2, hl2, hlt]
  · simp [dl, lt, hlk, Function.comp_def, hmp, hk, hso, hA2, hl2, hlt]
/-! its order -/
theorem srt_mem {A : List Rat} {x : Rat} : x ∈ srtQ A ↔ x ∈ A := (List.mergeSort_perm _ _).mem_iff
theorem eq_of_cross {a b : Rat} (h : a.num * b.den = b.num * a.den) : a = b := by
  have := (Rat.divInt_eq_divInt_iff (den_nz a) (den_nz b)).mpr h
  rwa [Rat.num_divInt_den, Rat.num_divInt_den] at this
theorem key_lt {A : List Rat} {a b : Rat} (ha : a ∈ A) (hb : b ∈ A) (hn : a ≠ b) (h : keyQ (lcmQ A) a ≤ keyQ (lcmQ A) b) : a.num * b.den < b.num * a.den := by
  obtain ⟨_, hd⟩ := lcm_fold_dvd A 1
  have hp := lcm_fold_pos A 1 (by decide)
  obtain ⟨u, hu⟩ := hd a ha
  obtain ⟨v, hv⟩ := hd b hb
  have pa := den_pos a
  have pb := den_pos b
  unfold keyQ at h
  have eu : ((lcmQ A : Nat) : Int).fdiv a.den = u := by
    have : lcmQ A = a.den * u := hu
    rw [this, Int.natCast_mul]
    exact Int.mul_fdiv_cancel_left _ (by omega)
  have ev : ((lcmQ A : Nat) : Int).fdiv b.den = v := by
    have : lcmQ A = b.den * v := hv
    rw [this, Int.natCast_mul]
    exact Int.mul_fdiv_cancel_left _ (by omega)
  rw [eu, ev] at h
  have hW : (0 : Int) < (lcmQ A : Nat) := by have : 0 < lcmQ A := hp; omega
  have wu : ((lcmQ A : Nat) : Int) = a.den * u := by have : lcmQ A = a.den * u := hu; rw [this, Int.natCast_mul]
  have wv : ((lcmQ A : Nat) : Int) = b.den * v := by have : lcmQ A = b.den * v := hv; rw [this, Int.natCast_mul]
  have h2 : (a.num * u) * ((a.den : Int) * b.den) ≤ (b.num * v) * ((a.den : Int) * b.den) := Int.mul_le_mul_of_nonneg_right h (Int.le_of_lt (Int.mul_pos pa pb))
  have e1 : (a.num * u) * ((a.den : Int) * b.den) = (a.num * b.den) * (lcmQ A : Nat) := by rw [wu]; ac_rfl
  have e2 : (b.num * v) * ((a.den : Int) * b.den) = (b.num * a.den) * (lcmQ A : Nat) := by rw [wv]; ac_rfl
  rw [e1, e2] at h2
  have h3 := Int.le_of_mul_le_mul_right h2 hW
  rcases Int.lt_or_eq_of_le h3 with h4 | h4
  · exact h4
  · exact absurd (eq_of_cross h4) hn
theorem srt_lt {A : List Rat} (h : A.Nodup) : (srtQ A).Pairwise fun (a b : Rat) => a.num * (b.den : Int) < b.num * (a.den : Int) := by
  have h1 : (srtQ A).Pairwise fun a b => decide (keyQ (lcmQ A) a ≤ keyQ (lcmQ A) b) = true := List.pairwise_mergeSort (fun a b c => by simp; omega) (fun a b => by simp; omega) A
  have h2 : (srtQ A).Nodup := (List.mergeSort_perm A _).nodup_iff.mpr h
  have h3 : (srtQ A).Pairwise fun a b => (decide (keyQ (lcmQ A) a ≤ keyQ (lcmQ A) b) = true) ∧ a ≠ b := List.Pairwise.and h1 h2
  exact h3.imp_of_mem fun ha hb ⟨h4, h5⟩ => key_lt (srt_mem.mp ha) (srt_mem.mp hb) h5 (of_decide_eq_true h4)
theorem pair_zip {R : Rat → Rat → Prop} : ∀ {xs : List Rat}, xs.Pairwise R → ∀ p ∈ xs.zip (xs.drop 1), R p.1 p.2
  | [], _, p, hp => by simp at hp
  | [x], _, p, hp => by simp at hp
  | x :: y :: r, h, p, hp => by
    have h' := List.pairwise_cons.mp h
    simp only [List.drop_succ_cons, List.drop_zero, List.zip_cons_cons, List.mem_cons] at hp
    rcases hp with rfl | hp
    · exact h'.1 y (by simp)
    · exact pair_zip (xs := y :: r) h'.2 p (by simpa using hp)
end P_k01
namespace P_k01
open PySem L2 PySem.Spec PyProof.Rows LN

variable {m : Mem}
/-! ### the mean -/
def totQ (qs : List Rat) : Rat := qs.foldl (fun s q => s + q) 0
def mulD (w : Int) (q : Rat) : Int := w * (q.den : Int)
def prdQ (qs : List Rat) : Int := qs.foldl mulD 1
def meanQ (qs : List Rat) : Rat := Rat.divInt (totQ qs).num ((totQ qs).den * qs.length)
def sumQ (L : Int) (qs : List Rat) : Int := (qs.map fun q => q.num * L.fdiv q.den).sum
theorem tot_sz : ∀ (qs : List Rat) (s : Rat) (n : Nat), Sz n s → (∀ q ∈ qs, Sz 70 q) → Sz (n + 71 * qs.length) (qs.foldl (fun s q => s + q) s)
  | [], s, n, h, _ => h
  | q :: qs, s, n, h, hs => by
    have := tot_sz qs (s + q) (n + 71) (Sz.add h (hs q (by simp))) fun x hx => hs x (by simp [hx])
    simp only [List.foldl_cons, List.length_cons]
    rw [show n + 71 * (qs.length + 1) = n + 71 + 71 * qs.length by omega]
    exact this
theorem mean_loop {v : D} : ∀ (qs : List Rat) (s : Rat) (n : Nat) (z : Option D), Sz n s → n + 71 * qs.length ≤ 7000 → (∀ q ∈ qs, Sz 70 q) →
    ∃ z', forD (fun _ => True) (gN 2) w_mean_of_1 (qs.map fr) [some v, some (fr s), z] m = .ok (.nx [some v, some (fr (qs.foldl (fun s q => s + q) s)), z']) m
  | [], s, n, z, _, _, _ => ⟨z, forD_nil trivial⟩
  | q :: qs, s, n, z, h, hn, hs => by
    simp only [List.length_cons] at hn
    have sq := hs q (by simp)
    obtain ⟨z', hz⟩ := mean_loop qs (s + q) (n + 71) (some (fr q)) (Sz.add h sq) (by omega) fun x hx => hs x (by simp [hx])
    have f1 := plus_run (m := m) h sq (by omega)
    refine ⟨z', ?_⟩
    rw [List.map_cons, forD_step (ρ1 := [some v, some (fr s), some (fr q)]) (ρ2 := [some v, some (fr (s + q)), some (fr q)]) (m1 := m) (m2 := m) trivial (by simp) (by simp [f1]), hz]
    rfl
theorem mean_run {qs : List Rat} {d : D} (hd : d = .lst (qs.map fr) ∨ d = .tup (qs.map fr)) (hl : qs.length ≤ 50) (h0 : qs ≠ []) (hs : ∀ q ∈ qs, Sz 70 q) : f_mean_of [d] m = .ok (fr (meanQ qs)) m := by
  have hp : 0 < qs.length := List.length_pos_iff.mpr h0
  obtain ⟨z', hz⟩ := mean_loop (m := m ++ [[]]) (v := d) qs 0 1 none (Sz0) (by omega) hs
  have sz : Sz (1 + 71 * qs.length) (totQ qs) := tot_sz qs 0 1 Sz0 hs
  have hn : ((qs.length : Int)).natAbs < 2 ^ 40 := by omega
  have hden := den_nz (totQ qs)
  have m1 : mulOk (totQ qs).den qs.length = true := mulOk_of (a := 1 + 71 * qs.length) (b := 40) (by simpa using sz.2) hn (by omega)
  have f1 := fraction_run (m := m ++ [[]]) (p := (totQ qs).num) (q := (totQ qs).den * qs.length) (Int.mul_ne_zero hden (by omega)) (powmono (powb_int (a := 1 + 71 * qs.length) (b := 40) (by simpa using sz.2) hn) (by omega))
  have hz : forD (fun _ => True) (gN 2) w_mean_of_1 (qs.map fr) [some d, some (fr 0), none] (m ++ [[]]) = .ok (.nx [some d, some (fr (totQ qs)), z']) (m ++ [[]]) := hz
  have hl0 : ¬ qs = [] := h0
  have hl1 : ¬ (qs.length : Int) = 0 := by omega
  unfold f_mean_of b_mean_of
  rw [fnD1]
  rcases hd with rfl | rfl
  · simp [hl0, hl1, hz, m1, f1, meanQ]
  · simp [hl0, hl1, hz, m1, f1, meanQ]
theorem mean_bad {d : D} (hd : d = .lst [] ∨ d = .tup []) : f_mean_of [d] m = .err (bad (.tup [])) m := by
  unfold f_mean_of b_mean_of bad
  rw [fnD1]
  rcases hd with rfl | rfl
  · simp
  · simp
/-! ### by whole numbers -/
theorem prd_dvd : ∀ (qs : List Rat) (w : Int), w ∣ qs.foldl mulD w ∧ ∀ q ∈ qs, (q.den : Int) ∣ qs.foldl mulD w
  | [], w => ⟨Int.dvd_refl _, by simp⟩
  | a :: qs, w => by
    obtain ⟨h1, h2⟩ := prd_dvd qs (w * a.den)
    refine ⟨Int.dvd_trans ⟨a.den, rfl⟩ h1, fun q hq => ?_⟩
    rcases List.mem_cons.mp hq with rfl | hq
    · exact Int.dvd_trans ⟨w, Int.mul_comm _ _⟩ h1
    · exact h2 q hq
theorem prd_nz : ∀ (qs : List Rat) (w : Int), w ≠ 0 → qs.foldl mulD w ≠ 0
  | [], w, h => h
  | a :: qs, w, h => prd_nz qs _ (Int.mul_ne_zero h (den_nz a))
theorem prd_small : ∀ (qs : List Rat) (w : Int) (k : Nat), w.natAbs < 2 ^ k → (∀ q ∈ qs, Sz 70 q) → (qs.foldl mulD w).natAbs < 2 ^ (k + 70 * qs.length)
  | [], w, k, h, _ => h
  | a :: qs, w, k, h, hs => by
    have := prd_small qs (w * a.den) (k + 70) (powb_int (b := 70) h (by simpa using (hs a (by simp)).2)) fun q hq => hs q (by simp [hq])
    simp only [List.foldl_cons, List.length_cons]
    rw [show k + 70 * (qs.length + 1) = k + 70 + 70 * qs.length by omega]
    exact this
/-- a sum of fractions by a number that all denominators divide -/
theorem tot_cross {L : Int} : ∀ (qs : List Rat) (s : Rat) (S : Int), (∀ q ∈ qs, (q.den : Int) ∣ L) → s.num * L = S * s.den → (qs.foldl (fun s q => s + q) s).num * L = (S + sumQ L qs) * (qs.foldl (fun s q => s + q) s).den
  | [], s, S, _, h => by simpa [sumQ] using h
  | q :: qs, s, S, hd, h => by
    have ih := tot_cross (L := L) qs (s + q) (S + q.num * L.fdiv q.den) (fun x hx => hd x (by simp [hx])) (by
      have e : Rat.divInt (s + q).num (s + q).den = Rat.divInt (s.num * q.den + q.num * s.den) (s.den * q.den) := by rw [Rat.num_divInt_den, add_parts]
      have hc := (Rat.divInt_eq_divInt_iff (den_nz (s + q)) (Int.mul_ne_zero (den_nz s) (den_nz q))).mp e
      obtain ⟨u, hu⟩ := hd q (by simp)
      have eu : L.fdiv q.den = u := by rw [hu]; exact Int.mul_fdiv_cancel_left _ (den_nz q)
      rw [eu]
      generalize (s + q).num = A at *
      generalize (((s + q).den : Nat) : Int) = B at *
      have k0 : ((s.den : Int) * q.den) ≠ 0 := Int.mul_ne_zero (den_nz s) (den_nz q)
      refine Int.eq_of_mul_eq_mul_right k0 ?_
      have e1 : A * L * ((s.den : Int) * q.den) = A * ((s.den : Int) * q.den) * L := by ac_rfl
      have e2 : (s.num * q.den + q.num * s.den) * B * L = ((s.num * L) * q.den + (q.num * s.den) * L) * B := by
        rw [Int.add_mul, Int.add_mul, Int.add_mul]; congr 1 <;> ac_rfl
      have e3 : (S + q.num * u) * B * ((s.den : Int) * q.den) = ((S * s.den) * q.den + (q.num * s.den) * (q.den * u)) * B := by
        rw [Int.add_mul, Int.add_mul, Int.add_mul]; congr 1 <;> ac_rfl
      rw [e1, hc, e2, e3, h, hu])
    simp only [List.foldl_cons]
    rw [ih]
    simp only [sumQ, List.map_cons, List.sum_cons]
    rw [Int.add_assoc]
theorem mean_exact {qs : List Rat} (h0 : qs ≠ []) : meanQ qs = Rat.divInt (sumQ (prdQ qs) qs) (prdQ qs * qs.length) := by
  have hp : 0 < qs.length := List.length_pos_iff.mpr h0
  have hL : prdQ qs ≠ 0 := prd_nz qs 1 (by decide)
  have hc := tot_cross (L := prdQ qs) qs 0 0 (prd_dvd qs 1).2 (by simp)
  rw [Int.zero_add] at hc
  have hc : (totQ qs).num * prdQ qs = sumQ (prdQ qs) qs * (totQ qs).den := hc
  unfold meanQ
  refine (Rat.divInt_eq_divInt_iff (Int.mul_ne_zero (den_nz _) (by omega)) (Int.mul_ne_zero hL (by omega))).mpr ?_
  rw [← Int.mul_assoc, hc]
  ac_rfl
end P_k01
namespace P_k01
open PySem L2 PySem.Spec PyProof.Rows LN

variable {os : List MO} {R : List (List MO)}
abbrev r0 : Lc := [some (.loc 0 0), none, none, none, none, none, none, none, none, none, none]
theorem pool_comp {B n : Nat} {o : MO} (h : BagOk (B + 10 * n) o) : ∃ (r : List Rat) (o' : MO), lcD (fun _ => True) (gN 9) tAll e_law_listed_1 ((List.range n).map fun (k : Nat) => D.int (k : Int)) r0 ((o :: os) :: R) = .ok (r.map fr) ((o' :: os) :: R) ∧ BagOk B o' ∧ r.length = n ∧ ∀ q ∈ r, Sz 70 q := by
  obtain ⟨zs, m', e1, o1, r, rfl, h1, e2, h2, h3⟩ := lcD_ind (ck := fun _ => True) (g := gN 9) (t := tAll) (f := e_law_listed_1) (fun (k : Nat) => D.int (k : Int)) (ρ := r0)
    (fun ks zs m => ∃ (o : MO) (r : List Rat), m = (o :: os) :: R ∧ BagOk (B + 10 * ks.length) o ∧ zs = r.map fr ∧ r.length + ks.length = n ∧ ∀ q ∈ r, Sz 70 q) (List.range n) [] ((o :: os) :: R) ⟨o, [], rfl, by simpa using h, rfl, by simp, by simp⟩ (fun _ _ _ _ => trivial) (by
      rintro k ks zs m ⟨o, r, rfl, i1, rfl, i2, i3⟩
      rw [List.length_cons] at i1 i2
      obtain ⟨q, o', e, hb, hq⟩ := some_run (B := B + 10 * ks.length) (i1.mono (by omega))
      have e := fun os rest => e os rest
      refine ⟨_, _, fr q, (o' :: os) :: R, rfl, rfl, by simp -implicitDefEqProofs [e], o', r ++ [q], rfl, hb, by simp, by simp; omega, fun x hx => ?_⟩
      rcases List.mem_append.mp hx with hx | hx
      · exact i3 x hx
      · simp at hx; subst hx; exact hq)
  rw [List.nil_append] at e2
  subst e2
  exact ⟨r, o1, e1, h1.mono (by simp), by simpa using h2, h3⟩
theorem some_comp {B n : Nat} {o : MO} {pool : List Rat} (h : BagOk (B + n) o) (hp : pool ≠ []) (hpl : pool.length ≤ 100) : ∃ (r : List Rat) (o' : MO), lcD (fun _ => True) (gN 9) tAll e_law_listed_2 ((List.range n).map fun (k : Nat) => D.int (k : Int)) [some (.loc 0 0), some (.lst (pool.map fr)), none, none, none, none, none, none, none, none, none] ((o :: os) :: R) = .ok (r.map fr) ((o' :: os) :: R) ∧ BagOk B o' ∧ r.length = n ∧ ∀ q ∈ r, q ∈ pool := by
  have hp0 : 0 < pool.length := List.length_pos_iff.mpr hp
  obtain ⟨zs, m', e1, o1, r, rfl, h1, e2, h2, h3⟩ := lcD_ind (ck := fun _ => True) (g := gN 9) (t := tAll) (f := e_law_listed_2) (fun (k : Nat) => D.int (k : Int)) (ρ := [some (.loc 0 0), some (.lst (pool.map fr)), none, none, none, none, none, none, none, none, none])
    (fun ks zs m => ∃ (o : MO) (r : List Rat), m = (o :: os) :: R ∧ BagOk (B + ks.length) o ∧ zs = r.map fr ∧ r.length + ks.length = n ∧ ∀ q ∈ r, q ∈ pool) (List.range n) [] ((o :: os) :: R) ⟨o, [], rfl, by simpa using h, rfl, by simp, by simp⟩ (fun _ _ _ _ => trivial) (by
      rintro k ks zs m ⟨o, r, rfl, i1, rfl, i2, i3⟩
      rw [List.length_cons] at i1 i2
      obtain ⟨x, o', hx, e, hb⟩ := of_run (B := B + ks.length) (o := o) (pool.map fr) (i1.mono (by omega)) (by simpa using hp0) (by simp; omega) (fun x hx => by
        obtain ⟨q, _, rfl⟩ := List.mem_map.mp hx
        exact lt_fr)
      obtain ⟨q, hq, rfl⟩ := List.mem_map.mp hx
      have e := fun os rest => e os rest
      refine ⟨_, _, fr q, (o' :: os) :: R, rfl, rfl, by simp -implicitDefEqProofs [e], o', r ++ [q], rfl, hb, by simp, by simp; omega, fun x hx => ?_⟩
      rcases List.mem_append.mp hx with hx | hx
      · exact i3 x hx
      · simp at hx; subst hx; exact hq)
  rw [List.nil_append] at e2
  subst e2
  exact ⟨r, o1, e1, h1.mono (by simp), by simpa using h2, h3⟩
theorem lst_q1 {B : Nat} {o : MO} (h : BagOk (B + 73) o) : ∃ (pool : List Rat) (o' : MO), q_law_listed_1 r0 ((o :: os) :: R) = .ok (.nx [some (.loc 0 0), some (.lst (pool.map fr)), none, none, none, none, none, none, none, none, none]) ((o' :: os) :: R) ∧ BagOk B o' ∧ pool ≠ [] ∧ pool.length ≤ 7 ∧ ∀ q ∈ pool, Sz 70 q := by
  obtain ⟨n, o1, d1, b1, l1⟩ := draw_run (B := B + 72) 6 h
  obtain ⟨r, o2, e1, b2, l2, s2⟩ := pool_comp (B := B + 2) (n := 1 + n) (os := os) (R := R) (b1.mono (by omega))
  obtain ⟨a, o3, d3, b3, l3⟩ := draw_run (B := B + 1) 9 b2
  obtain ⟨b, o4, d4, b4, l4⟩ := draw_run (B := B) 6 b3
  have d1 := fun os rest => d1 os rest
  have d3 := fun os rest => d3 os rest
  have d4 := fun os rest => d4 os rest
  simp at d1 d3 d4
  have hq : (1 + (b : Int)) ≠ 0 := by omega
  have f1 := fun mm => low_run (m := mm) (p := (a : Int) - 4) hq (powmono (a := 70) (by omega) (by omega))
  have sq : Sz 70 (Rat.divInt ((a : Int) - 4) (1 + (b : Int))) := szDiv (by unfold SmI; omega) (by unfold SmI; omega) hq
  have gr : rngOk (1 + (n : Int)) = true := rngOk_of (by omega) (by omega)
  have hN : (1 + (n : Int)).toNat = 1 + n := by omega
  have hrl : r.length ≤ 16777216 := by omega
  have hrl2 : r.length + 1 ≤ 16777216 := by omega
  refine ⟨r ++ [Rat.divInt ((a : Int) - 4) (1 + (b : Int))], o4, ?_, b4, by simp, by simp; omega, fun q hq => ?_⟩
  · simp -implicitDefEqProofs [d1, d3, d4, gr, hN, e1, f1, hrl, hrl2]
  · rcases List.mem_append.mp hq with hq | hq
    · exact s2 q hq
    · simp at hq; subst hq; exact sq
theorem lst_q2 {B : Nat} {o : MO} {pool : List Rat} (h : BagOk (B + 10) o) (hp : pool ≠ []) (hpl : pool.length ≤ 100) : ∃ (qs : List Rat) (o' : MO), q_law_listed_2 [some (.loc 0 0), some (.lst (pool.map fr)), none, none, none, none, none, none, none, none, none] ((o :: os) :: R) = .ok (.nx [some (.loc 0 0), some (.lst (pool.map fr)), some (.lst (qs.map fr)), none, none, none, none, none, none, none, none]) ((o' :: os) :: R) ∧ BagOk B o' ∧ qs.length ≤ 9 ∧ ∀ q ∈ qs, q ∈ pool := by
  obtain ⟨n, o1, d1, b1, l1⟩ := draw_run (B := B + 9) 10 h
  obtain ⟨r, o2, e1, b2, l2, s2⟩ := some_comp (B := B) (n := n) (os := os) (R := R) (b1.mono (by omega)) hp hpl
  have d1 := fun os rest => d1 os rest
  simp at d1
  have gr : rngOk (n : Int) = true := rngOk_of (by omega) (by omega)
  have hrl : r.length ≤ 16777216 := by omega
  refine ⟨r, o2, ?_, b2, by omega, s2⟩
  simp -implicitDefEqProofs [d1, gr, e1, hrl]
theorem lst_q34 {B : Nat} {o : MO} {pool qs : List Rat} (h : BagOk (B + 1) o) (hl : qs.length ≤ 9) : ∃ (d : D) (o' : MO), kS q_law_listed_4 (q_law_listed_3 [some (.loc 0 0), some (.lst (pool.map fr)), some (.lst (qs.map fr)), none, none, none, none, none, none, none, none] ((o :: os) :: R)) = .ok (.nx [some (.loc 0 0), some (.lst (pool.map fr)), some (.lst (qs.map fr)), some d, none, none, none, none, none, none, none]) ((o' :: os) :: R) ∧ BagOk B o' ∧ (d = .lst (qs.map fr) ∨ d = .tup (qs.map fr)) := by
  obtain ⟨n, o1, d1, b1, l1⟩ := draw_run (B := B) 2 h
  have d1 := fun os rest => d1 os rest
  simp at d1
  have hrl : qs.length ≤ 16777216 := by omega
  by_cases hn : n = 0
  · subst hn
    refine ⟨.tup (qs.map fr), o1, ?_, b1, .inr rfl⟩
    simp -implicitDefEqProofs [d1, hrl]
  · have h1 : ¬ (n : Int) = 0 := by omega
    refine ⟨.lst (qs.map fr), o1, ?_, b1, .inl rfl⟩
    simp -implicitDefEqProofs [d1, hrl, hn]
end P_k01
namespace P_k01
open PySem L2 PySem.Spec PyProof.Rows LN

variable {m : Mem}
theorem plDs_fr {qs : List Rat} {k : Nat} (hk : 2 ≤ k := by omega) : plDs k (qs.map fr) = true := plDs_map fun q _ => by
  obtain ⟨j, rfl⟩ : ∃ j, k = j + 2 := ⟨k - 2, by omega⟩
  simp [fr]
theorem in_lst {qs : List Rat} {x : Rat} (h : x ∈ qs) : gInB false (fr x) (.lst (qs.map fr)) m = .ok (.bl true) m := by
  rw [gInB_lst, gIn_rd (xs := qs.map fr) rfl pl_fr plDs_fr]
  have : fr x ∈ qs.map fr := List.mem_map.mpr ⟨x, h, rfl⟩
  simp [this]
theorem in_tup {qs : List Rat} {x : Rat} (h : x ∈ qs) : gInB false (fr x) (.tup (qs.map fr)) m = .ok (.bl true) m := by
  have hp : plDs 59 (qs.map fr) = true := plDs_fr
  obtain ⟨e, h1⟩ := plD_py (pl_fr (x := x))
  have h'' : plD 60 (.tup (qs.map fr)) = true := by simpa using hp
  obtain ⟨e', h1'⟩ := plD_py h''
  have hq := h1'.py
  simp only [py] at hq
  split at hq
  case h_2 => cases hq
  rename_i es hes
  cases hq
  rw [gInB_tup]
  unfold gInP
  rw [toPy_pl pl_fr, toPy_pl h'', h1.py, h1'.py]
  dsimp only
  rw [if_pos ⟨shaped_of h1 (by omega), shaped_of h1' (by omega)⟩]
  have hm : fr x ∈ qs.map fr := List.mem_map.mpr ⟨x, h, rfl⟩
  have := (pys_mem hp hes pl_fr h1.py).mpr hm
  rw [this]
  rfl
theorem all_true {α : Type} (l : List α) : bAll [.lst (l.map fun _ => .bl true)] m = .ok (.bl true) m := by
  have := bAll_map (l := l) (h := fun _ => true) (m := m)
  have e : (l.all fun _ => true) = true := by rw [List.all_eq_true]; intros; rfl
  rw [e] at this
  exact this
section
variable {b0 p d t z6 z7 z8 z9 : Option D} {qs S : List Rat}
theorem c4 (hS : ∀ x ∈ S, x ∈ qs) : lcD (fun _ => True) (gN 8) tAll e_law_listed_4 (S.map fr) [b0, p, some (.lst (qs.map fr)), d, t, z6, z7, z8, none, z9, none] m = .ok (S.map fun _ => .bl true) m :=
  lcD_map fr (fun _ => .bl true) S trivial fun x hx => ⟨[b0, p, some (.lst (qs.map fr)), d, t, z6, z7, z8, some (fr x), z9, none], by simp, by simp, by
    have := in_lst (m := m) (hS x hx)
    simp [-gInB_lst, this]⟩
theorem c3 (hS : ∀ x ∈ qs, x ∈ S) : lcD (fun _ => True) (gN 8) tAll e_law_listed_3 (qs.map fr) [b0, p, some (.lst (qs.map fr)), d, t, some (.tup (S.map fr)), z7, z8, none, z9, none] m = .ok (qs.map fun _ => .bl true) m :=
  lcD_map fr (fun _ => .bl true) qs trivial fun x hx => ⟨[b0, p, some (.lst (qs.map fr)), d, t, some (.tup (S.map fr)), z7, z8, some (fr x), z9, none], by simp, by simp, by
    have := in_tup (m := m) (hS x hx)
    simp [-gInB_tup, this]⟩
theorem c5 (hS : ∀ q ∈ S, Sz 70 q) (hp : S.Pairwise fun (a b : Rat) => a.num * (b.den : Int) < b.num * (a.den : Int)) : lcD (fun _ => True ∧ True) (gT (gsCons (gN 8) (gsCons (gN 10) gsNil))) tAll e_law_listed_5 ((S.zip (S.drop 1)).map fun p => .tup [fr p.1, fr p.2]) [b0, p, some (.lst (qs.map fr)), d, t, z6, z7, z8, none, z9, none] m = .ok ((S.zip (S.drop 1)).map fun _ => .bl true) m :=
  lcD_map (fun p : Rat × Rat => D.tup [fr p.1, fr p.2]) (fun _ => .bl true) (S.zip (S.drop 1)) ⟨trivial, trivial⟩ fun x hx => ⟨[b0, p, some (.lst (qs.map fr)), d, t, z6, z7, z8, some (fr x.1), z9, some (fr x.2)], by simp, by simp, by
    have hm := List.of_mem_zip hx
    have := order_run (m := m) (hS _ hm.1) (hS _ (List.mem_of_mem_drop hm.2)) (by omega) (pair_zip hp x hx)
    simp [this]⟩
theorem prd_loop : ∀ (xs : List Rat) (w : Int) (k : Nat) (z8 : Option D), w.natAbs < 2 ^ k → k + 70 * xs.length ≤ 5000 → (∀ q ∈ xs, Sz 70 q) →
    ∃ z', forD (fun _ => True) (gN 8) w_law_listed_6 (xs.map fr) [b0, p, some (.lst (qs.map fr)), d, t, z6, z7, some (.int w), z8, z9, none] m = .ok (.nx [b0, p, some (.lst (qs.map fr)), d, t, z6, z7, some (.int (xs.foldl mulD w)), z', z9, none]) m
  | [], w, k, z8, _, _, _ => ⟨z8, forD_nil trivial⟩
  | a :: xs, w, k, z8, hw, hk, hs => by
    have ha := (hs a (by simp)).2
    simp only [List.length_cons] at hk
    have m1 : mulOk w a.den = true := mulOk_of (b := 70) hw (by simpa using ha) (by omega)
    obtain ⟨z', hz⟩ := prd_loop xs (w * a.den) (k + 70) (some (fr a)) (powb_int (b := 70) hw (by simpa using ha)) (by omega) fun q hq => hs q (by simp [hq])
    refine ⟨z', ?_⟩
    rw [List.map_cons, forD_step (ρ1 := [b0, p, some (.lst (qs.map fr)), d, t, z6, z7, some (.int w), some (fr a), z9, none]) (ρ2 := [b0, p, some (.lst (qs.map fr)), d, t, z6, z7, some (.int (w * a.den)), some (fr a), z9, none]) (m1 := m) (m2 := m) trivial (by simp) (by simp [m1]), hz]
    rfl
theorem c7 {L : Int} (hL : L.natAbs < 2 ^ 1000) (hs : ∀ q ∈ qs, Sz 70 q) : lcD (fun _ => True) (gN 8) tAll e_law_listed_7 (qs.map fr) [b0, p, some (.lst (qs.map fr)), d, t, z6, z7, some (.int L), none, z9, none] m = .ok (qs.map fun q => .int (q.num * L.fdiv q.den)) m :=
  lcD_map fr (fun q => .int (q.num * L.fdiv q.den)) qs trivial fun x hx => ⟨[b0, p, some (.lst (qs.map fr)), d, t, z6, z7, some (.int L), some (fr x), z9, none], by simp, by simp, by
    have sx := hs x hx
    have dd : divOk (x.den : Int) = true := divOk_of (n := 70) (den_nz x) (by simpa using sx.2) (by omega)
    have hle : (L.fdiv x.den).natAbs < 2 ^ 1001 := by
      have hd : (1 : Int) ≤ x.den := by have := x.den_nz; omega
      have h1 := Int.mul_fdiv_add_fmod L x.den
      have h2 := Int.fmod_nonneg_of_pos L (show (0 : Int) < x.den by omega)
      have h3 := Int.fmod_lt_of_pos L (show (0 : Int) < x.den by omega)
      have hb : (x.den : Int).natAbs < 2 ^ 70 := by simpa using sx.2
      generalize ((x.den : Nat) : Int) = v at *
      generalize L.fdiv v = y at *
      have hy : y.natAbs ≤ L.natAbs + v.natAbs := by
        have h4 : (v * y).natAbs = v.natAbs * y.natAbs := Int.natAbs_mul _ _
        have h5 : y.natAbs ≤ v.natAbs * y.natAbs := Nat.le_mul_of_pos_left _ (by omega)
        omega
      have e : (2 : Nat) ^ 1001 = 2 ^ 1000 + 2 ^ 1000 := by rw [Nat.pow_succ]; omega
      have e2 : (2 : Nat) ^ 70 ≤ 2 ^ 1000 := Nat.pow_le_pow_right (by omega) (by omega)
      omega
    have m1 : mulOk x.num (L.fdiv x.den) = true := mulOk_of sx.1 hle (by omega)
    simp [dd, m1]⟩
end
end P_k01
namespace P_k01
open PySem L2 PySem.Spec PyProof.Rows LN

variable {m : Mem}
theorem zip_fr (S : List Rat) : (S.map fr).zip ((S.map fr).drop 1) = (S.zip (S.drop 1)).map fun p => (fr p.1, fr p.2) := by
  rw [← List.map_drop, List.zip_map]
  rfl
theorem bad_like : f_law_like [.lst [.str "BadValue", .tup []], .lst [.str "BadValue", .tup []]] m = .ok (.bl true) m := like_bad (by simp [lkD, lkDs])
theorem sum_ints {ns : List Int} : bSum [.lst (ns.map .int)] m = .ok (.int ns.sum) m := bSum_ints rfl (dInts_map ns)
theorem lst_inj {xs ys : List Rat} : D.lst (xs.map fr) = D.lst (ys.map fr) ↔ xs = ys := by
  constructor
  · intro h
    injection h with h
    induction xs generalizing ys with
    | nil =>
      cases ys with
      | nil => rfl
      | cons y ys => cases h
    | cons x xs ih =>
      cases ys with
      | nil => cases h
      | cons y ys =>
        simp only [List.map_cons, List.cons.injEq] at h
        rw [fr_inj.mp h.1, ih h.2]
  · rintro rfl; rfl
theorem eq_lst {xs ys : List Rat} {neg : Bool} : gEqA neg (.lst (xs.map fr)) (.lst (ys.map fr)) m = .ok (.bl (neg ^^ decide (xs = ys))) m := by
  have h : ∀ zs : List Rat, plD 60 (.lst (zs.map fr)) = true := fun zs => by
    have := plDs_fr (qs := zs) (k := 59)
    simpa using this
  rw [gEqA_pl (h xs) (h ys)]
  simp only [lst_inj]
theorem fdiv_small {L : Int} {x : Rat} {k : Nat} (hL : L.natAbs < 2 ^ k) (hk : 70 ≤ k) (sx : Sz 70 x) : (L.fdiv x.den).natAbs < 2 ^ (k + 1) := by
  have hd : (1 : Int) ≤ x.den := by have := x.den_nz; omega
  have h1 := Int.mul_fdiv_add_fmod L x.den
  have h2 := Int.fmod_nonneg_of_pos L (show (0 : Int) < x.den by omega)
  have h3 := Int.fmod_lt_of_pos L (show (0 : Int) < x.den by omega)
  have hb : (x.den : Int).natAbs < 2 ^ 70 := by simpa using sx.2
  generalize ((x.den : Nat) : Int) = v at *
  generalize L.fdiv v = y at *
  have hy : y.natAbs ≤ L.natAbs + v.natAbs := by
    have h4 : (v * y).natAbs = v.natAbs * y.natAbs := Int.natAbs_mul _ _
    have h5 : y.natAbs ≤ v.natAbs * y.natAbs := Nat.le_mul_of_pos_left _ (by omega)
    omega
  have e : (2 : Nat) ^ (k + 1) = 2 ^ k + 2 ^ k := by rw [Nat.pow_succ]; omega
  have e2 : (2 : Nat) ^ 70 ≤ 2 ^ k := Nat.pow_le_pow_right (by omega) hk
  omega
theorem sum_small {k : Nat} : ∀ (ns : List Int), (∀ n ∈ ns, n.natAbs < 2 ^ k) → ns.sum.natAbs < 2 ^ (k + ns.length)
  | [], _ => Nat.two_pow_pos _
  | n :: ns, h => by
    have h1 := h n (by simp)
    have h2 := sum_small (k := k) ns fun x hx => h x (by simp [hx])
    simp only [List.sum_cons, List.length_cons]
    have h3 := powmono h1 (show k ≤ k + ns.length by omega)
    have e : (2 : Nat) ^ (k + (ns.length + 1)) = 2 ^ (k + ns.length) + 2 ^ (k + ns.length) := by rw [← Nat.add_assoc, Nat.pow_succ]; omega
    omega
theorem body_run {b0 p : Option D} {d : D} {i : Int} {qs : List Rat} (hd : d = .lst (qs.map fr) ∨ d = .tup (qs.map fr)) (hl : qs.length ≤ 9) (hs : ∀ q ∈ qs, Sz 70 q) (z5 z6 z7 z8 z9 : Option D) :
    ∃ y5 y6 y7 y8, (w_law_listed_8 [b0, p, some (.lst (qs.map fr)), some d, some (.int i), z5, z6, z7, z8, z9, none] m = .ok (.nx [b0, p, some (.lst (qs.map fr)), some d, some (.int i), y5, y6, y7, y8, z9, none]) m ∨
      w_law_listed_8 [b0, p, some (.lst (qs.map fr)), some d, some (.int i), z5, z6, z7, z8, z9, none] m = .ok (.ct [b0, p, some (.lst (qs.map fr)), some d, some (.int i), y5, y6, y7, y8, z9, none]) m) := by
  have f1 := fun mm => asc_run (m := mm) hd (by omega) hs
  generalize hS : srtQ (ddQ qs) = S at f1
  have s1 : ∀ x ∈ S, x ∈ qs := fun x hx => ddQ_mem.mp (srt_mem.mp (by rw [hS]; exact hx))
  have s2 : ∀ x ∈ qs, x ∈ S := fun x hx => by rw [← hS]; exact srt_mem.mpr (ddQ_mem.mpr hx)
  have s3 : ∀ q ∈ S, Sz 70 q := fun q hq => hs q (s1 q hq)
  have s4 : S.Pairwise fun (a b : Rat) => a.num * (b.den : Int) < b.num * (a.den : Int) := by rw [← hS]; exact srt_lt (fold_nodup qs [] (by simp))
  have sl : S.length ≤ 9 := by
    have h1 := fold_len qs []
    rw [← hS]
    unfold srtQ ddQ
    rw [List.length_mergeSort]
    simp at h1
    omega
  have g1 : S.length ≤ 16777216 := by omega
  have g2 : qs.length ≤ 16777216 := by omega
  have g5 : S.length ≤ 16777217 := by omega
  have g3 : (S.zip (S.drop 1)).length ≤ 16777216 := by simp; omega
  have g4 : (S.drop 1).length ≤ 16777216 := by simp; omega
  have cu : cutL (S.map fr) (some 1) none = (S.map fr).drop 1 := cutL_from (k := 1)
  have a4 := fun (u v : Option D) => c4 (m := m) (b0 := b0) (p := p) (d := some d) (t := some (.int i)) (z6 := some (.tup (S.map fr))) (z7 := u) (z8 := v) (z9 := z9) s1
  have a3 := fun (u v : Option D) => c3 (m := m) (b0 := b0) (p := p) (d := some d) (t := some (.int i)) (z7 := u) (z8 := v) (z9 := z9) s2
  have a5 : ∀ u v : Option D, lcD (fun _ => True) (gT (gsCons (gN 8) (gsCons (gN 10) gsNil))) tAll e_law_listed_5 (((S.map fr).zip (List.drop 1 (S.map fr))).map fun p => .tup [p.1, p.2]) [b0, p, some (.lst (qs.map fr)), some d, some (.int i), some (.tup (S.map fr)), u, v, none, z9, none] m = .ok ((S.zip (S.drop 1)).map fun _ => .bl true) m := fun u v => by
    have h5 := c5 (m := m) (b0 := b0) (p := p) (d := some d) (t := some (.int i)) (z6 := some (.tup (S.map fr))) (z7 := u) (z8 := v) (z9 := z9) (qs := qs) s3 s4
    simp only [and_self] at h5
    rw [zip_fr, List.map_map]
    exact h5
  have t1 := fun mm => all_true (m := mm) S
  have t2 := fun mm => all_true (m := mm) qs
  have t3 := fun mm => all_true (m := mm) (S.zip (S.drop 1))
  have eqn : ∀ mm : Mem, gEqA false (.lst (qs.map fr)) (.lst []) mm = .ok (.bl (decide (qs = []))) mm := fun mm => by
    have := eq_lst (m := mm) (xs := qs) (ys := []) (neg := false)
    simpa using this
  by_cases h0 : qs = []
  · have f2 : ∀ mm : Mem, f_mean_of [d] mm = .err (bad (.tup [])) mm := fun mm => mean_bad (by
      subst h0
      exact hd)
    have l1 := fun mm => bad_like (m := mm)
    have eqt : ∀ mm : Mem, gEqA false (.lst (qs.map fr)) (.lst []) mm = .ok (.bl true) mm := fun mm => by rw [eqn]; simp [h0]
    refine ⟨some (.tup (S.map fr)), some (.lst [.str "BadValue", .tup []]), z7, z8, .inr ?_⟩
    by_cases hi : i = 0
    · simp only [hi] at a3 a4 a5 ⊢
      simp [f1, a4, a3, a5, t1, t2, t3, g1, g2, g3, g5, cu, f2, ask_bad, l1, eqt, -List.drop_one, -List.tail_drop]
    · simp [hi, f1, a4, a3, a5, t1, t2, t3, g1, g2, g3, g5, cu, f2, ask_bad, l1, eqt, g_k8, g_k9, -List.drop_one, -List.tail_drop]
  · have f2 := fun mm => mean_run (m := mm) hd (by omega) h0 hs
    have eqt : ∀ mm : Mem, gEqA false (.lst (qs.map fr)) (.lst []) mm = .ok (.bl false) mm := fun mm => by rw [eqn]; simp [h0]
    have pn : prdQ qs ≠ 0 := prd_nz qs 1 (by decide)
    have ps : (prdQ qs).natAbs < 2 ^ 700 := powmono (prd_small qs 1 1 (by decide) hs) (by omega)
    have a7 := fun (u : Option D) => c7 (m := m) (b0 := b0) (p := p) (d := some d) (t := some (.int i)) (z6 := some (.tup (S.map fr))) (z7 := u) (z9 := z9) (L := prdQ qs) (powmono ps (by omega)) hs
    obtain ⟨y8, ha6⟩ := prd_loop (m := m) (b0 := b0) (p := p) (d := some d) (t := some (.int i)) (z6 := some (.tup (S.map fr))) (z7 := some (.lst [.str "told", fr (meanQ qs)])) (z9 := z9) (qs := qs) qs 1 1 z8 (by decide) (by omega) hs
    have ha6 : forD (fun _ => True) (gN 8) w_law_listed_6 (qs.map fr) [b0, p, some (.lst (qs.map fr)), some d, some (.int i), some (.tup (S.map fr)), some (.lst [.str "told", fr (meanQ qs)]), some (.int 1), z8, z9, none] m = .ok (.nx [b0, p, some (.lst (qs.map fr)), some d, some (.int i), some (.tup (S.map fr)), some (.lst [.str "told", fr (meanQ qs)]), some (.int (prdQ qs)), y8, z9, none]) m := ha6
    refine ⟨some (.tup (S.map fr)), some (.lst [.str "told", fr (meanQ qs)]), some (.int (prdQ qs)), y8, .inl ?_⟩
    have su : ∀ mm : Mem, bSum [.lst (qs.map fun q => .int (q.num * (prdQ qs).fdiv q.den))] mm = .ok (.int (sumQ (prdQ qs) qs)) mm := fun mm => by
      have := sum_ints (m := mm) (ns := qs.map fun q => q.num * (prdQ qs).fdiv q.den)
      rw [List.map_map] at this
      exact this
    have hlen : (qs.length : Int).natAbs < 2 ^ 10 := by omega
    have hlen0 : (qs.length : Int) ≠ 0 := by
      have := List.length_pos_iff.mpr h0
      omega
    have mq : mulOk (prdQ qs) qs.length = true := mulOk_of ps hlen (by omega)
    have sS : (sumQ (prdQ qs) qs).natAbs < 2 ^ 9000 := by
      have := sum_small (k := 771) (qs.map fun q => q.num * (prdQ qs).fdiv q.den) fun n hn => by
        obtain ⟨q, hq, rfl⟩ := List.mem_map.mp hn
        exact powb_int (a := 70) (b := 701) (hs q hq).1 (fdiv_small ps (by omega) (hs q hq))
      refine powmono this ?_
      rw [List.length_map]; omega
    have sT : Sz (1 + 71 * qs.length) (totQ qs) := tot_sz qs 0 1 Sz0 hs
    have sM : Sz 800 (meanQ qs) := by
      have hn : ((totQ qs).den : Int) * qs.length ≠ 0 := Int.mul_ne_zero (den_nz _) hlen0
      have h1 := divInt_le (p := (totQ qs).num) hn
      have h2 := powb_int (x := (totQ qs).den) (a := 1 + 71 * qs.length) (by simpa using sT.2) hlen
      exact ⟨Nat.lt_of_le_of_lt h1.1 (powmono sT.1 (by omega)), Nat.lt_of_le_of_lt h1.2 (powmono h2 (by omega))⟩
    have e1 := fun mm => exact_run (m := mm) sM (by omega) sS (powmono (powb_int ps hlen) (by omega)) (Int.mul_ne_zero pn hlen0) (mean_exact h0)
    by_cases hi : i = 0
    · simp only [hi] at a3 a4 a5 a7 ha6 ⊢
      simp [f1, a4, a3, a5, t1, t2, t3, g1, g2, g3, g5, cu, f2, eqt, ha6, a7, su, mq, e1, -List.drop_one, -List.tail_drop]
    · simp [hi, f1, a4, a3, a5, t1, t2, t3, g1, g2, g3, g5, cu, f2, eqt, ha6, a7, su, mq, e1, g_k8, g_k9, -List.drop_one, -List.tail_drop]
end P_k01
namespace P_k01
open PySem L2 PySem.Spec PyProof.Rows LN

theorem listed_run {B : Nat} {o : MO} (h : BagOk (B + 84) o) : ∃ o', f_law_listed [.loc 0 0] [[o]] = .ok (.bl true) [[o']] ∧ BagOk B o' := by
  obtain ⟨pool, o1, e1, b1, hp, hpl, sp⟩ := lst_q1 (B := B + 11) (os := []) (R := [[]]) (o := o) (h.mono (by omega))
  obtain ⟨qs, o2, e2, b2, hl, hq⟩ := lst_q2 (B := B + 1) (os := []) (R := [[]]) b1 hp (by omega)
  obtain ⟨d, o3, e3, b3, hd⟩ := lst_q34 (B := B) (os := []) (R := [[]]) (pool := pool) b2 hl
  have hs : ∀ q ∈ qs, Sz 70 q := fun q hx => sp q (hq q hx)
  obtain ⟨y5, y6, y7, y8, t1⟩ := body_run (m := [[o3], []]) (b0 := some (.loc 0 0)) (p := some (.lst (pool.map fr))) (i := 0) hd hl hs none none none none none
  obtain ⟨u5, u6, u7, u8, t2⟩ := body_run (m := [[o3], []]) (b0 := some (.loc 0 0)) (p := some (.lst (pool.map fr))) (i := 1) hd hl hs y5 y6 y7 y8 none
  have lp : forD (fun _ => True) (gN 4) w_law_listed_8 [.int 0, .int 1] [some (.loc 0 0), some (.lst (pool.map fr)), some (.lst (qs.map fr)), some d, none, none, none, none, none, none, none] [[o3], []] = .ok (.nx [some (.loc 0 0), some (.lst (pool.map fr)), some (.lst (qs.map fr)), some d, some (.int 1), u5, u6, u7, u8, none, none]) [[o3], []] := by
    have s1 : forD (fun _ => True) (gN 4) w_law_listed_8 [.int 0, .int 1] [some (.loc 0 0), some (.lst (pool.map fr)), some (.lst (qs.map fr)), some d, none, none, none, none, none, none, none] [[o3], []] = forD (fun _ => True) (gN 4) w_law_listed_8 [.int 1] [some (.loc 0 0), some (.lst (pool.map fr)), some (.lst (qs.map fr)), some d, some (.int 0), y5, y6, y7, y8, none, none] [[o3], []] := by
      rcases t1 with t1 | t1
      · exact forD_step trivial (by simp) t1
      · exact forD_stepC trivial (by simp) t1
    have s2 : forD (fun _ => True) (gN 4) w_law_listed_8 [.int 1] [some (.loc 0 0), some (.lst (pool.map fr)), some (.lst (qs.map fr)), some d, some (.int 0), y5, y6, y7, y8, none, none] [[o3], []] = forD (fun _ => True) (gN 4) w_law_listed_8 [] [some (.loc 0 0), some (.lst (pool.map fr)), some (.lst (qs.map fr)), some d, some (.int 1), u5, u6, u7, u8, none, none] [[o3], []] := by
      rcases t2 with t2 | t2
      · exact forD_step trivial (by simp) t2
      · exact forD_stepC trivial (by simp) t2
    rw [s1, s2, forD_nil trivial]
  have g2 : qs.length ≤ 16777216 := by omega
  have hq6 : bLstA finF [d] [[o3], []] = .ok (.lst (qs.map fr)) [[o3], []] := by
    rcases hd with rfl | rfl
    · simp [g2]
    · simp [g2]
  have eqs := fun mm => eq_lst (m := mm) (xs := qs) (ys := qs) (neg := false)
  have rg : (List.range 2).map (fun (i : Nat) => D.int (i : Int)) = [.int 0, .int 1] := rfl
  have gr : rngOk 2 = true := by decide
  have h5 : q_law_listed_5 [some (.loc 0 0), some (.lst (pool.map fr)), some (.lst (qs.map fr)), some d, none, none, none, none, none, none, none] [[o3], []] = .ok (.nx [some (.loc 0 0), some (.lst (pool.map fr)), some (.lst (qs.map fr)), some d, some (.int 1), u5, u6, u7, u8, none, none]) [[o3], []] := by
    have e : q_law_listed_5 [some (.loc 0 0), some (.lst (pool.map fr)), some (.lst (qs.map fr)), some d, none, none, none, none, none, none, none] [[o3], []] = forD (fun _ => True) (gN 4) w_law_listed_8 ((List.range 2).map fun (i : Nat) => D.int (i : Int)) [some (.loc 0 0), some (.lst (pool.map fr)), some (.lst (qs.map fr)), some d, none, none, none, none, none, none, none] [[o3], []] := by
      rw [q_law_listed_5_run, sFor_run, dRng1_run]
      show ((Rs.ok (D.int 2) _).bind kRng1).bind _ = _
      rw [Rs.bind_ok, kRng1_run, if_pos gr, Rs.bind_ok, kFor_of]
      rfl
    rw [e, rg, lp]
  have h6 : q_law_listed_6 [some (.loc 0 0), some (.lst (pool.map fr)), some (.lst (qs.map fr)), some d, some (.int 1), u5, u6, u7, u8, none, none] [[o3], []] = .ok (.rt (.bl true)) [[o3], []] := by
    have eqq : gEqA false (.lst (qs.map fr)) (.lst (qs.map fr)) [[o3], []] = .ok (.bl true) [[o3], []] := by rw [eqs]; simp
    simp [hq6, eqq]
  refine ⟨o3, ?_, b3⟩
  have main : b_law_listed r0 [[o], []] = .ok (.rt (.bl true)) [[o3], []] := by
    unfold b_law_listed
    rw [sSeq_run, e1, kS_nx, sSeq_run, e2, kS_nx, sSeq_run]
    show kS (sSeq q_law_listed_4 (sSeq q_law_listed_5 q_law_listed_6)) (q_law_listed_3 _ _) = _
    cases h3 : q_law_listed_3 [some (.loc 0 0), some (.lst (pool.map fr)), some (.lst (qs.map fr)), none, none, none, none, none, none, none, none] [[o2], []] with
    | stuck => rw [h3] at e3; cases e3
    | err e mm => rw [h3] at e3; cases e3
    | ok fl mm =>
      rw [h3] at e3
      cases fl with
      | nx ρ =>
        rw [kS_nx] at e3 ⊢
        rw [sSeq_run, e3, kS_nx, sSeq_run, h5, kS_nx, h6]
      | rt x => rw [kS_rt] at e3; cases e3
      | bk x => rw [kS_bk] at e3; cases e3
      | ct x => rw [kS_ct] at e3; cases e3
  unfold f_law_listed
  rw [fnD1]
  show lv 1 (b_law_listed r0 [[o], []]) = _
  rw [main]
  simp
theorem turn_run {B : Nat} {o : MO} {sc z2 z3 z4 : Option D} (h : BagOk (B + 121) o) : ∃ o' y3 y4, w_law_2 [sc, some (.loc 0 0), z2, z3, z4] [[o]] = .ok (.nx [sc, some (.loc 0 0), z2, y3, y4]) [[o']] ∧ BagOk B o' := by
  obtain ⟨o1, d1, b1⟩ := made_run (B := B + 110) h
  obtain ⟨o2, d2, b2⟩ := listed_run (B := B + 26) (b1.mono (by omega))
  obtain ⟨x, y, o3, d3, b3, sx, sy⟩ := pair_run (B := B) b2
  have d1 := d1 [] []
  have d3 := d3 [] []
  have j1 := fun mm w => joined_run (m := mm) (w := w) sx sy
  have j2 := fun mm w => joined_run (m := mm) (w := w) sy sx
  have c1 := fun mm w => compared_run (m := mm) (w := w) sx sy
  have c2 := fun mm w => compared_run (m := mm) (w := w) sy sx
  have gr : rngOk 2 = true := by decide
  have rg : (List.range 2).map (fun (i : Nat) => D.int (i : Int)) = [.int 0, .int 1] := rfl
  have rg2 : List.range 2 = [0, 1] := rfl
  refine ⟨o3, some (.lst [fr x, fr y]), some (.int 1), ?_, b3⟩
  simp -implicitDefEqProofs [w_law_2, d1, d2, d3, gr, rg2, j1, j2, c1, c2]
theorem law_run (xs : List Int) : ∃ m : Mem, f_law [.scr xs] [] = .ok (.bl true) m := by
  obtain ⟨o, e0, b0⟩ := bag_run xs
  obtain ⟨ρ', m', e1, o1, z2, z3, z4, rfl, rfl, b1⟩ := forD_ind (ck := fun _ => True) (g := gN 2) (b := w_law_2)
    (fun ds ρ m => ∃ (o : MO) (z2 z3 z4 : Option D), ρ = [some (.scr xs), some (.loc 0 0), z2, z3, z4] ∧ m = [[o]] ∧ BagOk (121 * ds.length) o) ((List.range 9).map fun (i : Nat) => D.int (i : Int)) [some (.scr xs), some (.loc 0 0), none, none, none] [[o]]
    ⟨o, none, none, none, rfl, rfl, b0.mono (by simp)⟩ (fun _ _ _ _ => trivial) (by
      rintro d ds ρ m ⟨o, z2, z3, z4, rfl, rfl, hb⟩
      rw [List.length_cons] at hb
      obtain ⟨o', y3, y4, e, hb'⟩ := turn_run (B := 121 * ds.length) (sc := some (.scr xs)) (z2 := some d) (z3 := z3) (z4 := z4) (hb.mono (by omega))
      exact ⟨_, _, [some (.scr xs), some (.loc 0 0), some d, y3, y4], [[o']], rfl, .inl e, o', some d, y3, y4, rfl, rfl, hb'⟩)
  have gr : rngOk 9 = true := by decide
  refine ⟨[], ?_⟩
  unfold f_law b_law
  rw [fnD1]
  simp -implicitDefEqProofs [e0, gr, e1]
end P_k01
namespace P_k01
open PySem L2 PySem.Spec PyProof.Rows LN LamX NdefX
structure Txt (P : Program) (c : Ct) (mg : Str → Option Value) (base : Heap) where
  a_below : Addr
  d_below : FuncData
  F_below : FnP c.K "below" s_below [] a_below d_below
  g_below : mg "below" = some (.ref a_below)
  a_floor_of : Addr
  d_floor_of : FuncData
  F_floor_of : FnP c.K "floor_of" s_floor_of [] a_floor_of d_floor_of
  g_floor_of : mg "floor_of" = some (.ref a_floor_of)
  a_ascending : Addr
  d_ascending : FuncData
  F_ascending : FnP c.K "ascending" s_ascending [] a_ascending d_ascending
  g_ascending : mg "ascending" = some (.ref a_ascending)
  a_law_bag : Addr
  d_law_bag : FuncData
  F_law_bag : FnP c.K "_law_bag" s_law_bag [] a_law_bag d_law_bag
  g_law_bag : mg "_law_bag" = some (.ref a_law_bag)
  a_law_draw : Addr
  d_law_draw : FuncData
  F_law_draw : FnP c.K "_law_draw" s_law_draw [] a_law_draw d_law_draw
  g_law_draw : mg "_law_draw" = some (.ref a_law_draw)
  a_law_like : Addr
  d_law_like : FuncData
  F_law_like : FnP c.K "_law_like" s_law_like [] a_law_like d_law_like
  g_law_like : mg "_law_like" = some (.ref a_law_like)
  a_law_low : Addr
  d_law_low : FuncData
  F_law_low : FnP c.K "_law_low" s_law_low [] a_law_low d_law_low
  g_law_low : mg "_law_low" = some (.ref a_law_low)
  a_law_order : Addr
  d_law_order : FuncData
  F_law_order : FnP c.K "_law_order" s_law_order [] a_law_order d_law_order
  g_law_order : mg "_law_order" = some (.ref a_law_order)
  a_law_ask : Addr
  d_law_ask : FuncData
  F_law_ask : FnP c.K "_law_ask" s_law_ask [] a_law_ask d_law_ask
  g_law_ask : mg "_law_ask" = some (.ref a_law_ask)
  a_law_of : Addr
  d_law_of : FuncData
  F_law_of : FnP c.K "_law_of" s_law_of [] a_law_of d_law_of
  g_law_of : mg "_law_of" = some (.ref a_law_of)
  a_law_exact : Addr
  d_law_exact : FuncData
  F_law_exact : FnP c.K "_law_exact" s_law_exact [] a_law_exact d_law_exact
  g_law_exact : mg "_law_exact" = some (.ref a_law_exact)
  a_fraction : Addr
  d_fraction : FuncData
  F_fraction : FnP c.K "fraction" s_fraction [V.int 1] a_fraction d_fraction
  g_fraction : mg "fraction" = some (.ref a_fraction)
  a_law_number : Addr
  d_law_number : FuncData
  F_law_number : FnP c.K "_law_number" s_law_number [] a_law_number d_law_number
  g_law_number : mg "_law_number" = some (.ref a_law_number)
  a_plus : Addr
  d_plus : FuncData
  F_plus : FnP c.K "plus" s_plus [] a_plus d_plus
  g_plus : mg "plus" = some (.ref a_plus)
  a_minus : Addr
  d_minus : FuncData
  F_minus : FnP c.K "minus" s_minus [] a_minus d_minus
  g_minus : mg "minus" = some (.ref a_minus)
  a_times : Addr
  d_times : FuncData
  F_times : FnP c.K "times" s_times [] a_times d_times
  g_times : mg "times" = some (.ref a_times)
  a_quotient : Addr
  d_quotient : FuncData
  F_quotient : FnP c.K "quotient" s_quotient [] a_quotient d_quotient
  g_quotient : mg "quotient" = some (.ref a_quotient)
  a_law_some : Addr
  d_law_some : FuncData
  F_law_some : FnP c.K "_law_some" s_law_some [] a_law_some d_law_some
  g_law_some : mg "_law_some" = some (.ref a_law_some)
  a_mean_of : Addr
  d_mean_of : FuncData
  F_mean_of : FnP c.K "mean_of" s_mean_of [] a_mean_of d_mean_of
  g_mean_of : mg "mean_of" = some (.ref a_mean_of)
  a_law_pair : Addr
  d_law_pair : FuncData
  F_law_pair : FnP c.K "_law_pair" s_law_pair [] a_law_pair d_law_pair
  g_law_pair : mg "_law_pair" = some (.ref a_law_pair)
  a_law_made : Addr
  d_law_made : FuncData
  F_law_made : FnP c.K "_law_made" s_law_made [] a_law_made d_law_made
  g_law_made : mg "_law_made" = some (.ref a_law_made)
  a_law_compared : Addr
  d_law_compared : FuncData
  F_law_compared : FnP c.K "_law_compared" s_law_compared [] a_law_compared d_law_compared
  g_law_compared : mg "_law_compared" = some (.ref a_law_compared)
  a_law_joined : Addr
  d_law_joined : FuncData
  F_law_joined : FnP c.K "_law_joined" s_law_joined [] a_law_joined d_law_joined
  g_law_joined : mg "_law_joined" = some (.ref a_law_joined)
  a_law_listed : Addr
  d_law_listed : FuncData
  F_law_listed : FnP c.K "_law_listed" s_law_listed [] a_law_listed d_law_listed
  g_law_listed : mg "_law_listed" = some (.ref a_law_listed)
  a_law : Addr
  d_law : FuncData
  F_law : FnP c.K "law" s_law [] a_law d_law
  g_law : mg "law" = some (.ref a_law)
  n_abs : mg "abs" = none
  n_all : mg "all" = none
  n_bool : mg "bool" = none
  n_int : mg "int" = none
  n_isinstance : mg "isinstance" = none
  n_len : mg "len" = none
  n_list : mg "list" = none
  n_max : mg "max" = none
  n_range : mg "range" = none
  n_sorted : mg "sorted" = none
  n_str : mg "str" = none
  n_sum : mg "sum" = none
  n_tuple : mg "tuple" = none
  n_zip : mg "zip" = none
  m_gcd : mg "gcd" = some (.builtin "math.gcd")
  m_lcm : mg "lcm" = some (.builtin "math.lcm")
  x_BadValue : XIni xbV P c.K mg (c.Γ "BadValue") id_BadValue (arOf id_BadValue.params)
  gx_BadValue : mg "BadValue" = some (.ref (c.Γ "BadValue"))
  tk_BadValue : ∀ n ∈ (["value", "code"] : List Str), PySem.W.takerIn c.K (c.Γ "BadValue") n = some none
  fo_code : FldOk c nm_code "code"
  fo_value : FldOk c nm_value "value"
  C_NetError : Addr
  g_NetError : mg "NetError" = some (.ref C_NetError)
  hx_law_ask : ∀ n v, ct_law_ask n = some v → PySem.W.exmOne c.K (.ref (c.Γ n)) (.ref C_NetError) = some v
  cc_ascending : Addr
  ct_ascending : Addr
  TB_ascending : TabB base mg cc_ascending ct_ascending
  cd_ascending : d_ascending.code = .ref cc_ascending
  mT_ascending : (ct_ascending, ((("ascending" : Str) ++ ".<locals>.") ++ "<lambda>")) ∈ c.T
  uT_ascending : ∀ p ∈ c.T, p.1 = ct_ascending → p.2 = ((("ascending" : Str) ++ ".<locals>.") ++ "<lambda>")
  cc_law_made : Addr
  ct_law_made : Addr
  TB_law_made : TabB base mg cc_law_made ct_law_made
  cd_law_made : d_law_made.code = .ref cc_law_made
  mT_law_made : (ct_law_made, ((("_law_made" : Str) ++ ".<locals>.") ++ "<lambda>")) ∈ c.T
  uT_law_made : ∀ p ∈ c.T, p.1 = ct_law_made → p.2 = ((("_law_made" : Str) ++ ".<locals>.") ++ "<lambda>")
  cc_law_joined : Addr
  ct_law_joined : Addr
  TB_law_joined : TabB base mg cc_law_joined ct_law_joined
  cd_law_joined : d_law_joined.code = .ref cc_law_joined
  mT_law_joined : (ct_law_joined, ((("_law_joined" : Str) ++ ".<locals>.") ++ "<lambda>")) ∈ c.T
  uT_law_joined : ∀ p ∈ c.T, p.1 = ct_law_joined → p.2 = ((("_law_joined" : Str) ++ ".<locals>.") ++ "<lambda>")
  cc_law_listed : Addr
  ct_law_listed : Addr
  TB_law_listed : TabB base mg cc_law_listed ct_law_listed
  cd_law_listed : d_law_listed.code = .ref cc_law_listed
  mT_law_listed : (ct_law_listed, ((("_law_listed" : Str) ++ ".<locals>.") ++ "<lambda>")) ∈ c.T
  uT_law_listed : ∀ p ∈ c.T, p.1 = ct_law_listed → p.2 = ((("_law_listed" : Str) ++ ".<locals>.") ++ "<lambda>")
  v_ZERO : Value
  gc_ZERO : mg "ZERO" = some v_ZERO
  w_ZERO : V
  r_ZERO : RelV w_ZERO v_ZERO
  c_ZERO : ∀ W, Rp c W c_ZERO w_ZERO
section
variable {P : Program} {c : Ct} {mg : Str → Option Value} {base : Heap} (T : Txt P c mg base)
theorem Txt.k_below : PySem.W.keepIn c.K (.ref T.a_below) = true := T.F_below.kp
theorem Txt.b_below : Binds c.K T.d_below ["a", "b"] [] := T.F_below.bindsN fun _ _ _ _ _ _ us hl => match us, hl with | [_, _], _ => rfl
theorem Txt.k_floor_of : PySem.W.keepIn c.K (.ref T.a_floor_of) = true := T.F_floor_of.kp
theorem Txt.b_floor_of : Binds c.K T.d_floor_of ["a"] [] := T.F_floor_of.bindsN fun _ _ _ _ _ _ us hl => match us, hl with | [_], _ => rfl
theorem Txt.k_ascending : PySem.W.keepIn c.K (.ref T.a_ascending) = true := T.F_ascending.kp
theorem Txt.b_ascending : Binds c.K T.d_ascending ["values"] [] := T.F_ascending.bindsN fun _ _ _ _ _ _ us hl => match us, hl with | [_], _ => rfl
theorem Txt.k_law_bag : PySem.W.keepIn c.K (.ref T.a_law_bag) = true := T.F_law_bag.kp
theorem Txt.b_law_bag : Binds c.K T.d_law_bag ["_law_script"] [] := T.F_law_bag.bindsN fun _ _ _ _ _ _ us hl => match us, hl with | [_], _ => rfl
theorem Txt.k_law_draw : PySem.W.keepIn c.K (.ref T.a_law_draw) = true := T.F_law_draw.kp
theorem Txt.b_law_draw : Binds c.K T.d_law_draw ["_law_bag_here", "_law_size"] [] := T.F_law_draw.bindsN fun _ _ _ _ _ _ us hl => match us, hl with | [_, _], _ => rfl
theorem Txt.k_law_like : PySem.W.keepIn c.K (.ref T.a_law_like) = true := T.F_law_like.kp
theorem Txt.b_law_like : Binds c.K T.d_law_like ["_law_got", "_law_due"] [] := T.F_law_like.bindsN fun _ _ _ _ _ _ us hl => match us, hl with | [_, _], _ => rfl
theorem Txt.k_law_low : PySem.W.keepIn c.K (.ref T.a_law_low) = true := T.F_law_low.kp
theorem Txt.b_law_low : Binds c.K T.d_law_low ["_law_top", "_law_low_here"] [] := T.F_law_low.bindsN fun _ _ _ _ _ _ us hl => match us, hl with | [_, _], _ => rfl
theorem Txt.k_law_order : PySem.W.keepIn c.K (.ref T.a_law_order) = true := T.F_law_order.kp
theorem Txt.b_law_order : Binds c.K T.d_law_order ["_law_one", "_law_two"] [] := T.F_law_order.bindsN fun _ _ _ _ _ _ us hl => match us, hl with | [_, _], _ => rfl
theorem Txt.k_law_ask : PySem.W.keepIn c.K (.ref T.a_law_ask) = true := T.F_law_ask.kp
theorem Txt.b_law_ask : Binds c.K T.d_law_ask ["_law_deed"] [] := T.F_law_ask.bindsN fun _ _ _ _ _ _ us hl => match us, hl with | [_], _ => rfl
theorem Txt.k_law_of : PySem.W.keepIn c.K (.ref T.a_law_of) = true := T.F_law_of.kp
theorem Txt.b_law_of : Binds c.K T.d_law_of ["_law_bag_here", "_law_things"] [] := T.F_law_of.bindsN fun _ _ _ _ _ _ us hl => match us, hl with | [_, _], _ => rfl
theorem Txt.k_law_exact : PySem.W.keepIn c.K (.ref T.a_law_exact) = true := T.F_law_exact.kp
theorem Txt.b_law_exact : Binds c.K T.d_law_exact ["_law_got", "_law_top", "_law_low_here"] [] := T.F_law_exact.bindsN fun _ _ _ _ _ _ us hl => match us, hl with | [_, _, _], _ => rfl
theorem Txt.k_fraction : PySem.W.keepIn c.K (.ref T.a_fraction) = true := T.F_fraction.kp
theorem Txt.b_fraction : Binds c.K T.d_fraction ["p", "q"] [] := by
  obtain ⟨ds, h1, h2⟩ := T.F_fraction.binds1 (ps := ["p", "q"]) 2 1 (by simp) rfl (fun _ _ _ _ _ _ _ us its h1 h2 => by
    match us, h1, its, h2 with
    | [_, _], _, [_], _ => exact ⟨_, rfl, rfl⟩)
  cases h1
  exact h2
theorem Txt.k_law_number : PySem.W.keepIn c.K (.ref T.a_law_number) = true := T.F_law_number.kp
theorem Txt.b_law_number : Binds c.K T.d_law_number ["_law_bag_here"] [] := T.F_law_number.bindsN fun _ _ _ _ _ _ us hl => match us, hl with | [_], _ => rfl
theorem Txt.k_plus : PySem.W.keepIn c.K (.ref T.a_plus) = true := T.F_plus.kp
theorem Txt.b_plus : Binds c.K T.d_plus ["a", "b"] [] := T.F_plus.bindsN fun _ _ _ _ _ _ us hl => match us, hl with | [_, _], _ => rfl
theorem Txt.k_minus : PySem.W.keepIn c.K (.ref T.a_minus) = true := T.F_minus.kp
theorem Txt.b_minus : Binds c.K T.d_minus ["a", "b"] [] := T.F_minus.bindsN fun _ _ _ _ _ _ us hl => match us, hl with | [_, _], _ => rfl
theorem Txt.k_times : PySem.W.keepIn c.K (.ref T.a_times) = true := T.F_times.kp
theorem Txt.b_times : Binds c.K T.d_times ["a", "b"] [] := T.F_times.bindsN fun _ _ _ _ _ _ us hl => match us, hl with | [_, _], _ => rfl
theorem Txt.k_quotient : PySem.W.keepIn c.K (.ref T.a_quotient) = true := T.F_quotient.kp
theorem Txt.b_quotient : Binds c.K T.d_quotient ["a", "b"] [] := T.F_quotient.bindsN fun _ _ _ _ _ _ us hl => match us, hl with | [_, _], _ => rfl
theorem Txt.k_law_some : PySem.W.keepIn c.K (.ref T.a_law_some) = true := T.F_law_some.kp
theorem Txt.b_law_some : Binds c.K T.d_law_some ["_law_bag_here"] [] := T.F_law_some.bindsN fun _ _ _ _ _ _ us hl => match us, hl with | [_], _ => rfl
theorem Txt.k_mean_of : PySem.W.keepIn c.K (.ref T.a_mean_of) = true := T.F_mean_of.kp
theorem Txt.b_mean_of : Binds c.K T.d_mean_of ["values"] [] := T.F_mean_of.bindsN fun _ _ _ _ _ _ us hl => match us, hl with | [_], _ => rfl
theorem Txt.k_law_pair : PySem.W.keepIn c.K (.ref T.a_law_pair) = true := T.F_law_pair.kp
theorem Txt.b_law_pair : Binds c.K T.d_law_pair ["_law_bag_here"] [] := T.F_law_pair.bindsN fun _ _ _ _ _ _ us hl => match us, hl with | [_], _ => rfl
theorem Txt.k_law_made : PySem.W.keepIn c.K (.ref T.a_law_made) = true := T.F_law_made.kp
theorem Txt.b_law_made : Binds c.K T.d_law_made ["_law_bag_here"] [] := T.F_law_made.bindsN fun _ _ _ _ _ _ us hl => match us, hl with | [_], _ => rfl
theorem Txt.k_law_compared : PySem.W.keepIn c.K (.ref T.a_law_compared) = true := T.F_law_compared.kp
theorem Txt.b_law_compared : Binds c.K T.d_law_compared ["_law_one", "_law_two", "_law_way"] [] := T.F_law_compared.bindsN fun _ _ _ _ _ _ us hl => match us, hl with | [_, _, _], _ => rfl
theorem Txt.k_law_joined : PySem.W.keepIn c.K (.ref T.a_law_joined) = true := T.F_law_joined.kp
theorem Txt.b_law_joined : Binds c.K T.d_law_joined ["_law_one", "_law_two", "_law_way"] [] := T.F_law_joined.bindsN fun _ _ _ _ _ _ us hl => match us, hl with | [_, _, _], _ => rfl
theorem Txt.k_law_listed : PySem.W.keepIn c.K (.ref T.a_law_listed) = true := T.F_law_listed.kp
theorem Txt.b_law_listed : Binds c.K T.d_law_listed ["_law_bag_here"] [] := T.F_law_listed.bindsN fun _ _ _ _ _ _ us hl => match us, hl with | [_], _ => rfl
theorem Txt.k_law : PySem.W.keepIn c.K (.ref T.a_law) = true := T.F_law.kp
theorem Txt.b_law : Binds c.K T.d_law ["_law_script"] [] := T.F_law.bindsN fun _ _ _ _ _ _ us hl => match us, hl with | [_], _ => rfl
theorem Txt.b1_fraction : ∃ ds, Vals (List.drop 0 ([V.int 1] : List V)) ds ∧ Binds c.K T.d_fraction ["p", "q"] ds := T.F_fraction.binds1 (ps := ["p", "q"]) 1 0 (by simp) rfl (fun _ _ _ _ _ _ _ us its h1 h2 => by
    match us, h1, its, h2 with
    | [_], _, [_], _ => exact ⟨_, rfl, rfl⟩)
theorem dfl_rps_fraction {c : Ct} (W : Wd) : Rps c W [.int 1] [V.int 1] := Rps.cons (by simp [Rp]) (Rps.nil)
theorem g_k0_rps {c : Ct} {W : Wd} {d0 : List D} {v0 : List V} (h0 : Rps c W d0 v0) {ds : List D} {vs : List V} (h1 : Rps c W ds vs) {zs : List D} {us : List V} (h2 : Rps c W zs us) : Rps c W (g_k0 d0 ds zs) (g_k0 v0 vs us) := by
  have l0 := h0.length
  have l1 := h1.length
  have l2 := h2.length
  by_cases e : d0.length = 1 ∧ ds.length = 0 ∧ zs.length = 1
  · match d0, ds, zs, v0, vs, us, e, l0, l1, l2 with
    | [e0], [], [b0], [ev0], [], [bv0], _, _, _, _ =>
      simp only [Rps, List.cons.injEq] at h0 h1 h2
      simp only [g_k0, Rps]
      simp only [Rps, List.cons.injEq, exists_and_left, exists_and_right, exists_eq_left, exists_eq_left', and_assoc] at *
      simp_all
  · have z1 : g_k0 d0 ds zs = [] := by
      unfold g_k0
      split
      · exact absurd ⟨rfl, rfl, rfl⟩ e
      · rfl
    have z2 : g_k0 v0 vs us = [] := by
      unfold g_k0
      split
      · exact absurd ⟨l0, l1, l2⟩ e
      · rfl
    rw [z1, z2]; exact Rps.nil
theorem Txt.k0 : ∃ g : List Value → List Value → List Value, KBinds c.K T.d_fraction ["p", "q"] ["p"] g (g_k0 [V.int 1]) := kbD_of T.F_fraction ["p"] @g_k0 (by simp) (fun _ _ _ _ _ _ _ its us ws hl hi => by
    unfold g_k0 at hl ⊢
    split at hl
    · exact ⟨_, rfl, rfl⟩
    · cases hl) (fun {d0} {its} {vs} {us} {zs} {ws} r0 r1 r2 => by
    have l0 := r0.length
    have l1 := r1.length
    have l2 := r2.length
    by_cases e : d0.length = 1 ∧ vs.length = 0 ∧ zs.length = 1
    · match d0, vs, zs, its, us, ws, e, l0, l1, l2, r0, r1, r2 with
      | [e0], [], [b0], [ev0], [], [bv0], _, _, _, _, r0, r1, r2 =>
        match r0, r1, r2 with
        | .cons qe0 (.nil), .nil, .cons qb0 (.nil) => exact .cons qb0 (.cons qe0 (.nil))
    · have z1 : g_k0 d0 vs zs = [] := by
        unfold g_k0
        split
        · exact absurd ⟨rfl, rfl, rfl⟩ e
        · rfl
      have z2 : g_k0 its us ws = [] := by
        unfold g_k0
        split
        · exact absurd ⟨l0, l1, l2⟩ e
        · rfl
      rw [z1, z2]; exact .nil)
theorem g_k1_rps {c : Ct} {W : Wd} {d0 : List D} {v0 : List V} (h0 : Rps c W d0 v0) {ds : List D} {vs : List V} (h1 : Rps c W ds vs) {zs : List D} {us : List V} (h2 : Rps c W zs us) : Rps c W (g_k1 d0 ds zs) (g_k1 v0 vs us) := by
  have l0 := h0.length
  have l1 := h1.length
  have l2 := h2.length
  by_cases e : d0.length = 1 ∧ ds.length = 0 ∧ zs.length = 2
  · match d0, ds, zs, v0, vs, us, e, l0, l1, l2 with
    | [e0], [], [b0, b1], [ev0], [], [bv0, bv1], _, _, _, _ =>
      simp only [Rps, List.cons.injEq] at h0 h1 h2
      simp only [g_k1, Rps]
      simp only [Rps, List.cons.injEq, exists_and_left, exists_and_right, exists_eq_left, exists_eq_left', and_assoc] at *
      simp_all
  · have z1 : g_k1 d0 ds zs = [] := by
      unfold g_k1
      split
      · exact absurd ⟨rfl, rfl, rfl⟩ e
      · rfl
    have z2 : g_k1 v0 vs us = [] := by
      unfold g_k1
      split
      · exact absurd ⟨l0, l1, l2⟩ e
      · rfl
    rw [z1, z2]; exact Rps.nil
theorem Txt.k1 : ∃ g : List Value → List Value → List Value, KBinds c.K T.d_fraction ["p", "q"] ["q", "p"] g (g_k1 [V.int 1]) := kbD_of T.F_fraction ["q", "p"] @g_k1 (by simp) (fun _ _ _ _ _ _ _ its us ws hl hi => by
    unfold g_k1 at hl ⊢
    split at hl
    · exact ⟨_, rfl, rfl⟩
    · cases hl) (fun {d0} {its} {vs} {us} {zs} {ws} r0 r1 r2 => by
    have l0 := r0.length
    have l1 := r1.length
    have l2 := r2.length
    by_cases e : d0.length = 1 ∧ vs.length = 0 ∧ zs.length = 2
    · match d0, vs, zs, its, us, ws, e, l0, l1, l2, r0, r1, r2 with
      | [e0], [], [b0, b1], [ev0], [], [bv0, bv1], _, _, _, _, r0, r1, r2 =>
        match r0, r1, r2 with
        | .cons qe0 (.nil), .nil, .cons qb0 (.cons qb1 (.nil)) => exact .cons qb1 (.cons qb0 (.nil))
    · have z1 : g_k1 d0 vs zs = [] := by
        unfold g_k1
        split
        · exact absurd ⟨rfl, rfl, rfl⟩ e
        · rfl
      have z2 : g_k1 its us ws = [] := by
        unfold g_k1
        split
        · exact absurd ⟨l0, l1, l2⟩ e
        · rfl
      rw [z1, z2]; exact .nil)
theorem g_k2_rps {c : Ct} {W : Wd} {ds : List D} {vs : List V} (h0 : Rps c W ds vs) {zs : List D} {us : List V} (h1 : Rps c W zs us) : Rps c W (g_k2 ds zs) (g_k2 vs us) := by
  have l0 := h0.length
  have l1 := h1.length
  by_cases e : ds.length = 0 ∧ zs.length = 2
  · match ds, zs, vs, us, e, l0, l1 with
    | [], [b0, b1], [], [bv0, bv1], _, _, _ =>
      simp only [Rps, List.cons.injEq] at h0 h1
      simp only [g_k2, Rps]
      simp only [Rps, List.cons.injEq, exists_and_left, exists_and_right, exists_eq_left, exists_eq_left', and_assoc] at *
      simp_all
  · have z1 : g_k2 ds zs = [] := by
      unfold g_k2
      split
      · exact absurd ⟨rfl, rfl⟩ e
      · rfl
    have z2 : g_k2 vs us = [] := by
      unfold g_k2
      split
      · exact absurd ⟨l0, l1⟩ e
      · rfl
    rw [z1, z2]; exact Rps.nil
theorem Txt.k2 : KBinds c.K T.d_minus ["a", "b"] ["b", "a"] g_k2 g_k2 := kb_of (ks := ["b", "a"]) (g := g_k2) T.F_minus (fun _ _ _ _ _ _ us ws hl => by
    unfold g_k2 at hl ⊢
    split at hl
    · rfl
    · cases hl) (fun {vs} {us} {zs} {ws} r0 r1 => by
    have l0 := r0.length
    have l1 := r1.length
    by_cases e : vs.length = 0 ∧ zs.length = 2
    · match vs, zs, us, ws, e, l0, l1, r0, r1 with
      | [], [b0, b1], [], [bv0, bv1], _, _, _, r0, r1 =>
        match r0, r1 with
        | .nil, .cons qb0 (.cons qb1 (.nil)) => exact .cons qb1 (.cons qb0 (.nil))
    · have z1 : g_k2 vs zs = [] := by
        unfold g_k2
        split
        · exact absurd ⟨rfl, rfl⟩ e
        · rfl
      have z2 : g_k2 us ws = [] := by
        unfold g_k2
        split
        · exact absurd ⟨l0, l1⟩ e
        · rfl
      rw [z1, z2]; exact .nil)
theorem g_k3_rps {c : Ct} {W : Wd} {ds : List D} {vs : List V} (h0 : Rps c W ds vs) {zs : List D} {us : List V} (h1 : Rps c W zs us) : Rps c W (g_k3 ds zs) (g_k3 vs us) := by
  have l0 := h0.length
  have l1 := h1.length
  by_cases e : ds.length = 0 ∧ zs.length = 2
  · match ds, zs, vs, us, e, l0, l1 with
    | [], [b0, b1], [], [bv0, bv1], _, _, _ =>
      simp only [Rps, List.cons.injEq] at h0 h1
      simp only [g_k3, Rps]
      simp only [Rps, List.cons.injEq, exists_and_left, exists_and_right, exists_eq_left, exists_eq_left', and_assoc] at *
      simp_all
  · have z1 : g_k3 ds zs = [] := by
      unfold g_k3
      split
      · exact absurd ⟨rfl, rfl⟩ e
      · rfl
    have z2 : g_k3 vs us = [] := by
      unfold g_k3
      split
      · exact absurd ⟨l0, l1⟩ e
      · rfl
    rw [z1, z2]; exact Rps.nil
theorem Txt.k3 : KBinds c.K T.d_plus ["a", "b"] ["b", "a"] g_k3 g_k3 := kb_of (ks := ["b", "a"]) (g := g_k3) T.F_plus (fun _ _ _ _ _ _ us ws hl => by
    unfold g_k3 at hl ⊢
    split at hl
    · rfl
    · cases hl) (fun {vs} {us} {zs} {ws} r0 r1 => by
    have l0 := r0.length
    have l1 := r1.length
    by_cases e : vs.length = 0 ∧ zs.length = 2
    · match vs, zs, us, ws, e, l0, l1, r0, r1 with
      | [], [b0, b1], [], [bv0, bv1], _, _, _, r0, r1 =>
        match r0, r1 with
        | .nil, .cons qb0 (.cons qb1 (.nil)) => exact .cons qb1 (.cons qb0 (.nil))
    · have z1 : g_k3 vs zs = [] := by
        unfold g_k3
        split
        · exact absurd ⟨rfl, rfl⟩ e
        · rfl
      have z2 : g_k3 us ws = [] := by
        unfold g_k3
        split
        · exact absurd ⟨l0, l1⟩ e
        · rfl
      rw [z1, z2]; exact .nil)
theorem g_k4_rps {c : Ct} {W : Wd} {ds : List D} {vs : List V} (h0 : Rps c W ds vs) {zs : List D} {us : List V} (h1 : Rps c W zs us) : Rps c W (g_k4 ds zs) (g_k4 vs us) := by
  have l0 := h0.length
  have l1 := h1.length
  by_cases e : ds.length = 0 ∧ zs.length = 2
  · match ds, zs, vs, us, e, l0, l1 with
    | [], [b0, b1], [], [bv0, bv1], _, _, _ =>
      simp only [Rps, List.cons.injEq] at h0 h1
      simp only [g_k4, Rps]
      simp only [Rps, List.cons.injEq, exists_and_left, exists_and_right, exists_eq_left, exists_eq_left', and_assoc] at *
      simp_all
  · have z1 : g_k4 ds zs = [] := by
      unfold g_k4
      split
      · exact absurd ⟨rfl, rfl⟩ e
      · rfl
    have z2 : g_k4 vs us = [] := by
      unfold g_k4
      split
      · exact absurd ⟨l0, l1⟩ e
      · rfl
    rw [z1, z2]; exact Rps.nil
theorem Txt.k4 : KBinds c.K T.d_times ["a", "b"] ["a", "b"] g_k4 g_k4 := kb_of (ks := ["a", "b"]) (g := g_k4) T.F_times (fun _ _ _ _ _ _ us ws hl => by
    unfold g_k4 at hl ⊢
    split at hl
    · rfl
    · cases hl) (fun {vs} {us} {zs} {ws} r0 r1 => by
    have l0 := r0.length
    have l1 := r1.length
    by_cases e : vs.length = 0 ∧ zs.length = 2
    · match vs, zs, us, ws, e, l0, l1, r0, r1 with
      | [], [b0, b1], [], [bv0, bv1], _, _, _, r0, r1 =>
        match r0, r1 with
        | .nil, .cons qb0 (.cons qb1 (.nil)) => exact .cons qb0 (.cons qb1 (.nil))
    · have z1 : g_k4 vs zs = [] := by
        unfold g_k4
        split
        · exact absurd ⟨rfl, rfl⟩ e
        · rfl
      have z2 : g_k4 us ws = [] := by
        unfold g_k4
        split
        · exact absurd ⟨l0, l1⟩ e
        · rfl
      rw [z1, z2]; exact .nil)
theorem g_k5_rps {c : Ct} {W : Wd} {ds : List D} {vs : List V} (h0 : Rps c W ds vs) {zs : List D} {us : List V} (h1 : Rps c W zs us) : Rps c W (g_k5 ds zs) (g_k5 vs us) := by
  have l0 := h0.length
  have l1 := h1.length
  by_cases e : ds.length = 0 ∧ zs.length = 2
  · match ds, zs, vs, us, e, l0, l1 with
    | [], [b0, b1], [], [bv0, bv1], _, _, _ =>
      simp only [Rps, List.cons.injEq] at h0 h1
      simp only [g_k5, Rps]
      simp only [Rps, List.cons.injEq, exists_and_left, exists_and_right, exists_eq_left, exists_eq_left', and_assoc] at *
      simp_all
  · have z1 : g_k5 ds zs = [] := by
      unfold g_k5
      split
      · exact absurd ⟨rfl, rfl⟩ e
      · rfl
    have z2 : g_k5 vs us = [] := by
      unfold g_k5
      split
      · exact absurd ⟨l0, l1⟩ e
      · rfl
    rw [z1, z2]; exact Rps.nil
theorem Txt.k5 : KBinds c.K T.d_quotient ["a", "b"] ["b", "a"] g_k5 g_k5 := kb_of (ks := ["b", "a"]) (g := g_k5) T.F_quotient (fun _ _ _ _ _ _ us ws hl => by
    unfold g_k5 at hl ⊢
    split at hl
    · rfl
    · cases hl) (fun {vs} {us} {zs} {ws} r0 r1 => by
    have l0 := r0.length
    have l1 := r1.length
    by_cases e : vs.length = 0 ∧ zs.length = 2
    · match vs, zs, us, ws, e, l0, l1, r0, r1 with
      | [], [b0, b1], [], [bv0, bv1], _, _, _, r0, r1 =>
        match r0, r1 with
        | .nil, .cons qb0 (.cons qb1 (.nil)) => exact .cons qb1 (.cons qb0 (.nil))
    · have z1 : g_k5 vs zs = [] := by
        unfold g_k5
        split
        · exact absurd ⟨rfl, rfl⟩ e
        · rfl
      have z2 : g_k5 us ws = [] := by
        unfold g_k5
        split
        · exact absurd ⟨l0, l1⟩ e
        · rfl
      rw [z1, z2]; exact .nil)
theorem g_k6_rps {c : Ct} {W : Wd} {ds : List D} {vs : List V} (h0 : Rps c W ds vs) {zs : List D} {us : List V} (h1 : Rps c W zs us) : Rps c W (g_k6 ds zs) (g_k6 vs us) := by
  have l0 := h0.length
  have l1 := h1.length
  by_cases e : ds.length = 0 ∧ zs.length = 2
  · match ds, zs, vs, us, e, l0, l1 with
    | [], [b0, b1], [], [bv0, bv1], _, _, _ =>
      simp only [Rps, List.cons.injEq] at h0 h1
      simp only [g_k6, Rps]
      simp only [Rps, List.cons.injEq, exists_and_left, exists_and_right, exists_eq_left, exists_eq_left', and_assoc] at *
      simp_all
  · have z1 : g_k6 ds zs = [] := by
      unfold g_k6
      split
      · exact absurd ⟨rfl, rfl⟩ e
      · rfl
    have z2 : g_k6 vs us = [] := by
      unfold g_k6
      split
      · exact absurd ⟨l0, l1⟩ e
      · rfl
    rw [z1, z2]; exact Rps.nil
theorem Txt.k6 : KBinds c.K T.d_below ["a", "b"] ["b", "a"] g_k6 g_k6 := kb_of (ks := ["b", "a"]) (g := g_k6) T.F_below (fun _ _ _ _ _ _ us ws hl => by
    unfold g_k6 at hl ⊢
    split at hl
    · rfl
    · cases hl) (fun {vs} {us} {zs} {ws} r0 r1 => by
    have l0 := r0.length
    have l1 := r1.length
    by_cases e : vs.length = 0 ∧ zs.length = 2
    · match vs, zs, us, ws, e, l0, l1, r0, r1 with
      | [], [b0, b1], [], [bv0, bv1], _, _, _, r0, r1 =>
        match r0, r1 with
        | .nil, .cons qb0 (.cons qb1 (.nil)) => exact .cons qb1 (.cons qb0 (.nil))
    · have z1 : g_k6 vs zs = [] := by
        unfold g_k6
        split
        · exact absurd ⟨rfl, rfl⟩ e
        · rfl
      have z2 : g_k6 us ws = [] := by
        unfold g_k6
        split
        · exact absurd ⟨l0, l1⟩ e
        · rfl
      rw [z1, z2]; exact .nil)
theorem g_k7_rps {c : Ct} {W : Wd} {ds : List D} {vs : List V} (h0 : Rps c W ds vs) {zs : List D} {us : List V} (h1 : Rps c W zs us) : Rps c W (g_k7 ds zs) (g_k7 vs us) := by
  have l0 := h0.length
  have l1 := h1.length
  by_cases e : ds.length = 0 ∧ zs.length = 1
  · match ds, zs, vs, us, e, l0, l1 with
    | [], [b0], [], [bv0], _, _, _ =>
      simp only [Rps, List.cons.injEq] at h0 h1
      simp only [g_k7, Rps]
      simp only [Rps, List.cons.injEq, exists_and_left, exists_and_right, exists_eq_left, exists_eq_left', and_assoc] at *
      simp_all
  · have z1 : g_k7 ds zs = [] := by
      unfold g_k7
      split
      · exact absurd ⟨rfl, rfl⟩ e
      · rfl
    have z2 : g_k7 vs us = [] := by
      unfold g_k7
      split
      · exact absurd ⟨l0, l1⟩ e
      · rfl
    rw [z1, z2]; exact Rps.nil
theorem Txt.k7 : KBinds c.K T.d_floor_of ["a"] ["a"] g_k7 g_k7 := kb_of (ks := ["a"]) (g := g_k7) T.F_floor_of (fun _ _ _ _ _ _ us ws hl => by
    unfold g_k7 at hl ⊢
    split at hl
    · rfl
    · cases hl) (fun {vs} {us} {zs} {ws} r0 r1 => by
    have l0 := r0.length
    have l1 := r1.length
    by_cases e : vs.length = 0 ∧ zs.length = 1
    · match vs, zs, us, ws, e, l0, l1, r0, r1 with
      | [], [b0], [], [bv0], _, _, _, r0, r1 =>
        match r0, r1 with
        | .nil, .cons qb0 (.nil) => exact .cons qb0 (.nil)
    · have z1 : g_k7 vs zs = [] := by
        unfold g_k7
        split
        · exact absurd ⟨rfl, rfl⟩ e
        · rfl
      have z2 : g_k7 us ws = [] := by
        unfold g_k7
        split
        · exact absurd ⟨l0, l1⟩ e
        · rfl
      rw [z1, z2]; exact .nil)
theorem g_k8_rps {c : Ct} {W : Wd} {ds : List D} {vs : List V} (h0 : Rps c W ds vs) {zs : List D} {us : List V} (h1 : Rps c W zs us) : Rps c W (g_k8 ds zs) (g_k8 vs us) := by
  have l0 := h0.length
  have l1 := h1.length
  by_cases e : ds.length = 0 ∧ zs.length = 1
  · match ds, zs, vs, us, e, l0, l1 with
    | [], [b0], [], [bv0], _, _, _ =>
      simp only [Rps, List.cons.injEq] at h0 h1
      simp only [g_k8, Rps]
      simp only [Rps, List.cons.injEq, exists_and_left, exists_and_right, exists_eq_left, exists_eq_left', and_assoc] at *
      simp_all
  · have z1 : g_k8 ds zs = [] := by
      unfold g_k8
      split
      · exact absurd ⟨rfl, rfl⟩ e
      · rfl
    have z2 : g_k8 vs us = [] := by
      unfold g_k8
      split
      · exact absurd ⟨l0, l1⟩ e
      · rfl
    rw [z1, z2]; exact Rps.nil
theorem Txt.k8 : KBinds c.K T.d_ascending ["values"] ["values"] g_k8 g_k8 := kb_of (ks := ["values"]) (g := g_k8) T.F_ascending (fun _ _ _ _ _ _ us ws hl => by
    unfold g_k8 at hl ⊢
    split at hl
    · rfl
    · cases hl) (fun {vs} {us} {zs} {ws} r0 r1 => by
    have l0 := r0.length
    have l1 := r1.length
    by_cases e : vs.length = 0 ∧ zs.length = 1
    · match vs, zs, us, ws, e, l0, l1, r0, r1 with
      | [], [b0], [], [bv0], _, _, _, r0, r1 =>
        match r0, r1 with
        | .nil, .cons qb0 (.nil) => exact .cons qb0 (.nil)
    · have z1 : g_k8 vs zs = [] := by
        unfold g_k8
        split
        · exact absurd ⟨rfl, rfl⟩ e
        · rfl
      have z2 : g_k8 us ws = [] := by
        unfold g_k8
        split
        · exact absurd ⟨l0, l1⟩ e
        · rfl
      rw [z1, z2]; exact .nil)
theorem g_k9_rps {c : Ct} {W : Wd} {ds : List D} {vs : List V} (h0 : Rps c W ds vs) {zs : List D} {us : List V} (h1 : Rps c W zs us) : Rps c W (g_k9 ds zs) (g_k9 vs us) := by
  have l0 := h0.length
  have l1 := h1.length
  by_cases e : ds.length = 0 ∧ zs.length = 1
  · match ds, zs, vs, us, e, l0, l1 with
    | [], [b0], [], [bv0], _, _, _ =>
      simp only [Rps, List.cons.injEq] at h0 h1
      simp only [g_k9, Rps]
      simp only [Rps, List.cons.injEq, exists_and_left, exists_and_right, exists_eq_left, exists_eq_left', and_assoc] at *
      simp_all
  · have z1 : g_k9 ds zs = [] := by
      unfold g_k9
      split
      · exact absurd ⟨rfl, rfl⟩ e
      · rfl
    have z2 : g_k9 vs us = [] := by
      unfold g_k9
      split
      · exact absurd ⟨l0, l1⟩ e
      · rfl
    rw [z1, z2]; exact Rps.nil
theorem Txt.k9 : KBinds c.K T.d_mean_of ["values"] ["values"] g_k9 g_k9 := kb_of (ks := ["values"]) (g := g_k9) T.F_mean_of (fun _ _ _ _ _ _ us ws hl => by
    unfold g_k9 at hl ⊢
    split at hl
    · rfl
    · cases hl) (fun {vs} {us} {zs} {ws} r0 r1 => by
    have l0 := r0.length
    have l1 := r1.length
    by_cases e : vs.length = 0 ∧ zs.length = 1
    · match vs, zs, us, ws, e, l0, l1, r0, r1 with
      | [], [b0], [], [bv0], _, _, _, r0, r1 =>
        match r0, r1 with
        | .nil, .cons qb0 (.nil) => exact .cons qb0 (.nil)
    · have z1 : g_k9 vs zs = [] := by
        unfold g_k9
        split
        · exact absurd ⟨rfl, rfl⟩ e
        · rfl
      have z2 : g_k9 us ws = [] := by
        unfold g_k9
        split
        · exact absurd ⟨l0, l1⟩ e
        · rfl
      rw [z1, z2]; exact .nil)
theorem xc_BadValue (T : Txt P c mg base) : XCls P c.w c mg base "BadValue" ["value"] 1 ["self", "value"] := ⟨⟨xbV, T.x_BadValue.f, T.x_BadValue.fd, xbV_ok, T.x_BadValue.S.cls, T.x_BadValue.iC, T.x_BadValue.tI, fnI (k := 0) xbV_ok T.x_BadValue.S (nscope_by (N := ["self", "value", "__class__"]) (ps := ["self", "value"]) (sc := id_BadValue.scope) (by decide +kernel)) rfl rfl rfl rfl (fun _ => rfl) (fun _ => rfl) (fun _ => rfl) (fun A outer s H E Q a ws hws ea hq => match ws, hws with
  | [v0], _ => rest1 xbV_ok T.x_BadValue.S.cls (T.tk_BadValue "value" (by simp)) (T.tk_BadValue "code" (by simp)) (fun p => pe_var (i := 0) rfl (Or.inl rfl)) (pe_var (i := 1) rfl (Or.inl rfl)) rfl rfl ea hq), T.x_BadValue.binds fun _ _ _ _ _ _ _ us hl => match us, hl with | [_, _], _ => rfl⟩⟩
end
theorem sc_below : FnScope ["a", "b"] ["a", "b"] (defScope s_below) := ⟨rfl, rfl, rfl, by decide +kernel, rfl, by decide +kernel, by decide +kernel⟩
theorem sc_floor_of : FnScope ["a"] ["a"] (defScope s_floor_of) := ⟨rfl, rfl, rfl, by decide +kernel, rfl, by decide +kernel, by decide +kernel⟩
theorem sc_ascending : FnScope ["values", "different", "whole", "value"] ["values"] (defScope s_ascending) := ⟨rfl, rfl, rfl, by decide +kernel, rfl, by decide +kernel, by decide +kernel⟩
theorem sc_law_bag : FnScope ["_law_script", "_law_mixed", "_law_cell"] ["_law_script"] (defScope s_law_bag) := ⟨rfl, rfl, rfl, by decide +kernel, rfl, by decide +kernel, by decide +kernel⟩
theorem sc_law_draw : FnScope ["_law_bag_here", "_law_size", "_law_cell", "_law_digit"] ["_law_bag_here", "_law_size"] (defScope s_law_draw) := ⟨rfl, rfl, rfl, by decide +kernel, rfl, by decide +kernel, by decide +kernel⟩
theorem sc_law_like : FnScope ["_law_got", "_law_due", "_law_one", "_law_two"] ["_law_got", "_law_due"] (defScope s_law_like) := ⟨rfl, rfl, rfl, by decide +kernel, rfl, by decide +kernel, by decide +kernel⟩
theorem sc_law_low : FnScope ["_law_top", "_law_low_here", "_law_one", "_law_two"] ["_law_top", "_law_low_here"] (defScope s_law_low) := ⟨rfl, rfl, rfl, by decide +kernel, rfl, by decide +kernel, by decide +kernel⟩
theorem sc_law_order : FnScope ["_law_one", "_law_two", "_law_gap"] ["_law_one", "_law_two"] (defScope s_law_order) := ⟨rfl, rfl, rfl, by decide +kernel, rfl, by decide +kernel, by decide +kernel⟩
theorem sc_law_ask : FnScope ["_law_deed", "error"] ["_law_deed"] (defScope s_law_ask) := ⟨rfl, rfl, rfl, by decide +kernel, rfl, by decide +kernel, by decide +kernel⟩
theorem sc_law_of : FnScope ["_law_bag_here", "_law_things"] ["_law_bag_here", "_law_things"] (defScope s_law_of) := ⟨rfl, rfl, rfl, by decide +kernel, rfl, by decide +kernel, by decide +kernel⟩
theorem sc_law_exact : FnScope ["_law_got", "_law_top", "_law_low_here", "_law_part"] ["_law_got", "_law_top", "_law_low_here"] (defScope s_law_exact) := ⟨rfl, rfl, rfl, by decide +kernel, rfl, by decide +kernel, by decide +kernel⟩
theorem sc_fraction : FnScope ["p", "q", "common"] ["p", "q"] (defScope s_fraction) := ⟨rfl, rfl, rfl, by decide +kernel, rfl, by decide +kernel, by decide +kernel⟩
theorem sc_law_number : FnScope ["_law_bag_here", "_law_far", "_law_near"] ["_law_bag_here"] (defScope s_law_number) := ⟨rfl, rfl, rfl, by decide +kernel, rfl, by decide +kernel, by decide +kernel⟩
theorem sc_plus : FnScope ["a", "b"] ["a", "b"] (defScope s_plus) := ⟨rfl, rfl, rfl, by decide +kernel, rfl, by decide +kernel, by decide +kernel⟩
theorem sc_minus : FnScope ["a", "b"] ["a", "b"] (defScope s_minus) := ⟨rfl, rfl, rfl, by decide +kernel, rfl, by decide +kernel, by decide +kernel⟩
theorem sc_times : FnScope ["a", "b"] ["a", "b"] (defScope s_times) := ⟨rfl, rfl, rfl, by decide +kernel, rfl, by decide +kernel, by decide +kernel⟩
theorem sc_quotient : FnScope ["a", "b"] ["a", "b"] (defScope s_quotient) := ⟨rfl, rfl, rfl, by decide +kernel, rfl, by decide +kernel, by decide +kernel⟩
theorem sc_law_some : FnScope ["_law_bag_here"] ["_law_bag_here"] (defScope s_law_some) := ⟨rfl, rfl, rfl, by decide +kernel, rfl, by decide +kernel, by decide +kernel⟩
theorem sc_mean_of : FnScope ["values", "total", "value"] ["values"] (defScope s_mean_of) := ⟨rfl, rfl, rfl, by decide +kernel, rfl, by decide +kernel, by decide +kernel⟩
theorem sc_law_pair : FnScope ["_law_bag_here", "_law_one", "_law_two", "_law_way"] ["_law_bag_here"] (defScope s_law_pair) := ⟨rfl, rfl, rfl, by decide +kernel, rfl, by decide +kernel, by decide +kernel⟩
theorem sc_law_made : FnScope ["_law_bag_here", "_law_top", "_law_low_here", "_law_way", "_law_got"] ["_law_bag_here"] (defScope s_law_made) := ⟨rfl, rfl, rfl, by decide +kernel, rfl, by decide +kernel, by decide +kernel⟩
theorem sc_law_compared : FnScope ["_law_one", "_law_two", "_law_way", "_law_less", "_law_got"] ["_law_one", "_law_two", "_law_way"] (defScope s_law_compared) := ⟨rfl, rfl, rfl, by decide +kernel, rfl, by decide +kernel, by decide +kernel⟩
theorem sc_law_joined : FnScope ["_law_one", "_law_two", "_law_way", "_law_low_here", "_law_sums", "_law_got"] ["_law_one", "_law_two", "_law_way"] (defScope s_law_joined) := ⟨rfl, rfl, rfl, by decide +kernel, rfl, by decide +kernel, by decide +kernel⟩
theorem sc_law_listed : FnScope ["_law_bag_here", "_law_pool", "_law_some_here", "_law_passed", "_law_turn", "_law_got", "_law_mean", "_law_low_here", "_law_one", "_law_k", "_law_two"] ["_law_bag_here"] (defScope s_law_listed) := ⟨rfl, rfl, rfl, by decide +kernel, rfl, by decide +kernel, by decide +kernel⟩
theorem sc_law : FnScope ["_law_script", "_law_bag_here", "_law_turn", "_law_pair_here", "_law_way"] ["_law_script"] (defScope s_law) := ⟨rfl, rfl, rfl, by decide +kernel, rfl, by decide +kernel, by decide +kernel⟩
theorem gv_law_ask {P : Program} {c : Ct} {mg : Str → Option Value} {base : Heap} (T : Txt P c mg base) {X : Cx} (hK : X.K = c.K) (hm : X.mg = mg) (q : Str) (cdv : Value) : GivesTo X ["_law_deed", "error"] "_law_ask" (defScope s_law_ask) T.a_law_ask cdv (defBody s_law_ask) "_law_deed" q (TAsk X.K c T.C_NetError "told" h_law_ask) := by
  cases X
  subst hK
  subst hm
  exact ask_gives rfl T.g_NetError (by decide) sc_law_ask.nd rfl rfl (fun _ => rfl) (fun s H a0 oe cl d pn hz hv => psx_ret (px_lst (pxs_cons (px_fld (T.fo_code).hC xFldN_fld hz hv rfl (Or.inl rfl)) (pxs_cons (px_if (px_is (x := "") rfl T.gx_BadValue hz T.n_isinstance rfl (Or.inl rfl) rfl rfl) (px_fld (T.fo_value).hC xFldN_fld hz hv rfl (Or.inl rfl)) px_non) pxs_nil))))
section
variable {P : Program} {c : Ct} {mg : Str → Option Value} {base : Heap} (T : Txt P c mg base) (hck : CkOk c ck)
include T
include hck in
theorem ok_below : FnOk P c.w c.K mg base (L2.CX P c.w) 1 T.a_below T.d_below ["a", "b"] (spD c f_below) :=
  fnOkD T.F_below sc_below rfl rfl <| fun cdv A outer s H E hr => by
    have hu := hu_of hr
    have hu65 := hu65_of hr
    have hu66 := hu66_of hr
    exact (psd_one (psd_ret (pd_cmp op_lt os_cmp (pd_op op_mulA os_mul (pd_ixT hck hu66 (pd_var 0) pd_int) (pd_ixT hck hu66 (pd_var 1) pd_int)) (pd_op op_mulA os_mul (pd_ixT hck hu66 (pd_var 1) pd_int) (pd_ixT hck hu66 (pd_var 0) pd_int)) (nomark _))))
include hck in
theorem ok_floor_of : FnOk P c.w c.K mg base (L2.CX P c.w) 1 T.a_floor_of T.d_floor_of ["a"] (spD c f_floor_of) :=
  fnOkD T.F_floor_of sc_floor_of rfl rfl <| fun cdv A outer s H E hr => by
    have hu := hu_of hr
    have hu65 := hu65_of hr
    have hu66 := hu66_of hr
    exact (psd_one (psd_ret (pd_op op_fdivA os_fdiv (pd_ixT hck hu66 (pd_var 0) pd_int) (pd_ixT hck hu66 (pd_var 0) pd_int))))
include hck in
theorem ok_ascending : FnOk P c.w c.K mg base (L2.CX P c.w) 1 T.a_ascending T.d_ascending ["values"] (spD c f_ascending) :=
  fnOkDC T.F_ascending sc_ascending rfl rfl <| fun A outer s H E hr => by
    have hu := hu_of hr
    have hu65 := hu65_of hr
    have hu66 := hu66_of hr
    exact (psd_cons (psd_setDc (own := [("value", 3)]) (hu10_of hr) rfl sc_ascending.nd (pid_any (pd_var 0)) (by kernel_rfl) (fun _ _ _ _ _ => (pgd_name 3 sc_ascending.nd)) (fun _ _ _ _ _ => ptsd_nil) (fun _ _ _ _ _ => (pd_var 3)) (fun _ _ _ _ _ => pd_bl) (swD_true rfl rfl rfl (by decide +kernel)))
  (psd_cons (psd_asg pd_int (pgd_name 2 sc_ascending.nd))
  (psd_cons (psd_lock 1 (psd_for (passes_of rfl) rfl (pid_keys (pd_var 1)) (pgd_name 3 sc_ascending.nd)
  (psd_one (psd_asg (pd_bltM cr_lcm cs_lcm T.m_lcm (pad_cons (pd_var 2) (pad_cons (pd_ixT hck hu66 (pd_var 3) pd_int) pad_nil))) (pgd_name 2 sc_ascending.nd)))))
  (psd_one (psd_ret (pd_tyc call_tuple_of cs_tup T.n_tuple (by decide +kernel) (pad_cons (pd_sortK (nm := "value") finN_F T.n_sorted (pd_tyc (cr_lstA rfl) (cs_lstA finN_F) T.n_list (by decide +kernel) (pad_cons (pd_var 1) pad_nil)) hr hu66 T.TB_ascending T.cd_ascending T.mT_ascending T.uT_ascending (lamS1_by (sc := defScope s_ascending) (by decide +kernel)) rfl (fun _ _ _ _ _ _ => rfl) (kp_mul (kp_ix 0 (lamS1_by (sc := defScope s_ascending) (by decide +kernel))) (kp_div (kp_cell 2 (lamS1_by (sc := defScope s_ascending) (by decide +kernel))) (kp_ix 1 (lamS1_by (sc := defScope s_ascending) (by decide +kernel)))))) pad_nil)))))))
include hck in
theorem ok_law_bag : FnOk P c.w c.K mg base (L2.CX P c.w) 1 T.a_law_bag T.d_law_bag ["_law_script"] (spD c f_law_bag) :=
  fnOkMD T.F_law_bag sc_law_bag rfl rfl <| fun cdv A outer s H E hr => by
    have hu := hu_of hr
    have hu65 := hu65_of hr
    have hu66 := hu66_of hr
    exact (psd_cons (psd_asg pd_int (pgd_name 1 sc_law_bag.nd))
  (psd_cons (psd_for (passes_of rfl) rfl (pid_any (pd_sl sl_all (ss_all finN_F) (pd_var 0) pod_none (pod_some pd_int))) (pgd_name 2 sc_law_bag.nd)
  (psd_one (psd_asg (pd_op op_modN os_mod (pd_tyc cr_int cs_int T.n_int (by decide +kernel) (pad_cons (pd_op op_addAll (os_add finN_F) (pd_op op_addAll (os_add finN_F) (pd_op op_mulA os_mul (pd_var 1) pd_int) (pd_op op_modN os_mod (pd_tyc cr_int cs_int T.n_int (by decide +kernel) (pad_cons (pd_var 2) pad_nil)) pd_int)) pd_int) pad_nil)) pd_int) (pgd_name 1 sc_law_bag.nd))))
  (psd_one (psd_ret (pd_lstM (pad_cons (pd_tyc (cr_lstA rfl) (cs_lstA finN_F) T.n_list (by decide +kernel) (pad_cons (pd_sl sl_all (ss_all finN_F) (pd_var 0) pod_none (pod_some pd_int)) pad_nil)) (pad_cons pd_int (pad_cons pd_int (pad_cons (pd_var 1) (pad_cons pd_int pad_nil))))))))))
include hck in
theorem ok_law_draw : FnOk P c.w c.K mg base (L2.CX P c.w) 1 T.a_law_draw T.d_law_draw ["_law_bag_here", "_law_size"] (spD c f_law_draw) :=
  fnOkD T.F_law_draw sc_law_draw rfl rfl <| fun cdv A outer s H E hr => by
    have hu := hu_of hr
    have hu65 := hu65_of hr
    have hu66 := hu66_of hr
    exact (psd_cons (psd_asg (pd_op op_addAll (os_add finN_F) (pd_ixT hck hu66 (pd_var 0) pd_int) pd_int) (pgd_sub (pd_var 0) pd_int (set_allN hu66) (ss_setT hck)))
  (psd_cons (psd_if (PW.pt (pw_dand (ptd_cmp (op_eqA hu66) os_eqA (pd_ixT hck hu66 (pd_var 0) pd_int) pd_int (nomark _)) (pw_dand1 (ptd_cmp op_lt os_cmp (pd_ixT hck hu66 (pd_var 0) pd_int) (pd_blt cr_lenA cs_lenA T.n_len (by decide +kernel) (pad_cons (pd_ixT hck hu66 (pd_var 0) pd_int) pad_nil)) (nomark _)))))
  (psd_cons (psd_asg (pd_ixT hck hu66 (pd_ixT hck hu66 (pd_var 0) pd_int) (pd_ixT hck hu66 (pd_var 0) pd_int)) (pgd_name 2 sc_law_draw.nd))
  (psd_cons (psd_asg (pd_op op_addAll (os_add finN_F) (pd_ixT hck hu66 (pd_var 0) pd_int) pd_int) (pgd_sub (pd_var 0) pd_int (set_allN hu66) (ss_setT hck)))
  (psd_one (psd_if (ptd_cmp op_ge os_cmp (pd_var 2) (pd_op op_powA os_pow pd_int pd_int) (nomark _))
  (psd_one (psd_asg (pd_var 2) (pgd_sub (pd_var 0) pd_int (set_allN hu66) (ss_setT hck))))
  (psd_one (psd_asg (pd_op op_modN os_mod (pd_tyc cr_int cs_int T.n_int (by decide +kernel) (pad_cons (pd_op op_addAll (os_add finN_F) (pd_op op_addAll (os_add finN_F) (pd_op op_mulA os_mul (pd_ixT hck hu66 (pd_var 0) pd_int) pd_int) (pd_op op_mulA os_mul (pd_op op_modN os_mod (pd_tyc cr_int cs_int T.n_int (by decide +kernel) (pad_cons (pd_var 2) pad_nil)) pd_int) pd_int)) pd_int) pad_nil)) pd_int) (pgd_sub (pd_var 0) pd_int (set_allN hu66) (ss_setT hck))))))))
  psd_nil)
  (psd_cons (psd_if (ptd_cmp op_gt os_cmp (pd_ixT hck hu66 (pd_var 0) pd_int) pd_int (nomark _))
  (psd_cons (psd_asg (pd_op op_modN os_mod (pd_tyc cr_int cs_int T.n_int (by decide +kernel) (pad_cons (pd_ixT hck hu66 (pd_var 0) pd_int) pad_nil)) (pd_var 1)) (pgd_name 3 sc_law_draw.nd))
  (psd_cons (psd_asg (pd_op op_fdivA os_fdiv (pd_ixT hck hu66 (pd_var 0) pd_int) (pd_var 1)) (pgd_sub (pd_var 0) pd_int (set_allN hu66) (ss_setT hck)))
  (psd_one (psd_ret (pd_var 3)))))
  psd_nil)
  (psd_cons (psd_asg (pd_op op_modN os_mod (pd_tyc cr_int cs_int T.n_int (by decide +kernel) (pad_cons (pd_op op_addAll (os_add finN_F) (pd_op op_addAll (os_add finN_F) (pd_op op_powA os_pow (pd_ixT hck hu66 (pd_var 0) pd_int) pd_int) (pd_op op_mulA os_mul (pd_ixT hck hu66 (pd_var 0) pd_int) pd_int)) pd_int) pad_nil)) pd_int) (pgd_sub (pd_var 0) pd_int (set_allN hu66) (ss_setT hck)))
  (psd_one (psd_ret (pd_op op_modN os_mod (pd_tyc cr_int cs_int T.n_int (by decide +kernel) (pad_cons (pd_op op_addAll (os_add finN_F) (pd_op op_fdivA os_fdiv (pd_ixT hck hu66 (pd_var 0) pd_int) pd_int) (pd_op op_mulA os_mul (pd_op op_modN os_mod (pd_tyc cr_int cs_int T.n_int (by decide +kernel) (pad_cons (pd_ixT hck hu66 (pd_var 0) pd_int) pad_nil)) pd_int) pd_int)) pad_nil)) (pd_var 1))))))))
include hck in
theorem ok_law_like : ∀ n : Nat, FnOk P c.w c.K mg base (L2.CX P c.w) (1 + n) T.a_law_like T.d_law_like ["_law_got", "_law_due"] (spD c (r_law_like n))
  | 0 => fnOk0
  | n + 1 => by
    have G_law_like := ok_law_like n
    exact fnOkD T.F_law_like sc_law_like rfl rfl <| fun cdv A outer s H E hr => by
      have hu := hu_of hr
      have hu65 := hu65_of hr
      have hu66 := hu66_of hr
      exact (psd_cons (psd_if (ptd_tru (pd_blt cr_isi cs_isi T.n_isinstance (by decide +kernel) (pad_cons (pd_var 1) (pad_cons (pd_tup (pad_cons (pd_ty (n := "list") rfl T.n_list (by decide +kernel)) (pad_cons (pd_ty (n := "tuple") rfl T.n_tuple (by decide +kernel)) pad_nil))) pad_nil))))
  (psd_cons (psd_if (PW.pt (pw_dor (ptd_cmp (op_neA hu66) os_neA (pd_blt cr_isi cs_isi T.n_isinstance (by decide +kernel) (pad_cons (pd_var 0) (pad_cons (pd_ty (n := "list") rfl T.n_list (by decide +kernel)) pad_nil))) (pd_blt cr_isi cs_isi T.n_isinstance (by decide +kernel) (pad_cons (pd_var 1) (pad_cons (pd_ty (n := "list") rfl T.n_list (by decide +kernel)) pad_nil))) (nomark _)) (pw_dor1 (ptd_cmp (op_neA hu66) os_neA (pd_blt cr_isi cs_isi T.n_isinstance (by decide +kernel) (pad_cons (pd_var 0) (pad_cons (pd_ty (n := "tuple") rfl T.n_tuple (by decide +kernel)) pad_nil))) (pd_blt cr_isi cs_isi T.n_isinstance (by decide +kernel) (pad_cons (pd_var 1) (pad_cons (pd_ty (n := "tuple") rfl T.n_tuple (by decide +kernel)) pad_nil))) (nomark _)))))
  (psd_one (psd_ret pd_bl))
  psd_nil)
  (psd_one (psd_ret (pd_and (pd_cmp (op_eqA hu66) os_eqA (pd_blt cr_lenA cs_lenA T.n_len (by decide +kernel) (pad_cons (pd_var 0) pad_nil)) (pd_blt cr_lenA cs_lenA T.n_len (by decide +kernel) (pad_cons (pd_var 1) pad_nil)) (nomark _)) (pd_one (pd_blt (cr_all rfl) cs_all T.n_all (by decide +kernel) (pad_cons (pd_lc (own := [("_law_one", 2), ("_law_two", 3)]) fin_F rfl sc_law_like.nd (pid_zip2 T.n_zip (pd_var 0) (pd_var 1)) (by kernel_rfl) (fun _ _ _ _ _ => (pgd_tup rfl (pgsd_cons (pgd_name 2 sc_law_like.nd) (pgsd_cons (pgd_name 3 sc_law_like.nd) pgsd_nil)) (gsCons_len (gN_pure 2) (gsCons_len (gN_pure 3) gsNil_len)))) (fun _ _ _ _ _ => ptsd_nil) (fun _ _ _ _ _ => (pd_call G_law_like hr T.g_law_like T.k_law_like T.b_law_like .nil (fun W => Rps.nil) passE0 (pad_cons (pd_var 2) (pad_cons (pd_var 3) pad_nil))))) pad_nil)))))))
  psd_nil)
  (psd_cons (psd_if (PW.pt (pw_dor (ptd_cmp op_isN os_isN (pd_var 1) pd_non (nomark _)) (pw_dor1 (ptd_cmp op_isN os_isN (pd_var 0) pd_non (nomark _)))))
  (psd_one (psd_ret (pd_and (pd_cmp op_isN os_isN (pd_var 1) pd_non (nomark _)) (pd_one (pd_cmp op_isN os_isN (pd_var 0) pd_non (nomark _))))))
  psd_nil)
  (psd_cons (psd_if (PW.pt (pw_dor (ptd_tru (pd_blt cr_isi cs_isi T.n_isinstance (by decide +kernel) (pad_cons (pd_var 0) (pad_cons (pd_tup (pad_cons (pd_ty (n := "list") rfl T.n_list (by decide +kernel)) (pad_cons (pd_ty (n := "tuple") rfl T.n_tuple (by decide +kernel)) pad_nil))) pad_nil)))) (pw_dor1 (ptd_cmp (op_neA hu66) os_neA (pd_blt cr_isi cs_isi T.n_isinstance (by decide +kernel) (pad_cons (pd_var 0) (pad_cons (pd_ty (n := "bool") rfl T.n_bool (by decide +kernel)) pad_nil))) (pd_blt cr_isi cs_isi T.n_isinstance (by decide +kernel) (pad_cons (pd_var 1) (pad_cons (pd_ty (n := "bool") rfl T.n_bool (by decide +kernel)) pad_nil))) (nomark _)))))
  (psd_one (psd_ret pd_bl))
  psd_nil)
  (psd_cons (psd_if (PW.pt (pw_dor (ptd_cmp (op_neA hu66) os_neA (pd_blt cr_isi cs_isi T.n_isinstance (by decide +kernel) (pad_cons (pd_var 0) (pad_cons (pd_ty (n := "str") rfl T.n_str (by decide +kernel)) pad_nil))) (pd_blt cr_isi cs_isi T.n_isinstance (by decide +kernel) (pad_cons (pd_var 1) (pad_cons (pd_ty (n := "str") rfl T.n_str (by decide +kernel)) pad_nil))) (nomark _)) (pw_dor1 (ptd_cmp (op_neA hu66) os_neA (pd_blt cr_isi cs_isi T.n_isinstance (by decide +kernel) (pad_cons (pd_var 0) (pad_cons (pd_ty (n := "int") rfl T.n_int (by decide +kernel)) pad_nil))) (pd_blt cr_isi cs_isi T.n_isinstance (by decide +kernel) (pad_cons (pd_var 1) (pad_cons (pd_ty (n := "int") rfl T.n_int (by decide +kernel)) pad_nil))) (nomark _)))))
  (psd_one (psd_ret pd_bl))
  psd_nil)
  (psd_one (psd_ret (pd_cmp (op_eqA hu66) os_eqA (pd_var 0) (pd_var 1) (nomark _))))))))
include hck in
theorem ok_law_low : FnOk P c.w c.K mg base (L2.CX P c.w) 1 T.a_law_low T.d_law_low ["_law_top", "_law_low_here"] (spD c f_law_low) :=
  fnOkD T.F_law_low sc_law_low rfl rfl <| fun cdv A outer s H E hr => by
    have hu := hu_of hr
    have hu65 := hu65_of hr
    have hu66 := hu66_of hr
    exact (psd_cons (psd_par 2 3 rfl sc_law_low.nd (pad_cons (pd_blt call_abs cs_abs T.n_abs (by decide +kernel) (pad_cons (pd_var 0) pad_nil)) (pad_cons (pd_blt call_abs cs_abs T.n_abs (by decide +kernel) (pad_cons (pd_var 1) pad_nil)) pad_nil)))
  (psd_cons (psd_while (passes_of rfl) (ptd_cmp (op_neA hu66) os_neA (pd_var 3) pd_int (nomark _))
  (psd_one (psd_par 2 3 rfl sc_law_low.nd (pad_cons (pd_var 3) (pad_cons (pd_op op_modN os_mod (pd_tyc cr_int cs_int T.n_int (by decide +kernel) (pad_cons (pd_var 2) pad_nil)) (pd_var 3)) pad_nil)))))
  (psd_cons (psd_if (ptd_cmp op_lt os_cmp (pd_var 1) pd_int (nomark _))
  (psd_one (psd_asg (pd_op op_sub os_sub pd_int (pd_var 2)) (pgd_name 2 sc_law_low.nd)))
  psd_nil)
  (psd_one (psd_ret (pd_tup (pad_cons (pd_op op_fdivA os_fdiv (pd_var 0) (pd_var 2)) (pad_cons (pd_op op_fdivA os_fdiv (pd_var 1) (pd_var 2)) pad_nil))))))))
include hck in
theorem ok_law_order : FnOk P c.w c.K mg base (L2.CX P c.w) 1 T.a_law_order T.d_law_order ["_law_one", "_law_two"] (spD c f_law_order) :=
  fnOkD T.F_law_order sc_law_order rfl rfl <| fun cdv A outer s H E hr => by
    have hu := hu_of hr
    have hu65 := hu65_of hr
    have hu66 := hu66_of hr
    exact (psd_cons (psd_asg (pd_op op_sub os_sub (pd_op op_mulA os_mul (pd_ixT hck hu66 (pd_var 0) pd_int) (pd_ixT hck hu66 (pd_var 1) pd_int)) (pd_op op_mulA os_mul (pd_ixT hck hu66 (pd_var 1) pd_int) (pd_ixT hck hu66 (pd_var 0) pd_int))) (pgd_name 2 sc_law_order.nd))
  (psd_one (psd_ret (pd_op op_sub os_sub (pd_tyc cr_int cs_int T.n_int (by decide +kernel) (pad_cons (pd_cmp op_gt os_cmp (pd_var 2) pd_int (nomark _)) pad_nil)) (pd_tyc cr_int cs_int T.n_int (by decide +kernel) (pad_cons (pd_cmp op_lt os_cmp (pd_var 2) pd_int (nomark _)) pad_nil))))))
include hck in
theorem ok_law_of (G_law_draw : FnOk P c.w c.K mg base (L2.CX P c.w) 1 T.a_law_draw T.d_law_draw ["_law_bag_here", "_law_size"] (spD c f_law_draw)) : FnOk P c.w c.K mg base (L2.CX P c.w) 2 T.a_law_of T.d_law_of ["_law_bag_here", "_law_things"] (spD c f_law_of) :=
  fnOkD T.F_law_of sc_law_of rfl rfl <| fun cdv A outer s H E hr => by
    have hu := hu_of hr
    have hu65 := hu65_of hr
    have hu66 := hu66_of hr
    exact (psd_one (psd_ret (pd_ixT hck hu66 (pd_var 1) (pd_call G_law_draw (hr.mono (by decide)) T.g_law_draw T.k_law_draw T.b_law_draw .nil (fun W => Rps.nil) (passE rfl rfl rfl rfl) (pad_cons (pd_var 0) (pad_cons (pd_blt cr_lenA cs_lenA T.n_len (by decide +kernel) (pad_cons (pd_var 1) pad_nil)) pad_nil))))))
include hck in
theorem ok_law_exact (G_law_low : FnOk P c.w c.K mg base (L2.CX P c.w) 1 T.a_law_low T.d_law_low ["_law_top", "_law_low_here"] (spD c f_law_low)) : FnOk P c.w c.K mg base (L2.CX P c.w) 2 T.a_law_exact T.d_law_exact ["_law_got", "_law_top", "_law_low_here"] (spD c f_law_exact) :=
  fnOkD T.F_law_exact sc_law_exact rfl rfl <| fun cdv A outer s H E hr => by
    have hu := hu_of hr
    have hu65 := hu65_of hr
    have hu66 := hu66_of hr
    exact (psd_cons (psd_if (PW.pt (pw_dor (ptd_not (ptd_tru (pd_blt cr_isi cs_isi T.n_isinstance (by decide +kernel) (pad_cons (pd_var 0) (pad_cons (pd_ty (n := "tuple") rfl T.n_tuple (by decide +kernel)) pad_nil))))) (pw_dor1 (ptd_cmp (op_neA hu66) os_neA (pd_blt cr_lenA cs_lenA T.n_len (by decide +kernel) (pad_cons (pd_var 0) pad_nil)) pd_int (nomark _)))))
  (psd_one (psd_ret pd_bl))
  psd_nil)
  (psd_cons (psd_for (passes_of rfl) rfl (pid_any (pd_var 0)) (pgd_name 3 sc_law_exact.nd)
  (psd_one (psd_if (PW.pt (pw_dor (ptd_not (ptd_tru (pd_blt cr_isi cs_isi T.n_isinstance (by decide +kernel) (pad_cons (pd_var 3) (pad_cons (pd_ty (n := "int") rfl T.n_int (by decide +kernel)) pad_nil))))) (pw_dor1 (ptd_tru (pd_blt cr_isi cs_isi T.n_isinstance (by decide +kernel) (pad_cons (pd_var 3) (pad_cons (pd_ty (n := "bool") rfl T.n_bool (by decide +kernel)) pad_nil)))))))
  (psd_one (psd_ret pd_bl))
  psd_nil)))
  (psd_one (psd_ret (pd_and (pd_cmp op_ge os_cmp (pd_ixT hck hu66 (pd_var 0) pd_int) pd_int (nomark _)) (pd_and (pd_cmp (op_eqA hu66) os_eqA (pd_call G_law_low (hr.mono (by decide)) T.g_law_low T.k_law_low T.b_law_low .nil (fun W => Rps.nil) (passE rfl rfl rfl rfl) (pad_cons (pd_ixT hck hu66 (pd_var 0) pd_int) (pad_cons (pd_ixT hck hu66 (pd_var 0) pd_int) pad_nil))) (pd_var 0) (nomark _)) (pd_one (pd_cmp (op_eqA hu66) os_eqA (pd_op op_mulA os_mul (pd_ixT hck hu66 (pd_var 0) pd_int) (pd_var 2)) (pd_op op_mulA os_mul (pd_var 1) (pd_ixT hck hu66 (pd_var 0) pd_int)) (nomark _)))))))))
include hck in
theorem ok_fraction : FnOk P c.w c.K mg base (L2.CX P c.w) 3 T.a_fraction T.d_fraction ["p", "q"] (spD c f_fraction) :=
  fnOkD T.F_fraction sc_fraction rfl rfl <| fun cdv A outer s H E hr => by
    have hu := hu_of hr
    have hu65 := hu65_of hr
    have hu66 := hu66_of hr
    exact (psd_cons (psd_if (ptd_cmp (op_eqA hu66) os_eqA (pd_var 1) pd_int (nomark _))
  (psd_one (psd_raiseC rfl (xc_BadValue T) (hr.mono (by decide)) T.gx_BadValue (pad_cons (pd_var 1) pad_nil) (takes_of rfl rfl rfl rfl) passE0))
  psd_nil)
  (psd_cons (psd_asg (pd_bltM cr_gcd cs_gcd T.m_gcd (pad_cons (pd_var 0) (pad_cons (pd_var 1) pad_nil))) (pgd_name 2 sc_fraction.nd))
  (psd_cons (psd_if (ptd_cmp op_lt os_cmp (pd_var 1) pd_int (nomark _))
  (psd_one (psd_asg (pd_un un_neg us_neg (pd_var 2)) (pgd_name 2 sc_fraction.nd)))
  psd_nil)
  (psd_one (psd_ret (pd_tup (pad_cons (pd_op op_fdivA os_fdiv (pd_var 0) (pd_var 2)) (pad_cons (pd_op op_fdivA os_fdiv (pd_var 1) (pd_var 2)) pad_nil))))))))
include hck in
theorem ok_law_number (G_law_draw : FnOk P c.w c.K mg base (L2.CX P c.w) 1 T.a_law_draw T.d_law_draw ["_law_bag_here", "_law_size"] (spD c f_law_draw)) (G_law_of : FnOk P c.w c.K mg base (L2.CX P c.w) 2 T.a_law_of T.d_law_of ["_law_bag_here", "_law_things"] (spD c f_law_of)) : FnOk P c.w c.K mg base (L2.CX P c.w) 3 T.a_law_number T.d_law_number ["_law_bag_here"] (spD c f_law_number) :=
  fnOkD T.F_law_number sc_law_number rfl rfl <| fun cdv A outer s H E hr => by
    have hu := hu_of hr
    have hu65 := hu65_of hr
    have hu66 := hu66_of hr
    exact (psd_cons (psd_asg (pd_op op_addAll (os_add finN_F) (pd_op op_addAll (os_add finN_F) (pd_op op_mulA os_mul (pd_call G_law_draw (hr.mono (by decide)) T.g_law_draw T.k_law_draw T.b_law_draw .nil (fun W => Rps.nil) (passE rfl rfl rfl rfl) (pad_cons (pd_var 0) (pad_cons (pd_op op_powA os_pow pd_int pd_int) pad_nil))) (pd_op op_powA os_pow pd_int pd_int)) (pd_op op_mulA os_mul (pd_call G_law_draw (hr.mono (by decide)) T.g_law_draw T.k_law_draw T.b_law_draw .nil (fun W => Rps.nil) (passE rfl rfl rfl rfl) (pad_cons (pd_var 0) (pad_cons (pd_op op_powA os_pow pd_int pd_int) pad_nil))) (pd_op op_powA os_pow pd_int pd_int))) (pd_call G_law_draw (hr.mono (by decide)) T.g_law_draw T.k_law_draw T.b_law_draw .nil (fun W => Rps.nil) (passE rfl rfl rfl rfl) (pad_cons (pd_var 0) (pad_cons (pd_op op_powA os_pow pd_int pd_int) pad_nil)))) (pgd_name 1 sc_law_number.nd))
  (psd_cons (psd_asg (pd_call G_law_draw (hr.mono (by decide)) T.g_law_draw T.k_law_draw T.b_law_draw .nil (fun W => Rps.nil) (passE rfl rfl rfl rfl) (pad_cons (pd_var 0) (pad_cons pd_int pad_nil))) (pgd_name 2 sc_law_number.nd))
  (psd_one (psd_ret (pd_call G_law_of (hr.mono (by decide)) T.g_law_of T.k_law_of T.b_law_of .nil (fun W => Rps.nil) (passE rfl rfl rfl rfl) (pad_cons (pd_var 0) (pad_cons (pd_lst (pad_cons pd_int (pad_cons pd_int (pad_cons (pd_var 2) (pad_cons (pd_op op_sub os_sub pd_int (pd_var 2)) (pad_cons (pd_var 1) (pad_cons (pd_op op_sub os_sub pd_int (pd_var 1)) (pad_cons (pd_op op_sub os_sub (pd_op op_powA os_pow pd_int pd_int) pd_int) (pad_cons (pd_op op_sub os_sub pd_int (pd_op op_powA os_pow pd_int pd_int)) (pad_cons pd_int (pad_cons pd_int (pad_cons (pd_op op_mulA os_mul (pd_var 2) pd_int) (pad_cons pd_int (pad_cons (pd_un un_neg us_neg pd_int) (pad_cons (pd_var 2) pad_nil))))))))))))))) pad_nil)))))))
include hck in
theorem ok_plus (G_fraction : FnOk P c.w c.K mg base (L2.CX P c.w) 3 T.a_fraction T.d_fraction ["p", "q"] (spD c f_fraction)) : FnOk P c.w c.K mg base (L2.CX P c.w) 4 T.a_plus T.d_plus ["a", "b"] (spD c f_plus) :=
  fnOkD T.F_plus sc_plus rfl rfl <| fun cdv A outer s H E hr => by
    have hu := hu_of hr
    have hu65 := hu65_of hr
    have hu66 := hu66_of hr
    exact (psd_one (psd_ret (pd_call G_fraction (hr.mono (by decide)) T.g_fraction T.k_fraction T.b_fraction .nil (fun W => Rps.nil) (passE rfl rfl rfl rfl) (pad_cons (pd_op op_addAll (os_add finN_F) (pd_op op_mulA os_mul (pd_ixT hck hu66 (pd_var 0) pd_int) (pd_ixT hck hu66 (pd_var 1) pd_int)) (pd_op op_mulA os_mul (pd_ixT hck hu66 (pd_var 1) pd_int) (pd_ixT hck hu66 (pd_var 0) pd_int))) (pad_cons (pd_op op_mulA os_mul (pd_ixT hck hu66 (pd_var 0) pd_int) (pd_ixT hck hu66 (pd_var 1) pd_int)) pad_nil)))))
include hck in
theorem ok_minus (G_fraction : FnOk P c.w c.K mg base (L2.CX P c.w) 3 T.a_fraction T.d_fraction ["p", "q"] (spD c f_fraction)) : FnOk P c.w c.K mg base (L2.CX P c.w) 4 T.a_minus T.d_minus ["a", "b"] (spD c f_minus) :=
  fnOkD T.F_minus sc_minus rfl rfl <| fun cdv A outer s H E hr => by
    have hu := hu_of hr
    have hu65 := hu65_of hr
    have hu66 := hu66_of hr
    exact (psd_one (psd_ret (pd_call G_fraction (hr.mono (by decide)) T.g_fraction T.k_fraction T.b_fraction .nil (fun W => Rps.nil) (passE rfl rfl rfl rfl) (pad_cons (pd_op op_sub os_sub (pd_op op_mulA os_mul (pd_ixT hck hu66 (pd_var 0) pd_int) (pd_ixT hck hu66 (pd_var 1) pd_int)) (pd_op op_mulA os_mul (pd_ixT hck hu66 (pd_var 1) pd_int) (pd_ixT hck hu66 (pd_var 0) pd_int))) (pad_cons (pd_op op_mulA os_mul (pd_ixT hck hu66 (pd_var 0) pd_int) (pd_ixT hck hu66 (pd_var 1) pd_int)) pad_nil)))))
include hck in
theorem ok_times (G_fraction : FnOk P c.w c.K mg base (L2.CX P c.w) 3 T.a_fraction T.d_fraction ["p", "q"] (spD c f_fraction)) : FnOk P c.w c.K mg base (L2.CX P c.w) 4 T.a_times T.d_times ["a", "b"] (spD c f_times) :=
  fnOkD T.F_times sc_times rfl rfl <| fun cdv A outer s H E hr => by
    have hu := hu_of hr
    have hu65 := hu65_of hr
    have hu66 := hu66_of hr
    exact (psd_one (psd_ret (pd_call G_fraction (hr.mono (by decide)) T.g_fraction T.k_fraction T.b_fraction .nil (fun W => Rps.nil) (passE rfl rfl rfl rfl) (pad_cons (pd_op op_mulA os_mul (pd_ixT hck hu66 (pd_var 0) pd_int) (pd_ixT hck hu66 (pd_var 1) pd_int)) (pad_cons (pd_op op_mulA os_mul (pd_ixT hck hu66 (pd_var 0) pd_int) (pd_ixT hck hu66 (pd_var 1) pd_int)) pad_nil)))))
include hck in
theorem ok_quotient (G_fraction : FnOk P c.w c.K mg base (L2.CX P c.w) 3 T.a_fraction T.d_fraction ["p", "q"] (spD c f_fraction)) : FnOk P c.w c.K mg base (L2.CX P c.w) 4 T.a_quotient T.d_quotient ["a", "b"] (spD c f_quotient) :=
  fnOkD T.F_quotient sc_quotient rfl rfl <| fun cdv A outer s H E hr => by
    have hu := hu_of hr
    have hu65 := hu65_of hr
    have hu66 := hu66_of hr
    exact (psd_cons (psd_if (ptd_cmp (op_eqA hu66) os_eqA (pd_var 1) (pd_glob rfl T.gc_ZERO T.r_ZERO fun W => T.c_ZERO W) (nomark _))
  (psd_one (psd_raiseC rfl (xc_BadValue T) (hr.mono (by decide)) T.gx_BadValue (pad_cons (pd_var 1) pad_nil) (takes_of rfl rfl rfl rfl) passE0))
  psd_nil)
  (psd_one (psd_ret (pd_call G_fraction (hr.mono (by decide)) T.g_fraction T.k_fraction T.b_fraction .nil (fun W => Rps.nil) (passE rfl rfl rfl rfl) (pad_cons (pd_op op_mulA os_mul (pd_ixT hck hu66 (pd_var 0) pd_int) (pd_ixT hck hu66 (pd_var 1) pd_int)) (pad_cons (pd_op op_mulA os_mul (pd_ixT hck hu66 (pd_var 0) pd_int) (pd_ixT hck hu66 (pd_var 1) pd_int)) pad_nil))))))
include hck in
theorem ok_law_some (G_law_low : FnOk P c.w c.K mg base (L2.CX P c.w) 1 T.a_law_low T.d_law_low ["_law_top", "_law_low_here"] (spD c f_law_low)) (G_law_number : FnOk P c.w c.K mg base (L2.CX P c.w) 3 T.a_law_number T.d_law_number ["_law_bag_here"] (spD c f_law_number)) : FnOk P c.w c.K mg base (L2.CX P c.w) 4 T.a_law_some T.d_law_some ["_law_bag_here"] (spD c f_law_some) :=
  fnOkD T.F_law_some sc_law_some rfl rfl <| fun cdv A outer s H E hr => by
    have hu := hu_of hr
    have hu65 := hu65_of hr
    have hu66 := hu66_of hr
    exact (psd_one (psd_ret (pd_call G_law_low (hr.mono (by decide)) T.g_law_low T.k_law_low T.b_law_low .nil (fun W => Rps.nil) (passE rfl rfl rfl rfl) (pad_cons (pd_call G_law_number (hr.mono (by decide)) T.g_law_number T.k_law_number T.b_law_number .nil (fun W => Rps.nil) (passE rfl rfl rfl rfl) (pad_cons (pd_var 0) pad_nil)) (pad_cons (pd_blt (call_max2 rfl) cs_max2 T.n_max (by decide +kernel) (pad_cons pd_int (pad_cons (pd_blt call_abs cs_abs T.n_abs (by decide +kernel) (pad_cons (pd_call G_law_number (hr.mono (by decide)) T.g_law_number T.k_law_number T.b_law_number .nil (fun W => Rps.nil) (passE rfl rfl rfl rfl) (pad_cons (pd_var 0) pad_nil)) pad_nil)) pad_nil))) pad_nil)))))
include hck in
theorem ok_mean_of (G_plus : FnOk P c.w c.K mg base (L2.CX P c.w) 4 T.a_plus T.d_plus ["a", "b"] (spD c f_plus)) (G_fraction : FnOk P c.w c.K mg base (L2.CX P c.w) 3 T.a_fraction T.d_fraction ["p", "q"] (spD c f_fraction)) : FnOk P c.w c.K mg base (L2.CX P c.w) 5 T.a_mean_of T.d_mean_of ["values"] (spD c f_mean_of) :=
  fnOkD T.F_mean_of sc_mean_of rfl rfl <| fun cdv A outer s H E hr => by
    have hu := hu_of hr
    have hu65 := hu65_of hr
    have hu66 := hu66_of hr
    exact (psd_cons (psd_if (ptd_cmp (op_eqA hu66) os_eqA (pd_blt cr_lenA cs_lenA T.n_len (by decide +kernel) (pad_cons (pd_var 0) pad_nil)) pd_int (nomark _))
  (psd_one (psd_raiseC rfl (xc_BadValue T) (hr.mono (by decide)) T.gx_BadValue (pad_cons (pd_tup pad_nil) pad_nil) (takes_of rfl rfl rfl rfl) passE0))
  psd_nil)
  (psd_cons (psd_asg (pd_glob rfl T.gc_ZERO T.r_ZERO fun W => T.c_ZERO W) (pgd_name 1 sc_mean_of.nd))
  (psd_cons (psd_for (passes_of rfl) rfl (pid_any (pd_var 0)) (pgd_name 2 sc_mean_of.nd)
  (psd_one (psd_asg (pd_call G_plus (hr.mono (by decide)) T.g_plus T.k_plus T.b_plus .nil (fun W => Rps.nil) (passE rfl rfl rfl rfl) (pad_cons (pd_var 1) (pad_cons (pd_var 2) pad_nil))) (pgd_name 1 sc_mean_of.nd))))
  (psd_one (psd_ret (pd_call G_fraction (hr.mono (by decide)) T.g_fraction T.k_fraction T.b_fraction .nil (fun W => Rps.nil) (passE rfl rfl rfl rfl) (pad_cons (pd_ixT hck hu66 (pd_var 1) pd_int) (pad_cons (pd_op op_mulA os_mul (pd_ixT hck hu66 (pd_var 1) pd_int) (pd_blt cr_lenA cs_lenA T.n_len (by decide +kernel) (pad_cons (pd_var 0) pad_nil))) pad_nil))))))))
include hck in
theorem ok_law_pair (G_law_draw : FnOk P c.w c.K mg base (L2.CX P c.w) 1 T.a_law_draw T.d_law_draw ["_law_bag_here", "_law_size"] (spD c f_law_draw)) (G_law_some : FnOk P c.w c.K mg base (L2.CX P c.w) 4 T.a_law_some T.d_law_some ["_law_bag_here"] (spD c f_law_some)) (G_law_low : FnOk P c.w c.K mg base (L2.CX P c.w) 1 T.a_law_low T.d_law_low ["_law_top", "_law_low_here"] (spD c f_law_low)) (G_law_number : FnOk P c.w c.K mg base (L2.CX P c.w) 3 T.a_law_number T.d_law_number ["_law_bag_here"] (spD c f_law_number)) : FnOk P c.w c.K mg base (L2.CX P c.w) 5 T.a_law_pair T.d_law_pair ["_law_bag_here"] (spD c f_law_pair) :=
  fnOkD T.F_law_pair sc_law_pair rfl rfl <| fun cdv A outer s H E hr => by
    have hu := hu_of hr
    have hu65 := hu65_of hr
    have hu66 := hu66_of hr
    exact (psd_cons (psd_par3 1 2 3 rfl sc_law_pair.nd (pad_cons (pd_call G_law_some (hr.mono (by decide)) T.g_law_some T.k_law_some T.b_law_some .nil (fun W => Rps.nil) (passE rfl rfl rfl rfl) (pad_cons (pd_var 0) pad_nil)) (pad_cons (pd_call G_law_some (hr.mono (by decide)) T.g_law_some T.k_law_some T.b_law_some .nil (fun W => Rps.nil) (passE rfl rfl rfl rfl) (pad_cons (pd_var 0) pad_nil)) (pad_cons (pd_call G_law_draw (hr.mono (by decide)) T.g_law_draw T.k_law_draw T.b_law_draw .nil (fun W => Rps.nil) (passE rfl rfl rfl rfl) (pad_cons (pd_var 0) (pad_cons pd_int pad_nil))) pad_nil))))
  (psd_cons (psd_if (ptd_cmp (op_eqA hu66) os_eqA (pd_var 3) pd_int (nomark _))
  (psd_one (psd_asg (pd_var 1) (pgd_name 2 sc_law_pair.nd)))
  psd_nil)
  (psd_cons (psd_if (ptd_cmp (op_eqA hu66) os_eqA (pd_var 3) pd_int (nomark _))
  (psd_one (psd_asg (pd_tup (pad_cons (pd_op op_sub os_sub pd_int (pd_ixT hck hu66 (pd_var 1) pd_int)) (pad_cons (pd_ixT hck hu66 (pd_var 1) pd_int) pad_nil))) (pgd_name 2 sc_law_pair.nd)))
  psd_nil)
  (psd_cons (psd_if (ptd_cmp (op_eqA hu66) os_eqA (pd_var 3) pd_int (nomark _))
  (psd_one (psd_asg (pd_call G_law_low (hr.mono (by decide)) T.g_law_low T.k_law_low T.b_law_low .nil (fun W => Rps.nil) (passE rfl rfl rfl rfl) (pad_cons (pd_call G_law_number (hr.mono (by decide)) T.g_law_number T.k_law_number T.b_law_number .nil (fun W => Rps.nil) (passE rfl rfl rfl rfl) (pad_cons (pd_var 0) pad_nil)) (pad_cons (pd_ixT hck hu66 (pd_var 1) pd_int) pad_nil))) (pgd_name 2 sc_law_pair.nd)))
  psd_nil)
  (psd_cons (psd_if (ptd_cmp (op_eqA hu66) os_eqA (pd_var 3) pd_int (nomark _))
  (psd_one (psd_asg (pd_tup (pad_cons (pd_op op_fdivA os_fdiv (pd_ixT hck hu66 (pd_var 1) pd_int) (pd_ixT hck hu66 (pd_var 1) pd_int)) (pad_cons pd_int pad_nil))) (pgd_name 2 sc_law_pair.nd)))
  psd_nil)
  (psd_cons (psd_if (ptd_cmp (op_eqA hu66) os_eqA (pd_var 3) pd_int (nomark _))
  (psd_one (psd_asg (pd_tup (pad_cons pd_int (pad_cons pd_int pad_nil))) (pgd_name 2 sc_law_pair.nd)))
  psd_nil)
  (psd_one (psd_ret (pd_lst (pad_cons (pd_var 1) (pad_cons (pd_var 2) pad_nil)))))))))))
include hck in
theorem ok_law_made (G_law_number : FnOk P c.w c.K mg base (L2.CX P c.w) 3 T.a_law_number T.d_law_number ["_law_bag_here"] (spD c f_law_number)) (G_law_draw : FnOk P c.w c.K mg base (L2.CX P c.w) 1 T.a_law_draw T.d_law_draw ["_law_bag_here", "_law_size"] (spD c f_law_draw)) (G_law_exact : FnOk P c.w c.K mg base (L2.CX P c.w) 2 T.a_law_exact T.d_law_exact ["_law_got", "_law_top", "_law_low_here"] (spD c f_law_exact)) (G_fraction : FnOk P c.w c.K mg base (L2.CX P c.w) 3 T.a_fraction T.d_fraction ["p", "q"] (spD c f_fraction)) (G_law_like : FnOk P c.w c.K mg base (L2.CX P c.w) 5 T.a_law_like T.d_law_like ["_law_got", "_law_due"] (spD c f_law_like)) : FnOk P c.w c.K mg base (L2.CX P c.w) 6 T.a_law_made T.d_law_made ["_law_bag_here"] (spD c f_law_made) :=
  fnOkDC T.F_law_made sc_law_made rfl rfl <| fun A outer s H E hr => by
    have hu := hu_of hr
    have hu65 := hu65_of hr
    have hu66 := hu66_of hr
    exact (psd_cons (psd_asg (pd_tup (pad_cons (pd_call G_law_number (hr.mono (by decide)) T.g_law_number T.k_law_number T.b_law_number .nil (fun W => Rps.nil) (passE rfl rfl rfl rfl) (pad_cons (pd_var 0) pad_nil)) (pad_cons (pd_call G_law_number (hr.mono (by decide)) T.g_law_number T.k_law_number T.b_law_number .nil (fun W => Rps.nil) (passE rfl rfl rfl rfl) (pad_cons (pd_var 0) pad_nil)) pad_nil))) (pgd_tup rfl (pgsd_cons (pgd_name 1 sc_law_made.nd) (pgsd_cons (pgd_name 2 sc_law_made.nd) pgsd_nil)) (gsCons_len (gN_pure 1) (gsCons_len (gN_pure 2) gsNil_len))))
  (psd_cons (psd_asg (pd_call G_law_draw (hr.mono (by decide)) T.g_law_draw T.k_law_draw T.b_law_draw .nil (fun W => Rps.nil) (passE rfl rfl rfl rfl) (pad_cons (pd_var 0) (pad_cons pd_int pad_nil))) (pgd_name 3 sc_law_made.nd))
  (psd_cons (psd_if (ptd_cmp (op_eqA hu66) os_eqA (pd_var 3) pd_int (nomark _))
  (psd_one (psd_ret (pd_and (pd_call G_law_exact (hr.mono (by decide)) T.g_law_exact T.k_law_exact T.b_law_exact .nil (fun W => Rps.nil) (passE rfl rfl rfl rfl) (pad_cons (T.b1_fraction.elim fun _ hb => pd_call G_fraction (hr.mono (by decide)) T.g_fraction T.k_fraction hb.2 hb.1 (fun W => (Rps.cons (by simp [Rp]) Rps.nil)) (passE rfl rfl rfl rfl) (pad_cons (pd_var 1) pad_nil)) (pad_cons (pd_var 1) (pad_cons pd_int pad_nil)))) (pd_one (pd_call G_law_exact (hr.mono (by decide)) T.g_law_exact T.k_law_exact T.b_law_exact .nil (fun W => Rps.nil) (passE rfl rfl rfl rfl) (pad_cons (T.k0.elim fun _ kb => pd_callK0 G_fraction (hr.mono (by decide)) T.g_fraction T.k_fraction kb (passE rfl rfl rfl rfl) (fun W ds zs vs us h k => g_k0_rps (dfl_rps_fraction W) h k) (pkd_cons (pd_var 2) pkd_nil)) (pad_cons (pd_var 2) (pad_cons pd_int pad_nil))))))))
  psd_nil)
  (psd_cons (psd_asg (pd_askF (k := 3) T.g_law_ask T.F_law_ask T.b_law_ask sc_law_ask rfl (Or.inl rfl) (fun cdv => gv_law_ask T rfl rfl _ cdv) T.hx_law_ask T.TB_law_made T.cd_law_made T.mT_law_made T.uT_law_made (hr.mono (by decide)) (lamS_by (sc := defScope s_law_made) (by decide +kernel)) rfl (fun _ _ _ _ _ => rfl) (fun A outer s H E f0 c0 hr => by
    have hu := hu_of hr
    have hu65 := hu65_of hr
    have hu66 := hu66_of hr
    exact (pd_if (ptd_cmp (op_eqA hu66) os_eqA (pd_var 3) pd_int (nomark _)) (pd_call G_fraction (hr.mono (by decide)) T.g_fraction T.k_fraction T.b_fraction .nil (fun W => Rps.nil) (passE rfl rfl rfl rfl) (pad_cons (pd_var 1) (pad_cons (pd_var 2) pad_nil))) (T.k1.elim fun _ kb => pd_callK0 G_fraction (hr.mono (by decide)) T.g_fraction T.k_fraction kb (passE rfl rfl rfl rfl) (fun W ds zs vs us h k => g_k1_rps (dfl_rps_fraction W) h k) (pkd_cons (pd_var 2) (pkd_cons (pd_var 1) pkd_nil)))))) (pgd_name 4 sc_law_made.nd))
  (psd_cons (psd_if (ptd_cmp (op_eqA hu66) os_eqA (pd_var 2) pd_int (nomark _))
  (psd_one (psd_ret (pd_call G_law_like (hr.mono (by decide)) T.g_law_like T.k_law_like T.b_law_like .nil (fun W => Rps.nil) (passE rfl rfl rfl rfl) (pad_cons (pd_var 4) (pad_cons (pd_lst (pad_cons pd_str (pad_cons pd_int pad_nil))) pad_nil)))))
  psd_nil)
  (psd_one (psd_ret (pd_and (pd_cmp (op_eqA hu66) os_eqA (pd_ixT hck hu66 (pd_var 4) pd_int) pd_str (nomark _)) (pd_one (pd_call G_law_exact (hr.mono (by decide)) T.g_law_exact T.k_law_exact T.b_law_exact .nil (fun W => Rps.nil) (passE rfl rfl rfl rfl) (pad_cons (pd_ixT hck hu66 (pd_var 4) pd_int) (pad_cons (pd_var 1) (pad_cons (pd_var 2) pad_nil)))))))))))))
include hck in
theorem ok_law_compared (G_law_like : FnOk P c.w c.K mg base (L2.CX P c.w) 5 T.a_law_like T.d_law_like ["_law_got", "_law_due"] (spD c f_law_like)) (G_below : FnOk P c.w c.K mg base (L2.CX P c.w) 1 T.a_below T.d_below ["a", "b"] (spD c f_below)) (G_floor_of : FnOk P c.w c.K mg base (L2.CX P c.w) 1 T.a_floor_of T.d_floor_of ["a"] (spD c f_floor_of)) : FnOk P c.w c.K mg base (L2.CX P c.w) 6 T.a_law_compared T.d_law_compared ["_law_one", "_law_two", "_law_way"] (spD c f_law_compared) :=
  fnOkD T.F_law_compared sc_law_compared rfl rfl <| fun cdv A outer s H E hr => by
    have hu := hu_of hr
    have hu65 := hu65_of hr
    have hu66 := hu66_of hr
    exact (psd_cons (psd_asg (pd_cmp op_lt os_cmp (pd_op op_mulA os_mul (pd_ixT hck hu66 (pd_var 0) pd_int) (pd_ixT hck hu66 (pd_var 1) pd_int)) (pd_op op_mulA os_mul (pd_ixT hck hu66 (pd_var 1) pd_int) (pd_ixT hck hu66 (pd_var 0) pd_int)) (nomark _)) (pgd_name 3 sc_law_compared.nd))
  (psd_cons (psd_if (ptd_not (ptd_tru (pd_call G_law_like (hr.mono (by decide)) T.g_law_like T.k_law_like T.b_law_like .nil (fun W => Rps.nil) (passE rfl rfl rfl rfl) (pad_cons (pd_if (ptd_cmp (op_eqA hu66) os_eqA (pd_var 2) pd_int (nomark _)) (pd_call G_below (hr.mono (by decide)) T.g_below T.k_below T.b_below .nil (fun W => Rps.nil) (passE rfl rfl rfl rfl) (pad_cons (pd_var 0) (pad_cons (pd_var 1) pad_nil))) (pd_callK0 G_below (hr.mono (by decide)) T.g_below T.k_below T.k6 (passE rfl rfl rfl rfl) (fun W ds zs vs us h k => g_k6_rps h k) (pkd_cons (pd_var 1) (pkd_cons (pd_var 0) pkd_nil)))) (pad_cons (pd_var 3) pad_nil)))))
  (psd_one (psd_ret pd_bl))
  psd_nil)
  (psd_cons (psd_asg (pd_if (ptd_cmp (op_eqA hu66) os_eqA (pd_var 2) pd_int (nomark _)) (pd_call G_floor_of (hr.mono (by decide)) T.g_floor_of T.k_floor_of T.b_floor_of .nil (fun W => Rps.nil) (passE rfl rfl rfl rfl) (pad_cons (pd_var 0) pad_nil)) (pd_callK0 G_floor_of (hr.mono (by decide)) T.g_floor_of T.k_floor_of T.k7 (passE rfl rfl rfl rfl) (fun W ds zs vs us h k => g_k7_rps h k) (pkd_cons (pd_var 0) pkd_nil))) (pgd_name 4 sc_law_compared.nd))
  (psd_one (psd_ret (pd_and (pd_call G_law_like (hr.mono (by decide)) T.g_law_like T.k_law_like T.b_law_like .nil (fun W => Rps.nil) (passE rfl rfl rfl rfl) (pad_cons (pd_var 4) (pad_cons (pd_op op_fdivA os_fdiv (pd_ixT hck hu66 (pd_var 0) pd_int) (pd_ixT hck hu66 (pd_var 0) pd_int)) pad_nil))) (pd_one (pd_chain op_le os_cmp op_lt os_cmp (pd_op op_mulA os_mul (pd_var 4) (pd_ixT hck hu66 (pd_var 0) pd_int)) (pd_ixT hck hu66 (pd_var 0) pd_int) (pd_op op_mulA os_mul (pd_op op_addAll (os_add finN_F) (pd_var 4) pd_int) (pd_ixT hck hu66 (pd_var 0) pd_int))))))))))
include hck in
theorem ok_law_joined (G_minus : FnOk P c.w c.K mg base (L2.CX P c.w) 4 T.a_minus T.d_minus ["a", "b"] (spD c f_minus)) (G_plus : FnOk P c.w c.K mg base (L2.CX P c.w) 4 T.a_plus T.d_plus ["a", "b"] (spD c f_plus)) (G_law_exact : FnOk P c.w c.K mg base (L2.CX P c.w) 2 T.a_law_exact T.d_law_exact ["_law_got", "_law_top", "_law_low_here"] (spD c f_law_exact)) (G_times : FnOk P c.w c.K mg base (L2.CX P c.w) 4 T.a_times T.d_times ["a", "b"] (spD c f_times)) (G_quotient : FnOk P c.w c.K mg base (L2.CX P c.w) 4 T.a_quotient T.d_quotient ["a", "b"] (spD c f_quotient)) (G_law_like : FnOk P c.w c.K mg base (L2.CX P c.w) 5 T.a_law_like T.d_law_like ["_law_got", "_law_due"] (spD c f_law_like)) : FnOk P c.w c.K mg base (L2.CX P c.w) 7 T.a_law_joined T.d_law_joined ["_law_one", "_law_two", "_law_way"] (spD c f_law_joined) :=
  fnOkDC T.F_law_joined sc_law_joined rfl rfl <| fun A outer s H E hr => by
    have hu := hu_of hr
    have hu65 := hu65_of hr
    have hu66 := hu66_of hr
    exact (psd_cons (psd_asg (pd_op op_mulA os_mul (pd_ixT hck hu66 (pd_var 0) pd_int) (pd_ixT hck hu66 (pd_var 1) pd_int)) (pgd_name 3 sc_law_joined.nd))
  (psd_cons (psd_asg (pd_if (ptd_cmp (op_eqA hu66) os_eqA (pd_var 2) pd_int (nomark _)) (pd_lst (pad_cons (pd_call G_plus (hr.mono (by decide)) T.g_plus T.k_plus T.b_plus .nil (fun W => Rps.nil) (passE rfl rfl rfl rfl) (pad_cons (pd_var 0) (pad_cons (pd_var 1) pad_nil))) (pad_cons (pd_call G_minus (hr.mono (by decide)) T.g_minus T.k_minus T.b_minus .nil (fun W => Rps.nil) (passE rfl rfl rfl rfl) (pad_cons (pd_var 0) (pad_cons (pd_var 1) pad_nil))) pad_nil))) (pd_lst (pad_cons (pd_callK0 G_plus (hr.mono (by decide)) T.g_plus T.k_plus T.k3 (passE rfl rfl rfl rfl) (fun W ds zs vs us h k => g_k3_rps h k) (pkd_cons (pd_var 1) (pkd_cons (pd_var 0) pkd_nil))) (pad_cons (pd_callK0 G_minus (hr.mono (by decide)) T.g_minus T.k_minus T.k2 (passE rfl rfl rfl rfl) (fun W ds zs vs us h k => g_k2_rps h k) (pkd_cons (pd_var 1) (pkd_cons (pd_var 0) pkd_nil))) pad_nil)))) (pgd_name 4 sc_law_joined.nd))
  (psd_cons (psd_if (ptd_not (ptd_tru (pd_call G_law_exact (hr.mono (by decide)) T.g_law_exact T.k_law_exact T.b_law_exact .nil (fun W => Rps.nil) (passE rfl rfl rfl rfl) (pad_cons (pd_ixT hck hu66 (pd_var 4) pd_int) (pad_cons (pd_op op_addAll (os_add finN_F) (pd_op op_mulA os_mul (pd_ixT hck hu66 (pd_var 0) pd_int) (pd_ixT hck hu66 (pd_var 1) pd_int)) (pd_op op_mulA os_mul (pd_ixT hck hu66 (pd_var 1) pd_int) (pd_ixT hck hu66 (pd_var 0) pd_int))) (pad_cons (pd_var 3) pad_nil))))))
  (psd_one (psd_ret pd_bl))
  psd_nil)
  (psd_cons (psd_if (ptd_not (ptd_tru (pd_call G_law_exact (hr.mono (by decide)) T.g_law_exact T.k_law_exact T.b_law_exact .nil (fun W => Rps.nil) (passE rfl rfl rfl rfl) (pad_cons (pd_ixT hck hu66 (pd_var 4) pd_int) (pad_cons (pd_op op_sub os_sub (pd_op op_mulA os_mul (pd_ixT hck hu66 (pd_var 0) pd_int) (pd_ixT hck hu66 (pd_var 1) pd_int)) (pd_op op_mulA os_mul (pd_ixT hck hu66 (pd_var 1) pd_int) (pd_ixT hck hu66 (pd_var 0) pd_int))) (pad_cons (pd_var 3) pad_nil))))))
  (psd_one (psd_ret pd_bl))
  psd_nil)
  (psd_cons (psd_if (ptd_not (ptd_tru (pd_call G_law_exact (hr.mono (by decide)) T.g_law_exact T.k_law_exact T.b_law_exact .nil (fun W => Rps.nil) (passE rfl rfl rfl rfl) (pad_cons (pd_if (ptd_cmp (op_eqA hu66) os_eqA (pd_var 2) pd_int (nomark _)) (pd_call G_times (hr.mono (by decide)) T.g_times T.k_times T.b_times .nil (fun W => Rps.nil) (passE rfl rfl rfl rfl) (pad_cons (pd_var 0) (pad_cons (pd_var 1) pad_nil))) (pd_callK0 G_times (hr.mono (by decide)) T.g_times T.k_times T.k4 (passE rfl rfl rfl rfl) (fun W ds zs vs us h k => g_k4_rps h k) (pkd_cons (pd_var 0) (pkd_cons (pd_var 1) pkd_nil)))) (pad_cons (pd_op op_mulA os_mul (pd_ixT hck hu66 (pd_var 0) pd_int) (pd_ixT hck hu66 (pd_var 1) pd_int)) (pad_cons (pd_var 3) pad_nil))))))
  (psd_one (psd_ret pd_bl))
  psd_nil)
  (psd_cons (psd_asg (pd_askF (k := 4) T.g_law_ask T.F_law_ask T.b_law_ask sc_law_ask rfl (Or.inl rfl) (fun cdv => gv_law_ask T rfl rfl _ cdv) T.hx_law_ask T.TB_law_joined T.cd_law_joined T.mT_law_joined T.uT_law_joined (hr.mono (by decide)) (lamS_by (sc := defScope s_law_joined) (by decide +kernel)) rfl (fun _ _ _ _ _ => rfl) (fun A outer s H E f0 c0 hr => by
    have hu := hu_of hr
    have hu65 := hu65_of hr
    have hu66 := hu66_of hr
    exact (pd_if (ptd_cmp (op_eqA hu66) os_eqA (pd_var 2) pd_int (nomark _)) (pd_call G_quotient (hr.mono (by decide)) T.g_quotient T.k_quotient T.b_quotient .nil (fun W => Rps.nil) (passE rfl rfl rfl rfl) (pad_cons (pd_var 0) (pad_cons (pd_var 1) pad_nil))) (pd_callK0 G_quotient (hr.mono (by decide)) T.g_quotient T.k_quotient T.k5 (passE rfl rfl rfl rfl) (fun W ds zs vs us h k => g_k5_rps h k) (pkd_cons (pd_var 1) (pkd_cons (pd_var 0) pkd_nil)))))) (pgd_name 5 sc_law_joined.nd))
  (psd_cons (psd_if (ptd_cmp (op_eqA hu66) os_eqA (pd_ixT hck hu66 (pd_var 1) pd_int) pd_int (nomark _))
  (psd_one (psd_if (ptd_not (ptd_tru (pd_call G_law_like (hr.mono (by decide)) T.g_law_like T.k_law_like T.b_law_like .nil (fun W => Rps.nil) (passE rfl rfl rfl rfl) (pad_cons (pd_var 5) (pad_cons (pd_lst (pad_cons pd_str (pad_cons (pd_tup (pad_cons pd_int (pad_cons pd_int pad_nil))) pad_nil))) pad_nil)))))
  (psd_one (psd_ret pd_bl))
  psd_nil))
  (psd_one (psd_if (PW.pt (pw_dor (ptd_cmp (op_neA hu66) os_neA (pd_ixT hck hu66 (pd_var 5) pd_int) pd_str (nomark _)) (pw_dor1 (ptd_not (ptd_tru (pd_call G_law_exact (hr.mono (by decide)) T.g_law_exact T.k_law_exact T.b_law_exact .nil (fun W => Rps.nil) (passE rfl rfl rfl rfl) (pad_cons (pd_ixT hck hu66 (pd_var 5) pd_int) (pad_cons (pd_op op_mulA os_mul (pd_ixT hck hu66 (pd_var 0) pd_int) (pd_ixT hck hu66 (pd_var 1) pd_int)) (pad_cons (pd_op op_mulA os_mul (pd_ixT hck hu66 (pd_var 0) pd_int) (pd_ixT hck hu66 (pd_var 1) pd_int)) pad_nil)))))))))
  (psd_one (psd_ret pd_bl))
  (psd_one (psd_if (ptd_not (ptd_tru (pd_call G_law_like (hr.mono (by decide)) T.g_law_like T.k_law_like T.b_law_like .nil (fun W => Rps.nil) (passE rfl rfl rfl rfl) (pad_cons (pd_call G_times (hr.mono (by decide)) T.g_times T.k_times T.b_times .nil (fun W => Rps.nil) (passE rfl rfl rfl rfl) (pad_cons (pd_ixT hck hu66 (pd_var 5) pd_int) (pad_cons (pd_var 1) pad_nil))) (pad_cons (pd_var 0) pad_nil)))))
  (psd_one (psd_ret pd_bl))
  psd_nil)))))
  (psd_one (psd_ret (pd_and (pd_call G_law_like (hr.mono (by decide)) T.g_law_like T.k_law_like T.b_law_like .nil (fun W => Rps.nil) (passE rfl rfl rfl rfl) (pad_cons (pd_call G_minus (hr.mono (by decide)) T.g_minus T.k_minus T.b_minus .nil (fun W => Rps.nil) (passE rfl rfl rfl rfl) (pad_cons (pd_ixT hck hu66 (pd_var 4) pd_int) (pad_cons (pd_var 1) pad_nil))) (pad_cons (pd_var 0) pad_nil))) (pd_one (pd_call G_law_like (hr.mono (by decide)) T.g_law_like T.k_law_like T.b_law_like .nil (fun W => Rps.nil) (passE rfl rfl rfl rfl) (pad_cons (pd_call G_plus (hr.mono (by decide)) T.g_plus T.k_plus T.b_plus .nil (fun W => Rps.nil) (passE rfl rfl rfl rfl) (pad_cons (pd_var 1) (pad_cons (pd_ixT hck hu66 (pd_var 4) pd_int) pad_nil))) (pad_cons (pd_var 0) pad_nil))))))))))))))
include hck in
theorem ok_law_listed (G_law_draw : FnOk P c.w c.K mg base (L2.CX P c.w) 1 T.a_law_draw T.d_law_draw ["_law_bag_here", "_law_size"] (spD c f_law_draw)) (G_law_some : FnOk P c.w c.K mg base (L2.CX P c.w) 4 T.a_law_some T.d_law_some ["_law_bag_here"] (spD c f_law_some)) (G_law_low : FnOk P c.w c.K mg base (L2.CX P c.w) 1 T.a_law_low T.d_law_low ["_law_top", "_law_low_here"] (spD c f_law_low)) (G_law_of : FnOk P c.w c.K mg base (L2.CX P c.w) 2 T.a_law_of T.d_law_of ["_law_bag_here", "_law_things"] (spD c f_law_of)) (G_ascending : FnOk P c.w c.K mg base (L2.CX P c.w) 1 T.a_ascending T.d_ascending ["values"] (spD c f_ascending)) (G_law_order : FnOk P c.w c.K mg base (L2.CX P c.w) 1 T.a_law_order T.d_law_order ["_law_one", "_law_two"] (spD c f_law_order)) (G_mean_of : FnOk P c.w c.K mg base (L2.CX P c.w) 5 T.a_mean_of T.d_mean_of ["values"] (spD c f_mean_of)) (G_law_like : FnOk P c.w c.K mg base (L2.CX P c.w) 5 T.a_law_like T.d_law_like ["_law_got", "_law_due"] (spD c f_law_like)) (G_law_exact : FnOk P c.w c.K mg base (L2.CX P c.w) 2 T.a_law_exact T.d_law_exact ["_law_got", "_law_top", "_law_low_here"] (spD c f_law_exact)) : FnOk P c.w c.K mg base (L2.CX P c.w) 8 T.a_law_listed T.d_law_listed ["_law_bag_here"] (spD c f_law_listed) :=
  fnOkDC T.F_law_listed sc_law_listed rfl rfl <| fun A outer s H E hr => by
    have hu := hu_of hr
    have hu65 := hu65_of hr
    have hu66 := hu66_of hr
    exact (psd_cons (psd_asg (pd_op op_addAll (os_add finN_F) (pd_lc (own := [("_law_k", 9)]) fin_F rfl sc_law_listed.nd (pid_rng1 T.n_range (pd_op op_addAll (os_add finN_F) pd_int (pd_call G_law_draw (hr.mono (by decide)) T.g_law_draw T.k_law_draw T.b_law_draw .nil (fun W => Rps.nil) (passE rfl rfl rfl rfl) (pad_cons (pd_var 0) (pad_cons pd_int pad_nil))))) (by kernel_rfl) (fun _ _ _ _ _ => (pgd_name 9 sc_law_listed.nd)) (fun _ _ _ _ _ => ptsd_nil) (fun _ _ _ _ _ => (pd_call G_law_some (hr.mono (by decide)) T.g_law_some T.k_law_some T.b_law_some .nil (fun W => Rps.nil) passE0 (pad_cons (pd_var 0) pad_nil)))) (pd_lst (pad_cons (pd_call G_law_low (hr.mono (by decide)) T.g_law_low T.k_law_low T.b_law_low .nil (fun W => Rps.nil) (passE rfl rfl rfl rfl) (pad_cons (pd_op op_sub os_sub (pd_call G_law_draw (hr.mono (by decide)) T.g_law_draw T.k_law_draw T.b_law_draw .nil (fun W => Rps.nil) (passE rfl rfl rfl rfl) (pad_cons (pd_var 0) (pad_cons pd_int pad_nil))) pd_int) (pad_cons (pd_op op_addAll (os_add finN_F) pd_int (pd_call G_law_draw (hr.mono (by decide)) T.g_law_draw T.k_law_draw T.b_law_draw .nil (fun W => Rps.nil) (passE rfl rfl rfl rfl) (pad_cons (pd_var 0) (pad_cons pd_int pad_nil)))) pad_nil))) pad_nil))) (pgd_name 1 sc_law_listed.nd))
  (psd_cons (psd_asg (pd_lc (own := [("_law_k", 9)]) fin_F rfl sc_law_listed.nd (pid_rng1 T.n_range (pd_call G_law_draw (hr.mono (by decide)) T.g_law_draw T.k_law_draw T.b_law_draw .nil (fun W => Rps.nil) (passE rfl rfl rfl rfl) (pad_cons (pd_var 0) (pad_cons pd_int pad_nil)))) (by kernel_rfl) (fun _ _ _ _ _ => (pgd_name 9 sc_law_listed.nd)) (fun _ _ _ _ _ => ptsd_nil) (fun _ _ _ _ _ => (pd_call G_law_of (hr.mono (by decide)) T.g_law_of T.k_law_of T.b_law_of .nil (fun W => Rps.nil) passE0 (pad_cons (pd_var 0) (pad_cons (pd_var 1) pad_nil))))) (pgd_name 2 sc_law_listed.nd))
  (psd_cons (psd_asg (pd_tyc (cr_lstA rfl) (cs_lstA finN_F) T.n_list (by decide +kernel) (pad_cons (pd_var 2) pad_nil)) (pgd_name 3 sc_law_listed.nd))
  (psd_cons (psd_if (ptd_cmp (op_eqA hu66) os_eqA (pd_call G_law_draw (hr.mono (by decide)) T.g_law_draw T.k_law_draw T.b_law_draw .nil (fun W => Rps.nil) (passE rfl rfl rfl rfl) (pad_cons (pd_var 0) (pad_cons pd_int pad_nil))) pd_int (nomark _))
  (psd_one (psd_asg (pd_tyc call_tuple_of cs_tup T.n_tuple (by decide +kernel) (pad_cons (pd_var 2) pad_nil)) (pgd_name 3 sc_law_listed.nd)))
  psd_nil)
  (psd_cons (psd_for (passes_of rfl) rfl (pid_rng1 T.n_range pd_int) (pgd_name 4 sc_law_listed.nd)
  (psd_cons (psd_asg (pd_if (ptd_cmp (op_eqA hu66) os_eqA (pd_var 4) pd_int (nomark _)) (pd_call G_ascending (hr.mono (by decide)) T.g_ascending T.k_ascending T.b_ascending .nil (fun W => Rps.nil) (passE rfl rfl rfl rfl) (pad_cons (pd_var 3) pad_nil)) (pd_callK0 G_ascending (hr.mono (by decide)) T.g_ascending T.k_ascending T.k8 (passE rfl rfl rfl rfl) (fun W ds zs vs us h k => g_k8_rps h k) (pkd_cons (pd_var 3) pkd_nil))) (pgd_name 5 sc_law_listed.nd))
  (psd_cons (psd_if (PW.pt (pw_dor (ptd_not (ptd_tru (pd_blt cr_isi cs_isi T.n_isinstance (by decide +kernel) (pad_cons (pd_var 5) (pad_cons (pd_ty (n := "tuple") rfl T.n_tuple (by decide +kernel)) pad_nil))))) (pw_dor (ptd_not (ptd_tru (pd_blt (cr_all rfl) cs_all T.n_all (by decide +kernel) (pad_cons (pd_lc (own := [("_law_one", 8)]) fin_F rfl sc_law_listed.nd (pid_any (pd_var 5)) (by kernel_rfl) (fun _ _ _ _ _ => (pgd_name 8 sc_law_listed.nd)) (fun _ _ _ _ _ => ptsd_nil) (fun _ _ _ _ _ => (pd_cmp (op_inB hu65) os_inB (pd_var 8) (pd_var 2) (by rfl)))) pad_nil)))) (pw_dor1 (ptd_not (ptd_tru (pd_blt (cr_all rfl) cs_all T.n_all (by decide +kernel) (pad_cons (pd_lc (own := [("_law_one", 8)]) fin_F rfl sc_law_listed.nd (pid_any (pd_var 2)) (by kernel_rfl) (fun _ _ _ _ _ => (pgd_name 8 sc_law_listed.nd)) (fun _ _ _ _ _ => ptsd_nil) (fun _ _ _ _ _ => (pd_cmp (op_inB hu65) os_inB (pd_var 8) (pd_var 5) (by rfl)))) pad_nil))))))))
  (psd_one (psd_ret pd_bl))
  psd_nil)
  (psd_cons (psd_if (ptd_not (ptd_tru (pd_blt (cr_all rfl) cs_all T.n_all (by decide +kernel) (pad_cons (pd_lc (own := [("_law_one", 8), ("_law_two", 10)]) fin_F rfl sc_law_listed.nd (pid_zip2 T.n_zip (pd_var 5) (pd_sl sl_all (ss_all finN_F) (pd_var 5) (pod_some pd_int) pod_none)) (by kernel_rfl) (fun _ _ _ _ _ => (pgd_tup rfl (pgsd_cons (pgd_name 8 sc_law_listed.nd) (pgsd_cons (pgd_name 10 sc_law_listed.nd) pgsd_nil)) (gsCons_len (gN_pure 8) (gsCons_len (gN_pure 10) gsNil_len)))) (fun _ _ _ _ _ => ptsd_nil) (fun _ _ _ _ _ => (pd_cmp op_lt os_cmp (pd_call G_law_order (hr.mono (by decide)) T.g_law_order T.k_law_order T.b_law_order .nil (fun W => Rps.nil) passE0 (pad_cons (pd_var 8) (pad_cons (pd_var 10) pad_nil))) pd_int (nomark _)))) pad_nil))))
  (psd_one (psd_ret pd_bl))
  psd_nil)
  (psd_cons (psd_asg (pd_askF (k := 5) T.g_law_ask T.F_law_ask T.b_law_ask sc_law_ask rfl (Or.inl rfl) (fun cdv => gv_law_ask T rfl rfl _ cdv) T.hx_law_ask T.TB_law_listed T.cd_law_listed T.mT_law_listed T.uT_law_listed (hr.mono (by decide)) (lamS_by (sc := defScope s_law_listed) (by decide +kernel)) rfl (fun _ _ _ _ _ => rfl) (fun A outer s H E f0 c0 hr => by
    have hu := hu_of hr
    have hu65 := hu65_of hr
    have hu66 := hu66_of hr
    exact (pd_if (ptd_cmp (op_eqA hu66) os_eqA (pd_var 4) pd_int (nomark _)) (pd_call G_mean_of (hr.mono (by decide)) T.g_mean_of T.k_mean_of T.b_mean_of .nil (fun W => Rps.nil) (passE rfl rfl rfl rfl) (pad_cons (pd_var 3) pad_nil)) (pd_callK0 G_mean_of (hr.mono (by decide)) T.g_mean_of T.k_mean_of T.k9 (passE rfl rfl rfl rfl) (fun W ds zs vs us h k => g_k9_rps h k) (pkd_cons (pd_var 3) pkd_nil))))) (pgd_name 6 sc_law_listed.nd))
  (psd_cons (psd_if (ptd_cmp (op_eqA hu66) os_eqA (pd_var 2) (pd_lst pad_nil) (nomark _))
  (psd_cons (psd_if (ptd_not (ptd_tru (pd_call G_law_like (hr.mono (by decide)) T.g_law_like T.k_law_like T.b_law_like .nil (fun W => Rps.nil) (passE rfl rfl rfl rfl) (pad_cons (pd_var 6) (pad_cons (pd_lst (pad_cons pd_str (pad_cons (pd_tup pad_nil) pad_nil))) pad_nil)))))
  (psd_one (psd_ret pd_bl))
  psd_nil)
  (psd_one psd_cnt))
  psd_nil)
  (psd_cons (psd_asg pd_int (pgd_name 7 sc_law_listed.nd))
  (psd_cons (psd_for (passes_of rfl) rfl (pid_any (pd_var 2)) (pgd_name 8 sc_law_listed.nd)
  (psd_one (psd_asg (pd_op op_mulA os_mul (pd_var 7) (pd_ixT hck hu66 (pd_var 8) pd_int)) (pgd_name 7 sc_law_listed.nd))))
  (psd_one (psd_if (PW.pt (pw_dor (ptd_cmp (op_neA hu66) os_neA (pd_ixT hck hu66 (pd_var 6) pd_int) pd_str (nomark _)) (pw_dor1 (ptd_not (ptd_tru (pd_call G_law_exact (hr.mono (by decide)) T.g_law_exact T.k_law_exact T.b_law_exact .nil (fun W => Rps.nil) (passE rfl rfl rfl rfl) (pad_cons (pd_ixT hck hu66 (pd_var 6) pd_int) (pad_cons (pd_blt (cr_sum rfl) cs_sum T.n_sum (by decide +kernel) (pad_cons (pd_lc (own := [("_law_one", 8)]) fin_F rfl sc_law_listed.nd (pid_any (pd_var 2)) (by kernel_rfl) (fun _ _ _ _ _ => (pgd_name 8 sc_law_listed.nd)) (fun _ _ _ _ _ => ptsd_nil) (fun _ _ _ _ _ => (pd_op op_mulA os_mul (pd_ixT hck hu66 (pd_var 8) pd_int) (pd_op op_fdivA os_fdiv (pd_var 7) (pd_ixT hck hu66 (pd_var 8) pd_int))))) pad_nil)) (pad_cons (pd_op op_mulA os_mul (pd_var 7) (pd_blt cr_lenA cs_lenA T.n_len (by decide +kernel) (pad_cons (pd_var 2) pad_nil))) pad_nil)))))))))
  (psd_one (psd_ret pd_bl))
  psd_nil))))))))))
  (psd_one (psd_ret (pd_cmp (op_eqA hu66) os_eqA (pd_tyc (cr_lstA rfl) (cs_lstA finN_F) T.n_list (by decide +kernel) (pad_cons (pd_var 3) pad_nil)) (pd_var 2) (nomark _)))))))))
include hck in
theorem ok_law (G_law_bag : FnOk P c.w c.K mg base (L2.CX P c.w) 1 T.a_law_bag T.d_law_bag ["_law_script"] (spD c f_law_bag)) (G_law_listed : FnOk P c.w c.K mg base (L2.CX P c.w) 8 T.a_law_listed T.d_law_listed ["_law_bag_here"] (spD c f_law_listed)) (G_law_made : FnOk P c.w c.K mg base (L2.CX P c.w) 6 T.a_law_made T.d_law_made ["_law_bag_here"] (spD c f_law_made)) (G_law_pair : FnOk P c.w c.K mg base (L2.CX P c.w) 5 T.a_law_pair T.d_law_pair ["_law_bag_here"] (spD c f_law_pair)) (G_law_compared : FnOk P c.w c.K mg base (L2.CX P c.w) 6 T.a_law_compared T.d_law_compared ["_law_one", "_law_two", "_law_way"] (spD c f_law_compared)) (G_law_joined : FnOk P c.w c.K mg base (L2.CX P c.w) 7 T.a_law_joined T.d_law_joined ["_law_one", "_law_two", "_law_way"] (spD c f_law_joined)) : FnOk P c.w c.K mg base (L2.CX P c.w) 9 T.a_law T.d_law ["_law_script"] (spD c f_law) :=
  fnOkD T.F_law sc_law rfl rfl <| fun cdv A outer s H E hr => by
    have hu := hu_of hr
    have hu65 := hu65_of hr
    have hu66 := hu66_of hr
    exact (psd_cons (psd_asg (pd_call G_law_bag (hr.mono (by decide)) T.g_law_bag T.k_law_bag T.b_law_bag .nil (fun W => Rps.nil) (passE rfl rfl rfl rfl) (pad_cons (pd_var 0) pad_nil)) (pgd_name 1 sc_law.nd))
  (psd_cons (psd_for (passes_of rfl) rfl (pid_rng1 T.n_range pd_int) (pgd_name 2 sc_law.nd)
  (psd_cons (psd_if (PW.pt (pw_dor (ptd_not (ptd_tru (pd_call G_law_made (hr.mono (by decide)) T.g_law_made T.k_law_made T.b_law_made .nil (fun W => Rps.nil) (passE rfl rfl rfl rfl) (pad_cons (pd_var 1) pad_nil)))) (pw_dor1 (ptd_not (ptd_tru (pd_call G_law_listed (hr.mono (by decide)) T.g_law_listed T.k_law_listed T.b_law_listed .nil (fun W => Rps.nil) (passE rfl rfl rfl rfl) (pad_cons (pd_var 1) pad_nil)))))))
  (psd_one (psd_ret pd_bl))
  psd_nil)
  (psd_cons (psd_asg (pd_call G_law_pair (hr.mono (by decide)) T.g_law_pair T.k_law_pair T.b_law_pair .nil (fun W => Rps.nil) (passE rfl rfl rfl rfl) (pad_cons (pd_var 1) pad_nil)) (pgd_name 3 sc_law.nd))
  (psd_one (psd_for (passes_of rfl) rfl (pid_rng1 T.n_range pd_int) (pgd_name 4 sc_law.nd)
  (psd_one (psd_if (PW.pt (pw_dor (ptd_not (ptd_tru (pd_call G_law_joined (hr.mono (by decide)) T.g_law_joined T.k_law_joined T.b_law_joined .nil (fun W => Rps.nil) (passE rfl rfl rfl rfl) (pad_cons (pd_ixT hck hu66 (pd_var 3) (pd_var 4)) (pad_cons (pd_ixT hck hu66 (pd_var 3) (pd_op op_sub os_sub pd_int (pd_var 4))) (pad_cons (pd_var 4) pad_nil)))))) (pw_dor1 (ptd_not (ptd_tru (pd_call G_law_compared (hr.mono (by decide)) T.g_law_compared T.k_law_compared T.b_law_compared .nil (fun W => Rps.nil) (passE rfl rfl rfl rfl) (pad_cons (pd_ixT hck hu66 (pd_var 3) (pd_var 4)) (pad_cons (pd_ixT hck hu66 (pd_var 3) (pd_op op_sub os_sub pd_int (pd_var 4))) (pad_cons (pd_var 4) pad_nil)))))))))
  (psd_one (psd_ret pd_bl))
  psd_nil)))))))
  (psd_one (psd_ret pd_bl))))
include hck in
theorem ok_all : FnOk P c.w c.K mg base (L2.CX P c.w) 9 T.a_law T.d_law ["_law_script"] (spD c f_law) := by
  have G_law_bag := ok_law_bag T hck
  have G_law_draw := ok_law_draw T hck
  have G_law_low := ok_law_low T hck
  have G_law_of := ok_law_of T hck G_law_draw
  have G_law_number := ok_law_number T hck G_law_draw G_law_of
  have G_law_some := ok_law_some T hck G_law_low G_law_number
  have G_ascending := ok_ascending T hck
  have G_law_order := ok_law_order T hck
  have G_fraction := ok_fraction T hck
  have G_plus := ok_plus T hck G_fraction
  have G_mean_of := ok_mean_of T hck G_plus G_fraction
  have G_law_like := ok_law_like T hck 4
  have G_law_exact := ok_law_exact T hck G_law_low
  have G_law_listed := ok_law_listed T hck G_law_draw G_law_some G_law_low G_law_of G_ascending G_law_order G_mean_of G_law_like G_law_exact
  have G_law_made := ok_law_made T hck G_law_number G_law_draw G_law_exact G_fraction G_law_like
  have G_law_pair := ok_law_pair T hck G_law_draw G_law_some G_law_low G_law_number
  have G_below := ok_below T hck
  have G_floor_of := ok_floor_of T hck
  have G_law_compared := ok_law_compared T hck G_law_like G_below G_floor_of
  have G_minus := ok_minus T hck G_fraction
  have G_times := ok_times T hck G_fraction
  have G_quotient := ok_quotient T hck G_fraction
  have G_law_joined := ok_law_joined T hck G_minus G_plus G_law_exact G_times G_quotient G_law_like
  have G_law := ok_law T hck G_law_bag G_law_listed G_law_made G_law_pair G_law_compared G_law_joined
  exact G_law
end
end P_k01
namespace P_k01
open PySem PySem.Spec PyProof.Rows L2 LN LamX NdefX
theorem hfacts {w : World} {K : PySem.W.Frag} {h : Heap} {mg : Str → Option Value} {f : Addr} (X : K.In h) (G : h.Ns mainGlobals mg) (hfa0 : mg ("law" : Str) = some (.ref f)) (cz : SaysZ hfa hfn hts htf hins hex w h K) :
    ∃ fd : FuncData, (∀ (s : Shared) (v : Value), BindsTo s fd ⟨[v], []⟩ [("_law_script", v)]) ∧ ∀ base : Heap, K.In base → base.Ns mainGlobals mg → (∀ p ∈ htf.map (He.cT K), TabB base mg p.1 p.2) → FnOk PySem.Challenge.pw_lookingnets_k01_fractions_worked w K mg base CX0 9 f fd ["_law_script"] (fun vs H Q _ => spD ⟨K, hcs, fun n => He.ga K n, w, tabL K htq⟩ f_law vs H Q fun _ _ _ => False) := by
  have c0 := cz.x
  have c := c0.t.d
  have cx := c0.more
  unfold hex at cx
  obtain ⟨fd_below, F_below⟩ := c.def_ 0 (d := dd_below) rfl
  obtain ⟨fd_floor_of, F_floor_of⟩ := c.def_ 1 (d := dd_floor_of) rfl
  obtain ⟨fd_ascending, F_ascending⟩ := c.def_ 2 (d := dd_ascending) rfl
  obtain ⟨fd_law_bag, F_law_bag⟩ := c.def_ 3 (d := dd_law_bag) rfl
  obtain ⟨fd_law_draw, F_law_draw⟩ := c.def_ 4 (d := dd_law_draw) rfl
  obtain ⟨fd_law_like, F_law_like⟩ := c.def_ 5 (d := dd_law_like) rfl
  obtain ⟨fd_law_low, F_law_low⟩ := c.def_ 6 (d := dd_law_low) rfl
  obtain ⟨fd_law_order, F_law_order⟩ := c.def_ 7 (d := dd_law_order) rfl
  obtain ⟨fd_law_ask, F_law_ask⟩ := c.def_ 8 (d := dd_law_ask) rfl
  obtain ⟨fd_law_of, F_law_of⟩ := c.def_ 9 (d := dd_law_of) rfl
  obtain ⟨fd_law_exact, F_law_exact⟩ := c.def_ 10 (d := dd_law_exact) rfl
  obtain ⟨fd_fraction, F_fraction⟩ := c.def_ 11 (d := dd_fraction) rfl
  obtain ⟨fd_law_number, F_law_number⟩ := c.def_ 12 (d := dd_law_number) rfl
  obtain ⟨fd_plus, F_plus⟩ := c.def_ 13 (d := dd_plus) rfl
  obtain ⟨fd_minus, F_minus⟩ := c.def_ 14 (d := dd_minus) rfl
  obtain ⟨fd_times, F_times⟩ := c.def_ 15 (d := dd_times) rfl
  obtain ⟨fd_quotient, F_quotient⟩ := c.def_ 16 (d := dd_quotient) rfl
  obtain ⟨fd_law_some, F_law_some⟩ := c.def_ 17 (d := dd_law_some) rfl
  obtain ⟨fd_mean_of, F_mean_of⟩ := c.def_ 18 (d := dd_mean_of) rfl
  obtain ⟨fd_law_pair, F_law_pair⟩ := c.def_ 19 (d := dd_law_pair) rfl
  obtain ⟨fd_law_made, F_law_made⟩ := c.def_ 20 (d := dd_law_made) rfl
  obtain ⟨fd_law_compared, F_law_compared⟩ := c.def_ 21 (d := dd_law_compared) rfl
  obtain ⟨fd_law_joined, F_law_joined⟩ := c.def_ 22 (d := dd_law_joined) rfl
  obtain ⟨fd_law_listed, F_law_listed⟩ := c.def_ 23 (d := dd_law_listed) rfl
  obtain ⟨fd_law, F_law⟩ := c.def_ 24 (d := dd_law) rfl
  have e := hfa0.symm.trans (He.glo_ok X G (c.fact 24 (f := .glo "law") rfl))
  cases e
  obtain ⟨cx0, cx⟩ := Bool.and_eq_true_iff.mp cx
  obtain ⟨cx1, cx⟩ := Bool.and_eq_true_iff.mp cx
  obtain ⟨cx2, cx⟩ := Bool.and_eq_true_iff.mp cx
  obtain ⟨cx3, cx⟩ := Bool.and_eq_true_iff.mp cx
  have cx4 := cx
  obtain ⟨v_ZERO, m_ZERO, r_ZERO, p_ZERO⟩ := conX_ok (c := ⟨K, hcs, fun n => He.ga K n, w, tabL K htq⟩) X G cx2
  have ck_BadValue := clsB_ok cx3
  obtain ⟨xi_BadValue⟩ := ck_BadValue.xini (P := PySem.Challenge.pw_lookingnets_k01_fractions_worked) (mg := mg) (d := id_BadValue) (map_at cz.i 0 (d := id_BadValue) rfl) (by decide +kernel) (He.free_ok X G (c.fact 39 (f := .free "super") rfl)) rfl
  have nd := of_decide_eq_true cx4
  have b0 := FunD.bindsA (ps := ["_law_script"]) F_law fun _ _ _ _ _ _ us hl => match us, hl with | [_], _ => rfl
  refine ⟨fd_law, fun s v => b0 s [v] rfl, fun base _ _ tb => FnOk_nox (ok_all (P := PySem.Challenge.pw_lookingnets_k01_fractions_worked) (base := base) (c := ⟨K, hcs, fun n => He.ga K n, w, tabL K htq⟩) (mg := mg) {
    a_below := He.ga K "below"
    d_below := fd_below
    F_below := F_below
    g_below := He.glo_ok X G (c.fact 0 (f := .glo "below") rfl)
    a_floor_of := He.ga K "floor_of"
    d_floor_of := fd_floor_of
    F_floor_of := F_floor_of
    g_floor_of := He.glo_ok X G (c.fact 1 (f := .glo "floor_of") rfl)
    a_ascending := He.ga K "ascending"
    d_ascending := fd_ascending
    F_ascending := F_ascending
    g_ascending := He.glo_ok X G (c.fact 2 (f := .glo "ascending") rfl)
    a_law_bag := He.ga K "_law_bag"
    d_law_bag := fd_law_bag
    F_law_bag := F_law_bag
    g_law_bag := He.glo_ok X G (c.fact 3 (f := .glo "_law_bag") rfl)
    a_law_draw := He.ga K "_law_draw"
    d_law_draw := fd_law_draw
    F_law_draw := F_law_draw
    g_law_draw := He.glo_ok X G (c.fact 4 (f := .glo "_law_draw") rfl)
    a_law_like := He.ga K "_law_like"
    d_law_like := fd_law_like
    F_law_like := F_law_like
    g_law_like := He.glo_ok X G (c.fact 5 (f := .glo "_law_like") rfl)
    a_law_low := He.ga K "_law_low"
    d_law_low := fd_law_low
    F_law_low := F_law_low
    g_law_low := He.glo_ok X G (c.fact 6 (f := .glo "_law_low") rfl)
    a_law_order := He.ga K "_law_order"
    d_law_order := fd_law_order
    F_law_order := F_law_order
    g_law_order := He.glo_ok X G (c.fact 7 (f := .glo "_law_order") rfl)
    a_law_ask := He.ga K "_law_ask"
    d_law_ask := fd_law_ask
    F_law_ask := F_law_ask
    g_law_ask := He.glo_ok X G (c.fact 8 (f := .glo "_law_ask") rfl)
    a_law_of := He.ga K "_law_of"
    d_law_of := fd_law_of
    F_law_of := F_law_of
    g_law_of := He.glo_ok X G (c.fact 9 (f := .glo "_law_of") rfl)
    a_law_exact := He.ga K "_law_exact"
    d_law_exact := fd_law_exact
    F_law_exact := F_law_exact
    g_law_exact := He.glo_ok X G (c.fact 10 (f := .glo "_law_exact") rfl)
    a_fraction := He.ga K "fraction"
    d_fraction := fd_fraction
    F_fraction := F_fraction
    g_fraction := He.glo_ok X G (c.fact 11 (f := .glo "fraction") rfl)
    a_law_number := He.ga K "_law_number"
    d_law_number := fd_law_number
    F_law_number := F_law_number
    g_law_number := He.glo_ok X G (c.fact 12 (f := .glo "_law_number") rfl)
    a_plus := He.ga K "plus"
    d_plus := fd_plus
    F_plus := F_plus
    g_plus := He.glo_ok X G (c.fact 13 (f := .glo "plus") rfl)
    a_minus := He.ga K "minus"
    d_minus := fd_minus
    F_minus := F_minus
    g_minus := He.glo_ok X G (c.fact 14 (f := .glo "minus") rfl)
    a_times := He.ga K "times"
    d_times := fd_times
    F_times := F_times
    g_times := He.glo_ok X G (c.fact 15 (f := .glo "times") rfl)
    a_quotient := He.ga K "quotient"
    d_quotient := fd_quotient
    F_quotient := F_quotient
    g_quotient := He.glo_ok X G (c.fact 16 (f := .glo "quotient") rfl)
    a_law_some := He.ga K "_law_some"
    d_law_some := fd_law_some
    F_law_some := F_law_some
    g_law_some := He.glo_ok X G (c.fact 17 (f := .glo "_law_some") rfl)
    a_mean_of := He.ga K "mean_of"
    d_mean_of := fd_mean_of
    F_mean_of := F_mean_of
    g_mean_of := He.glo_ok X G (c.fact 18 (f := .glo "mean_of") rfl)
    a_law_pair := He.ga K "_law_pair"
    d_law_pair := fd_law_pair
    F_law_pair := F_law_pair
    g_law_pair := He.glo_ok X G (c.fact 19 (f := .glo "_law_pair") rfl)
    a_law_made := He.ga K "_law_made"
    d_law_made := fd_law_made
    F_law_made := F_law_made
    g_law_made := He.glo_ok X G (c.fact 20 (f := .glo "_law_made") rfl)
    a_law_compared := He.ga K "_law_compared"
    d_law_compared := fd_law_compared
    F_law_compared := F_law_compared
    g_law_compared := He.glo_ok X G (c.fact 21 (f := .glo "_law_compared") rfl)
    a_law_joined := He.ga K "_law_joined"
    d_law_joined := fd_law_joined
    F_law_joined := F_law_joined
    g_law_joined := He.glo_ok X G (c.fact 22 (f := .glo "_law_joined") rfl)
    a_law_listed := He.ga K "_law_listed"
    d_law_listed := fd_law_listed
    F_law_listed := F_law_listed
    g_law_listed := He.glo_ok X G (c.fact 23 (f := .glo "_law_listed") rfl)
    a_law := He.ga K "law"
    d_law := fd_law
    F_law := F_law
    g_law := He.glo_ok X G (c.fact 24 (f := .glo "law") rfl)
    n_abs := He.free_ok X G (c.fact 25 (f := .free "abs") rfl)
    n_all := He.free_ok X G (c.fact 26 (f := .free "all") rfl)
    n_bool := He.free_ok X G (c.fact 27 (f := .free "bool") rfl)
    n_int := He.free_ok X G (c.fact 28 (f := .free "int") rfl)
    n_isinstance := He.free_ok X G (c.fact 29 (f := .free "isinstance") rfl)
    n_len := He.free_ok X G (c.fact 30 (f := .free "len") rfl)
    n_list := He.free_ok X G (c.fact 31 (f := .free "list") rfl)
    n_max := He.free_ok X G (c.fact 32 (f := .free "max") rfl)
    n_range := He.free_ok X G (c.fact 33 (f := .free "range") rfl)
    n_sorted := He.free_ok X G (c.fact 34 (f := .free "sorted") rfl)
    n_str := He.free_ok X G (c.fact 35 (f := .free "str") rfl)
    n_sum := He.free_ok X G (c.fact 36 (f := .free "sum") rfl)
    n_tuple := He.free_ok X G (c.fact 37 (f := .free "tuple") rfl)
    n_zip := He.free_ok X G (c.fact 38 (f := .free "zip") rfl)
    m_gcd := bltX_ok X G cx0
    m_lcm := bltX_ok X G cx1
    v_ZERO := v_ZERO
    gc_ZERO := m_ZERO
    w_ZERO := vOf v_ZERO
    r_ZERO := r_ZERO
    c_ZERO := p_ZERO
    x_BadValue := xi_BadValue
    gx_BadValue := PySem.W.mg_of X G ck_BadValue.glo
    tk_BadValue := ck_BadValue.tk
    fo_code := fun n hn => by
      simp only [nm_code, List.mem_cons, List.not_mem_nil, or_false] at hn
      subst hn
      exact ⟨ck_BadValue.ox.xf, ck_BadValue.fi _ (by simp)⟩
    fo_value := fun n hn => by
      simp only [nm_value, List.mem_cons, List.not_mem_nil, or_false] at hn
      subst hn
      exact ⟨ck_BadValue.ox.xf, ck_BadValue.fi _ (by simp)⟩
    C_NetError := He.ga K "NetError"
    g_NetError := He.glo_ok X G (c.fact 40 (f := .glo "NetError") rfl)
    hx_law_ask := fun n v hn => by
      unfold ct_law_ask at hn
      split at hn
      · rename_i hm
        cases hn
        simp only [List.mem_cons, List.not_mem_nil, or_false] at hm
        subst hm
        exact of_decide_eq_true (c.fact 41 (f := .exm "BadValue" "NetError" true) rfl)
      · cases hn
    cc_ascending := (He.cT K ("ascending", none)).1
    ct_ascending := (He.cT K ("ascending", none)).2
    TB_ascending := tb _ (List.mem_map.mpr ⟨("ascending", none), List.mem_of_getElem? (i := 0) rfl, rfl⟩)
    cd_ascending := code_of (p := ("ascending", none)) F_ascending
    mT_ascending := tabL_mem (i := 0) (tq := htq) rfl
    uT_ascending := tabL_one (tq := htq) nd (p := (("ascending", none), ((("ascending" : Str) ++ ".<locals>.") ++ "<lambda>"))) (List.mem_of_getElem? (i := 0) rfl)
    cc_law_made := (He.cT K ("_law_made", none)).1
    ct_law_made := (He.cT K ("_law_made", none)).2
    TB_law_made := tb _ (List.mem_map.mpr ⟨("_law_made", none), List.mem_of_getElem? (i := 1) rfl, rfl⟩)
    cd_law_made := code_of (p := ("_law_made", none)) F_law_made
    mT_law_made := tabL_mem (i := 1) (tq := htq) rfl
    uT_law_made := tabL_one (tq := htq) nd (p := (("_law_made", none), ((("_law_made" : Str) ++ ".<locals>.") ++ "<lambda>"))) (List.mem_of_getElem? (i := 1) rfl)
    cc_law_joined := (He.cT K ("_law_joined", none)).1
    ct_law_joined := (He.cT K ("_law_joined", none)).2
    TB_law_joined := tb _ (List.mem_map.mpr ⟨("_law_joined", none), List.mem_of_getElem? (i := 2) rfl, rfl⟩)
    cd_law_joined := code_of (p := ("_law_joined", none)) F_law_joined
    mT_law_joined := tabL_mem (i := 2) (tq := htq) rfl
    uT_law_joined := tabL_one (tq := htq) nd (p := (("_law_joined", none), ((("_law_joined" : Str) ++ ".<locals>.") ++ "<lambda>"))) (List.mem_of_getElem? (i := 2) rfl)
    cc_law_listed := (He.cT K ("_law_listed", none)).1
    ct_law_listed := (He.cT K ("_law_listed", none)).2
    TB_law_listed := tb _ (List.mem_map.mpr ⟨("_law_listed", none), List.mem_of_getElem? (i := 3) rfl, rfl⟩)
    cd_law_listed := code_of (p := ("_law_listed", none)) F_law_listed
    mT_law_listed := tabL_mem (i := 3) (tq := htq) rfl
    uT_law_listed := tabL_one (tq := htq) nd (p := (("_law_listed", none), ((("_law_listed" : Str) ++ ".<locals>.") ++ "<lambda>"))) (List.mem_of_getElem? (i := 3) rfl) } ck8_ok)⟩
end P_k01
open PySem PySem.W PySem.Calls PyProof.Rows
theorem PySem.Challenge.cw_lookingnets_k01_fractions_worked_holds : PySem.Challenge.rw_lookingnets_k01_fractions_worked.Holds := by
  w_on; o_law
  refine HandSHeadRun.head_imp (r := OpenLaw.row PySem.Challenge.rw_lookingnets_k01_fractions_worked) (q := view (OpenLaw.row PySem.Challenge.rw_lookingnets_k01_fractions_worked).prog [0, 31]) (H := P_k01.hkX) (ob := P_k01.hob) (M := 6000) (loose := P_k01.hnames) (d := HandSHeadRun.topDef (OpenLaw.row PySem.Challenge.rw_lookingnets_k01_fractions_worked).prog 31) (kwd := []) P_k01.hob_eq
    P_k01.hrun (by kernel_rfl) (by kernel_rfl) (by kernel_rfl) (by rfl) (by first | assumption | decide +kernel) (by decide +kernel) ⟨rfl, rfl, rfl, rfl, rfl, by decide +kernel⟩ ?hw ?hc
  case hw => w_witness2
  case hc =>
    refine LamX.walk_ofTsE (l := PySem.Challenge.rw_lookingnets_k01_fractions_worked) (n := 63) (k := 9) (x := "_law_script") (CX := fun _ => L2.CX0) rfl (by decide) (by kernel_rfl) ⟨rfl, by decide, by decide⟩ ?F (fun _ _ _ _ _ z => z)
    intro w mg fa h Y G hmg0
    obtain ⟨K, KX, c⟩ := Y
    have hmg : mg ("law" : PySem.Str) = some (.ref fa) := by
      have e : (HandSHeadRun.topDef (OpenLaw.row PySem.Challenge.rw_lookingnets_k01_fractions_worked).prog 31).name = ("law" : PySem.Str) := by kernel_rfl
      rw [← e]
      exact hmg0
    obtain ⟨fd, hb, hF⟩ := P_k01.hfacts (w := w) KX G hmg c
    refine ⟨K, KX, fd, P_k01.htf.map (He.cT K), fun vs H Q _ => LN.spD ⟨K, P_k01.hcs, fun n => He.ga K n, w, LN.tabL K P_k01.htq⟩ P_k01.f_law vs H Q fun _ _ _ => False, ?_, ?_, ?_, hb, fun H a ns _ _ hH hS => LN.law_promiseT (c := ⟨K, P_k01.hcs, fun n => He.ga K n, w, LN.tabL K P_k01.htq⟩) P_k01.law_run H a ns (LN.tabL_tabs hH) hS, hF⟩
    · intro p hp
      obtain ⟨t, ht, rfl⟩ := List.mem_map.mp hp
      exact c.x.empty t ht
    · intro p hp
      obtain ⟨t, ht, rfl⟩ := List.mem_map.mp hp
      exact c.x.out t ht
    · intro p hp
      obtain ⟨t, ht, rfl⟩ := List.mem_map.mp hp
      exact PySem.W.codeHd_of_K KX (c.x.hd t ht)
