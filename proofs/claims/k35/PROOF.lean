import PyProof.Rows.All
import Wide.All
import OpenK.AllK
import Wide.FinOn
import HandS.ForMost
import HandS.Wide
import HandS.Flow
import HandS.Evl
import HandS.Exc
import HandS.TryOnly
import HandS.ExcOwn
import HandS.WordsExc
import KE.DataEq
import KE.DataCmp
import KE.DataMinMax
import KE.DataAny
import KE.DataFind
import KE.SortData
import PyProof.ReprRoads
import HandS.EndBits
import HandS.Style
import HandS.Star
import HandS.Gcd
import HandS.Conv
import HandS.Deep
import HandS.TupSets
import HandS.Zip
import KE.GoesMore
import KE.GoesEnum
import HandS.ExcInit
import HandS.ExcField
import HandS.TryMany
import HandS.CallSlots
import KE.KExcSuper
import HandS.ExcIs
import HandS.TupAny
import HandS.TupMul
import HandS.DictTup
import HandS.DictComp
import HandS.SetFor
import HandS.Strs
import HandS.Iter
import HandS.Comp
import HandS.SetBool
import KE.KMathG
import Flt.RightSqrt
import PyProof.ReprLen
import PySem.Challenge.RW_triedwares_k35_whole_blocks_from_differe
set_option Elab.async false
set_option linter.all false
set_option maxRecDepth 100000
set_option maxHeartbeats 4000000
/-! Tw1: data in the heap, environments, readings by programs over data -/
namespace Tw
open PySem PySem.Spec PyProof.Rows L2
abbrev D := PyData
/-! ### results -/
inductive R (α : Type) where
  | ok (a : α)
  | ex (c : Nat) (a : D)
  | bad
def R.bind {α β : Type} : R α → (α → R β) → R β
  | .ok a, f => f a
  | .ex c a, _ => .ex c a
  | .bad, _ => .bad
theorem R.bind_ok {α β : Type} {r : R α} {f : α → R β} {b : β} (h : r.bind f = .ok b) : ∃ a, r = .ok a ∧ f a = .ok b := by
  cases r with
  | ok a => exact ⟨a, rfl, h⟩
  | ex c a => cases h
  | bad => cases h
/-! ### data in a heap -/
def keyD : Key → D
  | .inl i => .int i
  | .inr x => .str x
mutual
def At (K : PySem.W.Frag) (H : Hp) : D → V → Prop
  | .none, v => v = .non
  | .bool b, v => v = .bl b
  | .int i, v => v = .int i
  | .str x, v => v = .str x
  | .list ds, v => ∃ a xs, v = .ref a ∧ SqL K H a xs ∧ AtL K H ds xs
  | .tuple ds, v => ∃ a xs, v = .ref a ∧ SqT K H a xs ∧ AtL K H ds xs
  | .dict es, v => ∃ a, v = .ref a ∧ ((∃ kvs, Rd H a (.dK kvs) ∧ AtK K H es kvs) ∨ (∃ kvs, Rd H a (.dT kvs) ∧ AtT K H es kvs ∧ es ≠ []) ∨
      (∃ (S : Int → Bool) (n : Nat) (xs : List Int), Rd H a (.set S n) ∧ es = [(.none, .list ((xs : List Int).map .int))] ∧ xs.Nodup ∧ (∀ i, S i = true ↔ i ∈ xs) ∧ xs.length = n) ∨
      (∃ o kvs, H a = some (.frz o (.dK kvs)) ∧ AtM K H es kvs) ∨ ∃ lo hi : Int, H a = some (.rng lo hi) ∧ es = [(.none, .tuple [.int lo, .int hi])])
def AtL (K : PySem.W.Frag) (H : Hp) : List D → List V → Prop
  | [], xs => xs = []
  | d :: ds, xs => ∃ v vs, xs = v :: vs ∧ At K H d v ∧ AtL K H ds vs
def AtK (K : PySem.W.Frag) (H : Hp) : List (D × D) → List (Key × V) → Prop
  | [], ks => ks = []
  | (k, d) :: es, ks => ∃ c v r, ks = (c, v) :: r ∧ k = keyD c ∧ At K H d v ∧ AtK K H es r
/-- a dict that stands still: a mark, then its pairs -/
def AtM (K : PySem.W.Frag) (H : Hp) : List (D × D) → List (Key × V) → Prop
  | [], _ => False
  | (k, d) :: es, ks => k = .bool true ∧ d = .none ∧ AtK K H es ks
def AtU (K : PySem.W.Frag) (H : Hp) : List (D × D) → List (List Key × V) → Prop
  | [], ks => ks = []
  | (k, d) :: es, ks => ∃ c v r, ks = (c, v) :: r ∧ k = .tuple (c.map keyD) ∧ At K H d v ∧ AtU K H es r
/-- keys are tuples: a mark, then its pairs -/
def AtT (K : PySem.W.Frag) (H : Hp) : List (D × D) → List (List Key × V) → Prop
  | [], _ => False
  | (k, d) :: es, ks => k = .bool false ∧ d = .none ∧ AtU K H es ks
end
abbrev Ex := Evl.Ex
theorem ex_rd {H H' : Hp} {a : Addr} {u : HO} (e : Ex H H') (h : Rd H a u) : Rd H' a u := Evl.ex_rd e h
mutual
theorem At.mono {K : PySem.W.Frag} {H H' : Hp} (e : Ex H H') : ∀ (d : D) (v : V), At K H d v → At K H' d v
  | .none, v, h => h
  | .bool b, v, h => h
  | .int i, v, h => h
  | .str x, v, h => h
  | .list ds, v, ⟨a, xs, h1, h2, h3⟩ => ⟨a, xs, h1, Evl.ex_l e h2, AtL.mono e ds xs h3⟩
  | .tuple ds, v, ⟨a, xs, h1, h2, h3⟩ => ⟨a, xs, h1, Evl.ex_t e h2, AtL.mono e ds xs h3⟩
  | .dict es, v, ⟨a, h1, h2⟩ => ⟨a, h1, by
    rcases h2 with ⟨kvs, r, h⟩ | ⟨kvs, r, h, h0⟩ | ⟨S, n, xs, r, h⟩ | ⟨o, kvs, r, h⟩ | ⟨lo, hi, r, h⟩
    · exact .inl ⟨kvs, ex_rd e r, AtK.mono e es kvs h⟩
    · exact .inr (.inl ⟨kvs, ex_rd e r, AtT.mono e es kvs h, h0⟩)
    · exact .inr (.inr (.inl ⟨S, n, xs, ex_rd e r, h⟩))
    · exact .inr (.inr (.inr (.inl ⟨o, kvs, e a _ r, AtM.mono e es kvs h⟩)))
    · exact .inr (.inr (.inr (.inr ⟨lo, hi, e a _ r, h⟩)))⟩
theorem AtL.mono {K : PySem.W.Frag} {H H' : Hp} (e : Ex H H') : ∀ (ds : List D) (vs : List V), AtL K H ds vs → AtL K H' ds vs
  | [], vs, h => h
  | d :: ds, vs, ⟨v, r, h1, h2, h3⟩ => ⟨v, r, h1, At.mono e d v h2, AtL.mono e ds r h3⟩
theorem AtK.mono {K : PySem.W.Frag} {H H' : Hp} (e : Ex H H') : ∀ (es : List (D × D)) (ks : List (Key × V)), AtK K H es ks → AtK K H' es ks
  | [], ks, h => h
  | (k, d) :: es, ks, ⟨c, v, r, h1, h0, h2, h3⟩ => ⟨c, v, r, h1, h0, At.mono e d v h2, AtK.mono e es r h3⟩
theorem AtM.mono {K : PySem.W.Frag} {H H' : Hp} (e : Ex H H') : ∀ (es : List (D × D)) (ks : List (Key × V)), AtM K H es ks → AtM K H' es ks
  | [], ks, h => h
  | (k, d) :: es, ks, ⟨h1, h2, h3⟩ => ⟨h1, h2, AtK.mono e es ks h3⟩
theorem AtU.mono {K : PySem.W.Frag} {H H' : Hp} (e : Ex H H') : ∀ (es : List (D × D)) (ks : List (List Key × V)), AtU K H es ks → AtU K H' es ks
  | [], ks, h => h
  | (k, d) :: es, ks, ⟨c, v, r, h1, h0, h2, h3⟩ => ⟨c, v, r, h1, h0, At.mono e d v h2, AtU.mono e es r h3⟩
theorem AtT.mono {K : PySem.W.Frag} {H H' : Hp} (e : Ex H H') : ∀ (es : List (D × D)) (ks : List (List Key × V)), AtT K H es ks → AtT K H' es ks
  | [], ks, h => h
  | (k, d) :: es, ks, ⟨h1, h2, h3⟩ => ⟨h1, h2, AtU.mono e es ks h3⟩
end
/-- an own, changeable object's content -/
def Own (K : PySem.W.Frag) (H : Hp) (o : HO) (d : D) : Prop :=
  (∃ vs ds, o = .lst vs ∧ d = .list ds ∧ AtL K H ds vs) ∨ (∃ kvs es, o = .dK kvs ∧ d = .dict es ∧ AtK K H es kvs) ∨ (∃ kvs es, o = .dT kvs ∧ d = .dict es ∧ AtT K H es kvs ∧ es ≠ []) ∨
    ∃ (S : Int → Bool) (n : Nat) (xs : List Int), o = .set S n ∧ d = .dict [(.none, .list ((xs : List Int).map .int))] ∧ xs.Nodup ∧ (∀ i, S i = true ↔ i ∈ xs) ∧ xs.length = n
theorem Own.mono {K : PySem.W.Frag} {H H' : Hp} (e : Ex H H') {o : HO} {d : D} (h : Own K H o d) : Own K H' o d := by
  rcases h with ⟨vs, ds, h1, h2, h⟩ | ⟨kvs, es, h1, h2, h⟩ | ⟨kvs, es, h1, h2, h, h0⟩ | h
  · exact .inl ⟨vs, ds, h1, h2, AtL.mono e ds vs h⟩
  · exact .inr (.inl ⟨kvs, es, h1, h2, AtK.mono e es kvs h⟩)
  · exact .inr (.inr (.inl ⟨kvs, es, h1, h2, AtT.mono e es kvs h, h0⟩))
  · exact .inr (.inr (.inr h))
theorem Own.at {K : PySem.W.Frag} {H : Hp} {a : Addr} {o : HO} {d : D} (r : H a = some o) (h : Own K H o d) : At K H d (.ref a) := by
  rcases h with ⟨vs, ds, h1, h2, h⟩ | ⟨kvs, es, h1, h2, h⟩ | ⟨kvs, es, h1, h2, h⟩ | ⟨S, n, xs, h1, h2, h⟩
  · subst h1 h2
    exact ⟨a, vs, rfl, SqL.of r, h⟩
  · subst h1 h2
    exact ⟨a, rfl, .inl ⟨kvs, .inl r, h⟩⟩
  · subst h1 h2
    exact ⟨a, rfl, .inr (.inl ⟨kvs, .inl r, h⟩)⟩
  · subst h1 h2
    exact ⟨a, rfl, .inr (.inr (.inl ⟨S, n, xs, .inl r, rfl, h⟩))⟩
/-- flat data lean on no object -/
def flat : D → Bool
  | .none | .bool _ | .int _ | .str _ => true
  | _ => false
theorem At.flat {K : PySem.W.Frag} {H H' : Hp} : ∀ {d : D} {v : V}, flat d = true → At K H d v → At K H' d v
  | .none, _, _, h => h
  | .bool _, _, _, h => h
  | .int _, _, _, h => h
  | .str _, _, _, h => h
  | .list _, _, f, _ => by cases f
  | .tuple _, _, f, _ => by cases f
  | .dict _, _, f, _ => by cases f
/-! ### the heap without what is owned -/
def hid (M : List Addr) (H : Hp) : Hp := fun a => if a ∈ M then none else H a
theorem hid_of {M : List Addr} {H : Hp} {a : Addr} {o : HO} (h : H a = some o) (n : a ∉ M) : hid M H a = some o := by
  unfold hid
  rw [if_neg n]
  exact h
theorem of_hid {M : List Addr} {H : Hp} {a : Addr} {o : HO} (h : hid M H a = some o) : H a = some o ∧ a ∉ M := by
  unfold hid at h
  by_cases e : a ∈ M
  · rw [if_pos e] at h
    cases h
  · rw [if_neg e] at h
    exact ⟨h, e⟩
theorem hid_ex {M : List Addr} {H H' : Hp} (e : Ex H H') : Ex (hid M H) (hid M H') := fun a o h => hid_of (e a o (of_hid h).1) (of_hid h).2
theorem hid_sub {M M' : List Addr} {H : Hp} (s : ∀ a, a ∈ M → a ∈ M') : Ex (hid M' H) (hid M H) := fun a o h => hid_of (of_hid h).1 fun z => (of_hid h).2 (s a z)
theorem hid_le {M : List Addr} {H : Hp} : Ex (hid M H) H := fun a o h => (of_hid h).1
/-- a new address, hidden from then on -/
theorem hid_new {M : List Addr} {H H' : Hp} {p : Addr} (e : Ex H H') (n : H p = none) : Ex (hid M H) (hid (p :: M) H') := fun a o h => by
  refine hid_of (e a o (of_hid h).1) fun z => ?_
  rcases List.mem_cons.mp z with z | z
  · rw [z] at h
    rw [(of_hid h).1] at n
    cases n
  · exact (of_hid h).2 z
theorem hid_upd {M : List Addr} {H : Hp} {a : Addr} {o : HO} (m : a ∈ M) : hid M (upd H a o) = hid M H := by
  funext b
  unfold hid
  by_cases e : b ∈ M
  · rw [if_pos e, if_pos e]
  · rw [if_neg e, if_neg e, upd_ne (fun z : b = a => e (by rw [z]; exact m))]
/-! ### environments -/
inductive SV where
  | no
  | im (d : D)
  | mu (d : D)
abbrev Nv := List SV
def gt : Nv → Nat → SV
  | [], _ => .no
  | s :: _, 0 => s
  | _ :: r, i + 1 => gt r i
def st : Nv → Nat → SV → Nv
  | [], _, _ => []
  | _ :: r, 0, s => s :: r
  | x :: r, i + 1, s => x :: st r i s
theorem st_len : ∀ (ε : Nv) (i : Nat) (s : SV), (st ε i s).length = ε.length
  | [], _, _ => rfl
  | _ :: _, 0, _ => rfl
  | x :: r, i + 1, s => by
    show (st r i s).length + 1 = r.length + 1
    rw [st_len r i s]
theorem gt_same : ∀ {ε : Nv} {i : Nat} {s : SV}, i < ε.length → gt (st ε i s) i = s
  | [], _, _, h => absurd h (Nat.not_lt_zero _)
  | _ :: _, 0, _, _ => rfl
  | _ :: r, i + 1, s, h => gt_same (ε := r) (i := i) (Nat.lt_of_succ_lt_succ h)
theorem gt_ne : ∀ {ε : Nv} {i j : Nat} {s : SV}, j ≠ i → gt (st ε i s) j = gt ε j
  | [], _, _, _, _ => rfl
  | _ :: _, 0, 0, _, h => absurd rfl h
  | _ :: _, 0, _ + 1, _, _ => rfl
  | _ :: _, _ + 1, 0, _, _ => rfl
  | _ :: r, i + 1, j + 1, s, h => gt_ne (ε := r) fun e => h (congrArg _ e)
theorem gt_lt : ∀ {ε : Nv} {i : Nat}, gt ε i ≠ .no → i < ε.length
  | [], _, h => absurd rfl h
  | _ :: _, 0, _ => Nat.succ_pos _
  | _ :: r, i + 1, h => Nat.succ_lt_succ (gt_lt (ε := r) h)
/-- where in a value new lists stand: the value itself, an item of a tuple, all items of a list -/
inductive FP where
  | top
  | at (i : Nat)
  | each
/-- a list that was made since the heap H0 -/
def FreshT (K : PySem.W.Frag) (H0 H : Hp) : D → V → Prop
  | .list ds, v => ∃ b ws, v = .ref b ∧ H b = some (.lst ws) ∧ AtL K H ds ws ∧ H0 b = none
  | _, _ => True
def Fresh (K : PySem.W.Frag) (H0 H : Hp) : FP → D → V → Prop
  | .top, d, v => FreshT K H0 H d v
  | .at i, .tuple es, v => ∃ t xs, v = .ref t ∧ SqT K H t xs ∧ AtL K H es xs ∧ ∀ e x, es[i]? = some e → xs[i]? = some x → FreshT K H0 H e x
  | .each, .list es, v => ∃ t xs, v = .ref t ∧ SqL K H t xs ∧ AtL K H es xs ∧ ∀ (i : Nat) e x, es[i]? = some e → xs[i]? = some x → FreshT K H0 H e x
  | _, _, _ => True
theorem FreshT.mono {K : PySem.W.Frag} {H0 H1 H H' : Hp} (e0 : Ex H1 H0) (e : Ex H H') : ∀ {d : D} {v : V}, FreshT K H0 H d v → FreshT K H1 H' d v
  | .list ds, v, ⟨b, ws, h1, h2, h3, h4⟩ => ⟨b, ws, h1, e b _ h2, AtL.mono e ds ws h3, by
    cases q : H1 b with
    | none => rfl
    | some u =>
      have := e0 b u q
      rw [h4] at this
      cases this⟩
  | .none, _, h => trivial
  | .bool _, _, h => trivial
  | .int _, _, h => trivial
  | .str _, _, h => trivial
  | .tuple _, _, h => trivial
  | .dict _, _, h => trivial
theorem Fresh.mono {K : PySem.W.Frag} {H0 H1 H H' : Hp} (e0 : Ex H1 H0) (e : Ex H H') {p : FP} {d : D} {v : V} (h : Fresh K H0 H p d v) : Fresh K H1 H' p d v := by
  cases p with
  | top => exact FreshT.mono e0 e h
  | «at» i =>
    cases d with
    | tuple es =>
      obtain ⟨t, xs, h1, h2, h3, h4⟩ := h
      exact ⟨t, xs, h1, Evl.ex_t e h2, AtL.mono e es xs h3, fun f x q1 q2 => FreshT.mono e0 e (h4 f x q1 q2)⟩
    | _ => trivial
  | each =>
    cases d with
    | list es =>
      obtain ⟨t, xs, h1, h2, h3, h4⟩ := h
      exact ⟨t, xs, h1, Evl.ex_l e h2, AtL.mono e es xs h3, fun i f x q1 q2 => FreshT.mono e0 e (h4 i f x q1 q2)⟩
    | _ => trivial
/-- what stays the same through a body: the ground, the heap at the entry, the callers' own objects, whether the answer is to be new, the classes of exceptions by their numbers;
slots that keep what they had at the entry, slots with new lists, where the answer has new lists -/
structure Cf where
  K : PySem.W.Frag
  H0 : Hp
  M0 : List Addr
  fr : Bool
  cl : Nat → Option Addr
  pn : Nat → Bool
  fs : Nat → Option FP
  rp : Option FP
/-- a slot that may be set to anything -/
def Cf.op (c : Cf) (i : Nat) : Bool := !c.pn i && (match c.fs i with | none => true | some _ => false)
theorem Cf.op_pn {c : Cf} {i : Nat} (h : c.op i = true) : c.pn i = false := by
  unfold Cf.op at h
  cases q : c.pn i with
  | false => rfl
  | true =>
    rw [q] at h
    cases h
theorem Cf.op_fs {c : Cf} {i : Nat} (h : c.op i = true) : c.fs i = none := by
  unfold Cf.op at h
  cases q : c.fs i with
  | none => rfl
  | some p =>
    rw [q, Bool.and_false] at h
    cases h
structure Rel (c : Cf) (σ : L2.St) (H : Hp) (ε : Nv) (M : List Addr) : Prop where
  ext : Ex c.H0 H
  len : σ.length = ε.length
  sub : ∀ a, a ∈ c.M0 → a ∈ M
  trk : ∀ a, a ∈ M → ∃ o, H a = some o
  old : ∀ a, a ∈ c.M0 → c.H0 a ≠ none
  im : ∀ i d, gt ε i = .im d → ∃ v, σ[i]? = some (some v) ∧ At c.K (hid M H) d v
  mu : ∀ i d, gt ε i = .mu d → ∃ a o, σ[i]? = some (some (.ref a)) ∧ a ∈ M ∧ c.H0 a = none ∧ H a = some o ∧ Own c.K (hid M H) o d
  dis : ∀ i j d e a b, i ≠ j → gt ε i = .mu d → gt ε j = .mu e → σ[i]? = some (some (.ref a)) → σ[j]? = some (some (.ref b)) → a ≠ b
  new : ∀ a, a ∈ M → a ∈ c.M0 ∨ c.H0 a = none
  pin : ∀ j d, c.pn j = true → gt ε j = .im d → ∃ v, σ[j]? = some (some v) ∧ At c.K (hid c.M0 c.H0) d v
  frs : ∀ j p d, c.fs j = some p → gt ε j = .im d → ∃ v, σ[j]? = some (some v) ∧ Fresh c.K c.H0 (hid M H) p d v
  pnm : ∀ j d, gt ε j = .mu d → c.pn j = false ∧ (c.fs j = none ∨ c.fs j = some .top)
theorem Rel.ex {c : Cf} {σ : L2.St} {H H' : Hp} {ε : Nv} {M : List Addr} (r : Rel c σ H ε M) (e : Ex H H') : Rel c σ H' ε M where
  ext := r.ext.trans e
  len := r.len
  sub := r.sub
  trk := fun a h => let ⟨o, q⟩ := r.trk a h; ⟨o, e a o q⟩
  old := r.old
  im := fun i d h => let ⟨v, h1, h2⟩ := r.im i d h; ⟨v, h1, At.mono (hid_ex e) d v h2⟩
  mu := fun i d h => let ⟨a, o, h1, h2, h3, h4, h5⟩ := r.mu i d h; ⟨a, o, h1, h2, h3, e a o h4, h5.mono (hid_ex e)⟩
  dis := r.dis
  new := r.new
  pin := r.pin
  frs := fun j p d h1 h2 => let ⟨v, h3, h4⟩ := r.frs j p d h1 h2; ⟨v, h3, h4.mono (Evl.Ex.refl _) (hid_ex e)⟩
  pnm := r.pnm
theorem Rel.notM {c : Cf} {σ : L2.St} {H : Hp} {ε : Nv} {M : List Addr} (r : Rel c σ H ε M) {p : Addr} (n : H p = none) : p ∉ M := fun h => by
  obtain ⟨o, q⟩ := r.trk p h
  rw [n] at q
  cases q
/-- a name is stored: data -/
theorem Rel.setF {c : Cf} {σ : L2.St} {H : Hp} {ε : Nv} {M : List Addr} (r : Rel c σ H ε M) {i : Nat} {d : D} {v : V} (h : At c.K (hid M H) d v) (hp : c.pn i = false) (hf : ∀ p, c.fs i = some p → Fresh c.K c.H0 (hid M H) p d v) : Rel c (σ.set i (some v)) H (st ε i (.im d)) M where
  ext := r.ext
  len := by rw [List.length_set, st_len, r.len]
  sub := r.sub
  trk := r.trk
  old := r.old
  im := fun j e he => by
    by_cases q : j = i
    · subst q
      have hl : j < ε.length := by
        have := gt_lt (ε := st ε j (.im d)) (i := j) (by rw [he]; intro z; cases z)
        rwa [st_len] at this
      rw [gt_same hl] at he
      cases he
      exact ⟨v, by rw [List.getElem?_set_self (by rw [r.len]; exact hl)], h⟩
    · rw [gt_ne q] at he
      obtain ⟨w, h1, h2⟩ := r.im j e he
      exact ⟨w, by rw [List.getElem?_set_ne (Ne.symm q)]; exact h1, h2⟩
  mu := fun j e he => by
    by_cases q : j = i
    · subst q
      have hl : j < ε.length := by
        have := gt_lt (ε := st ε j (.im d)) (i := j) (by rw [he]; intro z; cases z)
        rwa [st_len] at this
      rw [gt_same hl] at he
      cases he
    · rw [gt_ne q] at he
      obtain ⟨a, o, h1, h2⟩ := r.mu j e he
      exact ⟨a, o, by rw [List.getElem?_set_ne (Ne.symm q)]; exact h1, h2⟩
  dis := fun j k e f a b hjk hj hk h1 h2 => by
    by_cases q : j = i
    · subst q
      have hl : j < ε.length := by
        have := gt_lt (ε := st ε j (.im d)) (i := j) (by rw [hj]; intro z; cases z)
        rwa [st_len] at this
      rw [gt_same hl] at hj
      cases hj
    · by_cases q2 : k = i
      · subst q2
        have hl : k < ε.length := by
          have := gt_lt (ε := st ε k (.im d)) (i := k) (by rw [hk]; intro z; cases z)
          rwa [st_len] at this
        rw [gt_same hl] at hk
        cases hk
      · rw [gt_ne q] at hj
        rw [gt_ne q2] at hk
        rw [List.getElem?_set_ne (Ne.symm q)] at h1
        rw [List.getElem?_set_ne (Ne.symm q2)] at h2
        exact r.dis j k e f a b hjk hj hk h1 h2
  new := r.new
  pin := fun j e hj he => by
    have q : j ≠ i := fun z => by rw [z, hp] at hj; cases hj
    rw [gt_ne q] at he
    obtain ⟨w, h1, h2⟩ := r.pin j e hj he
    exact ⟨w, by rw [List.getElem?_set_ne (Ne.symm q)]; exact h1, h2⟩
  frs := fun j p e hj he => by
    by_cases q : j = i
    · subst q
      have hl : j < ε.length := by
        have := gt_lt (ε := st ε j (.im d)) (i := j) (by rw [he]; intro z; cases z)
        rwa [st_len] at this
      rw [gt_same hl] at he
      cases he
      exact ⟨v, by rw [List.getElem?_set_self (by rw [r.len]; exact hl)], hf p hj⟩
    · rw [gt_ne q] at he
      obtain ⟨w, h1, h2⟩ := r.frs j p e hj he
      exact ⟨w, by rw [List.getElem?_set_ne (Ne.symm q)]; exact h1, h2⟩
  pnm := fun j e he => by
    by_cases q : j = i
    · subst q
      have hl : j < ε.length := by
        have := gt_lt (ε := st ε j (.im d)) (i := j) (by rw [he]; intro z; cases z)
        rwa [st_len] at this
      rw [gt_same hl] at he
      cases he
    · rw [gt_ne q] at he
      exact r.pnm j e he
theorem Rel.set {c : Cf} {σ : L2.St} {H : Hp} {ε : Nv} {M : List Addr} (r : Rel c σ H ε M) {i : Nat} {d : D} {v : V} (h : At c.K (hid M H) d v) (hq : c.op i = true) : Rel c (σ.set i (some v)) H (st ε i (.im d)) M :=
  r.setF h (Cf.op_pn hq) fun p hp => by
    rw [Cf.op_fs hq] at hp
    cases hp
/-- a name is stored: a new object of one's own -/
theorem Rel.setMu {c : Cf} {σ : L2.St} {H H' : Hp} {ε : Nv} {M : List Addr} (r : Rel c σ H ε M) {i : Nat} {d : D} {p : Addr} {o : HO} (n : H p = none) (e : Ex H H') (hp : H' p = some o) (h : Own c.K (hid (p :: M) H') o d) (hq : c.op i = true) :
    Rel c (σ.set i (some (.ref p))) H' (st ε i (.mu d)) (p :: M) where
  ext := r.ext.trans e
  len := by rw [List.length_set, st_len, r.len]
  sub := fun a ha => List.mem_cons_of_mem _ (r.sub a ha)
  trk := fun a ha => by
    rcases List.mem_cons.mp ha with q | q
    · exact ⟨o, by rw [q]; exact hp⟩
    · obtain ⟨u, q⟩ := r.trk a q
      exact ⟨u, e a u q⟩
  old := r.old
  im := fun j f he => by
    by_cases q : j = i
    · subst q
      have hl : j < ε.length := by
        have := gt_lt (ε := st ε j (.mu d)) (i := j) (by rw [he]; intro z; cases z)
        rwa [st_len] at this
      rw [gt_same hl] at he
      cases he
    · rw [gt_ne q] at he
      obtain ⟨w, h1, h2⟩ := r.im j f he
      exact ⟨w, by rw [List.getElem?_set_ne (Ne.symm q)]; exact h1, At.mono (hid_new e n) f w h2⟩
  mu := fun j f he => by
    by_cases q : j = i
    · subst q
      have hl : j < ε.length := by
        have := gt_lt (ε := st ε j (.mu d)) (i := j) (by rw [he]; intro z; cases z)
        rwa [st_len] at this
      rw [gt_same hl] at he
      cases he
      refine ⟨p, o, by rw [List.getElem?_set_self (by rw [r.len]; exact hl)], List.mem_cons_self, ?_, hp, h⟩
      cases q : c.H0 p with
      | none => rfl
      | some u =>
        have := r.ext p u q
        rw [n] at this
        cases this
    · rw [gt_ne q] at he
      obtain ⟨a, u, h1, h2, h3, h4, h5⟩ := r.mu j f he
      exact ⟨a, u, by rw [List.getElem?_set_ne (Ne.symm q)]; exact h1, List.mem_cons_of_mem _ h2, h3, e a u h4, h5.mono (hid_new e n)⟩
  dis := fun j k f g a b hjk hj hk h1 h2 => by
    have hM : ∀ j, j ≠ i → ∀ f a, gt (st ε i (.mu d)) j = .mu f → (σ.set i (some (.ref p)))[j]? = some (some (.ref a)) → a ≠ p := fun j q f a hj h1 => by
      rw [gt_ne q] at hj
      rw [List.getElem?_set_ne (Ne.symm q)] at h1
      obtain ⟨a', u, h1', h2', _⟩ := r.mu j f hj
      rw [h1] at h1'
      cases h1'
      exact fun z => r.notM n (z ▸ h2')
    by_cases q : j = i
    · subst q
      have hl : j < ε.length := by
        have := gt_lt (ε := st ε j (.mu d)) (i := j) (by rw [hj]; intro z; cases z)
        rwa [st_len] at this
      rw [List.getElem?_set_self (by rw [r.len]; exact hl)] at h1
      cases h1
      exact (hM k (Ne.symm hjk) g b hk h2).symm
    · by_cases q2 : k = i
      · subst q2
        have hl : k < ε.length := by
          have := gt_lt (ε := st ε k (.mu d)) (i := k) (by rw [hk]; intro z; cases z)
          rwa [st_len] at this
        rw [List.getElem?_set_self (by rw [r.len]; exact hl)] at h2
        cases h2
        exact hM j q f a hj h1
      · rw [gt_ne q] at hj
        rw [gt_ne q2] at hk
        rw [List.getElem?_set_ne (Ne.symm q)] at h1
        rw [List.getElem?_set_ne (Ne.symm q2)] at h2
        exact r.dis j k f g a b hjk hj hk h1 h2
  new := fun a ha => by
    rcases List.mem_cons.mp ha with q | q
    · refine .inr ?_
      rw [q]
      cases q2 : c.H0 p with
      | none => rfl
      | some u =>
        have := r.ext p u q2
        rw [n] at this
        cases this
    · exact r.new a q
  pin := fun j f hj he => by
    have q : j ≠ i := fun z => by rw [z, Cf.op_pn hq] at hj; cases hj
    rw [gt_ne q] at he
    obtain ⟨w, h1, h2⟩ := r.pin j f hj he
    exact ⟨w, by rw [List.getElem?_set_ne (Ne.symm q)]; exact h1, h2⟩
  frs := fun j q0 f hj he => by
    have q : j ≠ i := fun z => by rw [z, Cf.op_fs hq] at hj; cases hj
    rw [gt_ne q] at he
    obtain ⟨w, h1, h2⟩ := r.frs j q0 f hj he
    exact ⟨w, by rw [List.getElem?_set_ne (Ne.symm q)]; exact h1, h2.mono (Evl.Ex.refl _) (hid_new e n)⟩
  pnm := fun j f he => by
    by_cases q : j = i
    · rw [q]
      exact ⟨Cf.op_pn hq, .inl (Cf.op_fs hq)⟩
    · rw [gt_ne q] at he
      exact r.pnm j f he
/-- one's own object is changed -/
theorem Rel.upd {c : Cf} {σ : L2.St} {H : Hp} {ε : Nv} {M : List Addr} (r : Rel c σ H ε M) {i : Nat} {d d' : D} {a : Addr} {o' : HO} (g : gt ε i = .mu d) (s : σ[i]? = some (some (.ref a))) (h : Own c.K (hid M H) o' d') :
    Rel c σ (L2.upd H a o') (st ε i (.mu d')) M := by
  obtain ⟨a', o, h1, h2, h3, h4, h5⟩ := r.mu i d g
  rw [s] at h1
  cases h1
  have hl : i < ε.length := gt_lt (by rw [g]; intro z; cases z)
  have hh : hid M (L2.upd H a o') = hid M H := hid_upd h2
  refine ⟨r.ext.mut h3, by rw [st_len]; exact r.len, r.sub, fun b hb => ?_, r.old, fun j f he => ?_, fun j f he => ?_, fun j k f g' a1 b1 hjk hj hk h1 h2' => ?_, r.new, fun j f hj he => ?_, fun j p f hj he => ?_, fun j f he => ?_⟩
  · by_cases q : b = a
    · exact ⟨o', by rw [q]; exact upd_same⟩
    · obtain ⟨u, q2⟩ := r.trk b hb
      exact ⟨u, by rw [upd_ne q]; exact q2⟩
  · by_cases q : j = i
    · subst q
      rw [gt_same hl] at he
      cases he
    · rw [gt_ne q] at he
      rw [hh]
      exact r.im j f he
  · by_cases q : j = i
    · subst q
      rw [gt_same hl] at he
      cases he
      exact ⟨a, o', s, h2, h3, upd_same, by rw [hh]; exact h⟩
    · rw [gt_ne q] at he
      obtain ⟨b, u, q1, q2, q3, q4, q5⟩ := r.mu j f he
      have ne : b ≠ a := r.dis j i f d b a q he g q1 s
      exact ⟨b, u, q1, q2, q3, by rw [upd_ne ne]; exact q4, by rw [hh]; exact q5⟩
  · have back : ∀ j f, gt (st ε i (.mu d')) j = .mu f → ∃ f', gt ε j = .mu f' := fun j f hj => by
      by_cases q : j = i
      · subst q
        exact ⟨d, g⟩
      · rw [gt_ne q] at hj
        exact ⟨f, hj⟩
    obtain ⟨f1, e1⟩ := back j f hj
    obtain ⟨f2, e2⟩ := back k g' hk
    exact r.dis j k f1 f2 a1 b1 hjk e1 e2 h1 h2'
  · by_cases q : j = i
    · subst q
      rw [gt_same hl] at he
      cases he
    · rw [gt_ne q] at he
      exact r.pin j f hj he
  · by_cases q : j = i
    · subst q
      rw [gt_same hl] at he
      cases he
    · rw [gt_ne q] at he
      rw [hh]
      exact r.frs j p f hj he
  · by_cases q : j = i
    · subst q
      exact r.pnm j d g
    · rw [gt_ne q] at he
      exact r.pnm j f he
/-- one's own object as data, from now on -/
theorem Rel.frz {c : Cf} {σ : L2.St} {H : Hp} {ε : Nv} {M : List Addr} (r : Rel c σ H ε M) {i : Nat} {d : D} (g : gt ε i = .mu d) (hq : c.op i = true) : ∃ M', (∀ a, a ∈ M' → a ∈ M) ∧ Rel c σ H (st ε i (.im d)) M' := by
  obtain ⟨a, o, h1, h2, h3, h4, h5⟩ := r.mu i d g
  have hl : i < ε.length := gt_lt (by rw [g]; intro z; cases z)
  have sub : ∀ b, b ∈ M.filter (fun b => decide (b ≠ a)) → b ∈ M := fun b hb => (List.mem_filter.mp hb).1
  have keep : ∀ b, b ∈ M → b ≠ a → b ∈ M.filter (fun b => decide (b ≠ a)) := fun b hb n => List.mem_filter.mpr ⟨hb, decide_eq_true n⟩
  have na : a ∉ M.filter (fun b => decide (b ≠ a)) := fun z => of_decide_eq_true (List.mem_filter.mp z).2 rfl
  refine ⟨M.filter (fun b => decide (b ≠ a)), sub, ?_⟩
  have hs : Ex (hid M H) (hid (M.filter (fun b => decide (b ≠ a))) H) := hid_sub sub
  refine ⟨r.ext, by rw [st_len]; exact r.len, fun b hb => keep b (r.sub b hb) fun z => r.old b hb (z ▸ h3), fun b hb => r.trk b (sub b hb), r.old, fun j f he => ?_, fun j f he => ?_, fun j k f g' a1 b1 hjk hj hk q1 q2 => ?_, fun b hb => r.new b (sub b hb), fun j f hj he => ?_, fun j p f hj he => ?_, fun j f he => ?_⟩
  · by_cases q : j = i
    · subst q
      rw [gt_same hl] at he
      cases he
      exact ⟨.ref a, h1, Own.at (hid_of h4 na) (h5.mono hs)⟩
    · rw [gt_ne q] at he
      obtain ⟨v, p1, p2⟩ := r.im j f he
      exact ⟨v, p1, At.mono hs f v p2⟩
  · by_cases q : j = i
    · subst q
      rw [gt_same hl] at he
      cases he
    · rw [gt_ne q] at he
      obtain ⟨b, u, p1, p2, p3, p4, p5⟩ := r.mu j f he
      exact ⟨b, u, p1, keep b p2 (r.dis j i f d b a q he g p1 h1), p3, p4, p5.mono hs⟩
  · by_cases q : j = i
    · subst q
      rw [gt_same hl] at hj
      cases hj
    · by_cases q3 : k = i
      · subst q3
        rw [gt_same hl] at hk
        cases hk
      · rw [gt_ne q] at hj
        rw [gt_ne q3] at hk
        exact r.dis j k f g' a1 b1 hjk hj hk q1 q2
  · have q : j ≠ i := fun z => by rw [z, Cf.op_pn hq] at hj; cases hj
    rw [gt_ne q] at he
    exact r.pin j f hj he
  · have q : j ≠ i := fun z => by rw [z, Cf.op_fs hq] at hj; cases hj
    rw [gt_ne q] at he
    obtain ⟨w, p1, p2⟩ := r.frs j p f hj he
    exact ⟨w, p1, p2.mono (Evl.Ex.refl _) hs⟩
  · by_cases q : j = i
    · subst q
      rw [gt_same hl] at he
      cases he
    · rw [gt_ne q] at he
      exact r.pnm j f he
end Tw
set_option Elab.async false
set_option linter.all false
set_option maxRecDepth 100000
set_option maxHeartbeats 4000000
/-! Tw2: readings by programs over data: expressions -/
namespace Tw
open PySem PySem.Spec PyProof.Rows L2
abbrev Trk (M : List Addr) (H : Hp) : Prop := ∀ a, a ∈ M → ∃ o, H a = some o
theorem Trk.ex {M : List Addr} {H H' : Hp} (t : Trk M H) (e : Ex H H') : Trk M H' := fun a h => let ⟨o, q⟩ := t a h; ⟨o, e a o q⟩
theorem Trk.no {M : List Addr} {H : Hp} (t : Trk M H) {p : Addr} (n : H p = none) : p ∉ M := fun h => by
  obtain ⟨o, q⟩ := t p h
  rw [n] at q
  cases q
/-! ### the readings -/
def rdE (c : Cf) (m : Nv → R D) : TE := fun σ H Q => ∃ ε M, Rel c σ H ε M ∧ ∃ d, m ε = .ok d ∧ ∀ v H', Ex H H' → At c.K (hid M H') d v → Q v H'
/-- the same, the value a new object -/
def rdL (c : Cf) (m : Nv → R D) : TE := fun σ H Q => ∃ ε M, Rel c σ H ε M ∧ ∃ d, m ε = .ok d ∧ ∀ p o H', H p = none → Ex H H' → H' p = some o → Own c.K (hid (p :: M) H') o d → Q (.ref p) H'
def rdT (c : Cf) (m : Nv → R Bool) : TT := fun σ H Q => ∃ ε M, Rel c σ H ε M ∧ ∃ b, m ε = .ok b ∧ ∀ H', Ex H H' → Q b H'
def rdA (c : Cf) (m : Nv → R (List D)) : TA := fun σ H Q => ∃ ε M, Rel c σ H ε M ∧ ∃ ds, m ε = .ok ds ∧ ∀ vs H', Ex H H' → AtL c.K (hid M H') ds vs → Q vs H'
/-! ### weakenings -/
section
variable {X : Cx} {c : Cf}
theorem _root_.L2.PE.wk {e : Expr} {t t' : TE} (h : PE X e t) (i : ∀ σ H Q, t' σ H Q → t σ H Q) : PE X e t' := ⟨fun pins s σ H Q I q => h.run pins s σ H Q I (i σ H Q q)⟩
theorem _root_.L2.PT.wk {e : Expr} {t t' : TT} (h : PT X e t) (i : ∀ σ H Q, t' σ H Q → t σ H Q) : PT X e t' := ⟨fun pins s σ H Q I q => h.run pins s σ H Q I (i σ H Q q)⟩
theorem _root_.L2.PA.wk {e : List Expr} {t t' : TA} (h : PA X e t) (i : ∀ σ H Q, t' σ H Q → t σ H Q) : PA X e t' := ⟨fun pos pins s σ H Q I q => h.run pos pins s σ H Q I (i σ H Q q)⟩
theorem _root_.L2.PS.wk {e : Stmt} {t t' : TS} (h : PS X e t) (i : ∀ D σ H, t' D σ H → t D σ H) : PS X e t' := ⟨fun pins s σ H D I q => h.run pins s σ H D I (i D σ H q)⟩
theorem _root_.L2.PSs.wk {e : List Stmt} {t t' : TS} (h : PSs X e t) (i : ∀ D σ H, t' D σ H → t D σ H) : PSs X e t' := ⟨fun pins s σ H D I q => h.run pins s σ H D I (i D σ H q)⟩
theorem own_new {K : PySem.W.Frag} {M : List Addr} {H H' : Hp} {p : Addr} {o : HO} {d : D} (t : Trk M H) (n : H p = none) (hp : H' p = some o) (h : Own K (hid (p :: M) H') o d) : At K (hid M H') d (.ref p) :=
  Own.at (hid_of hp (t.no n)) (h.mono (hid_sub fun a ha => List.mem_cons_of_mem _ ha))
/-- a new object is data -/
theorem PE.lE {e : Expr} {m : Nv → R D} (h : PE X e (rdL c m)) : PE X e (rdE c m) := h.wk fun σ H Q ⟨ε, M, r, d, hm, q⟩ => ⟨ε, M, r, d, hm, fun p o H' n e hp ho => q _ H' e (own_new (Trk.ex r.trk (Evl.Ex.refl _)) n hp ho)⟩
/-! ### atoms -/
def xV (i : Nat) : Nv → R D := fun ε => match gt ε i with | .im d => .ok d | _ => .bad
def xC (d : D) : Nv → R D := fun _ => .ok d
theorem xV_ok {i : Nat} {ε : Nv} {d : D} (h : xV i ε = .ok d) : gt ε i = .im d := by
  unfold xV at h
  cases e : gt ε i with
  | no => rw [e] at h; cases h
  | mu f => rw [e] at h; cases h
  | im f => rw [e] at h; cases h; rfl
theorem pe_v {e : Expr} {i : Nat} (h : PE X e (tVar i)) : PE X e (rdE c (xV i)) := h.wk fun σ H Q ⟨ε, M, r, d, hm, q⟩ => by
  obtain ⟨v, h1, h2⟩ := r.im i d (xV_ok hm)
  exact ⟨v, h1, q v H (Evl.Ex.refl H) h2⟩
theorem pe_k {e : Expr} {v : V} {d : D} (h : PE X e (tC v)) (hd : ∀ K H, At K H d v) : PE X e (rdE c (xC d)) := h.wk fun σ H Q ⟨ε, M, r, d', hm, q⟩ => by
  cases hm
  exact q v H (Evl.Ex.refl H) (hd _ _)
theorem pk_int {i : Int} {j pos} : PE X (.Constant (.int i) j pos) (rdE c (xC (.int i))) := pe_k pe_int fun _ _ => rfl
theorem pk_bl {b : Bool} {j pos} : PE X (.Constant (.bool b) j pos) (rdE c (xC (.bool b))) := pe_k pe_bl fun _ _ => rfl
theorem pk_non {j pos} : PE X (.Constant .none j pos) (rdE c (xC .none)) := pe_k pe_non fun _ _ => rfl
theorem pk_str {x j pos} : PE X (.Constant (.str x) j pos) (rdE c (xC (.str x))) := pe_k pe_str fun _ _ => rfl
/-- a constant of the module -/
theorem pk_glob {x : Str} {v : V} {u : Value} {d : D} {pos : Pos} (hg : Gl X x) (hm : X.mg x = some u) (r : RelV v u) (hd : ∀ K H, At K H d v) (hdb : (x == ("__debug__" : Str)) = false := by decide) : PE X (.Name x pos) (rdE c (xC d)) := pe_k (pe_glob hg hm r hdb) hd
/-! ### lists of expressions -/
def xNil : Nv → R (List D) := fun _ => .ok []
def xCons (m : Nv → R D) (r : Nv → R (List D)) : Nv → R (List D) := fun ε => (m ε).bind fun d => (r ε).bind fun ds => .ok (d :: ds)
theorem pa_n : PA X [] (rdA c xNil) := pa_nil.wk fun σ H Q ⟨ε, M, r, ds, hm, q⟩ => by
  cases hm
  exact q [] H (Evl.Ex.refl H) rfl
theorem pa_c {e : Expr} {es : List Expr} {m : Nv → R D} {ms : Nv → R (List D)} (h : PE X e (rdE c m)) (hs : PA X es (rdA c ms)) (hst : starEach (e :: es) X.env = (false, eval e X.env) :: starEach es X.env := by rfl) : PA X (e :: es) (rdA c (xCons m ms)) :=
  (pa_cons h hs hst).wk fun σ H Q ⟨ε, M, r, ds, hm, q⟩ => by
    obtain ⟨d, h1, h2⟩ := R.bind_ok hm
    obtain ⟨dr, h3, h4⟩ := R.bind_ok h2
    cases h4
    exact ⟨ε, M, r, d, h1, fun v H1 e1 hv => ⟨ε, M, r.ex e1, dr, h3, fun vs H2 e2 hvs => q (v :: vs) H2 (e1.trans e2) ⟨v, vs, rfl, At.mono (hid_ex e2) d v hv, hvs⟩⟩⟩
/-! ### values in, a value out -/
def r1D (K : PySem.W.Frag) (f : D → R D) : V → Hp → VK → Prop := fun x H Q => ∃ M a d, Trk M H ∧ At K (hid M H) a x ∧ f a = .ok d ∧ ∀ v H', Ex H H' → At K (hid M H') d v → Q v H'
def r2D (K : PySem.W.Frag) (f : D → D → R D) : R2 := fun x y H Q => ∃ M a b d, Trk M H ∧ At K (hid M H) a x ∧ At K (hid M H) b y ∧ f a b = .ok d ∧ ∀ v H', Ex H H' → At K (hid M H') d v → Q v H'
def r2L (K : PySem.W.Frag) (f : D → D → R D) : R2 := fun x y H Q => ∃ M a b d, Trk M H ∧ At K (hid M H) a x ∧ At K (hid M H) b y ∧ f a b = .ok d ∧ ∀ p o H', H p = none → Ex H H' → H' p = some o → Own K (hid (p :: M) H') o d → Q (.ref p) H'
def rnD (K : PySem.W.Frag) (f : List D → R D) : List V → Hp → VK → Prop := fun xs H Q => ∃ M as d, Trk M H ∧ AtL K (hid M H) as xs ∧ f as = .ok d ∧ ∀ v H', Ex H H' → At K (hid M H') d v → Q v H'
def rnL (K : PySem.W.Frag) (f : List D → R D) : List V → Hp → VK → Prop := fun xs H Q => ∃ M as d, Trk M H ∧ AtL K (hid M H) as xs ∧ f as = .ok d ∧ ∀ p o H', H p = none → Ex H H' → H' p = some o → Own K (hid (p :: M) H') o d → Q (.ref p) H'
theorem r2L.D {K : PySem.W.Frag} {f : D → D → R D} {x y : V} {H : Hp} {Q : VK} (h : r2D K f x y H Q) : r2L K f x y H Q := by
  obtain ⟨M, a, b, d, t, ha, hb, hf, q⟩ := h
  exact ⟨M, a, b, d, t, ha, hb, hf, fun p o H' n e hp ho => q _ H' e (own_new t n hp ho)⟩
theorem rnL.D {K : PySem.W.Frag} {f : List D → R D} {xs : List V} {H : Hp} {Q : VK} (h : rnD K f xs H Q) : rnL K f xs H Q := by
  obtain ⟨M, a, d, t, ha, hf, q⟩ := h
  exact ⟨M, a, d, t, ha, hf, fun p o H' n e hp ho => q _ H' e (own_new t n hp ho)⟩
def xBin (f : D → D → R D) (ma mb : Nv → R D) : Nv → R D := fun ε => (ma ε).bind fun a => (mb ε).bind fun b => f a b
def xUn (f : D → R D) (ma : Nv → R D) : Nv → R D := fun ε => (ma ε).bind f
def xCall (f : List D → R D) (ms : Nv → R (List D)) : Nv → R D := fun ε => (ms ε).bind f
variable {a b : Expr} {ma mb : Nv → R D} {ms : Nv → R (List D)} {pos : Pos}
theorem tOp_rd {r : R2} {f : D → D → R D} (hr : ∀ x y H Q, r2D c.K f x y H Q → r x y H Q) : ∀ σ H Q, rdE c (xBin f ma mb) σ H Q → tOp r (rdE c ma) (rdE c mb) σ H Q := fun σ H Q ⟨ε, M, re, d, hm, q⟩ => by
  obtain ⟨x, h1, h2⟩ := R.bind_ok hm
  obtain ⟨y, h3, h4⟩ := R.bind_ok h2
  exact ⟨ε, M, re, x, h1, fun v H1 e1 hv => ⟨ε, M, re.ex e1, y, h3, fun u H2 e2 hu => hr _ _ _ _ ⟨M, x, y, d, Trk.ex re.trk (e1.trans e2), At.mono (hid_ex e2) x v hv, hu, h4, fun w H3 e3 hw => q w H3 ((e1.trans e2).trans e3) hw⟩⟩⟩
theorem tOp_rdL {r : R2} {f : D → D → R D} (hr : ∀ x y H Q, r2L c.K f x y H Q → r x y H Q) : ∀ σ H Q, rdL c (xBin f ma mb) σ H Q → tOp r (rdE c ma) (rdE c mb) σ H Q := fun σ H Q ⟨ε, M, re, d, hm, q⟩ => by
  obtain ⟨x, h1, h2⟩ := R.bind_ok hm
  obtain ⟨y, h3, h4⟩ := R.bind_ok h2
  refine ⟨ε, M, re, x, h1, fun v H1 e1 hv => ⟨ε, M, re.ex e1, y, h3, fun u H2 e2 hu => hr _ _ _ _ ⟨M, x, y, d, Trk.ex re.trk (e1.trans e2), At.mono (hid_ex e2) x v hv, hu, h4, fun p o H3 n e3 hp ho => q p o H3 ?_ ((e1.trans e2).trans e3) hp ho⟩⟩⟩
  exact Evl.fresh_back (e1.trans e2) n
theorem pe_bin {op : Operator} {f : D → D → R D} (ho : OpR X (binaryOp op) (r2D X.K f)) (ha : PE X a (rdE c ma)) (hb : PE X b (rdE c mb)) (hK : c.K = X.K := by rfl) : PE X (.BinOp a op b pos) (rdE c (xBin f ma mb)) :=
  (pe_op ho ha hb).wk (tOp_rd fun _ _ _ _ h => hK ▸ h)
theorem pe_binL {op : Operator} {f : D → D → R D} (ho : OpR X (binaryOp op) (r2L X.K f)) (ha : PE X a (rdE c ma)) (hb : PE X b (rdE c mb)) (hK : c.K = X.K := by rfl) : PE X (.BinOp a op b pos) (rdL c (xBin f ma mb)) :=
  (pe_op ho ha hb).wk (tOp_rdL fun _ _ _ _ h => hK ▸ h)
theorem pe_cp {op : CmpOp} {f : D → D → R D} (ho : OpR X (compareOp op) (r2D X.K f)) (ha : PE X a (rdE c ma)) (hb : PE X b (rdE c mb)) (hm : behindInMarks op b = false := by first | exact nomark _ | rfl) (hK : c.K = X.K := by rfl) : PE X (.Compare a [op] [b] pos) (rdE c (xBin f ma mb)) :=
  (pe_cmpR ho ha hb hm).wk (tOp_rd fun _ _ _ _ h => hK ▸ h)
theorem pe_un1 {op : UnaryOp} {f : D → R D} (ho : UnR X (unaryOp op) (r1D X.K f)) (ha : PE X a (rdE c ma)) (hK : c.K = X.K := by rfl) : PE X (.UnaryOp op a pos) (rdE c (xUn f ma)) :=
  (pe_un ho ha).wk fun σ H Q ⟨ε, M, re, d, hm, q⟩ => by
    obtain ⟨x, h1, h2⟩ := R.bind_ok hm
    exact ⟨ε, M, re, x, h1, fun v H1 e1 hv => ⟨M, x, d, Trk.ex re.trk e1, hK ▸ hv, h2, fun w H3 e3 hw => q w H3 (e1.trans e3) (hK ▸ hw)⟩⟩
theorem tCB_rd {r : List V → Hp → VK → Prop} {f : List D → R D} (hr : ∀ xs H Q, rnD c.K f xs H Q → r xs H Q) : ∀ σ H Q, rdE c (xCall f ms) σ H Q → tCB r (rdA c ms) σ H Q := fun σ H Q ⟨ε, M, re, d, hm, q⟩ => by
  obtain ⟨ds, h1, h2⟩ := R.bind_ok hm
  exact ⟨ε, M, re, ds, h1, fun vs H1 e1 hv => hr _ _ _ ⟨M, ds, d, Trk.ex re.trk e1, hv, h2, fun w H3 e3 hw => q w H3 (e1.trans e3) hw⟩⟩
theorem tCB_rdL {r : List V → Hp → VK → Prop} {f : List D → R D} (hr : ∀ xs H Q, rnL c.K f xs H Q → r xs H Q) : ∀ σ H Q, rdL c (xCall f ms) σ H Q → tCB r (rdA c ms) σ H Q := fun σ H Q ⟨ε, M, re, d, hm, q⟩ => by
  obtain ⟨ds, h1, h2⟩ := R.bind_ok hm
  exact ⟨ε, M, re, ds, h1, fun vs H1 e1 hv => hr _ _ _ ⟨M, ds, d, Trk.ex re.trk e1, hv, h2, fun p o H3 n e3 hp ho => q p o H3 (Evl.fresh_back e1 n) (e1.trans e3) hp ho⟩⟩
variable {x : Str} {p : Pos} {e : Expr} {es : List Expr}
/-- a builtin's call, a builtin class's -/
theorem pe_bi {id : String} {f : List D → R D} (hc : CallR X (.builtin id) (rnD X.K f)) (hm : X.mg x = none) (hv : bootBuiltins x = some (.builtin id)) (ha : PA X (e :: es) (rdA c ms)) (hg : Gl X x := by rfl)
    (hn : x ≠ "__name__" := by decide) (hd : (x == ("__debug__" : Str)) = false := by decide) (hst : starEach (e :: es) X.env = (false, eval e X.env) :: starEach es X.env := by rfl) (hpl : (backTo pos (starEach es X.env)).any (·.1) = false := by rfl) (hK : c.K = X.K := by rfl) :
    PE X (.Call (.Name x p) (e :: es) [] pos) (rdE c (xCall f ms)) := (pe_callB hc hg hm hv ha hn hd hst hpl).wk (tCB_rd fun _ _ _ h => hK ▸ h)
theorem pe_ty {T : String} {f : List D → R D} (hc : CallR X (.type T) (rnD X.K f)) (hm : X.mg x = none) (hv : bootBuiltins x = some (.type T)) (ha : PA X (e :: es) (rdA c ms)) (hg : Gl X x := by rfl)
    (hn : x ≠ "__name__" := by decide) (hd : (x == ("__debug__" : Str)) = false := by decide) (hst : starEach (e :: es) X.env = (false, eval e X.env) :: starEach es X.env := by rfl) (hpl : (backTo pos (starEach es X.env)).any (·.1) = false := by rfl) (hK : c.K = X.K := by rfl) :
    PE X (.Call (.Name x p) (e :: es) [] pos) (rdE c (xCall f ms)) := (pe_callTy hc hg hm hv ha hn hd hst hpl).wk (tCB_rd fun _ _ _ h => hK ▸ h)
theorem pe_biL {id : String} {f : List D → R D} (hc : CallR X (.builtin id) (rnL X.K f)) (hm : X.mg x = none) (hv : bootBuiltins x = some (.builtin id)) (ha : PA X (e :: es) (rdA c ms)) (hg : Gl X x := by rfl)
    (hn : x ≠ "__name__" := by decide) (hd : (x == ("__debug__" : Str)) = false := by decide) (hst : starEach (e :: es) X.env = (false, eval e X.env) :: starEach es X.env := by rfl) (hpl : (backTo pos (starEach es X.env)).any (·.1) = false := by rfl) (hK : c.K = X.K := by rfl) :
    PE X (.Call (.Name x p) (e :: es) [] pos) (rdL c (xCall f ms)) := (pe_callB hc hg hm hv ha hn hd hst hpl).wk (tCB_rdL fun _ _ _ h => hK ▸ h)
theorem pe_tyL {T : String} {f : List D → R D} (hc : CallR X (.type T) (rnL X.K f)) (hm : X.mg x = none) (hv : bootBuiltins x = some (.type T)) (ha : PA X (e :: es) (rdA c ms)) (hg : Gl X x := by rfl)
    (hn : x ≠ "__name__" := by decide) (hd : (x == ("__debug__" : Str)) = false := by decide) (hst : starEach (e :: es) X.env = (false, eval e X.env) :: starEach es X.env := by rfl) (hpl : (backTo pos (starEach es X.env)).any (·.1) = false := by rfl) (hK : c.K = X.K := by rfl) :
    PE X (.Call (.Name x p) (e :: es) [] pos) (rdL c (xCall f ms)) := (pe_callTy hc hg hm hv ha hn hd hst hpl).wk (tCB_rdL fun _ _ _ h => hK ▸ h)
/-! ### a def of one's own -/
/-- what a def promises: a value | a new object; what is wished of an exception: its class by its number, its own dict with the flat datum at "at" -/
def Exw (K : PySem.W.Frag) (cl : Nat → Option Addr) (M : List Addr) (H : Hp) (E : XK) (k : Nat) (a : D) : Prop :=
  flat a = true ∧ ∀ C dx v H', cl k = some C → Ex H H' → hid M H' dx = some (.xd [("at", v)]) → At K H' a v → E (.ref C) (some dx) H'
def spF (K : PySem.W.Frag) (cl : Nat → Option Addr) (f : List D → R D) : Sp := fun vs H Q E => ∃ M ds, Trk M H ∧ AtL K (hid M H) ds vs ∧ match f ds with
  | .ok d => ∀ v H', Ex H H' → At K (hid M H') d v → Q v H'
  | .ex k a => Exw K cl M H E k a
  | .bad => False
def spN (K : PySem.W.Frag) (cl : Nat → Option Addr) (f : List D → R D) : Sp := fun vs H Q E => ∃ M ds, Trk M H ∧ AtL K (hid M H) ds vs ∧ match f ds with
  | .ok d => ∀ p o H', H p = none → Ex H H' → H' p = some o → Own K (hid (p :: M) H') o d → Q (.ref p) H'
  | .ex k a => Exw K cl M H E k a
  | .bad => False
theorem spF.ok {K : PySem.W.Frag} {cl : Nat → Option Addr} {f : List D → R D} {vs : List V} {H : Hp} {Q : VK} {E : XK} {M : List Addr} {ds : List D} {d : D} (t : Trk M H) (ha : AtL K (hid M H) ds vs) (hf : f ds = .ok d) (q : ∀ v H', Ex H H' → At K (hid M H') d v → Q v H') : spF K cl f vs H Q E :=
  ⟨M, ds, t, ha, by rw [hf]; exact q⟩
theorem spN.ok {K : PySem.W.Frag} {cl : Nat → Option Addr} {f : List D → R D} {vs : List V} {H : Hp} {Q : VK} {E : XK} {M : List Addr} {ds : List D} {d : D} (t : Trk M H) (ha : AtL K (hid M H) ds vs) (hf : f ds = .ok d)
    (q : ∀ p o H', H p = none → Ex H H' → H' p = some o → Own K (hid (p :: M) H') o d → Q (.ref p) H') : spN K cl f vs H Q E :=
  ⟨M, ds, t, ha, by rw [hf]; exact q⟩
def E0' : XK := fun _ _ _ => False
theorem pass0' {P : Program} {w : World} : Passes (L2.CX P w) X E0' := fun _ _ _ _ _ _ _ ⟨_, _, _, _, _, _, _, _, _, _, _, _, h⟩ => h.elim
/-! ### displays -/
def xTup (m : Nv → R (List D)) : Nv → R D := fun ε => (m ε).bind fun ds => .ok (.tuple ds)
def xLst (m : Nv → R (List D)) : Nv → R D := fun ε => (m ε).bind fun ds => .ok (.list ds)
theorem atL_len {K : PySem.W.Frag} {H : Hp} : ∀ {ds : List D} {vs : List V}, AtL K H ds vs → vs.length = ds.length
  | [], vs, h => by
    have e : vs = [] := h
    rw [e]
    rfl
  | d :: ds, vs, ⟨v, r, h1, _, h3⟩ => by
    rw [h1, List.length_cons, List.length_cons, atL_len h3]
theorem pe_tu {x1} (h : PA X es (rdA c ms)) (hz : es.length ≤ sizeLine := by decide) (hl : ∀ ε ds, ms ε = .ok ds → ds.length = es.length := by intro _ _ _; assumption) : PE X (.Tuple es x1 pos) (rdE c (xTup ms)) :=
  (L2.pe_tup h).wk fun σ H Q ⟨ε, M, re, d, hm, q⟩ => by
    obtain ⟨ds, h1, h2⟩ := R.bind_ok hm
    cases h2
    refine ⟨ε, M, re, ds, h1, fun vs H1 e1 hv => ⟨by rw [atL_len hv, hl ε ds h1]; exact hz, fun p n => ?_⟩⟩
    have np := (Trk.ex re.trk e1).no n
    exact q (.ref p) _ (e1.trans (Evl.Ex.new n)) ⟨p, vs, rfl, SqT.of (hid_of upd_same np), AtL.mono (hid_ex (Evl.Ex.new n)) ds vs hv⟩
theorem pe_li (h : PA X es (rdA c ms)) (hz : es.length ≤ sizeLine := by decide) (hl : ∀ ε ds, ms ε = .ok ds → ds.length = es.length := by intro _ _ _; assumption) : PE X (.List es pos) (rdL c (xLst ms)) :=
  (L2.pe_lst h).wk fun σ H Q ⟨ε, M, re, d, hm, q⟩ => by
    obtain ⟨ds, h1, h2⟩ := R.bind_ok hm
    cases h2
    refine ⟨ε, M, re, ds, h1, fun vs H1 e1 hv => ⟨by rw [atL_len hv, hl ε ds h1]; exact hz, fun p n => ?_⟩⟩
    refine q p (.lst vs) _ (Evl.fresh_back e1 n) (e1.trans (Evl.Ex.new n)) upd_same (.inl ⟨vs, ds, rfl, rfl, AtL.mono (hid_new (Evl.Ex.new n) n) ds vs hv⟩)
theorem xNil_len : ∀ (ε : Nv) ds, xNil ε = .ok ds → ds.length = ([] : List Expr).length := fun ε ds h => by cases h; rfl
theorem xCons_len {m : Nv → R D} {r : Nv → R (List D)} {e : Expr} {es : List Expr} (h : ∀ ε ds, r ε = .ok ds → ds.length = es.length) : ∀ ε ds, xCons m r ε = .ok ds → ds.length = (e :: es).length := fun ε ds hm => by
  obtain ⟨d, h1, h2⟩ := R.bind_ok hm
  obtain ⟨dr, h3, h4⟩ := R.bind_ok h2
  cases h4
  rw [List.length_cons, List.length_cons, h ε dr h3]
/-! ### what is one's own, read as data for a flat answer -/
def th : Nv → Nv := List.map fun | .mu d => .im d | s => s
theorem gt_th : ∀ (ε : Nv) (i : Nat), gt (th ε) i = match gt ε i with | .mu d => .im d | s => s
  | [], _ => rfl
  | _ :: _, 0 => rfl
  | _ :: r, i + 1 => gt_th r i
theorem Rel.th {σ : L2.St} {H : Hp} {ε : Nv} {M : List Addr} (r : Rel c σ H ε M) : Rel c σ H (th ε) c.M0 where
  ext := r.ext
  len := r.len.trans (List.length_map _).symm
  sub := fun _ h => h
  trk := fun a h => r.trk a (r.sub a h)
  old := r.old
  im := fun i d h => by
    rw [gt_th] at h
    cases e : gt ε i with
    | no => rw [e] at h; cases h
    | im f =>
      rw [e] at h
      cases h
      obtain ⟨v, h1, h2⟩ := r.im i _ e
      exact ⟨v, h1, At.mono (hid_sub r.sub) _ v h2⟩
    | mu f =>
      rw [e] at h
      cases h
      obtain ⟨a, o, h1, h2, h3, h4, h5⟩ := r.mu i _ e
      exact ⟨_, h1, Own.at (hid_of h4 fun z => r.old a z h3) (h5.mono (hid_sub r.sub))⟩
  mu := fun i d h => by
    rw [gt_th] at h
    cases e : gt ε i with
    | no => rw [e] at h; cases h
    | im f => rw [e] at h; cases h
    | mu f => rw [e] at h; cases h
  dis := fun i j d e a b _ h _ _ _ => by
    rw [gt_th] at h
    cases q : gt ε i with
    | no => rw [q] at h; cases h
    | im f => rw [q] at h; cases h
    | mu f => rw [q] at h; cases h
  new := fun a h => .inl h
  pin := fun j d hj h => by
    rw [gt_th] at h
    cases e : gt ε j with
    | no => rw [e] at h; cases h
    | im f =>
      rw [e] at h
      cases h
      exact r.pin j _ hj e
    | mu f =>
      have := (r.pnm j f e).1
      rw [hj] at this
      cases this
  frs := fun j p d hj h => by
    rw [gt_th] at h
    cases e : gt ε j with
    | no => rw [e] at h; cases h
    | im f =>
      rw [e] at h
      cases h
      obtain ⟨v, h1, h2⟩ := r.frs j p _ hj e
      exact ⟨v, h1, h2.mono (Evl.Ex.refl _) (hid_sub r.sub)⟩
    | mu f =>
      rw [e] at h
      cases h
      obtain ⟨a, o, h1, h2, h3, h4, h5⟩ := r.mu j _ e
      refine ⟨_, h1, ?_⟩
      rcases (r.pnm j _ e).2 with q | q
      · rw [hj] at q
        cases q
      · rw [hj] at q
        cases q
        have n : a ∉ c.M0 := fun z => r.old a z h3
        cases d with
        | list ds =>
          rcases h5 with ⟨vs, ds', e1, e2, h⟩ | ⟨kvs, es, e1, e2, h⟩ | ⟨kvs, es, e1, e2, h⟩ | ⟨S, m, xs, e1, e2, h⟩
          · cases e2
            subst e1
            exact ⟨a, vs, rfl, hid_of h4 n, AtL.mono (hid_sub r.sub) _ _ h, h3⟩
          · cases e2
          · cases e2
          · cases e2
        | _ => trivial
  pnm := fun j d h => by
    rw [gt_th] at h
    cases q : gt ε j with
    | no => rw [q] at h; cases h
    | im f => rw [q] at h; cases h
    | mu f => rw [q] at h; cases h
def xTh (m : Nv → R D) : Nv → R D := fun ε => (m (th ε)).bind fun d => if flat d then .ok d else .bad
def tTh (m : Nv → R Bool) : Nv → R Bool := fun ε => m (th ε)
theorem pe_th {m : Nv → R D} (h : PE X e (rdE c m)) : PE X e (rdE c (xTh m)) := h.wk fun σ H Q ⟨ε, M, re, d, hm, q⟩ => by
  obtain ⟨d', h1, h2⟩ := R.bind_ok hm
  by_cases hf : flat d' = true
  · rw [if_pos hf] at h2
    cases h2
    exact ⟨_, _, re.th, d, h1, fun v H' e' hv => q v H' e' (At.flat hf hv)⟩
  · rw [if_neg hf] at h2
    cases h2
theorem pt_th {m : Nv → R Bool} (h : PT X e (rdT c m)) : PT X e (rdT c (tTh m)) := h.wk fun σ H Q ⟨ε, M, re, d, hm, q⟩ => ⟨_, _, re.th, d, hm, q⟩
/-! ### tests -/
end
end Tw
set_option Elab.async false
set_option linter.all false
set_option maxRecDepth 100000
set_option maxHeartbeats 4000000
/-! Tw3: operators, builtins over data -/
namespace Tw
open PySem PySem.Spec PyProof.Rows L2
/-! ### data are read -/
section
variable {X : Cx} {pins : List (Addr × Obj)} {σ : L2.St} {H : Hp} {s : Shared}
mutual
theorem At.dp {K : PySem.W.Frag} : ∀ (d : D) (v : V), d.plain = true → At K H d v → Dp K H v d
  | .none, v, _, h => by
    have e : v = .non := h
    rw [e]
    exact .non
  | .bool b, v, _, h => by
    have e : v = .bl b := h
    rw [e]
    exact .bl b
  | .int i, v, _, h => by
    have e : v = .int i := h
    rw [e]
    exact .int i
  | .str x, v, _, h => by
    have e : v = .str x := h
    rw [e]
    exact .str x
  | .list ds, v, p, h => by
    obtain ⟨a, xs, h1, h2, h3⟩ := h
    rw [h1]
    exact .lst h2 (AtL.dp ds xs (by simpa only [PyData.plain] using p) h3)
  | .tuple ds, v, p, h => by
    obtain ⟨a, xs, h1, h2, h3⟩ := h
    rw [h1]
    exact .tup h2 (AtL.dp ds xs (by simpa only [PyData.plain] using p) h3)
  | .dict es, v, p, h => by simp [PyData.plain] at p
theorem AtL.dp {K : PySem.W.Frag} : ∀ (ds : List D) (vs : List V), PyData.plainAll ds = true → AtL K H ds vs → DpAll K H vs ds
  | [], vs, _, h => by
    have e : vs = [] := h
    rw [e]
    exact .nil
  | d :: ds, vs, p, h => by
    obtain ⟨v, r, h1, h2, h3⟩ := h
    rw [h1]
    have p' : (d.plain && PyData.plainAll ds) = true := by simpa only [PyData.plainAll] using p
    rw [Bool.and_eq_true] at p'
    exact .cons (At.dp d v p'.1 h2) (AtL.dp ds r p'.2 h3)
end
theorem At.reads (I : Inv X pins σ H s) {d : D} {v : V} {u : Value} {M : List Addr} (p : d.plain = true) (h : At X.K (hid M H) d v) (r : RelV v u) : ∃ as, Reads s.heap u d as :=
  Dp.reads I d v u (At.dp d v p (At.mono hid_le d v h)) r
theorem AtL.get {K : PySem.W.Frag} : ∀ {ds : List D} {vs : List V} {i : Nat} {d : D}, AtL K H ds vs → ds[i]? = some d → ∃ v, vs[i]? = some v ∧ At K H d v
  | [], _, _, _, _, h => by simp at h
  | d :: ds, vs, 0, e, ⟨v, r, h1, h2, h3⟩, h => by
    simp at h
    subst h
    rw [h1]
    exact ⟨v, rfl, h2⟩
  | d :: ds, vs, i + 1, e, ⟨v, r, h1, h2, h3⟩, h => by
    rw [h1]
    obtain ⟨w, q1, q2⟩ := AtL.get (i := i) h3 (by simpa using h)
    exact ⟨w, by simpa using q1, q2⟩
theorem AtL.get' {K : PySem.W.Frag} : ∀ {ds : List D} {vs : List V} {i : Nat} {v : V}, AtL K H ds vs → vs[i]? = some v → ∃ d, ds[i]? = some d ∧ At K H d v
  | [], vs, i, v, h, q => by
    have e : vs = [] := h
    rw [e] at q
    simp at q
  | d :: ds, vs, 0, e, ⟨v, r, h1, h2, h3⟩, h => by
    rw [h1] at h
    simp at h
    subst h
    exact ⟨d, rfl, h2⟩
  | d :: ds, vs, i + 1, e, ⟨v, r, h1, h2, h3⟩, h => by
    rw [h1] at h
    obtain ⟨w, q1, q2⟩ := AtL.get' (i := i) h3 (by simpa using h)
    exact ⟨w, by simpa using q1, q2⟩
theorem AtL.app {K : PySem.W.Frag} : ∀ {ds es : List D} {vs ws : List V}, AtL K H ds vs → AtL K H es ws → AtL K H (ds ++ es) (vs ++ ws)
  | [], es, vs, ws, h, g => by
    have e : vs = [] := h
    rw [e]
    exact g
  | d :: ds, es, vs, ws, ⟨v, r, h1, h2, h3⟩, g => by
    rw [h1]
    exact ⟨v, r ++ ws, rfl, h2, AtL.app h3 g⟩
theorem AtL.take {K : PySem.W.Frag} : ∀ (n : Nat) {ds : List D} {vs : List V}, AtL K H ds vs → AtL K H (ds.take n) (vs.take n)
  | 0, _, _, _ => rfl
  | n + 1, [], vs, h => by
    have e : vs = [] := h
    rw [e]
    rfl
  | n + 1, d :: ds, vs, ⟨v, r, h1, h2, h3⟩ => by
    rw [h1]
    exact ⟨v, r.take n, rfl, h2, AtL.take n h3⟩
theorem AtL.drop {K : PySem.W.Frag} : ∀ (n : Nat) {ds : List D} {vs : List V}, AtL K H ds vs → AtL K H (ds.drop n) (vs.drop n)
  | 0, _, _, h => h
  | n + 1, [], vs, h => by
    have e : vs = [] := h
    rw [e]
    rfl
  | n + 1, d :: ds, vs, ⟨v, r, h1, h2, h3⟩ => by
    rw [h1]
    exact AtL.drop n h3
theorem AtL.set {K : PySem.W.Frag} {d : D} {v : V} (h : At K H d v) : ∀ (n : Nat) {ds : List D} {vs : List V}, AtL K H ds vs → AtL K H (ds.set n d) (vs.set n v)
  | _, [], vs, h => by
    have e : vs = [] := h
    rw [e]
    rfl
  | 0, e :: ds, vs, ⟨w, r, h1, h2, h3⟩ => by
    rw [h1]
    exact ⟨v, r, rfl, h, h3⟩
  | n + 1, e :: ds, vs, ⟨w, r, h1, h2, h3⟩ => by
    rw [h1]
    exact ⟨w, r.set n v, rfl, h2, AtL.set h n h3⟩
theorem AtL.ints {K : PySem.W.Frag} : ∀ {ns : List Int} {vs : List V}, AtL K H (ns.map PyData.int) vs → vs = ns.map V.int
  | [], vs, h => h
  | n :: ns, vs, ⟨v, r, h1, h2, h3⟩ => by
    have e : v = .int n := h2
    rw [h1, e, AtL.ints h3]
    rfl
theorem AtL.bools {K : PySem.W.Frag} : ∀ {ns : List Bool} {vs : List V}, AtL K H (ns.map PyData.bool) vs → vs = ns.map V.bl
  | [], vs, h => h
  | n :: ns, vs, ⟨v, r, h1, h2, h3⟩ => by
    have e : v = .bl n := h2
    rw [h1, e, AtL.bools h3]
    rfl
theorem vals_each {K : PySem.W.Frag} {M : List Addr} : ∀ {ds : List D} {vs : List V} {us : List Value}, AtL K (hid M H) ds vs → Vals vs us → PySem.W.EachIs (fun u d => ∃ v, RelV v u ∧ At K (hid M H) d v) us ds
  | [], vs, us, h, r => by
    have e : vs = [] := h
    rw [e] at r
    cases r
    exact .nil
  | d :: ds, vs, us, ⟨v, r, h1, h2, h3⟩, rv => by
    rw [h1] at rv
    cases rv with
    | cons a b => exact .cons ⟨v, a, h2⟩ (vals_each h3 b)
theorem each_vals {K : PySem.W.Frag} {M : List Addr} : ∀ {ds : List D} {us : List Value}, PySem.W.EachIs (fun u d => ∃ v, RelV v u ∧ At K (hid M H) d v) us ds → ∃ vs, Vals vs us ∧ AtL K (hid M H) ds vs
  | _, _, .nil => ⟨[], .nil, rfl⟩
  | _, _, .cons ⟨v, r, h⟩ t => by
    obtain ⟨vs, h1, h2⟩ := each_vals t
    exact ⟨v :: vs, .cons r h1, v, vs, rfl, h, h2⟩
end
/-! ### what the programs do with data -/
def lim : Nat := 1000000
theorem lim_le {n : Nat} (h : n ≤ lim) : n ≤ sizeLine := Nat.le_trans h (by decide)
theorem lim_lt {n : Nat} (h : n ≤ lim) : n < sizeLine := Nat.lt_of_le_of_lt h (by decide)
def dAdd : D → D → R D
  | .int i, .int j => .ok (.int (i + j))
  | .list xs, .list ys => if xs.length + ys.length ≤ lim then .ok (.list (xs ++ ys)) else .bad
  | .tuple xs, .tuple ys => if xs.length + ys.length ≤ lim then .ok (.tuple (xs ++ ys)) else .bad
  | .str x, .str y => if x.length + y.length ≤ lim then .ok (.str (x ++ y)) else .bad
  | _, _ => .bad
def dSub : D → D → R D
  | .int i, .int j => .ok (.int (i - j))
  | _, _ => .bad
def dMul : D → D → R D
  | .int i, .int j => if i.natAbs.log2 + j.natAbs.log2 < 1000000 then .ok (.int (i * j)) else .bad
  | _, _ => .bad
def dRep : D → D → R D
  | .list xs, .int k => if k ≤ 1000000 ∧ -1000000 ≤ k ∧ xs.length * k.toNat ≤ lim then .ok (.list (List.replicate k.toNat xs).flatten) else .bad
  | _, _ => .bad
def dCat : D → D → R D
  | .list xs, .list ys => if xs.length + ys.length ≤ lim then .ok (.list (xs ++ ys)) else .bad
  | _, _ => .bad
def dDiv : D → D → R D
  | .int i, .int j => if 0 < j ∧ j.natAbs.log2 < 9000 then .ok (.int (i / j)) else .bad
  | _, _ => .bad
def dMod : D → D → R D
  | .int i, .int j => if 0 < j then .ok (.int (i % j)) else .bad
  | _, _ => .bad
def dPow : D → D → R D
  | .int i, .int j => if 0 ≤ j ∧ j ≤ 1000000 ∧ i.natAbs < 2 ^ 64 then .ok (.int (i ^ j.toNat)) else .bad
  | _, _ => .bad
def dNeg : D → R D
  | .int i => .ok (.int (-i))
  | _ => .bad
def okd (d : D) : Bool := d.plain && decide (d.depth ≤ 60)
def dEq (a b : D) : R D := if okd a && okd b then .ok (.bool (PyData.eqv a b)) else .bad
def dNe (a b : D) : R D := if okd a && okd b then .ok (.bool (!PyData.eqv a b)) else .bad
def ordd (a b : D) : Bool := okd a && okd b && PySem.W.alike a b && (match a with | .none => false | _ => true)
def dLt (a b : D) : R D := match a, b with
  | .int i, .int j => .ok (.bool (decide (i < j)))
  | a, b => if ordd a b then .ok (.bool (PySem.W.dataLt a b)) else .bad
def dLe (a b : D) : R D := match a, b with
  | .int i, .int j => .ok (.bool (decide (i ≤ j)))
  | a, b => if ordd a b then .ok (.bool (!PySem.W.dataLt b a)) else .bad
def dGt (a b : D) : R D := match a, b with
  | .int i, .int j => .ok (.bool (decide (j < i)))
  | a, b => if ordd a b then .ok (.bool (PySem.W.dataLt b a)) else .bad
def dGe (a b : D) : R D := match a, b with
  | .int i, .int j => .ok (.bool (decide (j ≤ i)))
  | a, b => if ordd a b then .ok (.bool (!PySem.W.dataLt a b)) else .bad
def isNone : D → Bool
  | .none => true
  | _ => false
def dIs (a b : D) : R D := if isNone b then .ok (.bool (isNone a)) else .bad
def dIsNot (a b : D) : R D := if isNone b then .ok (.bool (!isNone a)) else .bad
def dIn (a b : D) : R D := match b with
  | .list xs => if okd a && okd (.list xs) then .ok (.bool (xs.any fun y => PyData.eqv y a)) else .bad
  | .tuple xs => if okd a && okd (.tuple xs) then .ok (.bool (xs.any fun y => PyData.eqv y a)) else .bad
  | _ => .bad
def dNotIn (a b : D) : R D := match b with
  | .list xs => if okd a && okd (.list xs) then .ok (.bool (!xs.any fun y => PyData.eqv y a)) else .bad
  | .tuple xs => if okd a && okd (.tuple xs) then .ok (.bool (!xs.any fun y => PyData.eqv y a)) else .bad
  | _ => .bad
def dIx (a b : D) : R D := match a, b with
  | .list xs, .int i => match atI xs i with | some d => .ok d | none => .bad
  | .tuple xs, .int i => match atI xs i with | some d => .ok d | none => .bad
  | _, _ => .bad
def cLen : List D → R D
  | [.list xs] => .ok (.int xs.length)
  | [.tuple xs] => .ok (.int xs.length)
  | _ => .bad
def cAbs : List D → R D
  | [.int i] => .ok (.int (if i < 0 then -i else i))
  | _ => .bad
def cMax2 : List D → R D
  | [.int i, .int j] => .ok (.int (if j > i then j else i))
  | _ => .bad
def cMin2 : List D → R D
  | [.int i, .int j] => .ok (.int (if j < i then j else i))
  | _ => .bad
def cInt : List D → R D
  | [.int i] => .ok (.int i)
  | [.bool b] => .ok (.int (if b then 1 else 0))
  | _ => .bad
def intsOf : List D → Option (List Int)
  | [] => some []
  | .int i :: r => match intsOf r with | some l => some (i :: l) | none => none
  | _ :: _ => none
theorem intsOf_some : ∀ {ds : List D} {l : List Int}, intsOf ds = some l → ds = l.map PyData.int
  | [], l, h => by
    cases h
    rfl
  | .int i :: r, l, h => by
    unfold intsOf at h
    cases e : intsOf r with
    | none => rw [e] at h; cases h
    | some q =>
      rw [e] at h
      cases h
      rw [intsOf_some e]
      rfl
  | .none :: r, l, h => by cases h
  | .bool _ :: r, l, h => by cases h
  | .str _ :: r, l, h => by cases h
  | .list _ :: r, l, h => by cases h
  | .tuple _ :: r, l, h => by cases h
  | .dict _ :: r, l, h => by cases h
theorem intsOf_map : ∀ l : List Int, intsOf (l.map PyData.int) = some l
  | [] => rfl
  | i :: r => by
    show (match intsOf (r.map PyData.int) with | some l => some (i :: l) | none => none) = _
    rw [intsOf_map r]
def boolsOf : List D → Option (List Bool)
  | [] => some []
  | .bool i :: r => match boolsOf r with | some l => some (i :: l) | none => none
  | _ :: _ => none
theorem boolsOf_some : ∀ {ds : List D} {l : List Bool}, boolsOf ds = some l → ds = l.map PyData.bool
  | [], l, h => by
    cases h
    rfl
  | .bool i :: r, l, h => by
    unfold boolsOf at h
    cases e : boolsOf r with
    | none => rw [e] at h; cases h
    | some q =>
      rw [e] at h
      cases h
      rw [boolsOf_some e]
      rfl
  | .none :: r, l, h => by cases h
  | .int _ :: r, l, h => by cases h
  | .str _ :: r, l, h => by cases h
  | .list _ :: r, l, h => by cases h
  | .tuple _ :: r, l, h => by cases h
  | .dict _ :: r, l, h => by cases h
theorem boolsOf_map : ∀ l : List Bool, boolsOf (l.map PyData.bool) = some l
  | [] => rfl
  | i :: r => by
    show (match boolsOf (r.map PyData.bool) with | some l => some (i :: l) | none => none) = _
    rw [boolsOf_map r]
def cSum : List D → R D
  | [.list xs] => match intsOf xs with | some l => .ok (.int l.sum) | none => .bad
  | _ => .bad
def cAll : List D → R D
  | [.list xs] => match boolsOf xs with | some l => .ok (.bool (l.all id)) | none => .bad
  | _ => .bad
def cAny : List D → R D
  | [.list xs] => match boolsOf xs with | some l => .ok (.bool (l.any id)) | none => .bad
  | _ => .bad
def cMin : List D → R D
  | [.list (x :: xs)] => if okd (.list (x :: xs)) && PySem.W.alikeAll (x :: xs) (x :: xs) then (if (xs.all fun y => PySem.W.alike x y) then .ok (PySem.W.minD x xs) else .bad) else .bad
  | _ => .bad
def cRepr : List D → R D
  | [d] => if okd d && d.showable && decide (d.shown.length ≤ lim) then .ok (.str d.shown) else .bad
  | _ => .bad
end Tw
set_option Elab.async false
set_option linter.all false
set_option maxRecDepth 100000
set_option maxHeartbeats 4000000
/-! Tw4: defs whose callers' guards are known; the law's call -/
namespace Tw
open PySem PySem.Spec PyProof.Rows L2
/-- a def's promise where no guarded walk (a repr under way) is around -/
structure FnG (P : Program) (w : World) (K : PySem.W.Frag) (mg : Str → Option Value) (base : Heap) (k : Nat) (f : Addr) (fd : FuncData) (ps : List Str) (sp : Sp) : Prop where
  len : ∀ vs H Q E, sp vs H Q E → vs.length = ps.length
  run : ∀ (A : Around) (outer : List PySem.Env) (s : Shared) (H : Hp) (args : Args) (us : List Value) (vs : List V) (Q : VK) (E : XK), Room k A → A.guards = some [] → Env0 P w K mg base A outer s H → BindsTo s fd args (ps.zip us) → Vals vs us → sp vs H Q E →
    codeAny (model P w) A (.call (.ref f) args) (CR (L2.CX P w) outer P w H s Q E) s
theorem FnG.mono {P : Program} {w : World} {K : PySem.W.Frag} {mg : Str → Option Value} {base : Heap} {j k : Nat} {f : Addr} {fd : FuncData} {ps : List Str} {sp : Sp} (F : FnG P w K mg base j f fd ps sp) (h : j ≤ k) : FnG P w K mg base k f fd ps sp :=
  ⟨F.len, fun A outer s H args us vs Q E r => F.run A outer s H args us vs Q E (r.mono h)⟩
section
variable {P : Program} {w : World} {K : PySem.W.Frag} {mg : Str → Option Value} {base : Heap}
/-- from the body: cell names, parameters, the frame as the machine lays them -/
theorem fnG_of {x qual : Str} {st : Stmt} {f : Addr} {fd : FuncData} {N ps : List Str} {k : Nat} {sp : Sp} (F : Fun K x qual st f fd) (S : FnScope N ps (defScope st)) (len : ∀ vs H Q E, sp vs H Q E → vs.length = ps.length)
    (body : ∀ (cdv : Value) (A : Around) (outer : List PySem.Env) (s : Shared) (H : Hp) (vs : List V) (Q : VK) (E : XK), Room k (A.deeper (envOfC qual (defScope st) s.heap.objs.size f cdv)) → A.guards = some [] → sp vs H Q E →
      ∃ t, PSs (cxOf (L2.CX P w) P w K mg base N qual (defScope st) f cdv A outer s H E) (defBody st) t ∧ t { nx := fun _ H' => Q .non H', rt := Q } (start N vs) H) : FnG P w K mg base (k + 1) f fd ps sp := by
  obtain ⟨oc, od, kV, doc, pm, an, cdv, ct, osl, e, look, code⟩ := F.ex
  subst e
  constructor
  · exact len
  intro A outer s H args us vs Q E room guards start0 bound vals want
  have inK : K.In s.heap := start0.mod.kin.keeps fun b o q => (start0.bs b o q).1
  have noLim : s.heap.NoLimit := start0.mod.nolimit.keeps fun b o q => (start0.bs b o q).1
  have kinds : ∀ y ∈ ps.zip us, (defScope st).names.lookup y.1 = some .local ∨ ((defScope st).names.lookup y.1 = some .cell ∧ ((cellsFrom (s.heap.objs.size + 1) (defScope st).names []).lookup y.1).isSome = true) := by
    intro y hy
    cases S.par y.1 (List.of_mem_zip (show (y.1, y.2) ∈ ps.zip us from hy)).1 with
    | inl q => exact Or.inl q
    | inr q => exact Or.inr ⟨q, PySem.W.cellsFrom_some _ _ _ (Or.inl q)⟩
  apply codeAny_call_function room.depth (inK _ _ look) rfl S.co S.gen rfl (PySem.W.codeRec_of inK code)
  apply bound
  apply wpAny_newFunctionEnv_cells S.kind kinds
  intro env henv s1 made
  subst henv
  constructor
  · exact noLim.keeps made.toInCall.keep
  apply codeAny_func
  obtain ⟨t, reads, holds⟩ := body cdv A outer s H vs Q E (room.deeper _) guards want
  have J : Inv (cxOf (L2.CX P w) P w K mg base N qual (defScope st) f cdv A outer s H E) [] (start N vs) H s1 := inv_start S room.hd start0 (len vs H Q E want) vals made
  apply wpAny_mono (reads.run [] s1 (start N vs) H _ J holds)
  · intro flow s' done
    match flow, done with
    | .ret u, ⟨v, σ', H', J', rel, q⟩ => exact ⟨v, H', J'.os, J'.bare, J'.base, J'.hok, rel, q⟩
    | .next, ⟨σ', H', J', q⟩ => exact ⟨V.non, H', J'.os, J'.bare, J'.base, J'.hok, rfl, q⟩
    | .brk, ⟨_, _, _, q⟩ => exact q.elim
    | .cont, ⟨_, _, _, q⟩ => exact q.elim
  · intro e s' q
    exact q
end
section
variable {X : Cx} {c : Cf} {ms : Nv → R (List D)} {pos p : Pos} {x : Str} {e : Expr} {es : List Expr}
theorem runG {k : Nat} {f : Addr} {fd : FuncData} {ps : List Str} {sp : Sp} {E : XK} (F : FnG X.prog X.w X.K X.mg X.base k f fd ps sp) (hr : Room k X.A) (hG : X.A.guards = some []) (hb : Binds X.K fd ps []) (hx : Passes (L2.CX X.prog X.w) X E)
    {pins : List (Addr × Obj)} {σ : L2.St} {H : Hp} {s : Shared} {Q : VK} {us : List Value} {vs : List V} (I : Inv X pins σ H s) (r : Vals vs us) (h : sp vs H Q E) : wpAny (model X.prog X.w) X.A (call (.ref f) us) (EP X pins σ Q) X.xe s := by
  have n : (us ++ []).length = ps.length := by
    rw [List.append_nil, ← r.length]
    exact F.len vs H Q E h
  have b := hb s us I.kIn n
  rw [List.append_nil] at b
  apply wpAny_call
  apply codeAny_mono (F.run X.A X.stack s H ⟨us, []⟩ us vs Q E hr hG I.env0 b r h)
  intro res s' q
  match res, q with
  | .error err, q => exact hx pins σ H s err s' I q
  | .ok (.ret u), q => exact I.after q
  | .ok .next, q => exact q.elim
  | .ok .brk, q => exact q.elim
  | .ok .cont, q => exact q.elim
theorem pe_callG {k : Nat} {f : Addr} {fd : FuncData} {ps : List Str} {sp : Sp} {E : XK} {t : TA} (F : FnG X.prog X.w X.K X.mg X.base k f fd ps sp) (hr : Room k X.A) (hG : X.A.guards = some []) (hm : X.mg x = some (.ref f)) (hk : PySem.W.keepIn X.K (.ref f) = true) (hb : Binds X.K fd ps [])
    (hx : Passes (L2.CX X.prog X.w) X E) (ha : PA X (e :: es) t) (hg : Gl X x) (hdb : (x == ("__debug__" : Str)) = false) (he : starEach (e :: es) X.env = (false, eval e X.env) :: starEach es X.env) (hpl : (backTo pos (starEach es X.env)).any (·.1) = false) :
    PE X (.Call (.Name x p) (e :: es) [] pos) (fun σ H Q => t σ H fun vs H1 => sp vs H1 Q E) := by
  constructor
  intro pins s σ H Q I h
  apply wpAny_Call_Name_kw
  apply ld_glob I hg hm _ hdb
  apply PySem.W.callWith_K (h₀ := X.base) I.ok.mod.kin hk _ he hpl
  apply thn (ha.run pos pins s σ H _ I h)
  intro us s1 ⟨vs, H1, I1, r, q⟩
  exact ⟨I1.kIn, runG F hr hG hb hx I1 r q⟩
theorem pe_callG0 {k : Nat} {f : Addr} {fd : FuncData} {ps : List Str} {sp : Sp} {E : XK} (F : FnG X.prog X.w X.K X.mg X.base k f fd ps sp) (hr : Room k X.A) (hG : X.A.guards = some []) (hm : X.mg x = some (.ref f)) (hk : PySem.W.keepIn X.K (.ref f) = true) (hb : Binds X.K fd ps [])
    (hx : Passes (L2.CX X.prog X.w) X E) (hg : Gl X x) (hdb : (x == ("__debug__" : Str)) = false) : PE X (.Call (.Name x p) [] [] pos) (fun σ H Q => sp [] H Q E) := by
  constructor
  intro pins s σ H Q I h
  apply wpAny_Call_Name_kw
  apply ld_glob I hg hm _ hdb
  exact PySem.W.callWith_K0 I.kIn hk (runG (us := []) F hr hG hb hx I .nil h)
theorem pf {cl : Nat → Option Addr} {k : Nat} {f : Addr} {fd : FuncData} {ps : List Str} {g : List D → R D} (F : FnG X.prog X.w X.K X.mg X.base k f fd ps (spF X.K cl g)) (hr : Room k X.A) (hG : X.A.guards = some []) (hm : X.mg x = some (.ref f)) (hk : PySem.W.keepIn X.K (.ref f) = true) (hb : Binds X.K fd ps [])
    (ha : PA X (e :: es) (rdA c ms)) (hg : Gl X x := by rfl) (hdb : (x == ("__debug__" : Str)) = false := by decide) (he : starEach (e :: es) X.env = (false, eval e X.env) :: starEach es X.env := by rfl) (hpl : (backTo pos (starEach es X.env)).any (·.1) = false := by rfl) (hK : c.K = X.K := by rfl) :
    PE X (.Call (.Name x p) (e :: es) [] pos) (rdE c (xCall g ms)) := (pe_callG (E := E0') F hr hG hm hk hb pass0' ha hg hdb he hpl).wk fun σ H Q ⟨ε, M, re, d, hm, q⟩ => by
  obtain ⟨ds, h1, h2⟩ := R.bind_ok hm
  exact ⟨ε, M, re, ds, h1, fun vs H1 e1 hv => spF.ok (Trk.ex re.trk e1) (hK ▸ hv) h2 fun w H3 e3 hw => q w H3 (e1.trans e3) (hK ▸ hw)⟩
theorem pfL {cl : Nat → Option Addr} {k : Nat} {f : Addr} {fd : FuncData} {ps : List Str} {g : List D → R D} (F : FnG X.prog X.w X.K X.mg X.base k f fd ps (spN X.K cl g)) (hr : Room k X.A) (hG : X.A.guards = some []) (hm : X.mg x = some (.ref f)) (hk : PySem.W.keepIn X.K (.ref f) = true) (hb : Binds X.K fd ps [])
    (ha : PA X (e :: es) (rdA c ms)) (hg : Gl X x := by rfl) (hdb : (x == ("__debug__" : Str)) = false := by decide) (he : starEach (e :: es) X.env = (false, eval e X.env) :: starEach es X.env := by rfl) (hpl : (backTo pos (starEach es X.env)).any (·.1) = false := by rfl) (hK : c.K = X.K := by rfl) :
    PE X (.Call (.Name x p) (e :: es) [] pos) (rdL c (xCall g ms)) := (pe_callG (E := E0') F hr hG hm hk hb pass0' ha hg hdb he hpl).wk fun σ H Q ⟨ε, M, re, d, hm, q⟩ => by
  obtain ⟨ds, h1, h2⟩ := R.bind_ok hm
  exact ⟨ε, M, re, ds, h1, fun vs H1 e1 hv => spN.ok (Trk.ex re.trk e1) (hK ▸ hv) h2 fun p o H3 n e3 hp ho => q p o H3 (Evl.fresh_back e1 n) (e1.trans e3) hp (hK ▸ ho)⟩
end
/-! ### the law's own call -/
theorem law_callG {P : Program} {w : World} {K : PySem.W.Frag} {mg mb : Str → Option Value} {k : Nat} {fa a : Addr} {fd : FuncData} {x : Str} {sp : Sp} {s₁ : Shared} {vs : List Value} {ns : List Int}
    (KX : K.In s₁.heap) (hns : s₁.heap.Ns mainGlobals mg) (hb : s₁.heap.Ns builtinsNs mb) (hbb : ∀ x : Str, x ≠ "__name__" → mb x = bootBuiltins x) (hlim : s₁.heap.NoLimit) (hg : s₁.gens = #[])
    (ha : s₁.heap.get? a = some { cls := .type "list", data := .seq vs.toArray }) (hi : IntsAre vs ns) (hl : ns.length ≤ sizeLine) (hr : Room k callerA)
    (F : ∀ base : Heap, K.In base → base.Ns mainGlobals mg → FnG P w K mg base k fa fd [x] sp) (hbind : ∀ (s : Shared) (u : Value), BindsTo s fd ⟨[u], []⟩ [(x, u)])
    (hsp : ∀ H : Hp, Only H → SqL K H a (ns.map V.int) → sp [.ref a] H (fun v _ => v = .bl true) fun _ _ _ => False) :
    codeAny (model P w) callerA (.call (.ref fa) ⟨[.ref a], []⟩) (fun r s' => r = .ok (.ret (.bool true)) ∧ OldK s₁.heap s'.heap ∧ s'.os = s₁.os ∧ AllBare s'.gens) s₁ := by
  have go : ∀ H : Hp, Only H → SqL K H a (ns.map V.int) → HOk P w H s₁.heap → (∀ b, H b ≠ none → b = a) → (H a ≠ none → K.lookup a = none) →
      codeAny (model P w) callerA (.call (.ref fa) ⟨[.ref a], []⟩) (fun r s' => r = .ok (.ret (.bool true)) ∧ OldK s₁.heap s'.heap ∧ s'.os = s₁.os ∧ AllBare s'.gens) s₁ := by
    intro H only list held just notK
    have free : ∀ b, b ≠ a → H b = none := by
      intro b nb
      cases q : H b with
      | none => rfl
      | some u => exact absurd (just b (by rw [q]; intro z; cases z)) nb
    have freeK : ∀ b o, K.lookup b = some o → H b = none := by
      intro b o hb
      by_cases e : b = a
      · cases q : H b with
        | none => rfl
        | some u =>
          have := notK (by rw [← e, q]; intro z; cases z)
          rw [← e, hb] at this
          cases this
      · exact free b e
    have kinB : K.In (hidT s₁.heap H) := fun b o hb => hidT_get (KX b o hb) (freeK b o hb)
    have names : ∀ (b : Addr) (m : Str → Option Value), s₁.heap.Ns b m → (hidT s₁.heap H).Ns b m := by
      intro b m ⟨o, es, ep, h1, h2, h3⟩
      have nb : b ≠ a := by
        intro e
        rw [e, ha] at h1
        cases h1
        cases h2
      exact ⟨o, es, ep, hidT_get h1 (free b nb), h2, h3⟩
    have modB : Mod K mg (hidT s₁.heap H) := by
      refine ⟨kinB, names _ _ hns, ⟨mb, names _ _ hb, hbb⟩, ?_⟩
      obtain ⟨mc, l1, l2⟩ := hlim
      exact ⟨mc, names _ _ l1, l2⟩
    have env : Env0 P w K mg (hidT s₁.heap H) callerA [] s₁ H := by
      refine ⟨rfl, modB, fun b o q => of_hidT q, Nat.le_of_eq (hidT_size _ _), trivial, ?_, held, .of_eq hg⟩
      intro b z
      cases z
    refine codeAny_mono ((F _ kinB (names _ _ hns)).run callerA [] s₁ H ⟨[.ref a], []⟩ [.ref a] [.ref a] _ _ hr rfl env (hbind s₁ (.ref a)) (.cons rfl .nil) (hsp H only list)) ?_
    intro res s' q
    match res, q with
    | .error e, ⟨_, _, _, _, _, _, _, _, _, _, _, _, z⟩ => exact z.elim
    | .ok .next, z => exact z.elim
    | .ok .brk, z => exact z.elim
    | .ok .cont, z => exact z.elim
    | .ok (.ret u), ⟨v, H', os, bare, un, held', rel, e⟩ =>
      subst e
      have eu : u = Value.bool true := rel
      subst eu
      refine ⟨rfl, OldK.of_keep ?_, os, bare⟩
      intro b o hb
      cases q : H b with
      | none =>
        exact un.keep b o hb q (fun z => by cases z) (fun z => by cases z)
      | some u =>
        rcases only b with n | ⟨ob, xs, f⟩
        · rw [q] at n
          cases n
        · have one := (held b _ f).1
          have two := (held' b _ (un.frzs b ob _ f)).1
          rw [hb] at one
          cases one
          exact two
  cases look : K.lookup a with
  | none =>
    refine go (fun b => if b = a then some (.frz { cls := .type "list", data := .seq vs.toArray } (.lst (ns.map V.int))) else none) ?_ (Or.inl (Or.inr ⟨_, if_pos rfl⟩)) ?_ ?_ (fun _ => look)
    · intro b
      by_cases e : b = a
      · exact Or.inr ⟨_, _, if_pos e⟩
      · exact Or.inl (if_neg e)
    · intro b u q
      by_cases e : b = a
      · have q' := (if_pos e).symm.trans q
        cases q'
        subst e
        exact ⟨ha, by rw [List.length_map]; exact hl, vs, _, vals_ints hi, ha⟩
      · have q' := (if_neg e).symm.trans q
        cases q'
    · intro b z
      by_cases e : b = a
      · exact e
      · exact absurd (if_neg e) z
  | some o =>
    have same := KX a o look
    rw [ha] at same
    cases same
    refine go (fun _ => none) (fun _ => Or.inl rfl) (Or.inr ⟨_, vs.toArray, _, look, rfl, rfl, rfl, ?_, ?_⟩) (fun b u q => by cases q) (fun b z => absurd rfl z) (fun z => absurd rfl z)
    · rw [List.size_toArray, hi.length]
      exact hl
    · simpa using vals_ints hi
/-- the goal that the head leaves, from the law's promise -/
theorem walkG {l : PySem.W.OpenLaw} {n k : Nat} {q : Program} {loose : List Str} {XP : (Str → Option Value) → Heap → Prop} {YP : World → Heap → Prop} {d : DefRec} {K : Params → PySem.W.Frag} {sp : World → Sp} {x : Str}
    (hn : l.most = some n) (hn2 : n ≤ sizeLine) (hdf : d.params.defaults = []) (hr : Room k callerA) (hY : ∀ (w : World) (h : Heap), YP w h → (K w.params).In h)
    (F : ∀ (w : World) (mg : Str → Option Value) (fa : Addr) (h : Heap), (K w.params).In h → h.Ns mainGlobals mg → mg d.name = some (.ref fa) →
      ∃ fd : FuncData, (∀ (s : Shared) (u : Value), BindsTo s fd ⟨[u], []⟩ [(x, u)]) ∧ ∀ base : Heap, (K w.params).In base → base.Ns mainGlobals mg → FnG l.prog w (K w.params) mg base k fa fd [x] (sp w))
    (hsp : ∀ (w : World) (H : Hp) (a : Addr) (ns : List Int), ns.length ≤ n → Only H → SqL (K w.params) H a (ns.map V.int) → sp w [.ref a] H (fun v _ => v = .bl true) fun _ _ _ => False) :
    PySem.W.WalkO q loose XP YP l.row.toRowW d [] (fun f vs => PySem.call f vs) := by
  apply Att.attach_call hn hdf
  intro w s₀ s₁ mg mb fa o pm cd doc a vs ns G Y ho hd hcd hmg hobj hints hlen hg
  obtain ⟨fd, bind, fn⟩ := F w mg fa _ (hY w _ Y) G.T.g hmg
  exact law_callG (hY w _ Y) G.T.g G.T.b G.T.builtins G.T.nolimit hg hobj hints (Nat.le_trans hlen hn2) hr fn bind fun H hO hS => hsp w H a ns hlen hO hS
end Tw
set_option Elab.async false
set_option linter.all false
set_option maxRecDepth 100000
set_option maxHeartbeats 4000000
/-! Tw5: the operators keep what they say of data -/
namespace Tw
open PySem PySem.Spec PyProof.Rows L2
section
variable {X : Cx}
theorem okd_iff {d : D} (h : okd d = true) : d.plain = true ∧ d.depth ≤ 60 := by
  unfold okd at h
  rw [Bool.and_eq_true] at h
  exact ⟨h.1, of_decide_eq_true h.2⟩
/-- two ints in, an int out, under a guard -/
theorem o_int {f : Value → Value → Sem Value} {C : Int → Int → Prop} {g : Int → Int → V} {F : D → D → R D} (ho : OpR X f (rI C g))
    (hF : ∀ a b d, F a b = .ok d → ∃ i j, a = .int i ∧ b = .int j ∧ C i j ∧ ∀ K H, At K H d (g i j)) : OpR X f (r2D X.K F) := by
  intro pins s σ H x y v u Q I rx ry ⟨M, a, b, d, t, ha, hb, hf, q⟩
  obtain ⟨i, j, rfl, rfl, hc, hd⟩ := hF a b d hf
  have ex : x = .int i := ha
  have ey : y = .int j := hb
  exact ho pins s σ H x y v u Q I rx ry ⟨i, j, ex, ey, hc, q _ H (Evl.Ex.refl H) (hd _ _)⟩
theorem o_int0 {f : Value → Value → Sem Value} {g : Int → Int → V} {F : D → D → R D} (ho : OpR X f (rI0 g))
    (hF : ∀ a b d, F a b = .ok d → ∃ i j, a = .int i ∧ b = .int j ∧ ∀ K H, At K H d (g i j)) : OpR X f (r2D X.K F) := by
  intro pins s σ H x y v u Q I rx ry ⟨M, a, b, d, t, ha, hb, hf, q⟩
  obtain ⟨i, j, rfl, rfl, hd⟩ := hF a b d hf
  have ex : x = .int i := ha
  have ey : y = .int j := hb
  exact ho pins s σ H x y v u Q I rx ry ⟨i, j, ex, ey, q _ H (Evl.Ex.refl H) (hd _ _)⟩
theorem o_sub : OpR X (binaryOp .Sub) (r2D X.K dSub) := o_int0 op_sub fun a b d h => by
  unfold dSub at h
  split at h
  · cases h
    exact ⟨_, _, rfl, rfl, fun _ _ => rfl⟩
  · cases h
theorem o_div : OpR X (binaryOp .FloorDiv) (r2D X.K dDiv) := o_int op_fdivW fun a b d h => by
  unfold dDiv at h
  split at h
  · split at h
    · rename_i i j q
      cases h
      exact ⟨_, _, rfl, rfl, q, fun _ _ => rfl⟩
    · cases h
  · cases h
theorem o_mod : OpR X (binaryOp .Mod) (r2D X.K dMod) := o_int op_modN fun a b d h => by
  unfold dMod at h
  split at h
  · split at h
    · rename_i i j q
      cases h
      refine ⟨_, _, rfl, rfl, by omega, fun _ _ => ?_⟩
      show V.int (i.fmod j) = V.int (i % j)
      rw [Int.fmod_eq_emod_of_nonneg _ (by omega)]
    · cases h
  · cases h
theorem o_pow : OpR X (binaryOp .Pow) (r2D X.K dPow) := o_int op_pow fun a b d h => by
  unfold dPow at h
  split at h
  · split at h
    · rename_i i j q
      cases h
      exact ⟨_, _, rfl, rfl, q, fun _ _ => rfl⟩
    · cases h
  · cases h
theorem o_neg : UnR X (unaryOp .USub) (r1D X.K dNeg) := by
  intro pins s σ H x v Q I rx ⟨M, a, d, t, ha, hf, q⟩
  unfold dNeg at hf
  split at hf
  · rename_i i
    cases hf
    have ex : x = .int i := ha
    exact un_neg pins s σ H x v Q I rx ⟨i, ex, q _ H (Evl.Ex.refl H) rfl⟩
  · cases hf
/-- an item is added behind: a new list -/
theorem laidL {pins : List (Addr × Obj)} {σ : L2.St} {H : Hp} {s : Shared} {M : List Addr} {ds : List D} {vs : List V} {us : List Value} {Q : VK} (I : Inv X pins σ H s) (t : Trk M H) (r : Vals vs us) (h : AtL X.K (hid M H) ds vs) (hz : vs.length ≤ sizeLine)
    (q : ∀ p o H', H p = none → Ex H H' → H' p = some o → Own X.K (hid (p :: M) H') o (.list ds) → Q (.ref p) H') :
    EP X pins σ Q (.ref s.heap.objs.size) { s with heap := s.heap.push { cls := .type "list", data := .seq us.toArray } } := by
  have n : H s.heap.objs.size = none := I.hok.fresh (Nat.le_refl _)
  exact ⟨.ref _, _, I.lnew (t' := s.toks) r hz, rfl, q _ _ _ n (Evl.Ex.new n) upd_same (.inl ⟨vs, ds, rfl, rfl, AtL.mono (hid_new (Evl.Ex.new n) n) ds vs h⟩)⟩
theorem plainL_eq {h : Heap} {a : Addr} {its : Array Value} (p : PlainL h a its) : ∃ n sl, h.get? a = some { cls := .type "list", dict := none, data := .seq its n, slots := sl } := by
  obtain ⟨⟨cls, dict, data, slots⟩, n, e, h1, h2, h3⟩ := p
  simp only at h1 h2 h3
  subst h1 h2 h3
  exact ⟨n, slots, e⟩
theorem o_mul : OpR X (binaryOp .Mult) (r2D X.K dMul) := o_int op_mulW fun a b d h => by
  unfold dMul at h
  split at h
  · split at h
    · rename_i i j q
      cases h
      exact ⟨_, _, rfl, rfl, q, fun _ _ => rfl⟩
    · cases h
  · cases h
theorem o_cat : OpR X (binaryOp .Add) (r2L X.K dCat) := by
  intro pins s σ H x y v u Q I rx ry ⟨M, a, b, d, t, ha, hb, hf, q⟩
  unfold dCat at hf
  split at hf
  · rename_i ds es
    split at hf
    · rename_i hz
      cases hf
      obtain ⟨l, xs, e1, h1, h2⟩ := ha
      obtain ⟨m, ys, e2, h3, h4⟩ := hb
      subst e1 e2
      cases rx
      cases ry
      have n1 := atL_len h2
      have n2 := atL_len h4
      obtain ⟨its, r1, p1, _⟩ := I.list (Or.elim h1 (fun z => Or.inl (ex_rd hid_le z)) Or.inr)
      obtain ⟨its2, r2, p2, _⟩ := I.list (Or.elim h3 (fun z => Or.inl (ex_rd hid_le z)) Or.inr)
      obtain ⟨k1, sl1, g1⟩ := plainL_eq p1
      obtain ⟨k2, sl2, g2⟩ := plainL_eq p2
      have l1 := r1.length
      have l2 := r2.length
      have hs : its.toArray.size + its2.toArray.size ≤ sizeLine := by
        rw [List.size_toArray, List.size_toArray]
        exact lim_le (by omega)
      refine concat_meets ⟨_, g1, rfl⟩ ⟨_, g2, rfl⟩ noFill_list_add seq_list_add PySem.F.slot_list_add PySem.F.entry_list_add (PySem.F.args_list_add_2 _ _) (PyProof.Rows.list_addW l m its.toArray its2.toArray k1 k2 none none sl1 sl2 hs) ⟨g1, g2, ?_⟩
      have ea : its.toArray ++ its2.toArray = (its ++ its2).toArray := by simp
      rw [ea]
      refine laidL I t (r1.append r2) (AtL.app h2 h4) ?_ q
      rw [List.length_append]
      exact lim_le (by omega)
    · cases hf
  · cases hf
theorem o_addT {pins : List (Addr × Obj)} {σ : L2.St} {H : Hp} {s : Shared} {M : List Addr} {x y : V} {v u : Value} {Q : VK} {ds es : List D} (I : Inv X pins σ H s) (rx : RelV x v) (ry : RelV y u) (t : Trk M H) (ha : At X.K (hid M H) (.tuple ds) x) (hb : At X.K (hid M H) (.tuple es) y) (hz : ds.length + es.length ≤ lim)
    (q : ∀ v H', Ex H H' → At X.K (hid M H') (.tuple (ds ++ es)) v → Q v H') : wpAny (model X.prog X.w) X.A (binaryOp .Add v u) (EP X pins σ Q) X.xe s := by
  obtain ⟨l, xs, e1, h1, h2⟩ := ha
  obtain ⟨m, ys, e2, h3, h4⟩ := hb
  subst e1 e2
  cases rx
  cases ry
  have n1 := atL_len h2
  have n2 := atL_len h4
  obtain ⟨its, r1, p1, _⟩ := I.tuple (Or.elim h1 (fun z => Or.inl (ex_rd hid_le z)) Or.inr)
  obtain ⟨its2, r2, p2, _⟩ := I.tuple (Or.elim h3 (fun z => Or.inl (ex_rd hid_le z)) Or.inr)
  obtain ⟨⟨cls, dd, data, sl⟩, ho, hc, k1, hd⟩ := id p1
  obtain ⟨⟨cls2, dd2, data2, sl2⟩, ho2, hc2, k2, hd2⟩ := id p2
  simp only at hc hd hc2 hd2
  subst hc hd hc2 hd2
  have l1 := r1.length
  have l2 := r2.length
  by_cases hv : its = []
  · have hx : ds = [] := List.eq_nil_of_length_eq_zero (by rw [← n1, l1, hv]; rfl)
    refine concat_meets ⟨_, ho, rfl⟩ ⟨_, ho2, rfl⟩ noFill_tuple_add seq_tuple_add PySem.F.slot_tuple_add PySem.F.entry_tuple_add (PySem.F.args_tuple_add_2 _ _) (PyProof.Rows.tuple_addW0 l m _ _ _ _ _ _ _ _ (by simp [hv])) ⟨ho, ho2, ?_⟩
    exact ⟨.ref m, H, I.tok _, rfl, q _ H (Evl.Ex.refl H) (by rw [hx]; exact ⟨m, ys, rfl, h3, h4⟩)⟩
  · by_cases hw : its2 = []
    · have hy : es = [] := List.eq_nil_of_length_eq_zero (by rw [← n2, l2, hw]; rfl)
      refine concat_meets ⟨_, ho, rfl⟩ ⟨_, ho2, rfl⟩ noFill_tuple_add seq_tuple_add PySem.F.slot_tuple_add PySem.F.entry_tuple_add (PySem.F.args_tuple_add_2 _ _) (PyProof.Rows.tuple_addW1 l m _ _ _ _ _ _ _ _ (by simpa using hv) (by simp [hw])) ⟨ho, ho2, ?_⟩
      exact ⟨.ref l, H, I.tok _, rfl, q _ H (Evl.Ex.refl H) (by rw [hy, List.append_nil]; exact ⟨l, xs, rfl, h1, h2⟩)⟩
    · have hs : its.toArray.size + its2.toArray.size ≤ sizeLine := by
        rw [List.size_toArray, List.size_toArray]
        exact lim_le (by omega)
      refine concat_meets ⟨_, ho, rfl⟩ ⟨_, ho2, rfl⟩ noFill_tuple_add seq_tuple_add PySem.F.slot_tuple_add PySem.F.entry_tuple_add (PySem.F.args_tuple_add_2 _ _) (PyProof.Rows.tuple_addW2 l m _ _ _ _ _ _ _ _ (by simpa using hv) (by simpa using hw) hs) ⟨ho, ho2, ?_⟩
      have ea : its.toArray ++ its2.toArray = (its ++ its2).toArray := by simp
      rw [ea]
      have n : H s.heap.objs.size = none := I.hok.fresh (Nat.le_refl _)
      have hl : (xs ++ ys).length ≤ sizeLine := by
        rw [List.length_append]
        exact lim_le (by omega)
      refine ⟨.ref s.heap.objs.size, _, I.laid (t' := s.toks) (o := .tup (xs ++ ys)) (fun b ob z => Heap.get?_push_of_some _ z) (Nat.le_refl _) ⟨hl, _, r1.append r2, IsTup.new _ _⟩, rfl, q _ _ (Evl.Ex.new n) ?_⟩
      exact ⟨_, _, rfl, SqT.of (hid_of upd_same (t.no n)), AtL.mono (hid_ex (Evl.Ex.new n)) _ _ (AtL.app h2 h4)⟩
theorem o_add : OpR X (binaryOp .Add) (r2D X.K dAdd) := by
  intro pins s σ H x y v u Q I rx ry ⟨M, a, b, d, t, ha, hb, hf, q⟩
  unfold dAdd at hf
  split at hf
  · rename_i i j
    cases hf
    exact op_add pins s σ H x y v u Q I rx ry ⟨i, j, ha, hb, q _ H (Evl.Ex.refl H) rfl⟩
  · rename_i xs ys
    split at hf
    · rename_i hz
      exact o_cat pins s σ H x y v u Q I rx ry (r2L.D ⟨M, _, _, d, t, ha, hb, by show (if xs.length + ys.length ≤ lim then R.ok (PyData.list (xs ++ ys)) else R.bad) = _; rw [if_pos hz]; exact hf, q⟩)
    · cases hf
  · rename_i xs ys
    split at hf
    · rename_i hz
      cases hf
      exact o_addT I rx ry t ha hb hz q
    · cases hf
  · rename_i z w
    split at hf
    · rename_i hz
      cases hf
      exact op_add_str pins s σ H x y v u Q I rx ry ⟨z, w, ha, hb, lim_le hz, q _ H (Evl.Ex.refl H) rfl⟩
    · cases hf
  · cases hf
/-! ### comparisons -/
theorem units_of {A : Around} {k : Nat} (hr : Room k A) : A.units + 200 < cLine := by
  have := hr.un
  omega
theorem o_eq (hu : X.A.units + 200 < cLine) : OpR X (compareOp .Eq) (r2D X.K dEq) := by
  intro pins s σ H x y v u Q I rx ry ⟨M, a, b, d, t, ha, hb, hf, q⟩
  unfold dEq at hf
  split at hf
  · rename_i g
    rw [Bool.and_eq_true] at g
    cases hf
    have ga := okd_iff g.1
    have gb := okd_iff g.2
    obtain ⟨as, r1⟩ := At.reads I ga.1 ha rx
    obtain ⟨bs, r2⟩ := At.reads I gb.1 hb ry
    exact SeqAt.eq_plain r1 r2 ga.1 gb.1 (by omega) ⟨.bl _, H, I, rfl, q _ H (Evl.Ex.refl H) rfl⟩
  · cases hf
theorem o_ne (hu : X.A.units + 200 < cLine) : OpR X (compareOp .NotEq) (r2D X.K dNe) := by
  intro pins s σ H x y v u Q I rx ry ⟨M, a, b, d, t, ha, hb, hf, q⟩
  unfold dNe at hf
  split at hf
  · rename_i g
    rw [Bool.and_eq_true] at g
    cases hf
    have ga := okd_iff g.1
    have gb := okd_iff g.2
    obtain ⟨as, r1⟩ := At.reads I ga.1 ha rx
    obtain ⟨bs, r2⟩ := At.reads I gb.1 hb ry
    exact SeqAt.ne_plain r1 r2 ga.1 gb.1 (by omega) ⟨.bl _, H, I, rfl, q _ H (Evl.Ex.refl H) rfl⟩
  · cases hf
theorem ordd_iff {a b : D} (h : ordd a b = true) : a.plain = true ∧ a.depth ≤ 60 ∧ b.plain = true ∧ b.depth ≤ 60 ∧ PySem.W.alike a b = true ∧ a ≠ .none := by
  unfold ordd at h
  rw [Bool.and_eq_true, Bool.and_eq_true, Bool.and_eq_true] at h
  obtain ⟨⟨⟨h1, h2⟩, h3⟩, h4⟩ := h
  exact ⟨(okd_iff h1).1, (okd_iff h1).2, (okd_iff h2).1, (okd_iff h2).2, h3, fun z => by rw [z] at h4; cases h4⟩
theorem o_lt (hu : X.A.units + 200 < cLine) : OpR X (compareOp .Lt) (r2D X.K dLt) := by
  intro pins s σ H x y v u Q I rx ry ⟨M, a, b, d, t, ha, hb, hf, q⟩
  unfold dLt at hf
  split at hf
  · rename_i i j
    cases hf
    exact op_lt pins s σ H x y v u Q I rx ry ⟨i, j, ha, hb, q _ H (Evl.Ex.refl H) rfl⟩
  · split at hf
    · rename_i g
      cases hf
      obtain ⟨p1, d1, p2, d2, al, nn⟩ := ordd_iff g
      obtain ⟨as, r1⟩ := At.reads I p1 ha rx
      obtain ⟨bs, r2⟩ := At.reads I p2 hb ry
      exact PySem.W.lt_data r1 r2 al nn (by omega) ⟨.bl _, H, I, rfl, q _ H (Evl.Ex.refl H) rfl⟩
    · cases hf
theorem o_le (hu : X.A.units + 200 < cLine) : OpR X (compareOp .LtE) (r2D X.K dLe) := by
  intro pins s σ H x y v u Q I rx ry ⟨M, a, b, d, t, ha, hb, hf, q⟩
  unfold dLe at hf
  split at hf
  · rename_i i j
    cases hf
    exact op_le pins s σ H x y v u Q I rx ry ⟨i, j, ha, hb, q _ H (Evl.Ex.refl H) rfl⟩
  · split at hf
    · rename_i g
      cases hf
      obtain ⟨p1, d1, p2, d2, al, nn⟩ := ordd_iff g
      obtain ⟨as, r1⟩ := At.reads I p1 ha rx
      obtain ⟨bs, r2⟩ := At.reads I p2 hb ry
      exact PySem.W.le_data r1 r2 al nn (by omega) ⟨.bl _, H, I, rfl, q _ H (Evl.Ex.refl H) rfl⟩
    · cases hf
theorem o_gt (hu : X.A.units + 200 < cLine) : OpR X (compareOp .Gt) (r2D X.K dGt) := by
  intro pins s σ H x y v u Q I rx ry ⟨M, a, b, d, t, ha, hb, hf, q⟩
  unfold dGt at hf
  split at hf
  · rename_i i j
    cases hf
    exact op_gt pins s σ H x y v u Q I rx ry ⟨i, j, ha, hb, q _ H (Evl.Ex.refl H) rfl⟩
  · split at hf
    · rename_i g
      cases hf
      obtain ⟨p1, d1, p2, d2, al, nn⟩ := ordd_iff g
      obtain ⟨as, r1⟩ := At.reads I p1 ha rx
      obtain ⟨bs, r2⟩ := At.reads I p2 hb ry
      exact PySem.W.gt_data r1 r2 al nn (by omega) ⟨.bl _, H, I, rfl, q _ H (Evl.Ex.refl H) rfl⟩
    · cases hf
theorem o_ge (hu : X.A.units + 200 < cLine) : OpR X (compareOp .GtE) (r2D X.K dGe) := by
  intro pins s σ H x y v u Q I rx ry ⟨M, a, b, d, t, ha, hb, hf, q⟩
  unfold dGe at hf
  split at hf
  · rename_i i j
    cases hf
    exact op_ge pins s σ H x y v u Q I rx ry ⟨i, j, ha, hb, q _ H (Evl.Ex.refl H) rfl⟩
  · split at hf
    · rename_i g
      cases hf
      obtain ⟨p1, d1, p2, d2, al, nn⟩ := ordd_iff g
      obtain ⟨as, r1⟩ := At.reads I p1 ha rx
      obtain ⟨bs, r2⟩ := At.reads I p2 hb ry
      exact PySem.W.ge_data r1 r2 al nn (by omega) ⟨.bl _, H, I, rfl, q _ H (Evl.Ex.refl H) rfl⟩
    · cases hf
theorem at_none {K : PySem.W.Frag} {H : Hp} : ∀ {a : D} {x : V}, At K H a x → decide (x = .non) = isNone a
  | .none, x, h => by
    have e : x = .non := h
    rw [e]
    rfl
  | .bool b, x, h => by
    have e : x = .bl b := h
    rw [e]
    rfl
  | .int i, x, h => by
    have e : x = .int i := h
    rw [e]
    rfl
  | .str z, x, h => by
    have e : x = .str z := h
    rw [e]
    rfl
  | .list ds, x, ⟨a, xs, e, _⟩ => by
    rw [e]
    rfl
  | .tuple ds, x, ⟨a, xs, e, _⟩ => by
    rw [e]
    rfl
  | .dict es, x, ⟨a, e, _⟩ => by
    rw [e]
    rfl
theorem isNone_eq {a : D} (h : isNone a = true) : a = .none := by
  cases a with
  | none => rfl
  | _ => cases h
theorem o_is : OpR X (compareOp .Is) (r2D X.K dIs) := by
  intro pins s σ H x y v u Q I rx ry ⟨M, a, b, d, t, ha, hb, hf, q⟩
  unfold dIs at hf
  split at hf
  · rename_i g
    cases hf
    rw [isNone_eq g] at hb
    have ey : y = .non := hb
    exact op_isN pins s σ H x y v u Q I rx ry ⟨ey, q _ H (Evl.Ex.refl H) (by rw [at_none ha]; rfl)⟩
  · cases hf
theorem o_isnot : OpR X (compareOp .IsNot) (r2D X.K dIsNot) := by
  intro pins s σ H x y v u Q I rx ry ⟨M, a, b, d, t, ha, hb, hf, q⟩
  unfold dIsNot at hf
  split at hf
  · rename_i g
    cases hf
    rw [isNone_eq g] at hb
    have ey : y = .non := hb
    exact op_notN pins s σ H x y v u Q I rx ry ⟨ey, q _ H (Evl.Ex.refl H) (by rw [at_none ha]; rfl)⟩
  · cases hf
theorem okd_list {xs : List D} (h : okd (.list xs) = true) : PyData.plainAll xs = true ∧ PyData.depthAll xs ≤ 59 := by
  obtain ⟨h1, h2⟩ := okd_iff h
  simp only [PyData.plain] at h1
  simp only [PyData.depth] at h2
  exact ⟨h1, by omega⟩
theorem okd_tuple {xs : List D} (h : okd (.tuple xs) = true) : PyData.plainAll xs = true ∧ PyData.depthAll xs ≤ 59 := by
  obtain ⟨h1, h2⟩ := okd_iff h
  simp only [PyData.plain] at h1
  simp only [PyData.depth] at h2
  exact ⟨h1, by omega⟩
theorem o_in (hu : X.A.units + 200 < cLine) : OpR X (compareOp .In) (r2D X.K dIn) := by
  intro pins s σ H x y v u Q I rx ry ⟨M, a, b, d, t, ha, hb, hf, q⟩
  unfold dIn at hf
  split at hf
  · split at hf
    · rename_i xs g
      rw [Bool.and_eq_true] at g
      cases hf
      obtain ⟨as, r1⟩ := At.reads I (okd_iff g.1).1 ha rx
      obtain ⟨bs, r2⟩ := At.reads I (okd_iff g.2).1 hb ry
      exact SeqAt.in_list_data r2 r1 (okd_list g.2).1 (okd_iff g.1).1 (by have := (okd_list g.2).2; omega) ⟨.bl _, H, I, rfl, q _ H (Evl.Ex.refl H) rfl⟩
    · cases hf
  · split at hf
    · rename_i xs g
      rw [Bool.and_eq_true] at g
      cases hf
      obtain ⟨as, r1⟩ := At.reads I (okd_iff g.1).1 ha rx
      obtain ⟨bs, r2⟩ := At.reads I (okd_iff g.2).1 hb ry
      exact SeqAt.in_tuple_data r2 r1 (okd_tuple g.2).1 (okd_iff g.1).1 (by have := (okd_tuple g.2).2; omega) ⟨.bl _, H, I, rfl, q _ H (Evl.Ex.refl H) rfl⟩
    · cases hf
  · cases hf
theorem o_notin (hu : X.A.units + 200 < cLine) : OpR X (compareOp .NotIn) (r2D X.K dNotIn) := by
  intro pins s σ H x y v u Q I rx ry ⟨M, a, b, d, t, ha, hb, hf, q⟩
  unfold dNotIn at hf
  split at hf
  · split at hf
    · rename_i xs g
      rw [Bool.and_eq_true] at g
      cases hf
      obtain ⟨as, r1⟩ := At.reads I (okd_iff g.1).1 ha rx
      obtain ⟨bs, r2⟩ := At.reads I (okd_iff g.2).1 hb ry
      exact SeqAt.notIn_list_data r2 r1 (okd_list g.2).1 (okd_iff g.1).1 (by have := (okd_list g.2).2; omega) ⟨.bl _, H, I, rfl, q _ H (Evl.Ex.refl H) rfl⟩
    · cases hf
  · split at hf
    · rename_i xs g
      rw [Bool.and_eq_true] at g
      cases hf
      obtain ⟨as, r1⟩ := At.reads I (okd_iff g.1).1 ha rx
      obtain ⟨bs, r2⟩ := At.reads I (okd_iff g.2).1 hb ry
      exact SeqAt.notIn_tuple_data r2 r1 (okd_tuple g.2).1 (okd_iff g.1).1 (by have := (okd_tuple g.2).2; omega) ⟨.bl _, H, I, rfl, q _ H (Evl.Ex.refl H) rfl⟩
    · cases hf
  · cases hf
end
end Tw
set_option Elab.async false
set_option linter.all false
set_option maxRecDepth 100000
set_option maxHeartbeats 4000000
/-! Tw6: items, slices, builtins, tests -/
namespace Tw
open PySem PySem.Spec PyProof.Rows L2
theorem sql_le {K : PySem.W.Frag} {M : List Addr} {H : Hp} {a : Addr} {xs : List V} (h : SqL K (hid M H) a xs) : SqL K H a xs := Evl.ex_l hid_le h
theorem sqt_le {K : PySem.W.Frag} {M : List Addr} {H : Hp} {a : Addr} {xs : List V} (h : SqT K (hid M H) a xs) : SqT K H a xs := Evl.ex_t hid_le h
theorem atI_at {K : PySem.W.Frag} {H : Hp} {ds : List D} {vs : List V} {i : Int} {d : D} (h : AtL K H ds vs) (g : atI ds i = some d) : ∃ v, atI vs i = some v ∧ At K H d v := by
  unfold atI at g ⊢
  rw [atL_len h]
  cases e : ixN ds.length i with
  | none =>
    rw [e] at g
    cases g
  | some j =>
    rw [e] at g
    obtain ⟨v, h1, h2⟩ := AtL.get h (show ds[j]? = some d from g)
    exact ⟨v, h1, h2⟩
section
variable {X : Cx}
theorem i_x : IxR X (r2D X.K dIx) := by
  intro value slice pins s σ H x y v u Q I rx ry ⟨M, a, b, d, t, ha, hb, hf, q⟩ hs
  unfold dIx at hf
  split at hf
  · rename_i xs i
    split at hf
    · rename_i e g
      cases hf
      obtain ⟨l, vs, e1, h1, h2⟩ := ha
      obtain ⟨w, g1, g2⟩ := atI_at h2 g
      exact ix_list value slice pins s σ H x y v u Q I rx ry ⟨l, vs, i, w, e1, hb, sql_le h1, g1, q w H (Evl.Ex.refl H) g2⟩ hs
    · cases hf
  · rename_i xs i
    split at hf
    · rename_i e g
      cases hf
      obtain ⟨l, vs, e1, h1, h2⟩ := ha
      obtain ⟨w, g1, g2⟩ := atI_at h2 g
      exact ix_tup value slice pins s σ H x y v u Q I rx ry ⟨l, vs, i, w, e1, hb, sqt_le h1, g1, q w H (Evl.Ex.refl H) g2⟩ hs
    · cases hf
  · cases hf
/-! ### builtins -/
theorem at_cons {K : PySem.W.Frag} {H : Hp} {d : D} {ds : List D} {xs : List V} (h : AtL K H (d :: ds) xs) : ∃ v vs, xs = v :: vs ∧ At K H d v ∧ AtL K H ds vs := h
theorem at_one {K : PySem.W.Frag} {H : Hp} {d : D} {xs : List V} (h : AtL K H [d] xs) : ∃ v, xs = [v] ∧ At K H d v := by
  obtain ⟨v, vs, e, h1, h2⟩ := h
  have z : vs = [] := h2
  rw [z] at e
  exact ⟨v, e, h1⟩
theorem at_two {K : PySem.W.Frag} {H : Hp} {d e : D} {xs : List V} (h : AtL K H [d, e] xs) : ∃ v w, xs = [v, w] ∧ At K H d v ∧ At K H e w := by
  obtain ⟨v, vs, e1, h1, h2⟩ := h
  obtain ⟨w, e2, h3⟩ := at_one h2
  rw [e2] at e1
  exact ⟨v, w, e1, h1, h3⟩
theorem k_len : CallR X (.builtin "len") (rnD X.K cLen) := by
  intro pins s σ H xs us Q I r ⟨M, as, d, t, ha, hf, q⟩
  unfold cLen at hf
  split at hf
  · cases hf
    obtain ⟨v, e, a, vs, e2, h1, h2⟩ := at_one ha
    exact call_len_seq pins s σ H xs us Q I r ⟨a, vs, by rw [e, e2], .inl (sql_le h1), q _ H (Evl.Ex.refl H) (by rw [atL_len h2]; rfl)⟩
  · cases hf
    obtain ⟨v, e, a, vs, e2, h1, h2⟩ := at_one ha
    exact call_len_seq pins s σ H xs us Q I r ⟨a, vs, by rw [e, e2], .inr (sqt_le h1), q _ H (Evl.Ex.refl H) (by rw [atL_len h2]; rfl)⟩
  · cases hf
theorem k_abs : CallR X (.builtin "abs") (rnD X.K cAbs) := by
  intro pins s σ H xs us Q I r ⟨M, as, d, t, ha, hf, q⟩
  unfold cAbs at hf
  split at hf
  · cases hf
    obtain ⟨v, e, h1⟩ := at_one ha
    exact call_abs pins s σ H xs us Q I r ⟨_, by rw [e, show v = _ from h1], q _ H (Evl.Ex.refl H) rfl⟩
  · cases hf
theorem k_int : CallR X (.type "int") (rnD X.K cInt) := by
  intro pins s σ H xs us Q I r ⟨M, as, d, t, ha, hf, q⟩
  unfold cInt at hf
  split at hf
  · cases hf
    obtain ⟨v, e, h1⟩ := at_one ha
    exact call_int1 pins s σ H xs us Q I r (.inl ⟨_, by rw [e, show v = _ from h1], q _ H (Evl.Ex.refl H) rfl⟩)
  · cases hf
    obtain ⟨v, e, h1⟩ := at_one ha
    exact call_int1 pins s σ H xs us Q I r (.inr ⟨_, by rw [e, show v = _ from h1], q _ H (Evl.Ex.refl H) rfl⟩)
  · cases hf
theorem k_sum (hc : X.calm = true) : CallR X (.builtin "sum") (rnD X.K cSum) := by
  intro pins s σ H xs us Q I r ⟨M, as, d, t, ha, hf, q⟩
  unfold cSum at hf
  split at hf
  · split at hf
    · rename_i l g
      cases hf
      obtain ⟨v, e, a, vs, e2, h1, h2⟩ := at_one ha
      rw [intsOf_some g] at h2
      rw [AtL.ints h2] at h1
      exact cr_sum hc pins s σ H xs us Q I r ⟨a, l, by rw [e, e2], sql_le h1, q _ H (Evl.Ex.refl H) rfl⟩
    · cases hf
  · cases hf
theorem k_all (hc : X.calm = true) : CallR X (.builtin "all") (rnD X.K cAll) := by
  intro pins s σ H xs us Q I r ⟨M, as, d, t, ha, hf, q⟩
  unfold cAll at hf
  split at hf
  · split at hf
    · rename_i l g
      cases hf
      obtain ⟨v, e, a, vs, e2, h1, h2⟩ := at_one ha
      rw [boolsOf_some g] at h2
      rw [AtL.bools h2] at h1
      exact cr_all hc pins s σ H xs us Q I r ⟨a, l, by rw [e, e2], sql_le h1, q _ H (Evl.Ex.refl H) rfl⟩
    · cases hf
  · cases hf
theorem k_any (hc : X.calm = true) : CallR X (.builtin "any") (rnD X.K cAny) := by
  intro pins s σ H xs us Q I r ⟨M, as, d, t, ha, hf, q⟩
  unfold cAny at hf
  split at hf
  · split at hf
    · rename_i l g
      cases hf
      obtain ⟨v, e, a, vs, e2, h1, h2⟩ := at_one ha
      rw [boolsOf_some g] at h2
      rw [AtL.bools h2] at h1
      exact cr_any hc pins s σ H xs us Q I r ⟨a, l, by rw [e, e2], sql_le h1, q _ H (Evl.Ex.refl H) rfl⟩
    · cases hf
  · cases hf
/-! ### min, max -/
def alikeB (xs : List D) : Bool := (xs.all fun x => xs.all fun y => PySem.W.alike x y) && xs.all fun x => !isNone x
theorem alikeB_iff {xs : List D} (h : alikeB xs = true) : PySem.W.AlikeAll xs := by
  unfold alikeB at h
  rw [Bool.and_eq_true] at h
  refine ⟨fun x hx y hy => ?_, fun x hx z => ?_⟩
  · exact List.all_eq_true.mp (List.all_eq_true.mp h.1 x hx) y hy
  · have := List.all_eq_true.mp h.2 x hx
    rw [z] at this
    cases this
def kMin : List D → R D
  | [.int i, .int j] => .ok (.int (if j < i then j else i))
  | [.list (x :: xs)] => if okd (.list (x :: xs)) && alikeB (x :: xs) then .ok (PySem.W.minD x xs) else .bad
  | _ => .bad
def kMax : List D → R D
  | [.int i, .int j] => .ok (.int (if j > i then j else i))
  | [.list (x :: xs)] => if okd (.list (x :: xs)) && alikeB (x :: xs) then .ok (PySem.W.maxD x xs) else .bad
  | _ => .bad
theorem plain_at {xs : List D} (h : PyData.plainAll xs = true) : ∀ {i : Nat} {d : D}, xs[i]? = some d → d.plain = true := fun {i d} e => PySem.W.plain_mem h (List.mem_of_getElem? e)
/-- an item that is read as a datum is this datum -/
theorem item_is {pins : List (Addr × Obj)} {σ : L2.St} {H : Hp} {s : Shared} {M : List Addr} {ds : List D} {vs : List V} {us : List Value} (I : Inv X pins σ H s) (hp : PyData.plainAll ds = true) (h : AtL X.K (hid M H) ds vs) (r : Vals vs us) {i : Nat} {u : Value} (hu : us[i]? = some u)
    {h' : Heap} (hk : ∀ b o, s.heap.get? b = some o → h'.get? b = some o) {d : D} {bs : List Addr} (rd : Reads h' u d bs) : ∃ v, RelV v u ∧ At X.K (hid M H) d v := by
  have hi : i < us.length := (List.getElem?_eq_some_iff.mp hu).1
  have hv : i < vs.length := by rw [r.length]; exact hi
  obtain ⟨u', h1, h2⟩ := r.get (List.getElem?_eq_getElem hv)
  rw [hu] at h1
  cases h1
  obtain ⟨e, g1, g2⟩ := AtL.get' h (List.getElem?_eq_getElem hv)
  obtain ⟨as, r1⟩ := At.reads I (plain_at hp g1) g2 h2
  have : e = d := SeqAt.plain_unique e d u as bs (plain_at hp g1) (PyProof.Rows.Reads.keeps hk r1) rd
  rw [← this]
  exact ⟨_, h2, g2⟩
theorem k_min (hc : X.calm = true) (hu : X.A.units + 200 < cLine) : CallR X (.builtin "min") (rnD X.K kMin) := by
  intro pins s σ H xs us Q I r ⟨M, as, d, t, ha, hf, q⟩
  unfold kMin at hf
  split at hf
  · cases hf
    obtain ⟨v, w, e, h1, h2⟩ := at_two ha
    exact call_min2 hc pins s σ H xs us Q I r ⟨_, _, by rw [e, show v = _ from h1, show w = _ from h2], q _ H (Evl.Ex.refl H) rfl⟩
  · split at hf
    · rename_i x ds g
      rw [Bool.and_eq_true] at g
      cases hf
      obtain ⟨v, e, a, vs, e2, h1, h2⟩ := at_one ha
      subst e2
      subst e
      obtain ⟨its, rv, hl, _⟩ := I.list (sql_le h1)
      rw [Vals.ref1 r]
      have hp := okd_list g.1
      obtain ⟨bs, hr⟩ := Dp.readsAll I (x :: ds) vs its (AtL.dp _ _ hp.1 (AtL.mono hid_le _ _ h2)) rv
      refine PySem.W.min_list_data (I.ok.hd hc) hl.isList (by simpa using hr) (alikeB_iff g.2) (by have := hp.2; omega) fun i u h' tk bs hi rd hk => ?_
      obtain ⟨w, w1, w2⟩ := item_is I hp.1 h2 rv (by simpa using hi) hk rd
      exact ⟨w, H, I.kept hk, w1, q w H (Evl.Ex.refl H) w2⟩
    · cases hf
  · cases hf
theorem k_max (hc : X.calm = true) (hu : X.A.units + 200 < cLine) : CallR X (.builtin "max") (rnD X.K kMax) := by
  intro pins s σ H xs us Q I r ⟨M, as, d, t, ha, hf, q⟩
  unfold kMax at hf
  split at hf
  · cases hf
    obtain ⟨v, w, e, h1, h2⟩ := at_two ha
    exact call_max2 hc pins s σ H xs us Q I r ⟨_, _, by rw [e, show v = _ from h1, show w = _ from h2], q _ H (Evl.Ex.refl H) rfl⟩
  · split at hf
    · rename_i x ds g
      rw [Bool.and_eq_true] at g
      cases hf
      obtain ⟨v, e, a, vs, e2, h1, h2⟩ := at_one ha
      subst e2
      subst e
      obtain ⟨its, rv, hl, _⟩ := I.list (sql_le h1)
      rw [Vals.ref1 r]
      have hp := okd_list g.1
      obtain ⟨bs, hr⟩ := Dp.readsAll I (x :: ds) vs its (AtL.dp _ _ hp.1 (AtL.mono hid_le _ _ h2)) rv
      refine PySem.W.max_list_data (I.ok.hd hc) hl.isList (by simpa using hr) (alikeB_iff g.2) (by have := hp.2; omega) fun i u h' tk bs hi rd hk => ?_
      obtain ⟨w, w1, w2⟩ := item_is I hp.1 h2 rv (by simpa using hi) hk rd
      exact ⟨w, H, I.kept hk, w1, q w H (Evl.Ex.refl H) w2⟩
    · cases hf
  · cases hf
/-! ### repr -/
mutual
theorem plain_hasDict : ∀ d : D, d.plain = true → d.hasDict = false
  | .none, _ => rfl
  | .bool _, _ => rfl
  | .int _, _ => rfl
  | .str _, _ => rfl
  | .list xs, h => by
    simp only [PyData.plain] at h
    simp only [PyData.hasDict]
    exact plain_hasDictAll xs h
  | .tuple xs, h => by
    simp only [PyData.plain] at h
    simp only [PyData.hasDict]
    exact plain_hasDictAll xs h
  | .dict _, h => by simp only [PyData.plain] at h; cases h
theorem plain_hasDictAll : ∀ xs : List D, PyData.plainAll xs = true → PyData.hasDictAll xs = false
  | [], _ => rfl
  | x :: xs, h => by
    simp only [PyData.plainAll, Bool.and_eq_true] at h
    simp only [PyData.hasDictAll, plain_hasDict x h.1, plain_hasDictAll xs h.2, Bool.or_self]
end
theorem k_repr (hG : X.A.guards = some []) (hu : X.A.units + 200 < cLine) : CallR X (.builtin "repr") (rnD X.K cRepr) := by
  intro pins s σ H xs us Q I r ⟨M, as, d, t, ha, hf, q⟩
  unfold cRepr at hf
  split at hf
  · rename_i d0
    split at hf
    · rename_i g
      rw [Bool.and_eq_true, Bool.and_eq_true] at g
      obtain ⟨⟨g1, g2⟩, g3⟩ := g
      have g3' : d0.shown.length ≤ lim := of_decide_eq_true g3
      cases hf
      obtain ⟨v, e, h1⟩ := at_one ha
      subst e
      obtain ⟨u, e, rv⟩ := vals1 r
      subst e
      have done : ∀ u', EP X pins σ Q (.str d0.shown u') { s with toks := s.toks + 1 } := fun u' => ⟨.str _, H, I.tok _, ⟨_, rfl⟩, q _ H (Evl.Ex.refl H) rfl⟩
      cases d0 with
      | none =>
        rw [show v = _ from h1] at rv
        rw [show u = _ from rv]
        exact PySem.P.repr_of_none (done _)
      | bool b =>
        rw [show v = _ from h1] at rv
        rw [show u = _ from rv]
        refine PySem.P.repr_of_bool ?_
        cases b
        · exact done _
        · exact done _
      | int i =>
        rw [show v = _ from h1] at rv
        obtain ⟨tk, rv⟩ := rv
        rw [rv]
        exact PySem.P.repr_of_int (of_decide_eq_true (by simpa only [PyData.showable] using g2)) (done _)
      | str z =>
        rw [show v = _ from h1] at rv
        obtain ⟨tk, rv⟩ := rv
        rw [rv]
        exact PySem.P.repr_of_str (done _) (lim_le (by simpa only [PyData.shown] using g3'))
      | list ds =>
        obtain ⟨bs, rd⟩ := At.reads I (okd_iff g1).1 h1 rv
        obtain ⟨a, vs, e, _⟩ := h1
        rw [e] at rv
        rw [show u = _ from rv] at rd ⊢
        exact repr_of_reads' rd g2 (fun z => by rw [plain_hasDict _ (okd_iff g1).1] at z; cases z) hG (by have := (okd_iff g1).2; omega) (fun _ _ z => z) (fun h' tk tk' hk => ⟨.str _, H, I.kept hk, ⟨_, rfl⟩, q _ H (Evl.Ex.refl H) rfl⟩) (lim_le g3')
      | tuple ds =>
        obtain ⟨bs, rd⟩ := At.reads I (okd_iff g1).1 h1 rv
        obtain ⟨a, vs, e, _⟩ := h1
        rw [e] at rv
        rw [show u = _ from rv] at rd ⊢
        exact repr_of_reads' rd g2 (fun z => by rw [plain_hasDict _ (okd_iff g1).1] at z; cases z) hG (by have := (okd_iff g1).2; omega) (fun _ _ z => z) (fun h' tk tk' hk => ⟨.str _, H, I.kept hk, ⟨_, rfl⟩, q _ H (Evl.Ex.refl H) rfl⟩) (lim_le g3')
      | dict es =>
        have := (okd_iff g1).1
        simp [PyData.plain] at this
    · cases hf
  · cases hf
end
end Tw
set_option Elab.async false
set_option linter.all false
set_option maxRecDepth 100000
set_option maxHeartbeats 4000000
/-! Tw7: new lists of builtins, slices, tests, chains -/
namespace Tw
open PySem PySem.Spec PyProof.Rows L2
section
variable {X : Cx}
/-! ### sorted, list, tuple -/
def sortB (ds : List D) : Bool := (ds.all fun x => ds.all fun y => PySem.W.alike x y) && ((ds.all fun d => match d with | .tuple (_ :: _) => true | _ => false) || ds.all fun d => match d with | .none => false | .tuple _ => false | _ => true)
def kSorted : List D → R D
  | [.list ds] => if okd (.list ds) && sortB ds && decide (ds.length ≤ lim) then .ok (.list (ds.mergeSort (PySem.W.dataLe false id))) else .bad
  | _ => .bad
theorem sortB_iff {ds : List D} (h : sortB ds = true) : PySem.W.AllAlike ds ∧ PySem.W.Sortable ds := by
  unfold sortB at h
  rw [Bool.and_eq_true, Bool.or_eq_true] at h
  refine ⟨fun x hx y hy => List.all_eq_true.mp (List.all_eq_true.mp h.1 x hx) y hy, ?_⟩
  rcases h.2 with z | z
  · left
    intro d hd
    have := List.all_eq_true.mp z d hd
    match d, this with
    | .tuple (x :: r), _ => exact ⟨x, r, rfl⟩
  · right
    intro d hd
    have := List.all_eq_true.mp z d hd
    constructor
    · intro e
      rw [e] at this
      cases this
    · intro xs e
      rw [e] at this
      cases this
theorem k_sorted (hu : X.A.units + 200 < cLine) : CallR X (.builtin "sorted") (rnL X.K kSorted) := by
  intro pins s σ H xs us Q I r ⟨M, as, d, t, ha, hf, q⟩
  unfold kSorted at hf
  split at hf
  · split at hf
    · rename_i ds g
      rw [Bool.and_eq_true, Bool.and_eq_true] at g
      obtain ⟨⟨g1, g2⟩, g3⟩ := g
      have hz : ds.length ≤ lim := of_decide_eq_true g3
      cases hf
      obtain ⟨v, e, a, vs, e2, h1, h2⟩ := at_one ha
      subst e2
      subst e
      obtain ⟨its, rv, hl, _⟩ := I.list (sql_le h1)
      rw [Vals.ref1 r]
      have hp := okd_list g1
      have em : ds.map id = ds := List.map_id ds
      obtain ⟨al, so⟩ := sortB_iff g2
      refine PySem.W.sorted_data (enc := id) (bs := ds) (R := fun u d => ∃ v, RelV v u ∧ At X.K (hid M H) d v) hl.isList (vals_each h2 rv) ?_ (by rw [em]; exact al) (by rw [em]; exact so) (lim_le hz) (fun b hb => ?_) fun out ho hR => ?_
      · have ev := vals_each h2 rv
        refine (PySem.W.each_mem ev).mono fun u d ⟨⟨v, q1, q2⟩, hm⟩ => ?_
        exact At.reads I (PySem.W.plain_mem hp.1 hm) q2 q1
      · have : (id b : D).depth ≤ PyData.depthAll ds := PyData.depth_le_depthAll ds b hb
        have := hp.2
        omega
      · obtain ⟨ws, w1, w2⟩ := each_vals hR
        obtain ⟨ep, he⟩ := PyProof.Rows.sortedAll_at s.heap its out.toArray
        have n : H (s.heap.objs.size + 1) = none := I.hok.fresh (Nat.le_succ _)
        have hlen : ws.length ≤ sizeLine := by
          rw [w1.length, ho]
          exact lim_le hz
        refine ⟨.ref _, upd H (s.heap.objs.size + 1) (.lst ws), I.laid (t' := s.toks) (fun _ _ => PyProof.Rows.sortedAll_old) (Nat.le_succ _) ⟨hlen, out, ep, w1, he⟩, rfl, ?_⟩
        exact q _ _ _ n (Evl.Ex.new n) upd_same (.inl ⟨ws, _, rfl, rfl, AtL.mono (hid_new (Evl.Ex.new n) n) _ _ w2⟩)
    · cases hf
  · cases hf
def kList : List D → R D
  | [.list ds] => .ok (.list ds)
  | [.tuple ds] => .ok (.list ds)
  | _ => .bad
theorem k_list : CallR X (.type "list") (rnL X.K kList) := by
  intro pins s σ H xs us Q I r ⟨M, as, d, t, ha, hf, q⟩
  unfold kList at hf
  split at hf
  · cases hf
    obtain ⟨v, e, a, vs, e2, h1, h2⟩ := at_one ha
    exact call_list_of pins s σ H xs us Q I r ⟨a, vs, by rw [e, e2], .inl (sql_le h1), fun l n => q l _ _ n (Evl.Ex.new n) upd_same (.inl ⟨vs, _, rfl, rfl, AtL.mono (hid_new (Evl.Ex.new n) n) _ _ h2⟩)⟩
  · cases hf
    obtain ⟨v, e, a, vs, e2, h1, h2⟩ := at_one ha
    exact call_list_of pins s σ H xs us Q I r ⟨a, vs, by rw [e, e2], .inr (sqt_le h1), fun l n => q l _ _ n (Evl.Ex.new n) upd_same (.inl ⟨vs, _, rfl, rfl, AtL.mono (hid_new (Evl.Ex.new n) n) _ _ h2⟩)⟩
  · cases hf
def kTuple : List D → R D
  | [.list ds] => .ok (.tuple ds)
  | [.tuple ds] => .ok (.tuple ds)
  | _ => .bad
theorem k_tuple : CallR X (.type "tuple") (rnD X.K kTuple) := by
  intro pins s σ H xs us Q I r ⟨M, as, d, t, ha, hf, q⟩
  unfold kTuple at hf
  split at hf
  · cases hf
    obtain ⟨v, e, a, vs, e2, h1, h2⟩ := at_one ha
    exact call_tuple_of pins s σ H xs us Q I r ⟨a, vs, by rw [e, e2], .inl ⟨sql_le h1, fun l n => q _ _ (Evl.Ex.new n) ⟨l, vs, rfl, SqT.of (hid_of upd_same (t.no n)), AtL.mono (hid_ex (Evl.Ex.new n)) _ _ h2⟩⟩⟩
  · cases hf
    obtain ⟨v, e, a, vs, e2, h1, h2⟩ := at_one ha
    exact call_tuple_of pins s σ H xs us Q I r ⟨a, vs, by rw [e, e2], .inr ⟨sqt_le h1, q _ H (Evl.Ex.refl H) ⟨a, vs, rfl, h1, h2⟩⟩⟩
  · cases hf
theorem call_LD {v : Value} {f : List D → R D} (h : CallR X v (rnL X.K f)) : CallR X v (rnD X.K f) := fun pins s σ H xs us Q I r q => h pins s σ H xs us Q I r (rnL.D q)
end
/-! ### slices -/
def rdO (c : Cf) (m : Nv → R (Option Int)) : TO := fun σ H Q => ∃ ε M, Rel c σ H ε M ∧ ∃ o, m ε = .ok o ∧ ∀ H', Ex H H' → Q o H'
section
variable {X : Cx} {c : Cf} {e a b : Expr} {ma mb me : Nv → R D} {pos : Pos}
def oSome (m : Nv → R D) : Nv → R (Option Int) := fun ε => (m ε).bind fun d => match d with | .int i => .ok (some i) | _ => .bad
def oNone : Nv → R (Option Int) := fun _ => .ok none
theorem po_s (h : PE X e (rdE c ma)) : PO X (some e) (rdO c (oSome ma)) := by
  obtain ⟨run⟩ := po_some h
  refine ⟨fun pins s σ H Q I ⟨ε, M, r, o, hm, q⟩ => run pins s σ H Q I ?_⟩
  obtain ⟨d, h1, h2⟩ := R.bind_ok hm
  cases d with
  | int i =>
    cases h2
    exact ⟨ε, M, r, _, h1, fun v H' e' hv => ⟨i, hv, q H' e'⟩⟩
  | _ => cases h2
theorem po_n : PO X none (rdO c oNone) := by
  obtain ⟨run⟩ := po_none (X := X)
  refine ⟨fun pins s σ H Q I ⟨ε, M, r, o, hm, q⟩ => run pins s σ H Q I ?_⟩
  cases hm
  exact q H (Evl.Ex.refl H)
def cut (xs : List D) (lo hi : Option Int) : List D := (xs.drop (HT.sIx xs.length 0 lo)).take (HT.sIx xs.length xs.length hi - HT.sIx xs.length 0 lo)
def xSl (me : Nv → R D) (lo hi : Nv → R (Option Int)) : Nv → R D := fun ε => (me ε).bind fun d => (lo ε).bind fun l => (hi ε).bind fun h => match d with
  | .list xs => .ok (.list (cut xs l h))
  | _ => .bad
theorem cut_at {K : PySem.W.Frag} {H : Hp} {ds : List D} {vs : List V} (h : AtL K H ds vs) (l u : Option Int) : AtL K H (cut ds l u) (cutV vs l u) := by
  unfold cut cutV
  rw [atL_len h]
  exact AtL.take _ (AtL.drop _ h)
theorem pe_sl {lo hi : Option Expr} {p2 : Pos} {ml mh : Nv → R (Option Int)} (he : PE X e (rdE c me)) (hl : PO X lo (rdO c ml)) (hh : PO X hi (rdO c mh)) (hK : c.K = X.K := by rfl) : PE X (.Subscript e (.Slice lo hi none p2) pos) (rdL c (xSl me ml mh)) :=
  (pe_slice sl_list he hl hh).wk fun σ H Q ⟨ε, M, re, d, hm, q⟩ => by
    obtain ⟨x, h1, h2⟩ := R.bind_ok hm
    obtain ⟨l, h3, h4⟩ := R.bind_ok h2
    obtain ⟨u, h5, h6⟩ := R.bind_ok h4
    refine ⟨ε, M, re, x, h1, fun v H1 e1 hv => ⟨ε, M, re.ex e1, l, h3, fun H2 e2 => ⟨ε, M, re.ex (e1.trans e2), u, h5, fun H3 e3 => ?_⟩⟩⟩
    cases x with
    | list xs =>
      cases h6
      obtain ⟨a, vs, ev, g1, g2⟩ := hv
      have e4 := e2.trans e3
      refine ⟨a, vs, ev, hK ▸ sql_le (Evl.ex_l (hid_ex e4) g1), fun p n => ?_⟩
      have e5 : Ex H (upd H3 p (.lst (cutV vs l u))) := (e1.trans e4).trans (Evl.Ex.new n)
      refine q p _ _ (Evl.fresh_back (e1.trans e4) n) e5 upd_same (.inl ⟨_, _, rfl, rfl, cut_at (AtL.mono ?_ _ _ g2) l u⟩)
      exact Evl.Ex.trans (hid_ex e4) (hid_new (Evl.Ex.new n) n)
    | _ => cases h6
/-- xs[i] -/
theorem pe_i {sl : Expr} {mi : Nv → R D} (he : PE X e (rdE c me)) (hi : PE X sl (rdE c mi)) (hs : PlainIx sl := by exact fun _ _ => rfl) (hK : c.K = X.K := by rfl) : PE X (.Subscript e sl pos) (rdE c (xBin dIx me mi)) :=
  (pe_ix i_x he hi hs).wk (tOp_rd fun _ _ _ _ h => hK ▸ h)
/-! ### truth, tests -/
def truD : D → R Bool
  | .none => .ok false
  | .bool b => .ok b
  | .int i => .ok (i != 0)
  | _ => .bad
def tV (m : Nv → R D) : Nv → R Bool := fun ε => (m ε).bind truD
theorem pt_v (h : PE X a (rdE c ma)) (he : ∀ whole, isTrue a X.env whole = (do let v ← whole; standAt a.pos; holding [v] (truthy v)) := by intro _; rfl) : PT X a (rdT c (tV ma)) :=
  (pt_truth h he).wk fun σ H Q ⟨ε, M, re, k, hm, q⟩ => by
    obtain ⟨d, h1, h2⟩ := R.bind_ok hm
    refine ⟨ε, M, re, d, h1, fun v H' e' hv => ⟨k, ?_, q H' e'⟩⟩
    cases d with
    | none =>
      cases h2
      rw [show v = _ from hv]
      rfl
    | bool b =>
      cases h2
      rw [show v = _ from hv]
      rfl
    | int i =>
      cases h2
      rw [show v = _ from hv]
      rfl
    | _ => cases h2
def tAn (m n : Nv → R Bool) : Nv → R Bool := fun ε => (m ε).bind fun b => if b then n ε else .ok false
def tOrr (m n : Nv → R Bool) : Nv → R Bool := fun ε => (m ε).bind fun b => if b then .ok true else n ε
def tNo (m : Nv → R Bool) : Nv → R Bool := fun ε => (m ε).bind fun b => .ok (!b)
theorem _root_.L2.PW.wk {e : Expr} {t t' : TT} (h : PW X e t) (i : ∀ σ H Q, t' σ H Q → t σ H Q) : PW X e t' := ⟨fun w pins s σ H Q I q => h.run w pins s σ H Q I (i σ H Q q)⟩
variable {m n : Nv → R Bool} {rest : List Expr}
theorem pw_an (ha : PT X a (rdT c m)) (hb : PW X (.BoolOp .And (b :: rest) pos) (rdT c n)) : PW X (.BoolOp .And (a :: b :: rest) pos) (rdT c (tAn m n)) := (pw_and ha hb).wk fun σ H Q ⟨ε, M, re, k, hm, q⟩ => by
  obtain ⟨x, h1, h2⟩ := R.bind_ok hm
  refine ⟨ε, M, re, x, h1, fun H1 e1 => ?_⟩
  cases x with
  | true => exact ⟨ε, M, re.ex e1, k, h2, fun H2 e2 => q H2 (e1.trans e2)⟩
  | false =>
    cases h2
    exact q H1 e1
theorem pw_orr (ha : PT X a (rdT c m)) (hb : PW X (.BoolOp .Or (b :: rest) pos) (rdT c n)) : PW X (.BoolOp .Or (a :: b :: rest) pos) (rdT c (tOrr m n)) := (pw_or ha hb).wk fun σ H Q ⟨ε, M, re, k, hm, q⟩ => by
  obtain ⟨x, h1, h2⟩ := R.bind_ok hm
  refine ⟨ε, M, re, x, h1, fun H1 e1 => ?_⟩
  cases x with
  | false => exact ⟨ε, M, re.ex e1, k, h2, fun H2 e2 => q H2 (e1.trans e2)⟩
  | true =>
    cases h2
    exact q H1 e1
theorem pt_no (ha : PT X a (rdT c m)) : PT X (.UnaryOp .Not a pos) (rdT c (tNo m)) := (pt_not ha).wk fun σ H Q ⟨ε, M, re, k, hm, q⟩ => by
  obtain ⟨x, h1, h2⟩ := R.bind_ok hm
  cases h2
  exact ⟨ε, M, re, x, h1, fun H1 e1 => q H1 e1⟩
/-! ### truth values as values -/
def boD : D → R Bool
  | .bool b => .ok b
  | _ => .bad
def xAn (m n : Nv → R D) : Nv → R D := fun ε => (m ε).bind fun d => (boD d).bind fun b => if b then n ε else .ok (.bool false)
def xOrr (m n : Nv → R D) : Nv → R D := fun ε => (m ε).bind fun d => (boD d).bind fun b => if b then .ok (.bool true) else n ε
def xNo (m : Nv → R D) : Nv → R D := fun ε => (m ε).bind fun d => (boD d).bind fun b => .ok (.bool (!b))
theorem boD_ok {d : D} {b : Bool} (h : boD d = .ok b) : d = .bool b := by
  cases d with
  | bool k =>
    cases h
    rfl
  | _ => cases h
theorem pe_an (ha : PE X a (rdE c ma)) (hb : PE X (.BoolOp .And (b :: rest) pos) (rdE c mb)) : PE X (.BoolOp .And (a :: b :: rest) pos) (rdE c (xAn ma mb)) := (L2.pe_and ha hb).wk fun σ H Q ⟨ε, M, re, d, hm, q⟩ => by
  obtain ⟨x, h1, h2⟩ := R.bind_ok hm
  obtain ⟨k, h3, h4⟩ := R.bind_ok h2
  have := boD_ok h3
  subst this
  refine ⟨ε, M, re, _, h1, fun v H1 e1 hv => ⟨k, hv, ?_⟩⟩
  cases k with
  | true => exact ⟨ε, M, re.ex e1, d, h4, fun v H2 e2 => q v H2 (e1.trans e2)⟩
  | false =>
    cases h4
    exact q _ H1 e1 rfl
theorem pe_orr (ha : PE X a (rdE c ma)) (hb : PE X (.BoolOp .Or (b :: rest) pos) (rdE c mb)) : PE X (.BoolOp .Or (a :: b :: rest) pos) (rdE c (xOrr ma mb)) := (L2.pe_or ha hb).wk fun σ H Q ⟨ε, M, re, d, hm, q⟩ => by
  obtain ⟨x, h1, h2⟩ := R.bind_ok hm
  obtain ⟨k, h3, h4⟩ := R.bind_ok h2
  have := boD_ok h3
  subst this
  refine ⟨ε, M, re, _, h1, fun v H1 e1 hv => ⟨k, hv, ?_⟩⟩
  cases k with
  | false => exact ⟨ε, M, re.ex e1, d, h4, fun v H2 e2 => q v H2 (e1.trans e2)⟩
  | true =>
    cases h4
    exact q _ H1 e1 rfl
theorem pe_no (ha : PE X a (rdE c ma)) : PE X (.UnaryOp .Not a pos) (rdE c (xNo ma)) := (L2.pe_not ha).wk fun σ H Q ⟨ε, M, re, d, hm, q⟩ => by
  obtain ⟨x, h1, h2⟩ := R.bind_ok hm
  obtain ⟨k, h3, h4⟩ := R.bind_ok h2
  have := boD_ok h3
  subst this
  cases h4
  exact ⟨ε, M, re, _, h1, fun v H1 e1 hv => ⟨k, hv, q _ H1 e1 rfl⟩⟩
/-- a if t else b -/
def xIf (t : Nv → R Bool) (ma mb : Nv → R D) : Nv → R D := fun ε => (t ε).bind fun k => if k then ma ε else mb ε
theorem pe_ife {cd : Expr} (hc : PT X cd (rdT c m)) (ha : PE X a (rdE c ma)) (hb : PE X b (rdE c mb)) : PE X (.IfExp cd a b pos) (rdE c (xIf m ma mb)) := (pe_ifExp hc ha hb).wk fun σ H Q ⟨ε, M, re, d, hm, q⟩ => by
  obtain ⟨k, h1, h2⟩ := R.bind_ok hm
  refine ⟨ε, M, re, k, h1, fun H1 e1 => ?_⟩
  cases k with
  | true => exact ⟨ε, M, re.ex e1, d, h2, fun v H2 e2 => q v H2 (e1.trans e2)⟩
  | false => exact ⟨ε, M, re.ex e1, d, h2, fun v H2 e2 => q v H2 (e1.trans e2)⟩
/-- a < b < c -/
def xCh (f g : D → D → R D) (ma mb mc : Nv → R D) : Nv → R D := fun ε => (ma ε).bind fun a => (mb ε).bind fun b => (f a b).bind fun z => (boD z).bind fun k => if k then (mc ε).bind fun d => g b d else .ok (.bool false)
theorem pe_ch {op op' : CmpOp} {f g : D → D → R D} {cc : Expr} {mc : Nv → R D} (ho : OpR X (compareOp op) (r2D X.K f)) (ho' : OpR X (compareOp op') (r2D X.K g)) (ha : PE X a (rdE c ma)) (hb : PE X b (rdE c mb)) (hcc : PE X cc (rdE c mc)) (hmk : lastMarks [op, op'] [b, cc] = false := by with_unfolding_all rfl) (hK : c.K = X.K := by rfl) :
    PE X (.Compare a [op, op'] [b, cc] pos) (rdE c (xCh f g ma mb mc)) := (pe_chain ho ho' ha hb hcc hmk).wk fun σ H Q ⟨ε, M, re, d, hm, q⟩ => by
  obtain ⟨x, h1, h2⟩ := R.bind_ok hm
  obtain ⟨y, h3, h4⟩ := R.bind_ok h2
  obtain ⟨z, h5, h6⟩ := R.bind_ok h4
  obtain ⟨k, h7, h8⟩ := R.bind_ok h6
  have := boD_ok h7
  subst this
  refine ⟨ε, M, re, x, h1, fun v H1 e1 hv => ⟨ε, M, re.ex e1, y, h3, fun w H2 e2 hw => ?_⟩⟩
  have hv2 := At.mono (hid_ex e2) x v hv
  refine ⟨M, x, y, _, Trk.ex re.trk (e1.trans e2), hK ▸ hv2, hK ▸ hw, h5, fun r H3 e3 hr => ⟨k, hr, ?_⟩⟩
  have e13 := (e1.trans e2).trans e3
  cases k with
  | true =>
    obtain ⟨d3, g1, g2⟩ := R.bind_ok h8
    exact ⟨ε, M, re.ex e13, d3, g1, fun u H4 e4 hu => ⟨M, y, d3, d, Trk.ex re.trk (e13.trans e4), hK ▸ At.mono (hid_ex (e3.trans e4)) y w hw, hK ▸ hu, g2, fun r H5 e5 hr => q r H5 ((e13.trans e4).trans e5) (hK ▸ hr)⟩⟩
  | false =>
    cases h8
    exact q _ H3 e13 rfl
end
end Tw
set_option Elab.async false
set_option linter.all false
set_option maxRecDepth 100000
set_option maxHeartbeats 4000000
/-! Tw8: what is walked, targets, comprehensions, statements -/
namespace Tw
open PySem PySem.Spec PyProof.Rows L2
/-! ### what is walked -/
def Wk (K : PySem.W.Frag) (B : Hp) (J : It) (ds : List D) : Prop := ∀ (i : Nat) (H : Hp), Ex B H → (i < ds.length → J.go i H) ∧ (i = ds.length → J.stop i H) ∧
  ∀ x H', J.yld i H x H' → Ex H H' ∧ ∀ d, ds[i]? = some d → ∀ M', Trk M' H → Ex B (hid M' H) → At K (hid M' H') d x
def rdI (c : Cf) (m : Nv → R (List D)) : TI := fun σ H Rr => ∃ ε M, Rel c σ H ε M ∧ ∃ ds, m ε = .ok ds ∧ ∀ J H1, Ex H H1 → Wk c.K (hid M H1) J ds → Rr J H1
theorem _root_.L2.PI.wk {X : Cx} {tg e : Expr} {t t' : TI} (h : PI X tg e t) (i : ∀ σ H Q, t' σ H Q → t σ H Q) : PI X tg e t' := ⟨fun pins s σ H Q I q => h.run pins s σ H Q I (i σ H Q q)⟩
section
variable {X : Cx} {c : Cf} {tg : Expr}
theorem wk_list {K : PySem.W.Frag} {B : Hp} {a : Addr} {vs : List V} {ds : List D} (h : SqL K B a vs) (hd : AtL K B ds vs) : Wk K B (Itl K a) ds := fun i H e => by
  have hs : SqL K H a vs := Evl.ex_l e h
  have n := atL_len hd
  refine ⟨fun hi => ⟨vs, vs[i]'(by omega), hs, List.getElem?_eq_getElem (by omega)⟩, fun hi => ⟨vs, hs, by omega⟩, fun x H' ⟨e1, q⟩ => ?_⟩
  subst e1
  refine ⟨Evl.Ex.refl _, fun d hi M' t e2 => ?_⟩
  obtain ⟨v, h1, h2⟩ := AtL.get hd hi
  have ev : v = x := Option.some.inj (h1.symm.trans (q vs hs))
  rw [← ev]
  exact At.mono e2 d v h2
theorem wk_tup {K : PySem.W.Frag} {B : Hp} {a : Addr} {vs : List V} {ds : List D} (h : SqT K B a vs) (hd : AtL K B ds vs) : Wk K B (Itt K a) ds := fun i H e => by
  have hs : SqT K H a vs := Evl.ex_t e h
  have n := atL_len hd
  refine ⟨fun hi => ⟨vs, vs[i]'(by omega), hs, List.getElem?_eq_getElem (by omega)⟩, fun hi => ⟨vs, hs, by omega⟩, fun x H' ⟨e1, q⟩ => ?_⟩
  subst e1
  refine ⟨Evl.Ex.refl _, fun d hi M' t e2 => ?_⟩
  obtain ⟨v, h1, h2⟩ := AtL.get hd hi
  have ev : v = x := Option.some.inj (h1.symm.trans (q vs hs))
  rw [← ev]
  exact At.mono e2 d v h2
def rangeD (lo : Int) (n : Nat) : List D := (List.range n).map fun (i : Nat) => PyData.int (lo + (i : Int))
theorem wk_range {K : PySem.W.Frag} {B : Hp} (lo : Int) (n : Nat) : Wk K B (Itr lo n) (rangeD lo n) := fun i H e => by
  have l : (rangeD lo n).length = n := by
    unfold rangeD
    rw [List.length_map, List.length_range]
  refine ⟨fun hi => by rw [l] at hi; exact hi, fun hi => by rw [l] at hi; exact Nat.le_of_eq hi.symm, fun x H' ⟨e1, e2⟩ => ?_⟩
  subst e1 e2
  refine ⟨Evl.Ex.refl _, fun d hd M' t e2 => ?_⟩
  unfold rangeD at hd
  rw [List.getElem?_map] at hd
  have hi : i < n := by
    cases q : (List.range n)[i]? with
    | none =>
      rw [q] at hd
      cases hd
    | some j =>
      have := (List.getElem?_eq_some_iff.mp q).1
      rwa [List.length_range] at this
  rw [List.getElem?_range hi] at hd
  cases hd
  rfl
def enumG : Nat → List D → List D
  | _, [] => []
  | n, d :: ds => .tuple [.int (n : Int), d] :: enumG (n + 1) ds
theorem enumG_len : ∀ (n : Nat) (ds : List D), (enumG n ds).length = ds.length
  | _, [] => rfl
  | n, d :: ds => by
    show (enumG (n + 1) ds).length + 1 = _
    rw [enumG_len]
    rfl
theorem enumG_get : ∀ (n : Nat) (ds : List D) (i : Nat) (e : D), (enumG n ds)[i]? = some e → ∃ d, ds[i]? = some d ∧ e = .tuple [.int ((n + i : Nat) : Int), d]
  | _, [], i, e, h => by
    have h' : ([] : List D)[i]? = some e := h
    simp at h'
  | n, d :: ds, 0, e, h => by
    have h' : (PyData.tuple [.int (n : Int), d]) = e := by simpa [enumG] using h
    exact ⟨d, rfl, h'.symm⟩
  | n, d :: ds, i + 1, e, h => by
    have h' : (enumG (n + 1) ds)[i]? = some e := by simpa [enumG] using h
    obtain ⟨q, h1, h2⟩ := enumG_get (n + 1) ds i e h'
    refine ⟨q, by simpa using h1, ?_⟩
    rw [h2]
    have : n + 1 + i = n + (i + 1) := by omega
    rw [this]
theorem wk_enum {K : PySem.W.Frag} {B : Hp} {a : Addr} {vs : List V} {ds : List D} (h : SqL K B a vs) (hd : AtL K B ds vs) : Wk K B (Ite K a) (enumG 0 ds) := fun i H e => by
  have hs : SqL K H a vs := Evl.ex_l e h
  have n := atL_len hd
  refine ⟨fun hi => ?_, fun hi => ?_, fun x H' ⟨T, y, e1, nT, e2, q⟩ => ?_⟩
  · rw [enumG_len] at hi
    exact ⟨vs, vs[i]'(by omega), hs, List.getElem?_eq_getElem (by omega)⟩
  · rw [enumG_len] at hi
    exact ⟨vs, hs, by omega⟩
  · subst e1 e2
    refine ⟨Evl.Ex.new nT, fun d hi M' t e2 => ?_⟩
    obtain ⟨f, g1, g2⟩ := enumG_get 0 ds i d hi
    subst g2
    obtain ⟨v, h1, h2⟩ := AtL.get hd g1
    have ev : v = y := Option.some.inj (h1.symm.trans (q vs hs))
    rw [← ev]
    refine ⟨T, _, rfl, SqT.of (hid_of upd_same (t.no nT)), _, _, rfl, ?_, _, _, rfl, At.mono (Evl.Ex.trans e2 (hid_ex (Evl.Ex.new nT))) f v h2, rfl⟩
    show V.int (i : Int) = V.int ((0 + i : Nat) : Int)
    rw [Nat.zero_add]
def zipG : List D → List D → List D
  | d :: ds, e :: es => .tuple [d, e] :: zipG ds es
  | _, _ => []
theorem zipG_len : ∀ (ds es : List D), (zipG ds es).length = min ds.length es.length
  | [], es => by
    show 0 = min 0 es.length
    omega
  | d :: ds, [] => by
    show 0 = min (ds.length + 1) 0
    omega
  | d :: ds, e :: es => by
    show (zipG ds es).length + 1 = min (ds.length + 1) (es.length + 1)
    rw [zipG_len]
    omega
theorem zipG_get : ∀ (ds es : List D) (i : Nat) (f : D), (zipG ds es)[i]? = some f → ∃ d e, ds[i]? = some d ∧ es[i]? = some e ∧ f = .tuple [d, e]
  | [], es, i, f, h => by
    have h' : ([] : List D)[i]? = some f := h
    simp at h'
  | d :: ds, [], i, f, h => by
    have h' : ([] : List D)[i]? = some f := h
    simp at h'
  | d :: ds, e :: es, 0, f, h => by
    have h' : PyData.tuple [d, e] = f := by simpa [zipG] using h
    exact ⟨d, e, rfl, rfl, h'.symm⟩
  | d :: ds, e :: es, i + 1, f, h => by
    obtain ⟨a, b, h1, h2, h3⟩ := zipG_get ds es i f (by simpa [zipG] using h)
    exact ⟨a, b, by simpa using h1, by simpa using h2, h3⟩
theorem wk_zip {K : PySem.W.Frag} {B : Hp} {a b : Addr} {vs ws : List V} {ds es : List D} (h : SqL K B a vs) (hd : AtL K B ds vs) (h' : SqL K B b ws) (hd' : AtL K B es ws) : Wk K B (Itz K a b) (zipG ds es) := fun i H e => by
  have hs : SqL K H a vs := Evl.ex_l e h
  have hs' : SqL K H b ws := Evl.ex_l e h'
  have n := atL_len hd
  have n' := atL_len hd'
  have l := zipG_len ds es
  refine ⟨fun hi => ?_, fun hi => ?_, fun x H' ⟨T, y, z, e1, nT, e2, q, q'⟩ => ?_⟩
  · exact ⟨vs, ws, vs[i]'(by omega), ws[i]'(by omega), hs, hs', List.getElem?_eq_getElem (by omega), List.getElem?_eq_getElem (by omega)⟩
  · exact ⟨vs, ws, hs, hs', by omega⟩
  · subst e1 e2
    refine ⟨Evl.Ex.new nT, fun d hi M' t e2 => ?_⟩
    obtain ⟨f, g, g1, g2, g3⟩ := zipG_get ds es i d hi
    subst g3
    obtain ⟨v, h1, h2⟩ := AtL.get hd g1
    obtain ⟨w, h3, h4⟩ := AtL.get hd' g2
    have t1 : v = y := Option.some.inj (h1.symm.trans (q vs hs))
    have t2 : w = z := Option.some.inj (h3.symm.trans (q' ws hs'))
    rw [← t1, ← t2]
    exact ⟨T, _, rfl, SqT.of (hid_of upd_same (t.no nT)), _, _, rfl, At.mono (Evl.Ex.trans e2 (hid_ex (Evl.Ex.new nT))) f v h2, _, _, rfl, At.mono (Evl.Ex.trans e2 (hid_ex (Evl.Ex.new nT))) g w h4, rfl⟩
/-- a list or a tuple -/
def iSeq (m : Nv → R D) : Nv → R (List D) := fun ε => (m ε).bind fun d => match d with
  | .list ds => .ok ds
  | .tuple ds => .ok ds
  | _ => .bad
def rlim (i : Int) : Bool := decide (-(2 ^ 62) ≤ i) && decide (i < 2 ^ 62)
def iRange1 (m : Nv → R (List D)) : Nv → R (List D) := fun ε => (m ε).bind fun ds => match ds with
  | [.int j] => if rlim j then .ok (rangeD 0 j.toNat) else .bad
  | _ => .bad
def iRange2 (m : Nv → R (List D)) : Nv → R (List D) := fun ε => (m ε).bind fun ds => match ds with
  | [.int i, .int j] => if rlim i && rlim j then .ok (rangeD i (j - i).toNat) else .bad
  | _ => .bad
def iEnu (m : Nv → R (List D)) : Nv → R (List D) := fun ε => (m ε).bind fun ds => match ds with
  | [.list xs] => .ok (enumG 0 xs)
  | _ => .bad
def iZi (m : Nv → R (List D)) : Nv → R (List D) := fun ε => (m ε).bind fun ds => match ds with
  | [.list xs, .list ys] => .ok (zipG xs ys)
  | _ => .bad
variable {l : Expr} {ml : Nv → R D} {ms : Nv → R (List D)} {p pos tpos : Pos}
theorem pi_l (hl : PE X l (rdE c ml)) (hK : c.K = X.K := by rfl) : PI X tg l (rdI c (iSeq ml)) := by
  constructor
  intro pins s σ H Rr I ⟨ε, M, re, ds, hm, q⟩
  obtain ⟨d, h1, h2⟩ := R.bind_ok hm
  apply thn (hl.run pins s σ H (fun v H1 => Ex H H1 ∧ At c.K (hid M H1) d v) I ⟨ε, M, re, d, h1, fun v H' e hv => ⟨e, hv⟩⟩)
  intro u s1 ⟨v, H1, I1, rv, e1, hv⟩
  have fresh : H1 s1.heap.objs.size = none := I1.hok.fresh (Nat.le_refl _)
  have fp : ∀ b ∈ [s1.heap.objs.size], FpOk X pins H1 b := by
    intro b hb
    rw [List.mem_singleton] at hb
    rw [hb]
    exact I1.fpOk (Nat.le_refl _) fresh
  cases d with
  | list xs =>
    cases h2
    obtain ⟨a, vs, ev, g1, g2⟩ := hv
    subst ev
    cases rv
    obtain ⟨its, r2, pl, hz⟩ := I1.list (hK ▸ sql_le g1)
    apply wpAny_pyIter_list pl.isList
    exact ⟨_, _, _, _, H1, rfl, I1.kept (t' := s1.toks) fun b o e => Heap.get?_push_of_some _ e, turn_list a _, ⟨_, Heap.get?_push_size _ rfl, rfl, rfl⟩, fp, q _ H1 e1 (hK ▸ wk_list g1 g2)⟩
  | tuple xs =>
    cases h2
    obtain ⟨a, vs, ev, g1, g2⟩ := hv
    subst ev
    cases rv
    obtain ⟨its, r2, pl, hz⟩ := I1.tuple (hK ▸ sqt_le g1)
    apply wpAny_pyIter_tuple (show s1.heap.IsTuple a its.toArray from pl)
    exact ⟨_, _, _, _, H1, rfl, I1.kept (t' := s1.toks) fun b o e => Heap.get?_push_of_some _ e, turn_tuple a _, ⟨_, Heap.get?_push_size _ rfl, rfl, rfl⟩, fp, q _ H1 e1 (hK ▸ wk_tup g1 g2)⟩
  | _ => cases h2
theorem rlim_iff {i : Int} (h : rlim i = true) : -(2 ^ 62) ≤ i ∧ i < 2 ^ 62 := by
  unfold rlim at h
  rw [Bool.and_eq_true] at h
  exact ⟨of_decide_eq_true h.1, of_decide_eq_true h.2⟩
theorem pi_r1 {a : Expr} (hm : X.mg "range" = none) (ha : PA X [a] (rdA c ms)) (hg : Gl X "range" := by rfl) (hs : starEach [a] X.env = [(false, eval a X.env)] := by rfl) : PI X tg (.Call (.Name "range" p) [a] [] pos) (rdI c (iRange1 ms)) :=
  (pi_range1 hg hm ha hs).wk fun σ H Q ⟨ε, M, re, ds, hm, q⟩ => by
    obtain ⟨as, h1, h2⟩ := R.bind_ok hm
    refine ⟨ε, M, re, as, h1, fun vs H1 e1 hv => ?_⟩
    split at h2
    · split at h2
      · rename_i j g
        cases h2
        obtain ⟨v, ev, w⟩ := at_one hv
        have := rlim_iff g
        exact ⟨j, by rw [ev, show v = _ from w], this.1, this.2, q _ H1 e1 (wk_range 0 _)⟩
      · cases h2
    · cases h2
theorem pi_r2 {a b : Expr} (hm : X.mg "range" = none) (ha : PA X [a, b] (rdA c ms)) (hg : Gl X "range" := by rfl) (hs : starEach [a, b] X.env = [(false, eval a X.env), (false, eval b X.env)] := by rfl) (hs2 : starEach [b] X.env = [(false, eval b X.env)] := by rfl) : PI X tg (.Call (.Name "range" p) [a, b] [] pos) (rdI c (iRange2 ms)) :=
  (pi_range2 hg hm ha hs hs2).wk fun σ H Q ⟨ε, M, re, ds, hm, q⟩ => by
    obtain ⟨as, h1, h2⟩ := R.bind_ok hm
    refine ⟨ε, M, re, as, h1, fun vs H1 e1 hv => ?_⟩
    split at h2
    · split at h2
      · rename_i i j g
        rw [Bool.and_eq_true] at g
        cases h2
        obtain ⟨v, w, ev, g1, g2⟩ := at_two hv
        have a1 := rlim_iff g.1
        have a2 := rlim_iff g.2
        exact ⟨i, j, by rw [ev, show v = _ from g1, show w = _ from g2], ⟨a1.1, a1.2, a2.1, a2.2⟩, q _ H1 e1 (wk_range i _)⟩
      · cases h2
    · cases h2
theorem pi_e {e : Expr} {elts : List Expr} {kk : Nat} (hm : X.mg "enumerate" = none) (ha : PA X [e] (rdA c ms)) (hg : Gl X "enumerate" := by rfl) (hs : starEach [e] X.env = [(false, eval e X.env)] := by rfl) (hK : c.K = X.K := by rfl) :
    PI X (.Tuple elts kk tpos) (.Call (.Name "enumerate" p) [e] [] pos) (rdI c (iEnu ms)) := (pi_enum hg hm ha hs).wk fun σ H Q ⟨ε, M, re, ds, hm, q⟩ => by
    obtain ⟨as, h1, h2⟩ := R.bind_ok hm
    refine ⟨ε, M, re, as, h1, fun vs H1 e1 hv => ?_⟩
    split at h2
    · cases h2
      obtain ⟨v, ev, a, ws, e2, g1, g2⟩ := at_one hv
      exact ⟨a, ws, by rw [ev, e2], hK ▸ sql_le g1, q _ H1 e1 (hK ▸ wk_enum g1 g2)⟩
    · cases h2
theorem pi_z {e e2 : Expr} {elts : List Expr} {kk : Nat} (hm : X.mg "zip" = none) (ha : PA X [e, e2] (rdA c ms)) (hg : Gl X "zip" := by rfl) (hs : starEach [e, e2] X.env = (false, eval e X.env) :: starEach [e2] X.env := by rfl) (hpl : (backTo pos (starEach [e2] X.env)).any (·.1) = false := by rfl) (hK : c.K = X.K := by rfl) :
    PI X (.Tuple elts kk tpos) (.Call (.Name "zip" p) [e, e2] [] pos) (rdI c (iZi ms)) := (pi_zip hg hm ha hs hpl).wk fun σ H Q ⟨ε, M, re, ds, hm, q⟩ => by
    obtain ⟨as, h1, h2⟩ := R.bind_ok hm
    refine ⟨ε, M, re, as, h1, fun vs H1 e1 hv => ?_⟩
    split at h2
    · cases h2
      obtain ⟨v, w, ev, ⟨a, xs, e2, g1, g2⟩, ⟨b, ys, e3, g3, g4⟩⟩ := at_two hv
      exact ⟨a, b, xs, ys, by rw [ev, e2, e3], hK ▸ sql_le g1, hK ▸ sql_le g3, q _ H1 e1 (hK ▸ wk_zip g1 g2 g3 g4)⟩
    · cases h2
end
end Tw
set_option Elab.async false
set_option linter.all false
set_option maxRecDepth 100000
set_option maxHeartbeats 4000000
/-! Tw9: targets, comprehensions -/
namespace Tw
open PySem PySem.Spec PyProof.Rows L2
/-! ### slots wiped -/
theorem wipe_at (σ : L2.St) (i : Nat) : ∀ vs : List Nat, (wipe σ vs)[i]? = if i ∈ vs then (if i < σ.length then some none else none) else σ[i]?
  | [] => by
    rw [if_neg (by simp)]
    rfl
  | v :: vs => by
    show ((wipe σ vs).set v none)[i]? = _
    by_cases e : v = i
    · subst e
      rw [if_pos (by simp)]
      by_cases h : v < σ.length
      · rw [if_pos h, List.getElem?_set_self (by rw [wipe_length]; exact h)]
      · rw [if_neg h]
        exact List.getElem?_eq_none_iff.mpr (by rw [List.length_set, wipe_length]; omega)
    · rw [List.getElem?_set_ne e, wipe_at σ i vs]
      by_cases h : i ∈ vs
      · rw [if_pos h, if_pos (List.mem_cons_of_mem _ h)]
      · rw [if_neg h, if_neg fun z => by
          rcases List.mem_cons.mp z with z | z
          · exact e z.symm
          · exact h z]
theorem wipe_set {σ : L2.St} {j : Nat} {x : Option V} {vs : List Nat} (h : j ∈ vs) : wipe (σ.set j x) vs = wipe σ vs := by
  apply List.ext_getElem?
  intro i
  rw [wipe_at, wipe_at, List.length_set]
  by_cases e : i ∈ vs
  · rw [if_pos e, if_pos e]
  · rw [if_neg e, if_neg e, List.getElem?_set_ne fun z : j = i => e (by rw [← z]; exact h)]
theorem wipe_wipe {σ : L2.St} {vs : List Nat} : wipe (wipe σ vs) vs = wipe σ vs := by
  apply List.ext_getElem?
  intro i
  rw [wipe_at, wipe_length, wipe_at]
  by_cases e : i ∈ vs
  · rw [if_pos e, if_pos e]
  · rw [if_neg e]
section
variable {c : Cf}
theorem Rel.unset {σ : L2.St} {H : Hp} {ε : Nv} {M : List Addr} (r : Rel c σ H ε M) (i : Nat) : Rel c (σ.set i none) H (st ε i .no) M where
  ext := r.ext
  len := by rw [List.length_set, st_len, r.len]
  sub := r.sub
  trk := r.trk
  old := r.old
  im := fun j d h => by
    by_cases q : j = i
    · subst q
      have hl := gt_lt (ε := st ε j .no) (i := j) (by rw [h]; intro z; cases z)
      rw [st_len] at hl
      rw [gt_same hl] at h
      cases h
    · rw [gt_ne q] at h
      obtain ⟨v, h1, h2⟩ := r.im j d h
      exact ⟨v, by rw [List.getElem?_set_ne (Ne.symm q)]; exact h1, h2⟩
  mu := fun j d h => by
    by_cases q : j = i
    · subst q
      have hl := gt_lt (ε := st ε j .no) (i := j) (by rw [h]; intro z; cases z)
      rw [st_len] at hl
      rw [gt_same hl] at h
      cases h
    · rw [gt_ne q] at h
      obtain ⟨a, o, h1, h2⟩ := r.mu j d h
      exact ⟨a, o, by rw [List.getElem?_set_ne (Ne.symm q)]; exact h1, h2⟩
  dis := fun j k d e a b hjk hj hk h1 h2 => by
    by_cases q : j = i
    · subst q
      have hl := gt_lt (ε := st ε j .no) (i := j) (by rw [hj]; intro z; cases z)
      rw [st_len] at hl
      rw [gt_same hl] at hj
      cases hj
    · by_cases q2 : k = i
      · subst q2
        have hl := gt_lt (ε := st ε k .no) (i := k) (by rw [hk]; intro z; cases z)
        rw [st_len] at hl
        rw [gt_same hl] at hk
        cases hk
      · rw [gt_ne q] at hj
        rw [gt_ne q2] at hk
        rw [List.getElem?_set_ne (Ne.symm q)] at h1
        rw [List.getElem?_set_ne (Ne.symm q2)] at h2
        exact r.dis j k d e a b hjk hj hk h1 h2
  new := r.new
  pin := fun j d hj h => by
    by_cases q : j = i
    · subst q
      have hl := gt_lt (ε := st ε j .no) (i := j) (by rw [h]; intro z; cases z)
      rw [st_len] at hl
      rw [gt_same hl] at h
      cases h
    · rw [gt_ne q] at h
      obtain ⟨v, h1, h2⟩ := r.pin j d hj h
      exact ⟨v, by rw [List.getElem?_set_ne (Ne.symm q)]; exact h1, h2⟩
  frs := fun j p d hj h => by
    by_cases q : j = i
    · subst q
      have hl := gt_lt (ε := st ε j .no) (i := j) (by rw [h]; intro z; cases z)
      rw [st_len] at hl
      rw [gt_same hl] at h
      cases h
    · rw [gt_ne q] at h
      obtain ⟨v, h1, h2⟩ := r.frs j p d hj h
      exact ⟨v, by rw [List.getElem?_set_ne (Ne.symm q)]; exact h1, h2⟩
  pnm := fun j d h => by
    by_cases q : j = i
    · subst q
      have hl := gt_lt (ε := st ε j .no) (i := j) (by rw [h]; intro z; cases z)
      rw [st_len] at hl
      rw [gt_same hl] at h
      cases h
    · rw [gt_ne q] at h
      exact r.pnm j d h
def wipeE (ε : Nv) : List Nat → Nv
  | [] => ε
  | v :: vs => st (wipeE ε vs) v .no
theorem Rel.wipe {σ : L2.St} {H : Hp} {ε : Nv} {M : List Addr} (r : Rel c σ H ε M) : ∀ vs : List Nat, Rel c (L2.wipe σ vs) H (wipeE ε vs) M
  | [] => r
  | v :: vs => (Rel.wipe r vs).unset v
/-- one more object that is hidden -/
theorem Rel.add {σ : L2.St} {H H' : Hp} {ε : Nv} {M : List Addr} (r : Rel c σ H ε M) {p : Addr} {o : HO} (n : H p = none) (e : Ex H H') (hp : H' p = some o) : Rel c σ H' ε (p :: M) where
  ext := r.ext.trans e
  len := r.len
  sub := fun a h => List.mem_cons_of_mem _ (r.sub a h)
  trk := fun a h => by
    rcases List.mem_cons.mp h with q | q
    · exact ⟨o, by rw [q]; exact hp⟩
    · obtain ⟨u, q⟩ := r.trk a q
      exact ⟨u, e a u q⟩
  old := r.old
  im := fun i d h => let ⟨v, h1, h2⟩ := r.im i d h; ⟨v, h1, At.mono (hid_new e n) d v h2⟩
  mu := fun i d h => let ⟨a, u, h1, h2, h3, h4, h5⟩ := r.mu i d h; ⟨a, u, h1, List.mem_cons_of_mem _ h2, h3, e a u h4, h5.mono (hid_new e n)⟩
  dis := r.dis
  new := fun a h => by
    rcases List.mem_cons.mp h with q | q
    · refine .inr ?_
      rw [q]
      exact Evl.fresh_back r.ext n
    · exact r.new a q
  pin := r.pin
  frs := fun j q d h1 h2 => let ⟨v, h3, h4⟩ := r.frs j q d h1 h2; ⟨v, h3, h4.mono (Evl.Ex.refl _) (hid_new e n)⟩
  pnm := r.pnm
/-- a hidden object that is no slot's own is changed -/
theorem Rel.updD {σ : L2.St} {H : Hp} {ε : Nv} {M : List Addr} (r : Rel c σ H ε M) {p : Addr} {o : HO} (hp : p ∈ M) (h0 : c.H0 p = none) (hs : ∀ i d, gt ε i = .mu d → σ[i]? ≠ some (some (.ref p))) : Rel c σ (L2.upd H p o) ε M where
  ext := r.ext.mut h0
  len := r.len
  sub := r.sub
  trk := fun a h => by
    by_cases q : a = p
    · exact ⟨o, by rw [q]; exact upd_same⟩
    · obtain ⟨u, w⟩ := r.trk a h
      exact ⟨u, by rw [upd_ne q]; exact w⟩
  old := r.old
  im := fun i d h => by
    rw [hid_upd hp]
    exact r.im i d h
  mu := fun i d h => by
    obtain ⟨a, u, h1, h2, h3, h4, h5⟩ := r.mu i d h
    have ne : a ≠ p := fun z => hs i d h (z ▸ h1)
    exact ⟨a, u, h1, h2, h3, by rw [upd_ne ne]; exact h4, by rw [hid_upd hp]; exact h5⟩
  dis := r.dis
  new := r.new
  pin := r.pin
  frs := fun j q d h1 h2 => by
    rw [hid_upd hp]
    exact r.frs j q d h1 h2
  pnm := r.pnm
/-! ### targets that are names -/
def MuK (σ : L2.St) (ε : Nv) (σ' : L2.St) (ε' : Nv) : Prop := ∀ j d, gt ε' j = .mu d → gt ε j = .mu d ∧ σ'[j]? = σ[j]?
def GOk (c : Cf) (g : TG) (m : D → Nv → R Nv) (js : List Nat) : Prop := ∀ (x : V) (σ : L2.St) (H : Hp) (Q : L2.St → Hp → Prop) (ε : Nv) (M : List Addr) (d : D) (ε' : Nv), Rel c σ H ε M → At c.K (hid M H) d x → m d ε = .ok ε' →
  (∀ σ', Rel c σ' H ε' M → (∀ vs : List Nat, (∀ j, j ∈ js → j ∈ vs) → wipe σ' vs = wipe σ vs) → MuK σ ε σ' ε' → Q σ' H) → g x σ H Q
def GsOk (c : Cf) (g : TGs) (m : List D → Nv → R Nv) (js : List Nat) : Prop := ∀ (xs : List V) (σ : L2.St) (H : Hp) (Q : L2.St → Hp → Prop) (ε : Nv) (M : List Addr) (ds : List D) (ε' : Nv), Rel c σ H ε M → AtL c.K (hid M H) ds xs → m ds ε = .ok ε' →
  (∀ σ', Rel c σ' H ε' M → (∀ vs : List Nat, (∀ j, j ∈ js → j ∈ vs) → wipe σ' vs = wipe σ vs) → MuK σ ε σ' ε' → Q σ' H) → g xs σ H Q
def bN (i : Nat) : D → Nv → R Nv := fun d ε => .ok (st ε i (.im d))
theorem gok_n (i : Nat) (hq : c.op i = true := by rfl) : GOk c (gName i) (bN i) [i] := fun x σ H Q ε M d ε' r h hm q => by
  cases hm
  refine q _ (r.set h hq) (fun vs hv => wipe_set (hv i (List.mem_singleton.mpr rfl))) fun j f hj => ?_
  by_cases e : j = i
  · subst e
    have hl : j < ε.length := by
      have := gt_lt (ε := st ε j (.im d)) (i := j) (by rw [hj]; intro z; cases z)
      rwa [st_len] at this
    rw [gt_same hl] at hj
    cases hj
  · rw [gt_ne e] at hj
    exact ⟨hj, List.getElem?_set_ne (Ne.symm e)⟩
def bs0 : List D → Nv → R Nv := fun ds ε => match ds with
  | [] => .ok ε
  | _ => .bad
def bsC (b : D → Nv → R Nv) (bs : List D → Nv → R Nv) : List D → Nv → R Nv := fun ds ε => match ds with
  | d :: r => (b d ε).bind fun ε1 => bs r ε1
  | [] => .bad
def bT (n : Nat) (bs : List D → Nv → R Nv) : D → Nv → R Nv := fun d ε => match d with
  | .tuple ds => if ds.length = n then bs ds ε else .bad
  | _ => .bad
theorem gsok_0 : GsOk c gNil bs0 [] := fun xs σ H Q ε M ds ε' r h hm q => by
  unfold bs0 at hm
  split at hm
  · cases hm
    exact ⟨h, q σ r (fun _ _ => rfl) fun _ _ hj => ⟨hj, rfl⟩⟩
  · cases hm
theorem gsok_c {g : TG} {gs : TGs} {b : D → Nv → R Nv} {bs : List D → Nv → R Nv} {js ks : List Nat} (h1 : GOk c g b js) (h2 : GsOk c gs bs ks) : GsOk c (gCons g gs) (bsC b bs) (js ++ ks) := fun xs σ H Q ε M ds ε' r h hm q => by
  unfold bsC at hm
  split at hm
  · obtain ⟨v, vs, e, a1, a2⟩ := at_cons h
    obtain ⟨ε1, m1, m2⟩ := R.bind_ok hm
    refine ⟨v, vs, e, h1 v σ H _ ε M _ ε1 r a1 m1 fun σ1 r1 w1 k1 => h2 vs σ1 H Q ε1 M _ ε' r1 a2 m2 fun σ2 r2 w2 k2 => q σ2 r2 (fun ws hw => ?_) fun j f hj => ?_⟩
    · rw [w2 ws fun j hj => hw j (List.mem_append_right _ hj), w1 ws fun j hj => hw j (List.mem_append_left _ hj)]
    · obtain ⟨p1, p2⟩ := k2 j f hj
      obtain ⟨p3, p4⟩ := k1 j f p1
      exact ⟨p3, p2.trans p4⟩
  · cases hm
theorem gok_t {n : Nat} {gs : TGs} {bs : List D → Nv → R Nv} {js : List Nat} (h : GsOk c gs bs js) : GOk c (gTup c.K n gs) (bT n bs) js := fun x σ H Q ε M d ε' r hx hm q => by
  unfold bT at hm
  split at hm
  · split at hm
    · rename_i ds hn
      obtain ⟨a, xs, e, h1, h2⟩ := hx
      exact ⟨a, xs, e, sqt_le h1, by rw [atL_len h2]; exact hn, h xs σ H Q ε M ds ε' r h2 hm q⟩
    · cases hm
  · cases hm
end
/-! ### comprehensions -/
def lcG (g : D → Nv → R Nv) (t : Nv → R Bool) (e : Nv → R D) (ε : Nv) : List D → R (List D)
  | [] => .ok []
  | d :: ds => (g d ε).bind fun ε1 => (t ε1).bind fun k => if k then (e ε1).bind fun y => (lcG g t e ε ds).bind fun ys => .ok (y :: ys) else lcG g t e ε ds
def xLc (vs : List Nat) (mi : Nv → R (List D)) (g : D → Nv → R Nv) (t : Nv → R Bool) (e : Nv → R D) : Nv → R D := fun ε => (mi ε).bind fun ds => (lcG g t e (wipeE ε vs) ds).bind fun ys => if ys.length ≤ lim then .ok (.list ys) else .bad
def tYe : Nv → R Bool := fun _ => .ok true
section
variable {X : Cx} {c : Cf}
theorem tYes_rd : ∀ σ H Q, rdT c tYe σ H Q → tYes σ H Q := fun σ H Q ⟨ε, M, r, b, hm, q⟩ => by
  cases hm
  exact q H (Evl.Ex.refl H)
theorem _root_.L2.PTs.wk {ifs : List Expr} {t t' : TT} (h : PTs X ifs t) (i : ∀ σ H Q, t' σ H Q → t σ H Q) : PTs X ifs t' := ⟨fun pins s σ H Q I q => h.run pins s σ H Q I (i σ H Q q)⟩
theorem pts_y : PTs X [] (rdT c tYe) := pts_nil.wk tYes_rd
theorem mu_ne {σ : L2.St} {H : Hp} {ε : Nv} {M : List Addr} (r : Rel c σ H ε M) {p : Addr} (n : p ∉ M) : ∀ i d, gt ε i = .mu d → σ[i]? ≠ some (some (.ref p)) := fun i d h z => by
  obtain ⟨a, o, h1, h2, _⟩ := r.mu i d h
  rw [z] at h1
  cases h1
  exact n h2
theorem tLc_rd {g : TG} {b : D → Nv → R Nv} {js vs : List Nat} {mi : Nv → R (List D)} {t : Nv → R Bool} {e : Nv → R D} (hg : GOk c g b js) (hj : ∀ j, j ∈ js → j ∈ vs) :
    ∀ σ H Q, rdL c (xLc vs mi b t e) σ H Q → tLc (rdI c mi) g (rdT c t) (rdE c e) vs σ H Q := fun σ H Q ⟨ε, M, re, d, hm, q⟩ => by
  obtain ⟨ds, h1, h2⟩ := R.bind_ok hm
  obtain ⟨ys, h3, h4⟩ := R.bind_ok h2
  split at h4
  · rename_i hz
    cases h4
    refine ⟨ε, M, re, ds, h1, fun J H1 e1 wk D nD => ?_⟩
    have nD0 : H D = none := Evl.fresh_back e1 nD
    have nM : D ∉ M := Trk.no re.trk nD0
    have n0 : c.H0 D = none := Evl.fresh_back re.ext nD0
    -- the invariant: what is made so far, what is left
    refine ⟨fun i m H2 => m = ds.length - i ∧ i ≤ ds.length ∧ ∃ acc rest vs0, lcG b t e (wipeE ε vs) (ds.drop i) = .ok rest ∧ acc ++ rest = ys ∧ H2 D = some (.lst vs0) ∧ AtL c.K (hid (D :: M) H2) acc vs0 ∧ Rel c (wipe σ vs) H2 (wipeE ε vs) (D :: M) ∧ Ex H1 H2,
      ⟨ds.length, by omega, Nat.zero_le _, [], ys, [], h3, rfl, upd_same, rfl, ((re.ex e1).wipe vs).add nD (Evl.Ex.new nD) upd_same, Evl.Ex.new nD⟩, ?_⟩
    rintro i m H2 ⟨rfl, hi, acc, rest, vs0, hl, ha, hD, hA, hR, hE⟩
    have hB : Ex (hid M H1) (hid (D :: M) H2) := hid_new hE nD
    have wi := wk i H2 (Evl.Ex.trans hB hid_le)
    by_cases hlt : i < ds.length
    · refine .inr ⟨wi.1 hlt, fun H' => ∃ acc rest vs0, lcG b t e (wipeE ε vs) (ds.drop (i + 1)) = .ok rest ∧ acc ++ rest = ys ∧ H' D = some (.lst vs0) ∧ AtL c.K (hid (D :: M) H') acc vs0 ∧ Rel c (wipe σ vs) H' (wipeE ε vs) (D :: M) ∧ Ex H1 H', fun H' p => ⟨_, by omega, rfl, hlt, p⟩, fun x H' y => ?_⟩
      obtain ⟨ex, item⟩ := wi.2.2 x H' y
      have hx := item ds[i] (List.getElem?_eq_getElem hlt) (D :: M) hR.trk hB
      rw [List.drop_eq_getElem_cons hlt] at hl
      obtain ⟨ε1, l1, l2⟩ := R.bind_ok hl
      obtain ⟨k, l3, l4⟩ := R.bind_ok l2
      refine hg x (wipe σ vs) H' _ _ (D :: M) ds[i] ε1 (hR.ex ex) hx l1 fun σ2 r2 w2 _ => ⟨by rw [w2 vs hj, wipe_wipe], ε1, D :: M, r2, k, l3, fun H3 e3 => ?_⟩
      have exx := Evl.Ex.trans ex e3
      cases k with
      | false =>
        exact ⟨acc, rest, vs0, l4, ha, exx D _ hD, AtL.mono (hid_ex exx) _ _ hA, hR.ex exx, Evl.Ex.trans hE exx⟩
      | true =>
        obtain ⟨y1, l5, l6⟩ := R.bind_ok l4
        obtain ⟨ys', l7, l8⟩ := R.bind_ok l6
        cases l8
        refine ⟨ε1, D :: M, r2.ex e3, y1, l5, fun v H4 e4 hv => ⟨vs0, e4 D _ (exx D _ hD), ?_, ?_⟩⟩
        · rw [atL_len hA]
          refine lim_lt (Nat.le_trans ?_ hz)
          rw [← ha, List.length_append]
          omega
        · have ex4 := Evl.Ex.trans exx e4
          have hm : D ∈ D :: M := List.mem_cons_self
          refine ⟨acc ++ [y1], ys', vs0 ++ [v], l7, by rw [← ha, List.append_assoc]; rfl, upd_same, ?_, ?_, ?_⟩
          · rw [hid_upd hm]
            exact AtL.app (AtL.mono (hid_ex ex4) _ _ hA) ⟨v, [], rfl, hv, rfl⟩
          · refine (hR.ex ex4).updD hm n0 fun j f hj z => ?_
            obtain ⟨w', o', z1, z2, _⟩ := (re.wipe vs).mu j f hj
            rw [z] at z1
            cases z1
            exact nM z2
          · exact Evl.Ex.mut (Evl.Ex.trans hE ex4) nD
    · have ei : i = ds.length := by omega
      subst ei
      refine .inl ⟨wi.2.1 rfl, ?_⟩
      rw [List.drop_length] at hl
      cases hl
      rw [List.append_nil] at ha
      subst ha
      exact q D _ H2 nD0 (Evl.Ex.trans e1 hE) hD (.inl ⟨vs0, acc, rfl, rfl, hA⟩)
  · cases h4
end
end Tw
set_option Elab.async false
set_option linter.all false
set_option maxRecDepth 100000
set_option maxHeartbeats 4000000
/-! Tw10: statements, defs -/
namespace Tw
open PySem PySem.Spec PyProof.Rows L2
inductive Fl where
  | nx (ε : Nv)
  | rt (d : D)
  | bk (ε : Nv)
  | ct (ε : Nv)
  | xx (ε : Nv) (k : Nat) (a : D)
def RtOk (c : Cf) (Q : VK) (d : D) : Prop := match c.fr with
  | true => ∀ p o H', c.H0 p = none → Ex c.H0 H' → H' p = some o → Own c.K (hid (p :: c.M0) H') o d → Q (.ref p) H'
  | false => ∀ v H', Ex c.H0 H' → At c.K (hid c.M0 H') d v → (∀ p, c.rp = some p → Fresh c.K c.H0 (hid c.M0 H') p d v) → Q v H'
def Fin (c : Cf) (W : WX) (E : Ends) (B : Hp) : R Fl → Prop
  | .ok (.nx ε) => ∀ σ H M, Rel c σ H ε M → Ex B (hid M H) → E.nx σ H
  | .ok (.rt d) => RtOk c E.rt d
  | .ok (.bk ε) => ∀ σ H M, Rel c σ H ε M → Ex B (hid M H) → E.bk σ H
  | .ok (.ct ε) => ∀ σ H M, Rel c σ H ε M → Ex B (hid M H) → E.ct σ H
  | .ok (.xx ε k a) => flat a = true ∧ ∀ σ H M C dx v, c.cl k = some C → Rel c σ H ε M → Ex B (hid M H) → hid M H dx = some (.xd [("at", v)]) → At c.K H a v → W (.ref C) (some dx) σ H
  | _ => False
def rdS (c : Cf) (W : WX) (m : Nv → R Fl) : TS := fun E σ H => ∃ ε M, Rel c σ H ε M ∧ Fin c W E (hid M H) (m ε)
theorem Fin.mono {c : Cf} {W : WX} {E : Ends} {B B' : Hp} (e : Ex B B') : ∀ {r : R Fl}, Fin c W E B r → Fin c W E B' r
  | .ok (.nx _), h => fun σ H M r x => h σ H M r (Evl.Ex.trans e x)
  | .ok (.rt _), h => h
  | .ok (.bk _), h => fun σ H M r x => h σ H M r (Evl.Ex.trans e x)
  | .ok (.ct _), h => fun σ H M r x => h σ H M r (Evl.Ex.trans e x)
  | .ok (.xx _ _ _), h => ⟨h.1, fun σ H M C dx v hc r x => h.2 σ H M C dx v hc r (Evl.Ex.trans e x)⟩
  | .ex _ _, h => h
  | .bad, h => h
section
variable {X : Cx} {c : Cf} {W : WX}
/-! ### one behind the other -/
def sSeq (m n : Nv → R Fl) : Nv → R Fl := fun ε => match m ε with
  | .ok (.nx ε') => n ε'
  | r => r
def sNil : Nv → R Fl := fun ε => .ok (.nx ε)
variable {s : Stmt} {r : List Stmt} {m n : Nv → R Fl}
theorem ss_nil : PSs X [] (rdS c W sNil) := pss_nil.wk fun E σ H ⟨ε, M, re, f⟩ => f σ H M re (Evl.Ex.refl _)
theorem tSeq_rd : ∀ E σ H, rdS c W (sSeq m n) E σ H → tSeq (rdS c W m) (rdS c W n) E σ H := fun E σ H ⟨ε, M, re, f⟩ => by
  refine ⟨ε, M, re, ?_⟩
  unfold sSeq at f
  cases q : m ε with
  | bad =>
    rw [q] at f
    exact f
  | ex a b =>
    rw [q] at f
    exact f
  | ok fl =>
    rw [q] at f
    cases fl with
    | nx ε' => exact fun σ' H' M' r' e' => ⟨ε', M', r', Fin.mono e' f⟩
    | rt d => exact f
    | bk ε' => exact f
    | ct ε' => exact f
    | xx ε' k a => exact f
theorem ss_c (h1 : PS X s (rdS c W m)) (h2 : PSs X r (rdS c W n)) : PSs X (s :: r) (rdS c W (sSeq m n)) := (pss_cons h1 h2).wk tSeq_rd
theorem ss_1 (h1 : PS X s (rdS c W m)) : PSs X [s] (rdS c W m) := pss_one h1
/-- one's own object is data from here on -/
def sFz (i : Nat) : Nv → R Fl := fun ε => match gt ε i with
  | .mu d => .ok (.nx (st ε i (.im d)))
  | .im _ => .ok (.nx ε)
  | .no => .bad
theorem ss_fz (i : Nat) (h : PSs X r (rdS c W n)) (hq : c.op i = true := by rfl) : PSs X r (rdS c W (sSeq (sFz i) n)) := h.wk fun E σ H ⟨ε, M, re, f⟩ => by
  unfold sSeq sFz at f
  cases g : gt ε i with
  | no =>
    rw [g] at f
    exact f.elim
  | im d =>
    rw [g] at f
    exact ⟨ε, M, re, f⟩
  | mu d =>
    rw [g] at f
    obtain ⟨M', sub, r'⟩ := re.frz g hq
    exact ⟨_, M', r', Fin.mono (hid_sub sub) f⟩
/-! ### simple statements -/
variable {e : Expr} {me : Nv → R D} {pos : Pos}
theorem ps_ps : PS X (.Pass pos) (rdS c W sNil) := ps_pass.wk fun E σ H ⟨ε, M, re, f⟩ => f σ H M re (Evl.Ex.refl _)
def sBk : Nv → R Fl := fun ε => .ok (.bk ε)
def sCt : Nv → R Fl := fun ε => .ok (.ct ε)
theorem ps_bk : PS X (.Break pos) (rdS c W sBk) := ps_break.wk fun E σ H ⟨ε, M, re, f⟩ => f σ H M re (Evl.Ex.refl _)
theorem ps_ct : PS X (.Continue pos) (rdS c W sCt) := ps_continue.wk fun E σ H ⟨ε, M, re, f⟩ => f σ H M re (Evl.Ex.refl _)
/-- a statement that is never reached -/
def sNo : Nv → R Fl := fun _ => .bad
theorem ps_no : PS X s (rdS c W sNo) := (ps_never (st := s)).wk fun E σ H ⟨ε, M, re, f⟩ => f
def sDr (me : Nv → R D) : Nv → R Fl := fun ε => (me ε).bind fun _ => .ok (.nx ε)
theorem ps_dr (h : PE X e (rdE c me)) (hs : swapsWith e none pos.line X.env = pure false := by rfl) : PS X (.Expr e pos) (rdS c W (sDr me)) := (ps_expr h hs).wk fun E σ H ⟨ε, M, re, f⟩ => by
  unfold sDr at f
  cases q : me ε with
  | bad => rw [q] at f; exact f.elim
  | ex a b => rw [q] at f; exact f.elim
  | ok d =>
    rw [q] at f
    exact ⟨ε, M, re, d, q, fun v H' e' _ => f σ H' M (re.ex e') (hid_ex e')⟩
def sRt (me : Nv → R D) : Nv → R Fl := fun ε => (me ε).bind fun d => .ok (.rt d)
theorem ps_rt (hf : c.fr = false) (h : PE X e (rdE c me)) (hrp : c.rp = none := by rfl) : PS X (.Return (some e) pos) (rdS c W (sRt me)) := (ps_ret h).wk fun E σ H ⟨ε, M, re, f⟩ => by
  unfold sRt at f
  cases q : me ε with
  | bad => rw [q] at f; exact f.elim
  | ex a b => rw [q] at f; exact f.elim
  | ok d =>
    rw [q] at f
    have f' : RtOk c E.rt d := f
    unfold RtOk at f'
    rw [hf] at f'
    exact ⟨ε, M, re, d, q, fun v H' e' hv => f' v H' (re.ext.trans e') (At.mono (hid_sub re.sub) d v hv) fun p hp => by rw [hrp] at hp; cases hp⟩
/-- a new object is handed back -/
theorem ps_rtL (hf : c.fr = true) (h : PE X e (rdL c me)) : PS X (.Return (some e) pos) (rdS c W (sRt me)) := (ps_ret h).wk fun E σ H ⟨ε, M, re, f⟩ => by
  unfold sRt at f
  cases q : me ε with
  | bad => rw [q] at f; exact f.elim
  | ex a b => rw [q] at f; exact f.elim
  | ok d =>
    rw [q] at f
    have f' : RtOk c E.rt d := f
    unfold RtOk at f'
    rw [hf] at f'
    refine ⟨ε, M, re, d, q, fun p o H' n e' hp ho => f' p o H' (Evl.fresh_back re.ext n) (re.ext.trans e') hp (ho.mono (hid_sub fun a ha => ?_))⟩
    rcases List.mem_cons.mp ha with z | z
    · rw [z]
      exact List.mem_cons_self
    · exact List.mem_cons_of_mem _ (re.sub a z)
theorem own_fresh {K : PySem.W.Frag} {H0 H : Hp} {M M0 : List Addr} {a : Addr} {o : HO} {d : D} (h : Own K (hid M H) o d) (h4 : H a = some o) (n : a ∉ M0) (sub : ∀ b, b ∈ M0 → b ∈ M) (h0 : H0 a = none) : Fresh K H0 (hid M0 H) .top d (.ref a) := by
  cases d with
  | list ds =>
    rcases h with ⟨vs, ds', e1, e2, h⟩ | ⟨kvs, es, e1, e2, h⟩ | ⟨kvs, es, e1, e2, h⟩ | ⟨S, m, xs, e1, e2, h⟩
    · cases e2
      subst e1
      exact ⟨a, vs, rfl, hid_of h4 n, AtL.mono (hid_sub sub) _ _ h, h0⟩
    · cases e2
    · cases e2
    · cases e2
  | _ => trivial
/-- one's own object is handed back, by its name -/
def sRtM (i : Nat) : Nv → R Fl := fun ε => match gt ε i with
  | .mu d => .ok (.rt d)
  | _ => .bad
theorem ps_rtM {i : Nat} (h : PE X e (tVar i)) (hrp : c.rp = none ∨ c.rp = some .top := by first | exact .inl rfl | exact .inr rfl) : PS X (.Return (some e) pos) (rdS c W (sRtM i)) := (ps_ret h).wk fun E σ H ⟨ε, M, re, f⟩ => by
  unfold sRtM at f
  cases g : gt ε i with
  | no => rw [g] at f; exact f.elim
  | im d => rw [g] at f; exact f.elim
  | mu d =>
    rw [g] at f
    obtain ⟨a, o, h1, h2, h3, h4, h5⟩ := re.mu i d g
    refine ⟨.ref a, h1, ?_⟩
    have f' : RtOk c E.rt d := f
    unfold RtOk at f'
    cases q : c.fr with
    | true =>
      rw [q] at f'
      refine f' a o H h3 re.ext h4 (h5.mono (hid_sub fun b hb => ?_))
      rcases List.mem_cons.mp hb with z | z
      · rw [z]
        exact h2
      · exact re.sub b z
    | false =>
      rw [q] at f'
      refine f' (.ref a) H re.ext (Own.at (hid_of h4 fun z => re.old a z h3) (h5.mono (hid_sub re.sub))) fun p hp => ?_
      rcases hrp with z | z
      · rw [z] at hp
        cases hp
      · rw [z] at hp
        cases hp
        exact own_fresh h5 h4 (fun z => re.old a z h3) re.sub h3
def sRt0 : Nv → R Fl := fun _ => .ok (.rt .none)
theorem ps_rt0 (hf : c.fr = false) : PS X (.Return none pos) (rdS c W sRt0) := ps_retN.wk fun E σ H ⟨ε, M, re, f⟩ => by
  have f' : RtOk c E.rt .none := f
  unfold RtOk at f'
  rw [hf] at f'
  exact f' .non H re.ext rfl fun p _ => by cases p <;> trivial
/-! ### if -/
def sIf (t : Nv → R Bool) (m n : Nv → R Fl) : Nv → R Fl := fun ε => (t ε).bind fun k => if k then m ε else n ε
theorem ps_i {cd : Expr} {a b : List Stmt} {t : Nv → R Bool} (hc : PT X cd (rdT c t)) (ha : PSs X a (rdS c W m)) (hb : PSs X b (rdS c W n)) : PS X (.If cd a b pos) (rdS c W (sIf t m n)) := (ps_if hc ha hb).wk fun E σ H ⟨ε, M, re, f⟩ => by
  unfold sIf at f
  cases q : t ε with
  | bad => rw [q] at f; exact f.elim
  | ex x y => rw [q] at f; exact f.elim
  | ok k =>
    rw [q] at f
    refine ⟨ε, M, re, k, q, fun H' e' => ?_⟩
    cases k with
    | true => exact ⟨ε, M, re.ex e', Fin.mono (hid_ex e') f⟩
    | false => exact ⟨ε, M, re.ex e', Fin.mono (hid_ex e') f⟩
/-! ### assignments -/
def sAs (i : Nat) (me : Nv → R D) : Nv → R Fl := fun ε => (me ε).bind fun d => .ok (.nx (st ε i (.im d)))
def sAsM (i : Nat) (me : Nv → R D) : Nv → R Fl := fun ε => (me ε).bind fun d => .ok (.nx (st ε i (.mu d)))
theorem tAsg_rd {i : Nat} (hq : c.op i = true := by rfl) : ∀ E σ H, rdS c W (sAs i me) E σ H → tAsg (rdE c me) (gName i) E σ H := fun E σ H ⟨ε, M, re, f⟩ => by
  unfold sAs at f
  cases q : me ε with
  | bad => rw [q] at f; exact f.elim
  | ex a b => rw [q] at f; exact f.elim
  | ok d =>
    rw [q] at f
    exact ⟨ε, M, re, d, q, fun v H' e' hv => f _ H' M ((re.ex e').set hv hq) (hid_ex e')⟩
theorem tAsg_rdL {i : Nat} (hq : c.op i = true := by rfl) : ∀ E σ H, rdS c W (sAs i me) E σ H → tAsg (rdL c me) (gName i) E σ H := fun E σ H ⟨ε, M, re, f⟩ => by
  unfold sAs at f
  cases q : me ε with
  | bad => rw [q] at f; exact f.elim
  | ex a b => rw [q] at f; exact f.elim
  | ok d =>
    rw [q] at f
    exact ⟨ε, M, re, d, q, fun p o H' n e' hp ho => f _ H' M ((re.ex e').set (own_new re.trk n hp ho) hq) (hid_ex e')⟩
theorem tAsg_rdM {i : Nat} (hq : c.op i = true := by rfl) : ∀ E σ H, rdS c W (sAsM i me) E σ H → tAsg (rdL c me) (gName i) E σ H := fun E σ H ⟨ε, M, re, f⟩ => by
  unfold sAsM at f
  cases q : me ε with
  | bad => rw [q] at f; exact f.elim
  | ex a b => rw [q] at f; exact f.elim
  | ok d =>
    rw [q] at f
    exact ⟨ε, M, re, d, q, fun p o H' n e' hp ho => f _ H' (p :: M) (re.setMu n e' hp ho hq) (hid_new e' n)⟩
variable {x : Str} {px : Pos}
theorem ps_as {i : Nat} (hN : X.N.Nodup) (he : PE X e (rdE c me)) (hi : X.N[i]? = some x := by rfl) (hx : Loc X.env.scope x := by first | exact Or.inl rfl | exact Or.inr rfl) (hs : swapsWith e (some (.Name x px)) pos.line X.env = pure false := by rfl)
    (hf : X.fn x = true ∨ X.env.scope.names.lookup x = some .local := by first | exact .inl rfl | exact .inr rfl) (hq : c.op i = true := by rfl) : PS X (.Assign [.Name x px] e pos) (rdS c W (sAs i me)) := (ps_set hN hi hx he hs hf).wk (tAsg_rd hq)
theorem ps_asM {i : Nat} (hN : X.N.Nodup) (he : PE X e (rdL c me)) (hi : X.N[i]? = some x := by rfl) (hx : Loc X.env.scope x := by first | exact Or.inl rfl | exact Or.inr rfl) (hs : swapsWith e (some (.Name x px)) pos.line X.env = pure false := by rfl)
    (hf : X.fn x = true ∨ X.env.scope.names.lookup x = some .local := by first | exact .inl rfl | exact .inr rfl) (hq : c.op i = true := by rfl) : PS X (.Assign [.Name x px] e pos) (rdS c W (sAsM i me)) := (ps_set hN hi hx he hs hf).wk (tAsg_rdM hq)
/-- several names from one tuple -/
def sUn (me : Nv → R D) (b : D → Nv → R Nv) : Nv → R Fl := fun ε => (me ε).bind fun d => (b d ε).bind fun ε' => .ok (.nx ε')
theorem ps_un {g : TG} {b : D → Nv → R Nv} {js : List Nat} (h : PS X s (tAsg (rdE c me) g)) (gk : GOk c g b js) : PS X s (rdS c W (sUn me b)) :=
  h.wk fun E σ H ⟨ε, M, re, f⟩ => by
    unfold sUn at f
    cases q : me ε with
    | bad => rw [q] at f; exact f.elim
    | ex x y => rw [q] at f; exact f.elim
    | ok d =>
      rw [q] at f
      refine ⟨ε, M, re, d, q, fun v H' e' hv => ?_⟩
      cases q2 : b d ε with
      | bad => simp only [R.bind, q2] at f; exact f.elim
      | ex x y => simp only [R.bind, q2] at f; exact f.elim
      | ok ε' =>
        simp only [R.bind, q2] at f
        exact gk v σ H' _ ε M d ε' (re.ex e') hv q2 fun σ' r' _ _ => f σ' H' M r' (hid_ex e')
/-- a, b = e, f -/
def sPr (i j : Nat) (ms : Nv → R (List D)) : Nv → R Fl := fun ε => (ms ε).bind fun ds => match ds with
  | [a, b] => .ok (.nx (st (st ε i (.im a)) j (.im b)))
  | _ => .bad
theorem ps_pr {i j : Nat} {x y : Str} {a b : Expr} {px py pt : Pos} {kt k2 pt2} {ms : Nv → R (List D)} (hc : X.calm = true) (hN : X.N.Nodup) (ha : PA X [a, b] (rdA c ms)) (hi : X.N[i]? = some x := by rfl) (hj : X.N[j]? = some y := by rfl) (hij : i ≠ j := by decide)
    (hx : X.env.scope.names.lookup x = some .local := by rfl) (hy : X.env.scope.names.lookup y = some .local := by rfl)
    (hw : swappedStores [.Tuple [.Name x px, .Name y py] kt pt] (.Tuple [a, b] k2 pt2) X.env = pure (some [x, y]) := by rfl) (hs : swapsWithSole [.Tuple [.Name x px, .Name y py] kt pt] (.Tuple [a, b] k2 pt2) pos.line X.env = pure false := by rfl) (hq : c.op i = true := by rfl) (hq2 : c.op j = true := by rfl) :
    PS X (.Assign [.Tuple [.Name x px, .Name y py] kt pt] (.Tuple [a, b] k2 pt2) pos) (rdS c W (sPr i j ms)) := (ps_par hc hN hi hj hij hx hy ha hw hs).wk fun E σ H ⟨ε, M, re, f⟩ => by
  unfold sPr at f
  cases q : ms ε with
  | bad => rw [q] at f; exact f.elim
  | ex x y => rw [q] at f; exact f.elim
  | ok ds =>
    rw [q] at f
    refine ⟨ε, M, re, ds, q, fun vs H' e' hv => ?_⟩
    match ds, f, hv with
    | [d1, d2], f, hv =>
      obtain ⟨v, w, ev, h1, h2⟩ := at_two hv
      exact ⟨v, w, ev, f _ H' M (((re.ex e').set h1 hq).set h2 hq2) (hid_ex e')⟩
    | [], f, hv => exact f.elim
    | [_], f, hv => exact f.elim
    | _ :: _ :: _ :: _, f, hv => exact f.elim
/-- x += e -/
def sAu (f : D → D → R D) (i : Nat) (me : Nv → R D) : Nv → R Fl := fun ε => match gt ε i with
  | .im a => (me ε).bind fun b => (f a b).bind fun d => .ok (.nx (st ε i (.im d)))
  | _ => .bad
/-! ### one's own list -/
def sAp (i : Nat) (me : Nv → R D) : Nv → R Fl := fun ε => (me ε).bind fun d => match gt ε i with
  | .mu (.list ds) => if ds.length < lim then .ok (.nx (st ε i (.mu (.list (ds ++ [d]))))) else .bad
  | _ => .bad
theorem own_list {K : PySem.W.Frag} {H : Hp} {o : HO} {ds : List D} (h : Own K H o (.list ds)) : ∃ vs, o = .lst vs ∧ AtL K H ds vs := by
  rcases h with ⟨vs, ds', h1, h2, h3⟩ | ⟨kvs, es, h1, h2, h3⟩ | ⟨kvs, es, h1, h2, h3⟩ | ⟨S, n, xs, h1, h2, h3⟩
  · cases h2
    exact ⟨vs, h1, h3⟩
  · cases h2
  · cases h2
  · cases h2
theorem ps_ap {i : Nat} (h : PS X s (tDrop (tBM X.K "list" rAppend (tVar i) (tCons (rdE c me) tNil)))) : PS X s (rdS c W (sAp i me)) :=
  h.wk fun E σ H ⟨ε, M, re, f⟩ => by
    unfold sAp at f
    cases q : me ε with
    | bad => rw [q] at f; exact f.elim
    | ex x y => rw [q] at f; exact f.elim
    | ok d =>
      rw [q] at f
      simp only [R.bind] at f
      split at f
      · rename_i ds g
        split at f
        · rename_i hz
          obtain ⟨a, o, h1, h2, h3, h4, h5⟩ := re.mu i _ g
          obtain ⟨vs, eo, hl⟩ := own_list h5
          subst eo
          refine ⟨.ref a, h1, .inl ⟨rfl, vs, SqL.of h4⟩, ε, M, re, d, q, fun v H' e' hv => ⟨a, vs, v, rfl, rfl, e' a _ h4, ?_, ?_⟩⟩
          · rw [atL_len hl]
            exact lim_lt (Nat.le_of_lt hz)
          · refine f _ _ M ((re.ex e').upd g h1 (.inl ⟨_, _, rfl, rfl, AtL.app (AtL.mono (hid_ex e') _ _ hl) ⟨v, [], rfl, hv, rfl⟩⟩)) ?_
            rw [hid_upd h2]
            exact hid_ex e'
        · exact f.elim
      · exact f.elim
/-- x[i] = e of one's own list -/
def sSt (j : Nat) (mi me : Nv → R D) : Nv → R Fl := fun ε => (me ε).bind fun d => (mi ε).bind fun k => match gt ε j, k with
  | .mu (.list ds), .int z => match ixN ds.length z with
    | some n => .ok (.nx (st ε j (.mu (.list (ds.set n d)))))
    | none => .bad
  | _, _ => .bad
theorem gSub_rd {j : Nat} {σ : L2.St} {H : Hp} {ε : Nv} {M : List Addr} {mi : Nv → R D} {v : V} {d : D} {k : D} {ds : List D} {z : Int} {n : Nat} {Q : L2.St → Hp → Prop} (re : Rel c σ H ε M) (hv : At c.K (hid M H) d v) (hk : mi ε = .ok (.int z)) (g : gt ε j = .mu (.list ds)) (hn : ixN ds.length z = some n)
    (q : ∀ H', Rel c σ H' (st ε j (.mu (.list (ds.set n d)))) M → Ex (hid M H) (hid M H') → Q σ H') : gSub (tVar j) (rdE c mi) rSetL v σ H Q := by
  obtain ⟨a, o, h1, h2, h3, h4, h5⟩ := re.mu j _ g
  obtain ⟨vs, eo, hl⟩ := own_list h5
  subst eo
  refine ⟨.ref a, h1, ε, M, re, _, hk, fun u H' e' hu => ⟨a, vs, z, n, rfl, hu, e' a _ h4, by rw [atL_len hl]; exact hn, ?_⟩⟩
  refine q _ ((re.ex e').upd g h1 (.inl ⟨_, _, rfl, rfl, AtL.set (At.mono (hid_ex e') _ _ hv) n (AtL.mono (hid_ex e') _ _ hl)⟩)) ?_
  rw [hid_upd h2]
  exact hid_ex e'
theorem ps_st {j : Nat} {mi : Nv → R D} (h : PS X s (tAsg (rdE c me) (gSub (tVar j) (rdE c mi) rSetL))) : PS X s (rdS c W (sSt j mi me)) := h.wk fun E σ H ⟨ε, M, re, f⟩ => by
  unfold sSt at f
  cases q : me ε with
  | bad => rw [q] at f; exact f.elim
  | ex x y => rw [q] at f; exact f.elim
  | ok d =>
    rw [q] at f
    cases q2 : mi ε with
    | bad => simp only [R.bind, q2] at f; exact f.elim
    | ex x y => simp only [R.bind, q2] at f; exact f.elim
    | ok k =>
      simp only [R.bind, q2] at f
      split at f
      · rename_i ds z g
        split at f
        · rename_i n hn
          exact ⟨ε, M, re, d, q, fun v H' e' hv => gSub_rd (k := .int z) (re.ex e') hv q2 g hn fun H2 r2 e2 => f _ H2 M r2 (Evl.Ex.trans (hid_ex e') e2)⟩
        · exact f.elim
      · exact f.elim
/-! ### loops -/
def forG (g : D → Nv → R Nv) (b : Nv → R Fl) : List D → Nv → R Fl
  | [], ε => .ok (.nx ε)
  | d :: ds, ε => (g d ε).bind fun ε1 => match b ε1 with
    | .ok (.nx ε2) => forG g b ds ε2
    | .ok (.ct ε2) => forG g b ds ε2
    | .ok (.bk ε2) => .ok (.nx ε2)
    | r => r
def sFor (mi : Nv → R (List D)) (g : D → Nv → R Nv) (b : Nv → R Fl) : Nv → R Fl := fun ε => (mi ε).bind fun ds => forG g b ds ε
theorem ps_fr {tg it : Expr} {body : List Stmt} {g : TG} {b : D → Nv → R Nv} {js : List Nat} {mi : Nv → R (List D)} {mb : Nv → R Fl} (hp : PassesOwn (model X.prog X.w) X.A X.env X.xe) (hc : X.calm = true) (hi : PI X tg it (rdI c mi)) (hg : PG X tg g) (gk : GOk c g b js) (hb : PSs X body (rdS c W mb))
    (hset : ∀ x, foldedSetIterable it X.env x = pure x := by intro _; rfl) :
    PS X (.For tg it body [] pos) (rdS c W (sFor mi b mb)) := (ps_for hp hc hi hg hb hset).wk fun E σ H ⟨ε, M, re, f⟩ => by
  unfold sFor at f
  cases q : mi ε with
  | bad => rw [q] at f; exact f.elim
  | ex x y => rw [q] at f; exact f.elim
  | ok ds =>
    rw [q] at f
    simp only [R.bind] at f
    refine ⟨ε, M, re, ds, q, fun J H1 e1 wk => ?_⟩
    refine ⟨fun i m σ2 H2 => m = ds.length - i ∧ i ≤ ds.length ∧ ∃ ε2 M2, Rel c σ2 H2 ε2 M2 ∧ Ex (hid M H1) (hid M2 H2) ∧ Fin c W E (hid M2 H2) (forG b mb (ds.drop i) ε2), ⟨ds.length, by omega, Nat.zero_le _, ε, M, re.ex e1, Evl.Ex.refl _, Fin.mono (hid_ex e1) f⟩, ?_⟩
    rintro i m σ2 H2 ⟨rfl, hi, ε2, M2, r2, hB, f2⟩
    have wi := wk i H2 (Evl.Ex.trans hB hid_le)
    by_cases hlt : i < ds.length
    · refine .inr ⟨wi.1 hlt, fun σ3 H3 => ∃ ε3 M3, Rel c σ3 H3 ε3 M3 ∧ Ex (hid M H1) (hid M3 H3) ∧ Fin c W E (hid M3 H3) (forG b mb (ds.drop (i + 1)) ε3), fun σ' H' p => ⟨_, by omega, rfl, hlt, p⟩, fun x H' y => ?_⟩
      obtain ⟨ex, item⟩ := wi.2.2 x H' y
      have hx := item ds[i] (List.getElem?_eq_getElem hlt) M2 r2.trk hB
      rw [List.drop_eq_getElem_cons hlt] at f2
      unfold forG at f2
      cases q2 : b ds[i] ε2 with
      | bad => rw [q2] at f2; exact f2.elim
      | ex x y => rw [q2] at f2; exact f2.elim
      | ok ε3 =>
        rw [q2] at f2
        simp only [R.bind] at f2
        refine gk x σ2 H' _ ε2 M2 ds[i] ε3 (r2.ex ex) hx q2 fun σ3 r3 _ _ => ⟨ε3, M2, r3, ?_⟩
        cases q3 : mb ε3 with
        | bad => rw [q3] at f2; exact f2.elim
        | ex x y => rw [q3] at f2; exact f2.elim
        | ok fl =>
          rw [q3] at f2
          cases fl with
          | nx ε4 => exact fun σ4 H4 M4 r4 e4 => ⟨ε4, M4, r4, Evl.Ex.trans hB (Evl.Ex.trans (hid_ex ex) e4), Fin.mono (Evl.Ex.trans (hid_ex ex) e4) f2⟩
          | ct ε4 => exact fun σ4 H4 M4 r4 e4 => ⟨ε4, M4, r4, Evl.Ex.trans hB (Evl.Ex.trans (hid_ex ex) e4), Fin.mono (Evl.Ex.trans (hid_ex ex) e4) f2⟩
          | bk ε4 => exact fun σ4 H4 M4 r4 e4 => f2 σ4 H4 M4 r4 (Evl.Ex.trans (hid_ex ex) e4)
          | rt d => exact f2
          | xx ε4 k a => exact ⟨f2.1, fun σ5 H5 M5 C5 dx v h1 h2 h3 h4 h5 => f2.2 σ5 H5 M5 C5 dx v h1 h2 (Evl.Ex.trans (hid_ex ex) h3) h4 h5⟩
    · have ei : i = ds.length := by omega
      subst ei
      rw [List.drop_length] at f2
      exact .inl ⟨wi.2.1 rfl, f2 σ2 H2 M2 r2 (Evl.Ex.refl _)⟩
def whG (t : Nv → R Bool) (b : Nv → R Fl) : Nat → Nv → R Fl
  | 0, _ => .bad
  | n + 1, ε => (t ε).bind fun k => if k then (match b ε with
    | .ok (.nx ε2) => whG t b n ε2
    | .ok (.ct ε2) => whG t b n ε2
    | .ok (.bk ε2) => .ok (.nx ε2)
    | r => r) else .ok (.nx ε)
def sWh (n : Nat) (t : Nv → R Bool) (b : Nv → R Fl) : Nv → R Fl := whG t b n
theorem ps_wh {cd : Expr} {body : List Stmt} {t : Nv → R Bool} {mb : Nv → R Fl} (n : Nat) (hp : PassesOwn (model X.prog X.w) X.A X.env X.xe) (hc : PT X cd (rdT c t)) (hb : PSs X body (rdS c W mb)) : PS X (.While cd body [] pos) (rdS c W (sWh n t mb)) := (ps_while hp hc hb).wk fun E σ H ⟨ε, M, re, f⟩ => by
  refine ⟨fun m σ2 H2 => ∃ ε2 M2, Rel c σ2 H2 ε2 M2 ∧ Fin c W E (hid M2 H2) (whG t mb m ε2), ⟨n, ε, M, re, f⟩, ?_⟩
  rintro m σ2 H2 ⟨ε2, M2, r2, f2⟩
  cases m with
  | zero => exact f2.elim
  | succ m =>
    unfold whG at f2
    cases q : t ε2 with
    | bad => rw [q] at f2; exact f2.elim
    | ex x y => rw [q] at f2; exact f2.elim
    | ok k =>
      rw [q] at f2
      simp only [R.bind] at f2
      refine ⟨ε2, M2, r2, k, q, fun H3 e3 => ?_⟩
      cases k with
      | false => exact f2 σ2 H3 M2 (r2.ex e3) (hid_ex e3)
      | true =>
        rw [if_pos rfl] at f2
        refine ⟨fun σ4 H4 => ∃ ε4 M4, Rel c σ4 H4 ε4 M4 ∧ Fin c W E (hid M4 H4) (whG t mb m ε4), fun σ' H' p => ⟨m, Nat.lt_succ_self _, p⟩, ε2, M2, r2.ex e3, ?_⟩
        cases q3 : mb ε2 with
        | bad => rw [q3] at f2; exact f2.elim
        | ex x y => rw [q3] at f2; exact f2.elim
        | ok fl =>
          rw [q3] at f2
          cases fl with
          | nx ε4 => exact fun σ4 H4 M4 r4 e4 => ⟨ε4, M4, r4, Fin.mono (Evl.Ex.trans (hid_ex e3) e4) f2⟩
          | ct ε4 => exact fun σ4 H4 M4 r4 e4 => ⟨ε4, M4, r4, Fin.mono (Evl.Ex.trans (hid_ex e3) e4) f2⟩
          | bk ε4 => exact fun σ4 H4 M4 r4 e4 => f2 σ4 H4 M4 r4 (Evl.Ex.trans (hid_ex e3) e4)
          | rt d => exact f2
          | xx ε4 k a => exact ⟨f2.1, fun σ5 H5 M5 C5 dx v h1 h2 h3 h4 h5 => f2.2 σ5 H5 M5 C5 dx v h1 h2 (Evl.Ex.trans (hid_ex e3) h3) h4 h5⟩
end
/-! ### comprehensions of the text -/
section
variable {X : Cx} {c : Cf} {W : WX} {elt tg iter : Expr} {ifs : List Expr} {scope : Scope} {own : List (Str × Nat)} {pos spos py : Pos} {g : TG} {b : D → Nv → R Nv} {js : List Nat} {mi : Nv → R (List D)} {t : Nv → R Bool} {me : Nv → R D} {y : Str} {i : Nat}
theorem pe_co (hc : X.calm = true) (hN : X.N.Nodup) (hi : PI X tg iter (rdI c mi)) (ok : BlkOk X.N X.env.scope scope own) (gk : GOk c g b js) (hj : ∀ j, j ∈ js → j ∈ own.map (·.2))
    (hg : ∀ (s : Shared) (H : Hp) (C : Addr) (cl : List (Str × Addr)) (fp : List Addr), PG (X.blk s H scope (compEnvC scope cl C X.env) fp) tg g) (ht : ∀ (s : Shared) (H : Hp) (C : Addr) (cl : List (Str × Addr)) (fp : List Addr), PTs (X.blk s H scope (compEnvC scope cl C X.env) fp) ifs (rdT c t))
    (he : ∀ (s : Shared) (H : Hp) (C : Addr) (cl : List (Str × Addr)) (fp : List Addr), PE (X.blk s H scope (compEnvC scope cl C X.env) fp) elt (rdE c me)) (hs : ∀ x, foldedSetIterable iter X.env x = pure x := by intro _; rfl) :
    PE X (.ListComp elt [⟨tg, iter, ifs, 0⟩] scope pos) (rdL c (xLc (own.map (·.2)) mi b t me)) := (pe_lc hc hN hi ok hg ht he hs).wk (tLc_rd gk hj)
theorem ps_co (hc : X.calm = true) (hN : X.N.Nodup) (hi : PI X tg iter (rdI c mi)) (ok : BlkOk X.N X.env.scope scope own) (gk : GOk c g b js) (hj : ∀ j, j ∈ js → j ∈ own.map (·.2))
    (hg : ∀ (s : Shared) (H : Hp) (C : Addr) (cl : List (Str × Addr)) (fp : List Addr), PG (X.blk s H scope (compEnvC scope cl C X.env) fp) tg g) (ht : ∀ (s : Shared) (H : Hp) (C : Addr) (cl : List (Str × Addr)) (fp : List Addr), PTs (X.blk s H scope (compEnvC scope cl C X.env) fp) ifs (rdT c t))
    (he : ∀ (s : Shared) (H : Hp) (C : Addr) (cl : List (Str × Addr)) (fp : List Addr), PE (X.blk s H scope (compEnvC scope cl C X.env) fp) elt (rdE c me))
    (hsw : swapsWith (.ListComp elt [⟨tg, iter, ifs, 0⟩] scope pos) (some (.Name y py)) spos.line X.env = pure true) (hy : X.N[i]? = some y := by rfl) (hyl : X.env.scope.names.lookup y = some .local := by rfl) (hs : ∀ x, foldedSetIterable iter X.env x = pure x := by intro _; rfl) (hq : c.op i = true := by rfl) :
    PS X (.Assign [.Name y py] (.ListComp elt [⟨tg, iter, ifs, 0⟩] scope pos) spos) (rdS c W (sAs i (xLc (own.map (·.2)) mi b t me))) :=
  (ps_setLc hc hN hy hyl hsw hi ok hg ht he hs).wk fun E σ H h => (tAsg_rdL (c := c) (i := i) hq E σ H h : tAsg (rdL c (xLc (own.map (·.2)) mi b t me)) (gName i) E σ H) |> fun q => tLc_rd gk hj σ H _ q
theorem ps_coM (hc : X.calm = true) (hN : X.N.Nodup) (hi : PI X tg iter (rdI c mi)) (ok : BlkOk X.N X.env.scope scope own) (gk : GOk c g b js) (hj : ∀ j, j ∈ js → j ∈ own.map (·.2))
    (hg : ∀ (s : Shared) (H : Hp) (C : Addr) (cl : List (Str × Addr)) (fp : List Addr), PG (X.blk s H scope (compEnvC scope cl C X.env) fp) tg g) (ht : ∀ (s : Shared) (H : Hp) (C : Addr) (cl : List (Str × Addr)) (fp : List Addr), PTs (X.blk s H scope (compEnvC scope cl C X.env) fp) ifs (rdT c t))
    (he : ∀ (s : Shared) (H : Hp) (C : Addr) (cl : List (Str × Addr)) (fp : List Addr), PE (X.blk s H scope (compEnvC scope cl C X.env) fp) elt (rdE c me))
    (hsw : swapsWith (.ListComp elt [⟨tg, iter, ifs, 0⟩] scope pos) (some (.Name y py)) spos.line X.env = pure true) (hy : X.N[i]? = some y := by rfl) (hyl : X.env.scope.names.lookup y = some .local := by rfl) (hs : ∀ x, foldedSetIterable iter X.env x = pure x := by intro _; rfl) (hq : c.op i = true := by rfl) :
    PS X (.Assign [.Name y py] (.ListComp elt [⟨tg, iter, ifs, 0⟩] scope pos) spos) (rdS c W (sAsM i (xLc (own.map (·.2)) mi b t me))) :=
  (ps_setLc hc hN hy hyl hsw hi ok hg ht he hs).wk fun E σ H h => (tAsg_rdM (c := c) (i := i) hq E σ H h : tAsg (rdL c (xLc (own.map (·.2)) mi b t me)) (gName i) E σ H) |> fun q => tLc_rd gk hj σ H _ q
end
/-! ### defs -/
def runF (n N : Nat) (m : Nv → R Fl) (ds : List D) : R D := if ds.length = n then (match m (ds.map SV.im ++ List.replicate (N - n) SV.no) with
  | .ok (.nx _) => .ok .none
  | .ok (.rt d) => .ok d
  | .ok (.xx _ k a) => .ex k a
  | _ => .bad) else .bad
theorem spF_len {K : PySem.W.Frag} {cl : Nat → Option Addr} {n N : Nat} {m : Nv → R Fl} {ps : List Str} (h : ps.length = n) : ∀ vs H Q E, spF K cl (runF n N m) vs H Q E → vs.length = ps.length := fun vs H Q E ⟨M, ds, t, ha, hf⟩ => by
  by_cases e : ds.length = n
  · rw [atL_len ha, e, h]
  · unfold runF at hf
    rw [if_neg e] at hf
    exact hf.elim
theorem spN_len {K : PySem.W.Frag} {cl : Nat → Option Addr} {n N : Nat} {m : Nv → R Fl} {ps : List Str} (h : ps.length = n) : ∀ vs H Q E, spN K cl (runF n N m) vs H Q E → vs.length = ps.length := fun vs H Q E ⟨M, ds, t, ha, hf⟩ => by
  by_cases e : ds.length = n
  · rw [atL_len ha, e, h]
  · unfold runF at hf
    rw [if_neg e] at hf
    exact hf.elim
theorem gt_app : ∀ (l r : Nv) (i : Nat), gt (l ++ r) i = if i < l.length then gt l i else gt r (i - l.length)
  | [], r, i => by simp
  | x :: l, r, 0 => by simp [gt]
  | x :: l, r, i + 1 => by
    have := gt_app l r i
    show gt (l ++ r) i = _
    rw [this]
    have e2 : i + 1 - (x :: l).length = i - l.length := by simp
    rw [e2]
    by_cases h : i < l.length
    · rw [if_pos h, if_pos (by simpa using h)]
      rfl
    · rw [if_neg h, if_neg (by simpa using h)]
theorem gt_rep : ∀ (n i : Nat), gt (List.replicate n SV.no) i = .no
  | 0, _ => rfl
  | n + 1, 0 => rfl
  | n + 1, i + 1 => gt_rep n i
theorem gt_map : ∀ (ds : List D) (i : Nat), gt (ds.map SV.im) i = match ds[i]? with | some d => .im d | none => .no
  | [], i => rfl
  | d :: ds, 0 => rfl
  | d :: ds, i + 1 => by
    show gt (ds.map SV.im) i = _
    rw [gt_map ds i]
    simp
/-- the entry -/
theorem Rel.start {K : PySem.W.Frag} {fr : Bool} {cl : Nat → Option Addr} {fs : Nat → Option FP} {rp : Option FP} {H : Hp} {M : List Addr} {ds : List D} {vs : List V} {Ns : List Str} {n : Nat} (t : Trk M H) (h : AtL K (hid M H) ds vs) (hn : ds.length = n) (hN : n ≤ Ns.length) (hfs : ∀ i, i < n → fs i = none) :
    Rel ⟨K, H, M, fr, cl, fun _ => false, fs, rp⟩ (L2.start Ns vs) H (ds.map SV.im ++ List.replicate (Ns.length - n) SV.no) M where
  ext := Evl.Ex.refl H
  len := by
    unfold L2.start
    rw [List.length_append, List.length_append, List.length_map, List.length_map, List.length_replicate, List.length_replicate, atL_len h, hn]
  sub := fun _ z => z
  trk := t
  old := fun a ha z => by
    obtain ⟨o, q⟩ := t a ha
    have z' : H a = none := z
    rw [q] at z'
    cases z'
  im := fun i d hi => by
    rw [gt_app, List.length_map] at hi
    by_cases e : i < ds.length
    · rw [if_pos e, gt_map, List.getElem?_eq_getElem e] at hi
      cases hi
      obtain ⟨v, h1, h2⟩ := AtL.get h (List.getElem?_eq_getElem e)
      refine ⟨v, ?_, h2⟩
      unfold L2.start
      rw [List.getElem?_append_left (by rw [List.length_map, atL_len h]; exact e), List.getElem?_map, h1]
      rfl
    · rw [if_neg e, gt_rep] at hi
      cases hi
  mu := fun i d hi => by
    rw [gt_app, List.length_map] at hi
    by_cases e : i < ds.length
    · rw [if_pos e, gt_map, List.getElem?_eq_getElem e] at hi
      cases hi
    · rw [if_neg e, gt_rep] at hi
      cases hi
  dis := fun i j d f a b _ hi _ _ _ => by
    rw [gt_app, List.length_map] at hi
    by_cases e : i < ds.length
    · rw [if_pos e, gt_map, List.getElem?_eq_getElem e] at hi
      cases hi
    · rw [if_neg e, gt_rep] at hi
      cases hi
  new := fun a h => .inl h
  pin := fun j d hj _ => by cases hj
  frs := fun j p d hj hi => by
    rw [gt_app, List.length_map] at hi
    by_cases e : j < ds.length
    · have : fs j = some p := hj
      rw [hfs j (by omega)] at this
      cases this
    · rw [if_neg e, gt_rep] at hi
      cases hi
  pnm := fun i d hi => by
    rw [gt_app, List.length_map] at hi
    by_cases e : i < ds.length
    · rw [if_pos e, gt_map, List.getElem?_eq_getElem e] at hi
      cases hi
    · rw [if_neg e, gt_rep] at hi
      cases hi
def NNx (m : Nv → R Fl) : Prop := ∀ ε ε', m ε ≠ .ok (.nx ε')
section
variable {P : Program} {w : World} {K : PySem.W.Frag} {mg : Str → Option Value} {base : Heap}
/-- THE RULE: a def by its body's program -/
theorem def_F {cl : Nat → Option Addr} {x qual : Str} {st : Stmt} {f : Addr} {fd : FuncData} {Ns ps : List Str} {k n : Nat} {m : Nv → R Fl} (F : Fun K x qual st f fd) (S : FnScope Ns ps (defScope st)) (hn : ps.length = n) (hN : n ≤ Ns.length)
    (body : ∀ (cdv : Value) (A : Around) (outer : List PySem.Env) (s : Shared) (H : Hp) (E : XK) (M : List Addr), Room k (A.deeper (envOfC qual (defScope st) s.heap.objs.size f cdv)) → A.guards = some [] →
      PassesOwn (model P w) (A.deeper (envOfC qual (defScope st) s.heap.objs.size f cdv)) (envOfC qual (defScope st) s.heap.objs.size f cdv) (cxOf (L2.CX P w) P w K mg base Ns qual (defScope st) f cdv A outer s H E).xe →
      Takes (cxOf (L2.CX P w) P w K mg base Ns qual (defScope st) f cdv A outer s H E) (fun cls d _ H' => E cls d H') →
      PSs (cxOf (L2.CX P w) P w K mg base Ns qual (defScope st) f cdv A outer s H E) (defBody st) (rdS ⟨K, H, M, false, cl, fun _ => false, fun _ => none, none⟩ (fun cls d _ H' => E cls d H') m)) : FnG P w K mg base (k + 1) f fd ps (spF K cl (runF n Ns.length m)) := by
  refine fnG_of F S (spF_len hn) fun cdv A outer s H vs Q E hr hG ⟨M, ds, t, ha, hf⟩ => ⟨_, body cdv A outer s H E M hr hG (passes_of (X := cxOf (L2.CX P w) P w K mg base Ns qual (defScope st) f cdv A outer s H E) rfl) (takes_of rfl rfl rfl rfl), ?_⟩
  unfold runF at hf
  by_cases e : ds.length = n
  · rw [if_pos e] at hf
    refine ⟨_, M, Rel.start (fr := false) (cl := cl) t ha e hN fun _ _ => rfl, ?_⟩
    cases g : m (ds.map SV.im ++ List.replicate (Ns.length - n) SV.no) with
    | bad =>
      rw [g] at hf
      exact hf.elim
    | ex a b =>
      rw [g] at hf
      exact hf.elim
    | ok fl =>
      rw [g] at hf
      cases fl with
      | nx ε' => exact fun σ' H' M' r' _ => hf .non H' r'.ext rfl
      | rt d' => exact fun v H' e' hv _ => hf v H' e' hv
      | bk _ => exact hf.elim
      | ct _ => exact hf.elim
      | xx ε' k a => exact ⟨hf.1, fun σ' H' M' C dx v hc r' e' hx hv => hf.2 C dx v H' hc r'.ext (by
          obtain ⟨h1, h2⟩ := of_hid hx
          exact hid_of h1 fun z => h2 (r'.sub dx z)) hv⟩
  · rw [if_neg e] at hf
    exact hf.elim
/-- the same of a def that hands back a new object -/
theorem def_N {cl : Nat → Option Addr} {x qual : Str} {st : Stmt} {f : Addr} {fd : FuncData} {Ns ps : List Str} {k n : Nat} {m : Nv → R Fl} (F : Fun K x qual st f fd) (S : FnScope Ns ps (defScope st)) (hn : ps.length = n) (hN : n ≤ Ns.length) (hnx : NNx m)
    (body : ∀ (cdv : Value) (A : Around) (outer : List PySem.Env) (s : Shared) (H : Hp) (E : XK) (M : List Addr), Room k (A.deeper (envOfC qual (defScope st) s.heap.objs.size f cdv)) → A.guards = some [] →
      PassesOwn (model P w) (A.deeper (envOfC qual (defScope st) s.heap.objs.size f cdv)) (envOfC qual (defScope st) s.heap.objs.size f cdv) (cxOf (L2.CX P w) P w K mg base Ns qual (defScope st) f cdv A outer s H E).xe →
      Takes (cxOf (L2.CX P w) P w K mg base Ns qual (defScope st) f cdv A outer s H E) (fun cls d _ H' => E cls d H') →
      PSs (cxOf (L2.CX P w) P w K mg base Ns qual (defScope st) f cdv A outer s H E) (defBody st) (rdS ⟨K, H, M, true, cl, fun _ => false, fun _ => none, none⟩ (fun cls d _ H' => E cls d H') m)) : FnG P w K mg base (k + 1) f fd ps (spN K cl (runF n Ns.length m)) := by
  refine fnG_of F S (spN_len hn) fun cdv A outer s H vs Q E hr hG ⟨M, ds, t, ha, hf⟩ => ⟨_, body cdv A outer s H E M hr hG (passes_of (X := cxOf (L2.CX P w) P w K mg base Ns qual (defScope st) f cdv A outer s H E) rfl) (takes_of rfl rfl rfl rfl), ?_⟩
  unfold runF at hf
  by_cases e : ds.length = n
  · rw [if_pos e] at hf
    refine ⟨_, M, Rel.start (fr := true) (cl := cl) t ha e hN fun _ _ => rfl, ?_⟩
    cases g : m (ds.map SV.im ++ List.replicate (Ns.length - n) SV.no) with
    | bad =>
      rw [g] at hf
      exact hf.elim
    | ex a b =>
      rw [g] at hf
      exact hf.elim
    | ok fl =>
      rw [g] at hf
      cases fl with
      | nx ε' => exact absurd g (hnx _ _)
      | rt d' => exact fun p o H' n e' hp ho => hf p o H' n e' hp ho
      | bk _ => exact hf.elim
      | ct _ => exact hf.elim
      | xx ε' k a => exact ⟨hf.1, fun σ' H' M' C dx v hc r' e' hx hv => hf.2 C dx v H' hc r'.ext (by
          obtain ⟨h1, h2⟩ := of_hid hx
          exact hid_of h1 fun z => h2 (r'.sub dx z)) hv⟩
  · rw [if_neg e] at hf
    exact hf.elim
theorem spN_to {K : PySem.W.Frag} {cl : Nat → Option Addr} {g : List D → R D} {vs : List V} {H : Hp} {Q : VK} {E : XK} (h : spF K cl g vs H Q E) : spN K cl g vs H Q E := by
  obtain ⟨M, ds, t, ha, hf⟩ := h
  refine ⟨M, ds, t, ha, ?_⟩
  cases q : g ds with
  | ok d =>
    rw [q] at hf
    exact fun p o H' n e hp ho => hf _ H' e (own_new t n hp ho)
  | ex k a =>
    rw [q] at hf
    exact hf
  | bad =>
    rw [q] at hf
    exact hf
theorem spN_F {cl : Nat → Option Addr} {f : Addr} {fd : FuncData} {ps : List Str} {k : Nat} {g : List D → R D} (F : FnG P w K mg base k f fd ps (spN K cl g)) : FnG P w K mg base k f fd ps (spF K cl g) :=
  ⟨fun vs H Q E h => F.len vs H Q E (spN_to h), fun A outer s H args us vs Q E hr hG he hb hv h => F.run A outer s H args us vs Q E hr hG he hb hv (spN_to h)⟩
end
end Tw
namespace Tw
open PySem PySem.Spec PyProof.Rows L2
section
variable {X : Cx} {c : Cf} {W : WX} {e a b : Expr} {ma mb : Nv → R D} {pos : Pos}
/-- x[i], x one's own list -/
def xIm (j : Nat) (mi : Nv → R D) : Nv → R D := fun ε => (mi ε).bind fun k => match gt ε j with
  | .mu (.list ds) => dIx (.list ds) k
  | _ => .bad
theorem pe_im {j : Nat} {sl : Expr} {mi : Nv → R D} (hx : PE X e (tVar j)) (hi : PE X sl (rdE c mi)) (hs : PlainIx sl := by exact fun _ _ => rfl) (hK : c.K = X.K := by rfl) : PE X (.Subscript e sl pos) (rdE c (xIm j mi)) :=
  (pe_ix ix_list hx hi hs).wk fun σ H Q ⟨ε, M, re, d, hm, q⟩ => by
    obtain ⟨k, h1, h2⟩ := R.bind_ok hm
    split at h2
    · rename_i ds g
      obtain ⟨l, o, g1, g2, g3, g4, g5⟩ := re.mu j _ g
      obtain ⟨vs, eo, hl⟩ := own_list g5
      subst eo
      refine ⟨.ref l, g1, ε, M, re, k, h1, fun v H' e' hv => ?_⟩
      unfold dIx at h2
      split at h2
      · rename_i xs i e1
        split at h2
        · rename_i y g
          cases h2
          cases e1
          obtain ⟨w, w1, w2⟩ := atI_at hl g
          exact ⟨l, vs, i, w, rfl, hv, SqL.of (e' l _ g4), w1, q w H' e' (At.mono (hid_ex e') _ _ w2)⟩
        · cases h2
      · rename_i e1
        cases e1
      · cases h2
    · cases h2
/-- [..] * n -/
theorem pe_rep (ha : PE X a (rdL c ma)) (hb : PE X b (rdE c mb)) : PE X (.BinOp a .Mult b pos) (rdL c (xBin dRep ma mb)) := (pe_op op_rep ha hb).wk fun σ H Q ⟨ε, M, re, d, hm, q⟩ => by
  obtain ⟨x, h1, h2⟩ := R.bind_ok hm
  obtain ⟨y, h3, h4⟩ := R.bind_ok h2
  refine ⟨ε, M, re, x, h1, fun p o H1 n e1 hp ho => ⟨ε, M, re.ex e1, y, h3, fun u H2 e2 hu => ?_⟩⟩
  unfold dRep at h4
  split at h4
  · rename_i xs k
    split at h4
    · rename_i hz
      cases h4
      obtain ⟨vs, eo, hl⟩ := own_list ho
      subst eo
      refine ⟨p, k, vs, rfl, hu, e2 p _ hp, by omega, by omega, by rw [atL_len hl]; exact lim_le hz.2.2, fun p' n' => ?_⟩
      have e12 := Evl.Ex.trans e1 e2
      have hl2 : AtL c.K (hid M H2) xs vs := AtL.mono (Evl.Ex.trans (hid_sub fun a ha => List.mem_cons_of_mem _ ha) (hid_ex e2)) _ _ hl
      refine q p' _ _ (Evl.fresh_back e12 n') (Evl.Ex.trans e12 (Evl.Ex.new n')) upd_same (.inl ⟨_, _, rfl, rfl, ?_⟩)
      have rep : ∀ n : Nat, AtL c.K (hid M H2) (List.replicate n xs).flatten (List.replicate n vs).flatten := fun n => by
        induction n with
        | zero => exact rfl
        | succ n ih =>
          rw [List.replicate_succ, List.replicate_succ, List.flatten_cons, List.flatten_cons]
          exact AtL.app hl2 ih
      exact AtL.mono (hid_new (Evl.Ex.new n') n') _ _ (rep _)
    · cases h4
  · cases h4
/-- a def without arguments -/
theorem pf0 {cl : Nat → Option Addr} {x : Str} {p : Pos} {k : Nat} {f : Addr} {fd : FuncData} {ps : List Str} {g : List D → R D} (F : FnG X.prog X.w X.K X.mg X.base k f fd ps (spF X.K cl g)) (hr : Room k X.A) (hG : X.A.guards = some []) (hm : X.mg x = some (.ref f)) (hk : PySem.W.keepIn X.K (.ref f) = true) (hb : Binds X.K fd ps [])
    (hg : Gl X x := by rfl) (hdb : (x == ("__debug__" : Str)) = false := by decide) (hK : c.K = X.K := by rfl) : PE X (.Call (.Name x p) [] [] pos) (rdE c (xCall g xNil)) := (pe_callG0 (E := E0') F hr hG hm hk hb pass0' hg hdb).wk fun σ H Q ⟨ε, M, re, d, hm, q⟩ =>
  spF.ok (M := M) (ds := []) re.trk rfl hm fun w H3 e3 hw => q w H3 e3 (hK ▸ hw)
end
end Tw
namespace Tw
open PySem PySem.Spec PyProof.Rows L2
section
variable {X : Cx} {c : Cf} {W : WX} {e a b : Expr} {ma mb : Nv → R D} {pos : Pos}
theorem pk_gi {x : Str} {i : Int} {t : Tok} (hm : X.mg x = some (.int i t)) (hg : Gl X x := by rfl) (hdb : (x == ("__debug__" : Str)) = false := by decide) : PE X (.Name x pos) (rdE c (xC (.int i))) := pk_glob (v := .int i) hg hm ⟨t, rfl⟩ (fun _ _ => rfl) hdb
/-- comparisons as tests -/
def tC' (m : Nv → R D) : Nv → R Bool := fun ε => (m ε).bind boD
theorem tTest_rd {t : TE} {m : Nv → R D} (h : ∀ σ H Q, rdE c m σ H Q → t σ H Q) : ∀ σ H Q, rdT c (tC' m) σ H Q → tTest t σ H Q := fun σ H Q ⟨ε, M, re, k, hm, q⟩ => by
  obtain ⟨d, h1, h2⟩ := R.bind_ok hm
  have := boD_ok h2
  subst this
  exact h σ H _ ⟨ε, M, re, _, h1, fun v H' e' hv => ⟨k, hv, q H' e'⟩⟩
theorem pt_cp {op : CmpOp} {f : D → D → R D} (ho : OpR X (compareOp op) (r2D X.K f)) (ha : PE X a (rdE c ma)) (hb : PE X b (rdE c mb)) (hm : behindInMarks op b = false := by first | exact nomark _ | rfl) (hK : c.K = X.K := by rfl) : PT X (.Compare a [op] [b] pos) (rdT c (tC' (xBin f ma mb))) :=
  (pt_cmpR ho ha hb hm).wk (tTest_rd (tOp_rd fun _ _ _ _ h => hK ▸ h))
theorem tCh_rd {f g : D → D → R D} {mc : Nv → R D} : ∀ σ H Q, rdE c (xCh f g ma mb mc) σ H Q → tChain (r2D c.K f) (r2D c.K g) (rdE c ma) (rdE c mb) (rdE c mc) σ H Q := fun σ H Q ⟨ε, M, re, d, hm, q⟩ => by
  obtain ⟨x, h1, h2⟩ := R.bind_ok hm
  obtain ⟨y, h3, h4⟩ := R.bind_ok h2
  obtain ⟨z, h5, h6⟩ := R.bind_ok h4
  obtain ⟨k, h7, h8⟩ := R.bind_ok h6
  have := boD_ok h7
  subst this
  refine ⟨ε, M, re, x, h1, fun v H1 e1 hv => ⟨ε, M, re.ex e1, y, h3, fun w H2 e2 hw => ?_⟩⟩
  have hv2 := At.mono (hid_ex e2) x v hv
  refine ⟨M, x, y, _, Trk.ex re.trk (e1.trans e2), hv2, hw, h5, fun r H3 e3 hr => ⟨k, hr, ?_⟩⟩
  have e13 := (e1.trans e2).trans e3
  cases k with
  | true =>
    obtain ⟨d3, g1, g2⟩ := R.bind_ok h8
    exact ⟨ε, M, re.ex e13, d3, g1, fun u H4 e4 hu => ⟨M, y, d3, d, Trk.ex re.trk (e13.trans e4), At.mono (hid_ex (e3.trans e4)) y w hw, hu, g2, fun r H5 e5 hr => q r H5 ((e13.trans e4).trans e5) hr⟩⟩
  | false =>
    cases h8
    exact q _ H3 e13 rfl
theorem pt_ch {op op' : CmpOp} {f g : D → D → R D} {cc : Expr} {mc : Nv → R D} (ho : OpR X (compareOp op) (r2D X.K f)) (ho' : OpR X (compareOp op') (r2D X.K g)) (ha : PE X a (rdE c ma)) (hb : PE X b (rdE c mb)) (hcc : PE X cc (rdE c mc)) (hmk : lastMarks [op, op'] [b, cc] = false := by with_unfolding_all rfl) (hK : c.K = X.K := by rfl) :
    PT X (.Compare a [op, op'] [b, cc] pos) (rdT c (tC' (xCh f g ma mb mc))) := (pt_chain ho ho' ha hb hcc hmk).wk (tTest_rd fun σ H Q h => hK ▸ tCh_rd σ H Q h)
end
end Tw
namespace Tw
open PySem PySem.Spec PyProof.Rows L2
/-! ### bodies that end by return -/
theorem nnx_seq {m n : Nv → R Fl} (h : NNx n) : NNx (sSeq m n) := fun ε ε' z => by
  unfold sSeq at z
  split at z
  · exact h _ _ z
  · rename_i q
    exact q ε' z
theorem nnx_rt {me : Nv → R D} : NNx (sRt me) := fun ε ε' z => by
  unfold sRt at z
  cases q : me ε with
  | ok d => rw [q] at z; cases z
  | ex a b => rw [q] at z; cases z
  | bad => rw [q] at z; cases z
theorem nnx_rtM {i : Nat} : NNx (sRtM i) := fun ε ε' z => by
  unfold sRtM at z
  split at z
  · cases z
  · cases z
theorem nnx_no : NNx sNo := fun ε ε' z => by cases z
theorem nnx_if {t : Nv → R Bool} {m n : Nv → R Fl} (h1 : NNx m) (h2 : NNx n) : NNx (sIf t m n) := fun ε ε' z => by
  unfold sIf at z
  cases q : t ε with
  | ok k =>
    rw [q] at z
    cases k with
    | true => exact h1 _ _ z
    | false => exact h2 _ _ z
  | ex a b => rw [q] at z; cases z
  | bad => rw [q] at z; cases z
section
variable {P : Program} {w : World} {K : PySem.W.Frag} {mg : Str → Option Value} {base : Heap}
/-- a def that is never called -/
theorem fn_bad {cl : Nat → Option Addr} {f : Addr} {fd : FuncData} {ps : List Str} {k : Nat} : FnG P w K mg base k f fd ps (spF K cl fun _ => .bad) := ⟨fun _ _ _ _ ⟨_, _, _, _, hf⟩ => hf.elim, fun _ _ _ _ _ _ _ _ _ _ _ _ _ _ ⟨_, _, _, _, hf⟩ => hf.elim⟩
theorem fn_badN {cl : Nat → Option Addr} {f : Addr} {fd : FuncData} {ps : List Str} {k : Nat} : FnG P w K mg base k f fd ps (spN K cl fun _ => .bad) := ⟨fun _ _ _ _ ⟨_, _, _, _, hf⟩ => hf.elim, fun _ _ _ _ _ _ _ _ _ _ _ _ _ _ ⟨_, _, _, _, hf⟩ => hf.elim⟩
end
section
variable {X : Cx} {c : Cf} {W : WX} {e : Expr} {me : Nv → R D}
def xRev (me : Nv → R D) : Nv → R D := fun ε => (me ε).bind fun d => match d with
  | .list xs => .ok (.list xs.reverse)
  | _ => .bad
theorem AtL.rev {K : PySem.W.Frag} {H : Hp} : ∀ {ds : List D} {vs : List V}, AtL K H ds vs → AtL K H ds.reverse vs.reverse
  | [], vs, h => by
    have e : vs = [] := h
    rw [e]
    rfl
  | d :: ds, vs, ⟨v, r, h1, h2, h3⟩ => by
    rw [h1, List.reverse_cons, List.reverse_cons]
    exact AtL.app (AtL.rev h3) ⟨v, [], rfl, h2, rfl⟩
/-- xs[::-1] -/
theorem pe_rv {k : Nat} {p1 p2 p3 pos : Pos} (he : PE X e (rdE c me)) (hK : c.K = X.K := by rfl) : PE X (.Subscript e (.Slice none none (some (.UnaryOp .USub (.Constant (.int 1) k p1) p2)) p3) pos) (rdL c (xRev me)) := (pe_revL he).wk fun σ H Q ⟨ε, M, re, d, hm, q⟩ => by
  obtain ⟨x, h1, h2⟩ := R.bind_ok hm
  refine ⟨ε, M, re, x, h1, fun v H1 e1 hv => ?_⟩
  cases x with
  | list xs =>
    cases h2
    obtain ⟨a, vs, ev, g1, g2⟩ := hv
    refine ⟨a, vs, ev, hK ▸ sql_le g1, fun p n => q p _ _ (Evl.fresh_back e1 n) (e1.trans (Evl.Ex.new n)) upd_same (.inl ⟨_, _, rfl, rfl, AtL.rev (AtL.mono (hid_new (Evl.Ex.new n) n) _ _ g2)⟩)⟩
  | _ => cases h2
end
end Tw
namespace Tw
open PySem PySem.Spec PyProof.Rows L2
theorem ints_at {K : PySem.W.Frag} {H : Hp} : ∀ ns : List Int, AtL K H (ns.map PyData.int) (ns.map V.int)
  | [] => rfl
  | n :: ns => ⟨_, _, rfl, rfl, ints_at ns⟩
theorem hid_nil (H : Hp) : hid [] H = H := by
  funext a
  unfold hid
  rw [if_neg (by simp)]
/-- the law at its script -/
theorem law_in {K : PySem.W.Frag} {cl : Nat → Option Addr} {H : Hp} {a : Addr} {ns : List Int} {f : List D → R D} (hS : SqL K H a (ns.map V.int)) (h : f [.list (ns.map PyData.int)] = .ok (.bool true)) : spF K cl f [.ref a] H (fun v _ => v = .bl true) fun _ _ _ => False :=
  spF.ok (M := []) (ds := [.list (ns.map PyData.int)]) (fun a z => absurd z (List.not_mem_nil)) ⟨_, _, rfl, ⟨a, _, rfl, by rw [hid_nil]; exact hS, ints_at ns⟩, rfl⟩ h fun v H' _ hv => hv
end Tw
set_option Elab.async false
set_option linter.all false
set_option maxRecDepth 100000
set_option maxHeartbeats 4000000
/-! Tw11: starred items, gcd, comprehensions of two clauses, two stores at once -/
namespace Tw
open PySem PySem.Spec PyProof.Rows L2
/-! ### starred items -/
def xStar (m : Nv → R D) (r : Nv → R (List D)) : Nv → R (List D) := fun ε => (m ε).bind fun d => match d with
  | .list xs => (r ε).bind fun ds => .ok (xs ++ ds)
  | .tuple xs => (r ε).bind fun ds => .ok (xs ++ ds)
  | _ => .bad
def xTupS (m : Nv → R (List D)) : Nv → R D := fun ε => (m ε).bind fun ds => if ds.length ≤ lim then .ok (.tuple ds) else .bad
def xLstS (m : Nv → R (List D)) : Nv → R D := fun ε => (m ε).bind fun ds => if ds.length ≤ lim then .ok (.list ds) else .bad
def cGcd : List D → R D
  | [.int a, .int b] => .ok (.int ((Nat.gcd a.natAbs b.natAbs : Nat) : Int))
  | _ => .bad
section
variable {X : Cx} {c : Cf} {W : WX} {e : Expr} {es : List Expr} {m : Nv → R D} {ms : Nv → R (List D)} {p pos : Pos}
theorem pa_s (h : PE X e (rdE c m)) (hs : PA X es (rdA c ms)) (hst : starEach (.Starred e p :: es) X.env = (true, eval e X.env) :: starEach es X.env := by rfl) (hK : c.K = X.K := by rfl) : PA X (.Starred e p :: es) (rdA c (xStar m ms)) :=
  (StX.pa_star h hs hst).wk fun σ H Q ⟨ε, M, re, ds, hm, q⟩ => by
    obtain ⟨d, h1, h2⟩ := R.bind_ok hm
    refine ⟨ε, M, re, d, h1, fun v H1 e1 hv => ?_⟩
    split at h2
    · obtain ⟨dr, h3, h4⟩ := R.bind_ok h2
      cases h4
      obtain ⟨a, xs, ev, g1, g2⟩ := hv
      exact ⟨a, xs, ev, .inr (hK ▸ sql_le g1), ε, M, re.ex e1, dr, h3, fun vs H2 e2 hvs => q _ H2 (e1.trans e2) (AtL.app (AtL.mono (hid_ex e2) _ _ g2) hvs)⟩
    · obtain ⟨dr, h3, h4⟩ := R.bind_ok h2
      cases h4
      obtain ⟨a, xs, ev, g1, g2⟩ := hv
      exact ⟨a, xs, ev, .inl (hK ▸ sqt_le g1), ε, M, re.ex e1, dr, h3, fun vs H2 e2 hvs => q _ H2 (e1.trans e2) (AtL.app (AtL.mono (hid_ex e2) _ _ g2) hvs)⟩
    · cases h2
theorem pe_tuS {x1} (h : PA X es (rdA c ms)) : PE X (.Tuple es x1 pos) (rdE c (xTupS ms)) :=
  (L2.pe_tup h).wk fun σ H Q ⟨ε, M, re, d, hm, q⟩ => by
    obtain ⟨ds, h1, h2⟩ := R.bind_ok hm
    split at h2
    · rename_i hz
      cases h2
      refine ⟨ε, M, re, ds, h1, fun vs H1 e1 hv => ⟨by rw [atL_len hv]; exact lim_le hz, fun p n => ?_⟩⟩
      have np := (Trk.ex re.trk e1).no n
      exact q (.ref p) _ (e1.trans (Evl.Ex.new n)) ⟨p, vs, rfl, SqT.of (hid_of upd_same np), AtL.mono (hid_ex (Evl.Ex.new n)) ds vs hv⟩
    · cases h2
theorem pe_liS (h : PA X es (rdA c ms)) : PE X (.List es pos) (rdL c (xLstS ms)) :=
  (L2.pe_lst h).wk fun σ H Q ⟨ε, M, re, d, hm, q⟩ => by
    obtain ⟨ds, h1, h2⟩ := R.bind_ok hm
    split at h2
    · rename_i hz
      cases h2
      refine ⟨ε, M, re, ds, h1, fun vs H1 e1 hv => ⟨by rw [atL_len hv]; exact lim_le hz, fun p n => ?_⟩⟩
      exact q p (.lst vs) _ (Evl.fresh_back e1 n) (e1.trans (Evl.Ex.new n)) upd_same (.inl ⟨vs, ds, rfl, rfl, AtL.mono (hid_new (Evl.Ex.new n) n) ds vs hv⟩)
    · cases h2
/-! ### gcd -/
theorem k_gcd : CallR X (.builtin "math.gcd") (rnD X.K cGcd) := by
  intro pins s σ H xs us Q I r ⟨M, as, d, t, ha, hf, q⟩
  unfold cGcd at hf
  split at hf
  · cases hf
    obtain ⟨v, vs, e, h1, h2⟩ := at_cons ha
    obtain ⟨v2, e2, h3⟩ := at_one h2
    exact cr_gcd pins s σ H xs us Q I r ⟨_, _, by rw [e, e2, show v = _ from h1, show v2 = _ from h3], q _ H (Evl.Ex.refl H) rfl⟩
  · cases hf
theorem pe_gcd {x : Str} (hm : X.mg x = some (.builtin "math.gcd")) (ha : PA X (e :: es) (rdA c ms)) (hg : Gl X x := by rfl) (hK : c.K = X.K := by rfl) (hd : (x == ("__debug__" : Str)) = false := by decide)
    (hst : starEach (e :: es) X.env = (false, eval e X.env) :: starEach es X.env := by rfl) (hpl : (backTo pos (starEach es X.env)).any (·.1) = false := by rfl) :
    PE X (.Call (.Name x p) (e :: es) [] pos) (rdE c (xCall cGcd ms)) := (pe_callBfun k_gcd hg hm ha hd hst hpl).wk (tCB_rd fun _ _ _ h => hK ▸ h)
end
/-! ### a list is unpacked -/
def bL (n : Nat) (bs : List D → Nv → R Nv) : D → Nv → R Nv := fun d ε => match d with
  | .list ds => if ds.length = n then bs ds ε else .bad
  | _ => .bad
theorem gok_l {c : Cf} {n : Nat} {gs : TGs} {bs : List D → Nv → R Nv} {js : List Nat} (h : GsOk c gs bs js) : GOk c (gLst c.K n gs) (bL n bs) js := fun x σ H Q ε M d ε' r hx hm q => by
  unfold bL at hm
  split at hm
  · split at hm
    · rename_i ds hn
      obtain ⟨a, xs, e, h1, h2⟩ := hx
      exact ⟨a, xs, e, sql_le h1, by rw [atL_len h2]; exact hn, h xs σ H Q ε M ds ε' r h2 hm q⟩
    · cases hm
  · cases hm
/-! ### two clauses -/
def lcG2 (g : D → Nv → R Nv) (t : Nv → R Bool) (mi1 : Nv → R (List D)) (g1 : D → Nv → R Nv) (t1 : Nv → R Bool) (e : Nv → R D) (vs1 : List Nat) (ε : Nv) : List D → R (List D)
  | [] => .ok []
  | d :: ds => (g d ε).bind fun ε1 => (t ε1).bind fun k => if k then (mi1 ε1).bind fun es => (lcG g1 t1 e (wipeE ε1 vs1) es).bind fun y => (lcG2 g t mi1 g1 t1 e vs1 ε ds).bind fun ys => .ok (y ++ ys) else lcG2 g t mi1 g1 t1 e vs1 ε ds
def xLc2 (vs vs1 : List Nat) (mi : Nv → R (List D)) (g : D → Nv → R Nv) (t : Nv → R Bool) (mi1 : Nv → R (List D)) (g1 : D → Nv → R Nv) (t1 : Nv → R Bool) (e : Nv → R D) : Nv → R D := fun ε => (mi ε).bind fun ds => (lcG2 g t mi1 g1 t1 e vs1 (wipeE ε vs) ds).bind fun ys => if ys.length ≤ lim then .ok (.list ys) else .bad
section
variable {X : Cx} {c : Cf} {W : WX}
theorem muK_wipe (σ : L2.St) (ε : Nv) : ∀ vs : List Nat, MuK σ ε (wipe σ vs) (wipeE ε vs)
  | [] => fun j d h => ⟨h, rfl⟩
  | v :: vs => fun j d h => by
    have h' : gt (st (wipeE ε vs) v .no) j = .mu d := h
    by_cases e : j = v
    · subst e
      have hl : j < (wipeE ε vs).length := by
        have := gt_lt (ε := st (wipeE ε vs) j .no) (i := j) (by rw [h']; intro z; cases z)
        rwa [st_len] at this
      rw [gt_same hl] at h'
      cases h'
    · rw [gt_ne e] at h'
      obtain ⟨h1, h2⟩ := muK_wipe σ ε vs j d h'
      refine ⟨h1, ?_⟩
      rw [← h2]
      show ((wipe σ vs).set v none)[j]? = _
      exact List.getElem?_set_ne (Ne.symm e)
theorem tLc2_rd {g g1 : TG} {b b1 : D → Nv → R Nv} {js js1 vs vs1 : List Nat} {mi mi1 : Nv → R (List D)} {t t1 : Nv → R Bool} {e : Nv → R D} (hg : GOk c g b js) (hj : ∀ j, j ∈ js → j ∈ vs) (hg1 : GOk c g1 b1 js1) (hj1 : ∀ j, j ∈ js1 → j ∈ vs1) :
    ∀ σ H Q, rdL c (xLc2 vs vs1 mi b t mi1 b1 t1 e) σ H Q → tLc2 (rdI c mi) g (rdT c t) (rdI c mi1) g1 (rdT c t1) (rdE c e) vs vs1 σ H Q := fun σ H Q ⟨ε, M, re, d, hm, q⟩ => by
  obtain ⟨ds, h1, h2⟩ := R.bind_ok hm
  obtain ⟨ys, h3, h4⟩ := R.bind_ok h2
  split at h4
  · rename_i hz
    cases h4
    refine ⟨ε, M, re, ds, h1, fun J H1 e1 wk D nD => ?_⟩
    have nD0 : H D = none := Evl.fresh_back e1 nD
    have nM : D ∉ M := Trk.no re.trk nD0
    have n0 : c.H0 D = none := Evl.fresh_back re.ext nD0
    refine ⟨fun i m H2 => m = ds.length - i ∧ i ≤ ds.length ∧ ∃ acc rest vs0, lcG2 b t mi1 b1 t1 e vs1 (wipeE ε vs) (ds.drop i) = .ok rest ∧ acc ++ rest = ys ∧ H2 D = some (.lst vs0) ∧ AtL c.K (hid (D :: M) H2) acc vs0 ∧ Rel c (wipe σ vs) H2 (wipeE ε vs) (D :: M) ∧ Ex H1 H2,
      ⟨ds.length, by omega, Nat.zero_le _, [], ys, [], h3, rfl, upd_same, rfl, ((re.ex e1).wipe vs).add nD (Evl.Ex.new nD) upd_same, Evl.Ex.new nD⟩, ?_⟩
    rintro i m H2 ⟨rfl, hi, acc, rest, vs0, hl, ha, hD, hA, hR, hE⟩
    have hB : Ex (hid M H1) (hid (D :: M) H2) := hid_new hE nD
    have wi := wk i H2 (Evl.Ex.trans hB hid_le)
    by_cases hlt : i < ds.length
    · refine .inr ⟨wi.1 hlt, fun H' => ∃ acc rest vs0, lcG2 b t mi1 b1 t1 e vs1 (wipeE ε vs) (ds.drop (i + 1)) = .ok rest ∧ acc ++ rest = ys ∧ H' D = some (.lst vs0) ∧ AtL c.K (hid (D :: M) H') acc vs0 ∧ Rel c (wipe σ vs) H' (wipeE ε vs) (D :: M) ∧ Ex H1 H', fun H' p => ⟨_, by omega, rfl, hlt, p⟩, fun x H' y => ?_⟩
      obtain ⟨ex, item⟩ := wi.2.2 x H' y
      have hx := item ds[i] (List.getElem?_eq_getElem hlt) (D :: M) hR.trk hB
      rw [List.drop_eq_getElem_cons hlt] at hl
      obtain ⟨ε1, l1, l2⟩ := R.bind_ok hl
      obtain ⟨k, l3, l4⟩ := R.bind_ok l2
      refine hg x (wipe σ vs) H' _ _ (D :: M) ds[i] ε1 (hR.ex ex) hx l1 fun σ2 r2 w2 k2 => ⟨by rw [w2 vs hj, wipe_wipe], ε1, D :: M, r2, k, l3, fun H3 e3 => ?_⟩
      have exx := Evl.Ex.trans ex e3
      cases k with
      | false =>
        exact ⟨acc, rest, vs0, l4, ha, exx D _ hD, AtL.mono (hid_ex exx) _ _ hA, hR.ex exx, Evl.Ex.trans hE exx⟩
      | true =>
        obtain ⟨es, l5, l6⟩ := R.bind_ok l4
        obtain ⟨zs, l7, l8⟩ := R.bind_ok l6
        obtain ⟨ys', l9, l10⟩ := R.bind_ok l8
        cases l10
        refine ⟨ε1, D :: M, r2.ex e3, es, l5, fun J1 H4 e4 wk1 => ?_⟩
        have exy := Evl.Ex.trans exx e4
        have r4 := (r2.ex e3).ex e4
        have hm : D ∈ D :: M := List.mem_cons_self
        refine ⟨fun j k H5 => k = es.length - j ∧ j ≤ es.length ∧ ∃ acc1 rest1 vs1', lcG b1 t1 e (wipeE ε1 vs1) (es.drop j) = .ok rest1 ∧ acc ++ (acc1 ++ (rest1 ++ ys')) = ys ∧ H5 D = some (.lst vs1') ∧ AtL c.K (hid (D :: M) H5) (acc ++ acc1) vs1' ∧ Rel c (wipe σ vs) H5 (wipeE ε vs) (D :: M) ∧ Rel c (wipe σ2 vs1) H5 (wipeE ε1 vs1) (D :: M) ∧ Ex H1 H5 ∧ Ex (hid (D :: M) H4) (hid (D :: M) H5),
          ⟨es.length, by omega, Nat.zero_le _, [], zs, vs0, l7, by rw [← ha, List.nil_append], exy D _ hD, by rw [List.append_nil]; exact AtL.mono (hid_ex exy) _ _ hA, hR.ex exy, r4.wipe vs1, Evl.Ex.trans hE exy, Evl.Ex.refl _⟩, ?_⟩
        rintro j k H5 ⟨rfl, hj', acc1, rest1, vs5, hl1, ha1, hD1, hA1, hR1, hR2, hE1, hF1⟩
        have wj := wk1 j H5 (Evl.Ex.trans hF1 hid_le)
        by_cases hlt1 : j < es.length
        · refine .inr ⟨wj.1 hlt1, fun H' => ∃ acc1 rest1 vs1', lcG b1 t1 e (wipeE ε1 vs1) (es.drop (j + 1)) = .ok rest1 ∧ acc ++ (acc1 ++ (rest1 ++ ys')) = ys ∧ H' D = some (.lst vs1') ∧ AtL c.K (hid (D :: M) H') (acc ++ acc1) vs1' ∧ Rel c (wipe σ vs) H' (wipeE ε vs) (D :: M) ∧ Rel c (wipe σ2 vs1) H' (wipeE ε1 vs1) (D :: M) ∧ Ex H1 H' ∧ Ex (hid (D :: M) H4) (hid (D :: M) H'), fun H' p => ⟨_, by omega, rfl, hlt1, p⟩, fun x1 H6 y1 => ?_⟩
          obtain ⟨ex1, item1⟩ := wj.2.2 x1 H6 y1
          have hx1 := item1 es[j] (List.getElem?_eq_getElem hlt1) (D :: M) hR2.trk hF1
          rw [List.drop_eq_getElem_cons hlt1] at hl1
          obtain ⟨ε2, m1, m2⟩ := R.bind_ok hl1
          obtain ⟨k1, m3, m4⟩ := R.bind_ok m2
          refine hg1 x1 (wipe σ2 vs1) H6 _ _ (D :: M) es[j] ε2 (hR2.ex ex1) hx1 m1 fun σ3 r3 w3 _ => ⟨by rw [w3 vs1 hj1, wipe_wipe], ε2, D :: M, r3, k1, m3, fun H7 e7 => ?_⟩
          have ex7 := Evl.Ex.trans ex1 e7
          cases k1 with
          | false =>
            exact ⟨acc1, rest1, vs5, m4, ha1, ex7 D _ hD1, AtL.mono (hid_ex ex7) _ _ hA1, hR1.ex ex7, hR2.ex ex7, Evl.Ex.trans hE1 ex7, Evl.Ex.trans hF1 (hid_ex ex7)⟩
          | true =>
            obtain ⟨y2, m5, m6⟩ := R.bind_ok m4
            obtain ⟨ys2, m7, m8⟩ := R.bind_ok m6
            cases m8
            refine ⟨ε2, D :: M, r3.ex e7, y2, m5, fun v H8 e8 hv => ⟨vs5, e8 D _ (ex7 D _ hD1), ?_, ?_⟩⟩
            · rw [atL_len hA1]
              refine lim_lt (Nat.le_trans ?_ hz)
              rw [← ha1]
              simp only [List.length_append, List.length_cons]
              omega
            · have ex8 := Evl.Ex.trans ex7 e8
              refine ⟨acc1 ++ [y2], ys2, vs5 ++ [v], m7, by rw [← ha1, List.append_assoc]; rfl, upd_same, ?_, ?_, ?_, ?_, ?_⟩
              · rw [hid_upd hm, ← List.append_assoc]
                exact AtL.app (AtL.mono (hid_ex ex8) _ _ hA1) ⟨v, [], rfl, hv, rfl⟩
              · refine (hR1.ex ex8).updD hm n0 fun j f hj z => ?_
                obtain ⟨w', o', z1, z2, _⟩ := (re.wipe vs).mu j f hj
                rw [z] at z1
                cases z1
                exact nM z2
              · refine (hR2.ex ex8).updD hm n0 fun j f hj z => ?_
                obtain ⟨z1, z2⟩ := muK_wipe σ2 ε1 vs1 j f hj
                obtain ⟨z3, z4⟩ := k2 j f z1
                obtain ⟨w', o', z5, z6, _⟩ := (re.wipe vs).mu j f z3
                rw [z2, z4] at z
                rw [z] at z5
                cases z5
                exact nM z6
              · exact Evl.Ex.mut (Evl.Ex.trans hE1 ex8) nD
              · rw [hid_upd hm]
                exact Evl.Ex.trans hF1 (hid_ex ex8)
        · have ej : j = es.length := by omega
          subst ej
          refine .inl ⟨wj.2.1 rfl, ?_⟩
          rw [List.drop_length] at hl1
          cases hl1
          exact ⟨acc ++ acc1, ys', vs5, l9, by rw [← ha1, List.append_assoc]; rfl, hD1, hA1, hR1, hE1⟩
    · have ei : i = ds.length := by omega
      subst ei
      refine .inl ⟨wi.2.1 rfl, ?_⟩
      rw [List.drop_length] at hl
      cases hl
      rw [List.append_nil] at ha
      subst ha
      exact q D _ H2 nD0 (Evl.Ex.trans e1 hE) hD (.inl ⟨vs0, acc, rfl, rfl, hA⟩)
  · cases h4
variable {elt tg iter tg1 iter1 : Expr} {ifs ifs1 : List Expr} {scope : Scope} {own : List (Str × Nat)} {vs1 : List Nat} {pos spos py : Pos} {g g1 : TG} {b b1 : D → Nv → R Nv} {js js1 : List Nat} {mi mi1 : Nv → R (List D)} {t t1 : Nv → R Bool} {me : Nv → R D} {y : Str} {i : Nat}
theorem pe_co2 (vs1 : List Nat) (hc : X.calm = true) (hN : X.N.Nodup) (hi : PI X tg iter (rdI c mi)) (ok : BlkOk X.N X.env.scope scope own) (gk : GOk c g b js) (hj : ∀ j, j ∈ js → j ∈ own.map (·.2)) (gk1 : GOk c g1 b1 js1) (hj1 : ∀ j, j ∈ js1 → j ∈ vs1) (hv : ∀ i ∈ vs1, i ∈ own.map (·.2))
    (hg : ∀ (s : Shared) (H : Hp) (C : Addr) (cl : List (Str × Addr)) (fp : List Addr), PG (X.blk s H scope (compEnvC scope cl C X.env) fp) tg g) (ht : ∀ (s : Shared) (H : Hp) (C : Addr) (cl : List (Str × Addr)) (fp : List Addr), PTs (X.blk s H scope (compEnvC scope cl C X.env) fp) ifs (rdT c t))
    (hi1 : ∀ (s : Shared) (H : Hp) (C : Addr) (cl : List (Str × Addr)) (fp : List Addr), PI (X.blk s H scope (compEnvC scope cl C X.env) fp) tg1 iter1 (rdI c mi1))
    (hg1 : ∀ (s : Shared) (H : Hp) (C : Addr) (cl : List (Str × Addr)) (fp : List Addr), PG (X.blk s H scope (compEnvC scope cl C X.env) fp) tg1 g1) (ht1 : ∀ (s : Shared) (H : Hp) (C : Addr) (cl : List (Str × Addr)) (fp : List Addr), PTs (X.blk s H scope (compEnvC scope cl C X.env) fp) ifs1 (rdT c t1))
    (he : ∀ (s : Shared) (H : Hp) (C : Addr) (cl : List (Str × Addr)) (fp : List Addr), PE (X.blk s H scope (compEnvC scope cl C X.env) fp) elt (rdE c me)) (hs : ∀ x, foldedSetIterable iter X.env x = pure x := by intro _; rfl) (hs1 : ∀ env x, foldedSetIterable iter1 env x = pure x := by intro _ _; rfl) :
    PE X (.ListComp elt [⟨tg, iter, ifs, 0⟩, ⟨tg1, iter1, ifs1, 0⟩] scope pos) (rdL c (xLc2 (own.map (·.2)) vs1 mi b t mi1 b1 t1 me)) := (pe_lc2 hc hN hi ok hv hg ht hi1 hg1 ht1 he hs hs1).wk (tLc2_rd gk hj gk1 hj1)
theorem ps_co2 (vs1 : List Nat) (hc : X.calm = true) (hN : X.N.Nodup) (hi : PI X tg iter (rdI c mi)) (ok : BlkOk X.N X.env.scope scope own) (gk : GOk c g b js) (hj : ∀ j, j ∈ js → j ∈ own.map (·.2)) (gk1 : GOk c g1 b1 js1) (hj1 : ∀ j, j ∈ js1 → j ∈ vs1) (hv : ∀ i ∈ vs1, i ∈ own.map (·.2))
    (hg : ∀ (s : Shared) (H : Hp) (C : Addr) (cl : List (Str × Addr)) (fp : List Addr), PG (X.blk s H scope (compEnvC scope cl C X.env) fp) tg g) (ht : ∀ (s : Shared) (H : Hp) (C : Addr) (cl : List (Str × Addr)) (fp : List Addr), PTs (X.blk s H scope (compEnvC scope cl C X.env) fp) ifs (rdT c t))
    (hi1 : ∀ (s : Shared) (H : Hp) (C : Addr) (cl : List (Str × Addr)) (fp : List Addr), PI (X.blk s H scope (compEnvC scope cl C X.env) fp) tg1 iter1 (rdI c mi1))
    (hg1 : ∀ (s : Shared) (H : Hp) (C : Addr) (cl : List (Str × Addr)) (fp : List Addr), PG (X.blk s H scope (compEnvC scope cl C X.env) fp) tg1 g1) (ht1 : ∀ (s : Shared) (H : Hp) (C : Addr) (cl : List (Str × Addr)) (fp : List Addr), PTs (X.blk s H scope (compEnvC scope cl C X.env) fp) ifs1 (rdT c t1))
    (he : ∀ (s : Shared) (H : Hp) (C : Addr) (cl : List (Str × Addr)) (fp : List Addr), PE (X.blk s H scope (compEnvC scope cl C X.env) fp) elt (rdE c me))
    (hsw : swapsWith (.ListComp elt [⟨tg, iter, ifs, 0⟩, ⟨tg1, iter1, ifs1, 0⟩] scope pos) (some (.Name y py)) spos.line X.env = pure true) (hy : X.N[i]? = some y := by rfl) (hyl : X.env.scope.names.lookup y = some .local := by rfl) (hs : ∀ x, foldedSetIterable iter X.env x = pure x := by intro _; rfl) (hs1 : ∀ env x, foldedSetIterable iter1 env x = pure x := by intro _ _; rfl) (hq : c.op i = true := by rfl) :
    PS X (.Assign [.Name y py] (.ListComp elt [⟨tg, iter, ifs, 0⟩, ⟨tg1, iter1, ifs1, 0⟩] scope pos) spos) (rdS c W (sAs i (xLc2 (own.map (·.2)) vs1 mi b t mi1 b1 t1 me))) :=
  (ps_setLc2 hc hN hy hyl hsw hi ok hv hg ht hi1 hg1 ht1 he hs hs1).wk fun E σ H h => (tAsg_rdL (c := c) (i := i) hq E σ H h : tAsg (rdL c (xLc2 (own.map (·.2)) vs1 mi b t mi1 b1 t1 me)) (gName i) E σ H) |> fun q => tLc2_rd gk hj gk1 hj1 σ H _ q
theorem ps_co2M (vs1 : List Nat) (hc : X.calm = true) (hN : X.N.Nodup) (hi : PI X tg iter (rdI c mi)) (ok : BlkOk X.N X.env.scope scope own) (gk : GOk c g b js) (hj : ∀ j, j ∈ js → j ∈ own.map (·.2)) (gk1 : GOk c g1 b1 js1) (hj1 : ∀ j, j ∈ js1 → j ∈ vs1) (hv : ∀ i ∈ vs1, i ∈ own.map (·.2))
    (hg : ∀ (s : Shared) (H : Hp) (C : Addr) (cl : List (Str × Addr)) (fp : List Addr), PG (X.blk s H scope (compEnvC scope cl C X.env) fp) tg g) (ht : ∀ (s : Shared) (H : Hp) (C : Addr) (cl : List (Str × Addr)) (fp : List Addr), PTs (X.blk s H scope (compEnvC scope cl C X.env) fp) ifs (rdT c t))
    (hi1 : ∀ (s : Shared) (H : Hp) (C : Addr) (cl : List (Str × Addr)) (fp : List Addr), PI (X.blk s H scope (compEnvC scope cl C X.env) fp) tg1 iter1 (rdI c mi1))
    (hg1 : ∀ (s : Shared) (H : Hp) (C : Addr) (cl : List (Str × Addr)) (fp : List Addr), PG (X.blk s H scope (compEnvC scope cl C X.env) fp) tg1 g1) (ht1 : ∀ (s : Shared) (H : Hp) (C : Addr) (cl : List (Str × Addr)) (fp : List Addr), PTs (X.blk s H scope (compEnvC scope cl C X.env) fp) ifs1 (rdT c t1))
    (he : ∀ (s : Shared) (H : Hp) (C : Addr) (cl : List (Str × Addr)) (fp : List Addr), PE (X.blk s H scope (compEnvC scope cl C X.env) fp) elt (rdE c me))
    (hsw : swapsWith (.ListComp elt [⟨tg, iter, ifs, 0⟩, ⟨tg1, iter1, ifs1, 0⟩] scope pos) (some (.Name y py)) spos.line X.env = pure true) (hy : X.N[i]? = some y := by rfl) (hyl : X.env.scope.names.lookup y = some .local := by rfl) (hs : ∀ x, foldedSetIterable iter X.env x = pure x := by intro _; rfl) (hs1 : ∀ env x, foldedSetIterable iter1 env x = pure x := by intro _ _; rfl) (hq : c.op i = true := by rfl) :
    PS X (.Assign [.Name y py] (.ListComp elt [⟨tg, iter, ifs, 0⟩, ⟨tg1, iter1, ifs1, 0⟩] scope pos) spos) (rdS c W (sAsM i (xLc2 (own.map (·.2)) vs1 mi b t mi1 b1 t1 me))) :=
  (ps_setLc2 hc hN hy hyl hsw hi ok hv hg ht hi1 hg1 ht1 he hs hs1).wk fun E σ H h => (tAsg_rdM (c := c) (i := i) hq E σ H h : tAsg (rdL c (xLc2 (own.map (·.2)) vs1 mi b t mi1 b1 t1 me)) (gName i) E σ H) |> fun q => tLc2_rd gk hj gk1 hj1 σ H _ q
end
/-! ### two stores into own lists at once -/
def stl (j : Nat) (mi : Nv → R D) (d : D) : Nv → R Nv := fun ε => (mi ε).bind fun k => match gt ε j, k with
  | .mu (.list ds), .int z => match ixN ds.length z with
    | some n => .ok (st ε j (.mu (.list (ds.set n d))))
    | none => .bad
  | _, _ => .bad
theorem stl_ok {j : Nat} {mi : Nv → R D} {d : D} {ε ε' : Nv} (h : stl j mi d ε = .ok ε') : ∃ ds z n, mi ε = .ok (.int z) ∧ gt ε j = .mu (.list ds) ∧ ixN ds.length z = some n ∧ ε' = st ε j (.mu (.list (ds.set n d))) := by
  obtain ⟨k, h1, h2⟩ := R.bind_ok h
  split at h2
  · rename_i ds z g
    split at h2
    · rename_i n hn
      cases h2
      exact ⟨ds, z, n, h1, g, hn, rfl⟩
    · cases h2
  · cases h2
def sSt2 (j : Nat) (mi : Nv → R D) (j2 : Nat) (mi2 me : Nv → R D) : Nv → R Fl := fun ε => (me ε).bind fun d => match d with
  | .tuple [a, b] => (stl j mi a ε).bind fun ε1 => (stl j2 mi2 b ε1).bind fun ε2 => .ok (.nx ε2)
  | _ => .bad
section
variable {X : Cx} {c : Cf} {W : WX} {s : Stmt} {me : Nv → R D}
theorem ps_st2 {j j2 : Nat} {mi mi2 : Nv → R D} (h : PS X s (tAsg (rdE c me) (gTup X.K 2 (gCons (gSub (tVar j) (rdE c mi) rSetL) (gCons (gSub (tVar j2) (rdE c mi2) rSetL) gNil))))) (hK : c.K = X.K := by rfl) : PS X s (rdS c W (sSt2 j mi j2 mi2 me)) := h.wk fun E σ H ⟨ε, M, re, f⟩ => by
  unfold sSt2 at f
  cases q : me ε with
  | bad => rw [q] at f; exact f.elim
  | ex x y => rw [q] at f; exact f.elim
  | ok d =>
    rw [q] at f
    refine ⟨ε, M, re, d, q, fun v H' e' hv => ?_⟩
    simp only [R.bind] at f
    split at f
    · rename_i x a b
      cases q2 : stl j mi a ε with
      | bad => simp only [R.bind, q2] at f; exact f.elim
      | ex x y => simp only [R.bind, q2] at f; exact f.elim
      | ok ε1 =>
        cases q3 : stl j2 mi2 b ε1 with
        | bad => simp only [R.bind, q2, q3] at f; exact f.elim
        | ex x y => simp only [R.bind, q2, q3] at f; exact f.elim
        | ok ε2 =>
          simp only [R.bind, q2, q3] at f
          obtain ⟨p, vs, ev, g1, va, vr, ev2, ha, vb, vr2, ev3, hb, ev4⟩ := hv
          obtain ⟨ds, z, n, m1, m2, m3, m4⟩ := stl_ok q2
          obtain ⟨ds', z', n', m1', m2', m3', m4'⟩ := stl_ok q3
          have ev4' : vr2 = [] := ev4
          subst ev ev2 ev3 ev4' m4 m4'
          refine ⟨p, _, rfl, hK ▸ sqt_le g1, rfl, va, [vb], rfl, gSub_rd (k := .int z) (re.ex e') ha m1 m2 m3 fun H2 r2 e2 => ⟨vb, [], rfl, gSub_rd (k := .int z') r2 (At.mono e2 _ _ hb) m1' m2' m3' fun H3 r3 e3 => ⟨rfl, f _ H3 M r3 (Evl.Ex.trans (hid_ex e') (Evl.Ex.trans e2 e3))⟩⟩⟩
    · exact f.elim
end
end Tw
set_option Elab.async false
set_option linter.all false
set_option maxRecDepth 100000
set_option maxHeartbeats 4000000
/-! Tw12: list(range(..)), index, extend, pop, own lists in a pair's assignment -/
namespace Tw
open PySem PySem.Spec PyProof.Rows L2
section
variable {X : Cx} {c : Cf} {W : WX} {a b e : Expr} {ma mb me : Nv → R D} {p pos p2 pos2 : Pos}
/-! ### list(range(..)) -/
def xRg (ma mb : Nv → R D) : Nv → R D := fun ε => (ma ε).bind fun a => (mb ε).bind fun b => match a, b with
  | .int i, .int j => if rlim i && rlim j && decide ((j - i).toNat ≤ lim) then .ok (.list (rangeD i (j - i).toNat)) else .bad
  | _, _ => .bad
theorem rg_at {K : PySem.W.Frag} {H : Hp} (i : Int) : ∀ l : List Nat, AtL K H (l.map fun (k : Nat) => PyData.int (i + (k : Int))) (l.map fun (k : Nat) => V.int (i + (k : Nat)))
  | [] => rfl
  | k :: r => ⟨_, _, rfl, rfl, rg_at i r⟩
theorem rlim_of {i : Int} (h : rlim i = true) : -(2 ^ 62) ≤ i ∧ i < 2 ^ 62 := by
  unfold rlim at h
  rw [Bool.and_eq_true] at h
  exact ⟨of_decide_eq_true h.1, of_decide_eq_true h.2⟩
theorem rgOk_of {i j : Int} (h : (rlim i && rlim j && decide ((j - i).toNat ≤ lim)) = true) : RgOk i j := by
  rw [Bool.and_eq_true, Bool.and_eq_true] at h
  have h1 := rlim_of h.1.1
  have h2 := rlim_of h.1.2
  have h3 := of_decide_eq_true h.2
  exact ⟨h1.1, h1.2, h2.1, h2.2, Nat.le_trans h3 (by decide)⟩
theorem pe_lr1 (hm : X.mg "list" = none) (hm2 : X.mg "range" = none) (ha : PE X a (rdE c ma)) (hg : Gl X "list" := by rfl) (hg2 : Gl X "range" := by rfl) (hc : X.calm = true := by rfl)
    (na : starEach [Expr.Call (.Name "range" p2) [a] [] pos2] X.env = (false, eval (Expr.Call (.Name "range" p2) [a] [] pos2) X.env) :: starEach [] X.env := by rfl) (nb : starEach [a] X.env = (false, eval a X.env) :: starEach [] X.env := by rfl) :
    PE X (.Call (.Name "list" p) [.Call (.Name "range" p2) [a] [] pos2] [] pos) (rdL c (xRg (xC (.int 0)) ma)) :=
  (pe_listRg hc hg hm (prg_1 hg2 hm2 ha (na := nb)) na).wk fun σ H Q ⟨ε, M, re, d, hm, q⟩ => by
    obtain ⟨x, h1, h2⟩ := R.bind_ok hm
    cases h1
    obtain ⟨y, h3, h4⟩ := R.bind_ok h2
    split at h4
    · rename_i i j hx
      cases hx
      split at h4
      · rename_i hz
        cases h4
        refine ⟨ε, M, re, _, h3, fun v H1 e1 hv => ⟨j, hv, rgOk_of hz, fun r n => q r _ _ (Evl.fresh_back e1 n) (e1.trans (Evl.Ex.new n)) upd_same (.inl ⟨_, _, rfl, rfl, rg_at 0 _⟩)⟩⟩
      · cases h4
    · cases h4
theorem pe_lr2 (hm : X.mg "list" = none) (hm2 : X.mg "range" = none) (ha : PE X a (rdE c ma)) (hb : PE X b (rdE c mb)) (hg : Gl X "list" := by rfl) (hg2 : Gl X "range" := by rfl) (hc : X.calm = true := by rfl)
    (na : starEach [Expr.Call (.Name "range" p2) [a, b] [] pos2] X.env = (false, eval (Expr.Call (.Name "range" p2) [a, b] [] pos2) X.env) :: starEach [] X.env := by rfl) (n1 : starEach [a, b] X.env = (false, eval a X.env) :: starEach [b] X.env := by rfl) (n2 : starEach [b] X.env = (false, eval b X.env) :: starEach [] X.env := by rfl) (n3 : (backTo pos2 (starEach [b] X.env)).any (·.1) = false := by rfl) :
    PE X (.Call (.Name "list" p) [.Call (.Name "range" p2) [a, b] [] pos2] [] pos) (rdL c (xRg ma mb)) :=
  (pe_listRg hc hg hm (prg_2 hg2 hm2 ha hb (na := n1) (nb := n2) (hp := n3)) na).wk fun σ H Q ⟨ε, M, re, d, hm, q⟩ => by
    obtain ⟨x, h1, h2⟩ := R.bind_ok hm
    obtain ⟨y, h3, h4⟩ := R.bind_ok h2
    split at h4
    · rename_i i j
      split at h4
      · rename_i hz
        cases h4
        refine ⟨ε, M, re, _, h1, fun v H1 e1 hv => ⟨ε, M, re.ex e1, _, h3, fun w H2 e2 hw => ⟨i, j, hv, hw, rgOk_of hz, fun r n => q r _ _ (Evl.fresh_back (e1.trans e2) n) ((e1.trans e2).trans (Evl.Ex.new n)) upd_same (.inl ⟨_, _, rfl, rfl, rg_at i _⟩)⟩⟩⟩
      · cases h4
    · cases h4
theorem u65 {n m : Nat} (h : n + 200 < m) : n + 65 < m := by omega
/-! ### l.index(x) -/
def dIdx : D → D → R D
  | .list ds, d => if okd (.list ds) && okd d && SeqAt.shaped (.list ds) && SeqAt.shaped d then (match ds.findIdx? (fun z => PyData.eqv z d) with | some j => .ok (.int (j : Int)) | none => .bad) else .bad
  | _, _ => .bad
theorem pe_idx (hu : X.A.units + 65 < cLine) (h : PE X e (tBM X.K "list" (rIndexD X.K) (rdE c ma) (tCons (rdE c mb) tNil))) (hK : c.K = X.K := by rfl) : PE X e (rdE c (xBin dIdx ma mb)) := h.wk fun σ H Q ⟨ε, M, re, d, hm, q⟩ => by
  obtain ⟨x, h1, h2⟩ := R.bind_ok hm
  obtain ⟨y, h3, h4⟩ := R.bind_ok h2
  unfold dIdx at h4
  split at h4
  · rename_i _ ds
    split at h4
    · rename_i hz
      rw [Bool.and_eq_true, Bool.and_eq_true, Bool.and_eq_true] at hz
      split at h4
      · rename_i j hj
        cases h4
        obtain ⟨hlt, hp, hno⟩ := List.findIdx?_eq_some_iff_getElem.mp hj
        refine ⟨ε, M, re, _, h1, fun v H1 e1 hv => ?_⟩
        have hv' := hv
        obtain ⟨ad, xs, ev, g1, g2⟩ := hv'
        subst ev
        refine ⟨.inl ⟨rfl, xs, hK ▸ sql_le g1⟩, ε, M, re.ex e1, _, h3, fun w H2 e2 hw => ⟨ad, w, y, ds, j, ds[j], rfl, rfl, ?_, ?_, hz.1.2, hz.2, List.getElem?_eq_getElem hlt, hp, fun m z' hm' hz' => ?_, q _ H2 (e1.trans e2) rfl⟩⟩
        · have := At.dp _ _ (okd_iff hz.1.1.1).1 (At.mono (Evl.Ex.trans (hid_ex e2) hid_le) _ _ hv)
          exact hK ▸ this
        · have := At.dp _ _ (okd_iff hz.1.1.2).1 (At.mono hid_le _ _ hw)
          exact hK ▸ this
        · have hl := (List.getElem?_eq_some_iff.mp hz')
          obtain ⟨hl1, hl2⟩ := hl
          have := hno m hm'
          rw [hl2] at this
          simpa using this
      · cases h4
    · cases h4
  · cases h4
end
section
variable {X : Cx} {c : Cf} {W : WX} {s : Stmt} {me : Nv → R D}
/-! ### own.extend(a new list) -/
def sEx (i : Nat) (me : Nv → R D) : Nv → R Fl := fun ε => (me ε).bind fun d => match gt ε i, d with
  | .mu (.list ds), .list es => if ds.length + es.length ≤ lim then .ok (.nx (st ε i (.mu (.list (ds ++ es))))) else .bad
  | _, _ => .bad
theorem ps_ex {i : Nat} (h : PS X s (tDrop (tBM X.K "list" rExtend (tVar i) (tCons (rdL c me) tNil)))) : PS X s (rdS c W (sEx i me)) := h.wk fun E σ H ⟨ε, M, re, f⟩ => by
  unfold sEx at f
  cases q : me ε with
  | bad => rw [q] at f; exact f.elim
  | ex x y => rw [q] at f; exact f.elim
  | ok d =>
    rw [q] at f
    simp only [R.bind] at f
    split at f
    · rename_i ds es g
      split at f
      · rename_i hz
        obtain ⟨a, o, h1, h2, h3, h4, h5⟩ := re.mu i _ g
        obtain ⟨vs, eo, hl⟩ := own_list h5
        subst eo
        refine ⟨.ref a, h1, .inl ⟨rfl, vs, SqL.of h4⟩, ε, M, re, _, q, fun p o H' n e' hp ho => ?_⟩
        obtain ⟨ws, eo, hw⟩ := own_list ho
        subst eo
        refine ⟨a, p, vs, ws, rfl, rfl, e' a _ h4, hp, ?_, ?_⟩
        · rw [atL_len hl, atL_len hw]
          exact lim_le hz
        · have hws : AtL c.K (hid M H') es ws := AtL.mono (hid_sub fun b hb => List.mem_cons_of_mem _ hb) _ _ hw
          refine f _ _ M ((re.ex e').upd g h1 (.inl ⟨_, _, rfl, rfl, AtL.app (AtL.mono (hid_ex e') _ _ hl) hws⟩)) ?_
          rw [hid_upd h2]
          exact hid_ex e'
      · exact f.elim
    · exact f.elim
/-! ### x = own.pop() -/
def sPo (i j : Nat) : Nv → R Fl := fun ε => match gt ε j with
  | .mu (.list ds) => match ds.getLast? with
    | some d => if i ≠ j then .ok (.nx (st (st ε j (.mu (.list ds.dropLast))) i (.im d))) else .bad
    | none => .bad
  | _ => .bad
theorem AtL.dropLast {K : PySem.W.Frag} {H : Hp} {ds : List D} {vs : List V} (h : AtL K H ds vs) : AtL K H ds.dropLast vs.dropLast := by
  rw [List.dropLast_eq_take, List.dropLast_eq_take, atL_len h]
  exact AtL.take _ h
theorem ps_po {i j : Nat} (h : PS X s (tAsg (tBM0 X.K "list" rPop (tVar j)) (gName i))) (hq : c.op i = true := by rfl) : PS X s (rdS c W (sPo i j)) := h.wk fun E σ H ⟨ε, M, re, f⟩ => by
  unfold sPo at f
  split at f
  · rename_i ds g
    split at f
    · rename_i d hd
      split at f
      · obtain ⟨a, o, h1, h2, h3, h4, h5⟩ := re.mu j _ g
        obtain ⟨vs, eo, hl⟩ := own_list h5
        subst eo
        have hd' : ds[ds.length - 1]? = some d := by rw [← List.getLast?_eq_getElem?]; exact hd
        obtain ⟨v, g1, g2⟩ := AtL.get hl hd'
        refine ⟨.ref a, h1, .inl ⟨rfl, vs, SqL.of h4⟩, a, vs, v, rfl, rfl, h4, by rw [atL_len hl]; exact g1, ?_⟩
        have hh : hid M (L2.upd H a (.lst vs.dropLast)) = hid M H := hid_upd h2
        have r1 := re.upd g h1 (o' := .lst vs.dropLast) (d' := .list ds.dropLast) (.inl ⟨_, _, rfl, rfl, AtL.dropLast hl⟩)
        refine f _ _ M (r1.set (by rw [hh]; exact g2) hq) ?_
        rw [hh]
        exact Evl.Ex.refl _
      · exact f.elim
    · exact f.elim
  · exact f.elim
/-! ### a, b = e, f: one's own new lists among them -/
def rdX (c : Cf) (o : Bool) (m : Nv → R D) : TE := if o then rdL c m else rdE c m
def sv (o : Bool) (d : D) : SV := if o then .mu d else .im d
def sPm (i : Nat) (oi : Bool) (j : Nat) (oj : Bool) (ma mb : Nv → R D) : Nv → R Fl := fun ε => (ma ε).bind fun a => (mb ε).bind fun b => if i ≠ j then .ok (.nx (st (st ε i (sv oi a)) j (sv oj b))) else .bad
theorem pm_core {i j : Nat} {oi oj : Bool} {ma mb : Nv → R D} {σ : L2.St} {H : Hp} {ε : Nv} {M : List Addr} {x y : D} {Q : List V → Hp → Prop} (re : Rel c σ H ε M) (h1 : ma ε = .ok x) (h2 : mb ε = .ok y) (hq : c.op i = true) (hq2 : c.op j = true)
    (q : ∀ v w H2, (∀ H3, Ex H2 H3 → ∃ M3, Rel c ((σ.set i (some v)).set j (some w)) H3 (st (st ε i (sv oi x)) j (sv oj y)) M3 ∧ Ex (hid M H) (hid M3 H3)) → Q [v, w] H2) : tCons (rdX c oi ma) (tCons (rdX c oj mb) tNil) σ H Q := by
  cases oi with
  | false =>
    refine ⟨ε, M, re, x, h1, fun v H1 e1 hv => ?_⟩
    cases oj with
    | false => exact ⟨ε, M, re.ex e1, y, h2, fun w H2 e2 hw => q v w H2 fun H3 e3 => ⟨M, (((re.ex e1).ex e2).ex e3).set (At.mono (hid_ex (e2.trans e3)) _ _ hv) hq |>.set (At.mono (hid_ex e3) _ _ hw) hq2, hid_ex ((e1.trans e2).trans e3)⟩⟩
    | true => exact ⟨ε, M, re.ex e1, y, h2, fun p o H2 n e2 hp ho => q v (.ref p) H2 fun H3 e3 => ⟨p :: M, ((re.ex e1).set hv hq).setMu n (e2.trans e3) (e3 p _ hp) (ho.mono (hid_ex e3)) hq2, Evl.Ex.trans (hid_ex e1) (hid_new (e2.trans e3) n)⟩⟩
  | true =>
    refine ⟨ε, M, re, x, h1, fun p o H1 n e1 hp ho => ?_⟩
    have r1 := re.setMu (i := i) n e1 hp ho hq
    have r0 := re.add n e1 hp
    cases oj with
    | false => exact ⟨ε, p :: M, r0, y, h2, fun w H2 e2 hw => q (.ref p) w H2 fun H3 e3 => ⟨p :: M, ((r1.ex e2).ex e3).set (At.mono (hid_ex e3) _ _ hw) hq2, Evl.Ex.trans (hid_new e1 n) (hid_ex (e2.trans e3))⟩⟩
    | true => exact ⟨ε, p :: M, r0, y, h2, fun p' o' H2 n' e2 hp' ho' => q (.ref p) (.ref p') H2 fun H3 e3 => ⟨p' :: p :: M, r1.setMu n' (e2.trans e3) (e3 p' _ hp') (ho'.mono (hid_ex e3)) hq2, Evl.Ex.trans (hid_new e1 n) (hid_new (e2.trans e3) n')⟩⟩
theorem pm_fin {i j : Nat} {oi oj : Bool} {ma mb : Nv → R D} {E : Ends} {σ : L2.St} {H : Hp} (h : rdS c W (sPm i oi j oj ma mb) E σ H) : ∃ ε M x y, Rel c σ H ε M ∧ ma ε = .ok x ∧ mb ε = .ok y ∧ i ≠ j ∧ Fin c W E (hid M H) (.ok (.nx (st (st ε i (sv oi x)) j (sv oj y)))) := by
  obtain ⟨ε, M, re, f⟩ := h
  unfold sPm at f
  cases q : ma ε with
  | bad => rw [q] at f; exact f.elim
  | ex x y => rw [q] at f; exact f.elim
  | ok x =>
    cases q2 : mb ε with
    | bad => simp only [R.bind, q, q2] at f; exact f.elim
    | ex x y => simp only [R.bind, q, q2] at f; exact f.elim
    | ok y =>
      simp only [R.bind, q, q2] at f
      split at f
      · rename_i hij
        exact ⟨ε, M, x, y, re, q, q2, hij, f⟩
      · exact f.elim
/-- both plain locals -/
theorem ps_pm {i j : Nat} {oi oj : Bool} {ma mb : Nv → R D} {x y : Str} {a b : Expr} {px py pt pos : Pos} {kt k2 pt2} (hc : X.calm = true) (hN : X.N.Nodup) (ha : PE X a (rdX c oi ma)) (hb : PE X b (rdX c oj mb)) (hi : X.N[i]? = some x := by rfl) (hj : X.N[j]? = some y := by rfl) (hij : i ≠ j := by decide)
    (hx : X.env.scope.names.lookup x = some .local := by rfl) (hy : X.env.scope.names.lookup y = some .local := by rfl)
    (hw : swappedStores [.Tuple [.Name x px, .Name y py] kt pt] (.Tuple [a, b] k2 pt2) X.env = pure (some [x, y]) := by rfl) (hs : swapsWithSole [.Tuple [.Name x px, .Name y py] kt pt] (.Tuple [a, b] k2 pt2) pos.line X.env = pure false := by rfl)
    (st1 : starEach [a, b] X.env = (false, eval a X.env) :: starEach [b] X.env := by rfl) (st2 : starEach [b] X.env = (false, eval b X.env) :: starEach [] X.env := by rfl) (hq : c.op i = true := by rfl) (hq2 : c.op j = true := by rfl) :
    PS X (.Assign [.Tuple [.Name x px, .Name y py] kt pt] (.Tuple [a, b] k2 pt2) pos) (rdS c W (sPm i oi j oj ma mb)) := (ps_par hc hN hi hj hij hx hy (pa_cons ha (pa_cons hb pa_nil st2) st1) hw hs).wk fun E σ H h => by
  obtain ⟨ε, M, x, y, re, h1, h2, _, f⟩ := pm_fin h
  refine pm_core (i := i) (j := j) re h1 h2 hq hq2 fun v w H2 hq => ⟨v, w, rfl, ?_⟩
  obtain ⟨M3, r3, e3⟩ := hq H2 (Evl.Ex.refl _)
  exact f _ H2 M3 r3 e3
/-- by way of the pair -/
theorem ps_pmT {i j : Nat} {oi oj : Bool} {ma mb : Nv → R D} (h : PS X s (tAsg (tTup (tCons (rdX c oi ma) (tCons (rdX c oj mb) tNil))) (gTup X.K 2 (gCons (gName i) (gCons (gName j) gNil))))) (hq : c.op i = true := by rfl) (hq2 : c.op j = true := by rfl) : PS X s (rdS c W (sPm i oi j oj ma mb)) := h.wk fun E σ H h => by
  obtain ⟨ε, M, x, y, re, h1, h2, _, f⟩ := pm_fin h
  show tCons (rdX c oi ma) (tCons (rdX c oj mb) tNil) σ H fun xs H1 => xs.length ≤ sizeLine ∧ ∀ p, H1 p = none → gTup X.K 2 (gCons (gName i) (gCons (gName j) gNil)) (.ref p) σ (L2.upd H1 p (.tup xs)) E.nx
  refine pm_core (i := i) (j := j) re h1 h2 hq hq2 fun v w H2 hq => ⟨by show 2 ≤ sizeLine; decide, fun p n => ⟨p, [v, w], rfl, SqT.of upd_same, rfl, v, [w], rfl, w, [], rfl, rfl, ?_⟩⟩
  obtain ⟨M3, r3, e3⟩ := hq _ (Evl.Ex.new n)
  exact f _ _ M3 r3 e3
end
end Tw
set_option Elab.async false
set_option linter.all false
set_option maxRecDepth 100000
set_option maxHeartbeats 4000000
/-! Tw13: sorted(set(..)) of tuples of small numbers, all of one length -/
namespace Tw
open PySem PySem.Spec PyProof.Rows L2
/-! ### the code's order -/
theorem code_bd {B : Int} (hB : 0 < B) : ∀ l : List Int, TS.Bd B l → 0 ≤ TS.code B l ∧ TS.code B l < B ^ l.length
  | [], _ => ⟨Int.le_refl _, by show (0 : Int) < B ^ 0; rw [Int.pow_zero]; decide⟩
  | x :: r, h => by
    obtain ⟨a, b⟩ := code_bd hB r fun m hm => h m (List.mem_cons_of_mem _ hm)
    obtain ⟨x0, x1⟩ := h x List.mem_cons_self
    have p : 0 < B ^ r.length := Int.pow_pos hB
    show 0 ≤ x * B ^ r.length + TS.code B r ∧ x * B ^ r.length + TS.code B r < B ^ (r.length + 1)
    have m1 : 0 ≤ x * B ^ r.length := Int.mul_nonneg x0 (Int.le_of_lt p)
    have m2 : (x + 1) * B ^ r.length ≤ B * B ^ r.length := Int.mul_le_mul_of_nonneg_right (by omega) (Int.le_of_lt p)
    rw [Int.add_mul, Int.one_mul] at m2
    rw [Int.pow_succ, Int.mul_comm _ B]
    exact ⟨by omega, by omega⟩
theorem code_inj {B : Int} (hB : 0 < B) : ∀ (l m : List Int), TS.Bd B l → TS.Bd B m → l.length = m.length → TS.code B l = TS.code B m → l = m
  | [], [], _, _, _, _ => rfl
  | [], _ :: _, _, _, h, _ => by simp at h
  | _ :: _, [], _, _, h, _ => by simp at h
  | x :: r, y :: s, hl, hm, hlen, h => by
    have hrs : r.length = s.length := by simpa using hlen
    obtain ⟨a, b⟩ := code_bd hB r fun m hm => hl m (List.mem_cons_of_mem _ hm)
    obtain ⟨a', b'⟩ := code_bd hB s fun m hm' => hm m (List.mem_cons_of_mem _ hm')
    have h' : x * B ^ r.length + TS.code B r = y * B ^ s.length + TS.code B s := h
    rw [← hrs] at h' b'
    have p : 0 < B ^ r.length := Int.pow_pos hB
    have e : x = y := by
      by_cases q : x < y
      · have m2 : (x + 1) * B ^ r.length ≤ y * B ^ r.length := Int.mul_le_mul_of_nonneg_right (by omega) (Int.le_of_lt p)
        rw [Int.add_mul, Int.one_mul] at m2
        omega
      · by_cases q2 : y < x
        · have m2 : (y + 1) * B ^ r.length ≤ x * B ^ r.length := Int.mul_le_mul_of_nonneg_right (by omega) (Int.le_of_lt p)
          rw [Int.add_mul, Int.one_mul] at m2
          omega
        · omega
    subst e
    rw [code_inj hB r s (fun m hm => hl m (List.mem_cons_of_mem _ hm)) (fun m hm' => hm m (List.mem_cons_of_mem _ hm')) hrs (by omega)]
/-- x at its place, once -/
def ins (B : Int) (x : List Int) : List (List Int) → List (List Int)
  | [] => [x]
  | y :: r => if TS.code B x < TS.code B y then x :: y :: r else if TS.code B x = TS.code B y then y :: r else y :: ins B x r
def ssort (B : Int) (l : List (List Int)) : List (List Int) := l.foldr (ins B) []
def okT (B : Int) (d : Nat) (l : List (List Int)) : Bool := l.all fun x => decide (x.length = d) && x.all fun i => decide (0 ≤ i) && decide (i < B)
theorem okT_mem {B : Int} {d : Nat} {l : List (List Int)} (h : okT B d l = true) : ∀ x, x ∈ l → x.length = d ∧ TS.Bd B x := fun x hx => by
  have := List.all_eq_true.mp h x hx
  rw [Bool.and_eq_true] at this
  refine ⟨of_decide_eq_true this.1, fun m hm => ?_⟩
  have q := List.all_eq_true.mp this.2 m hm
  rw [Bool.and_eq_true] at q
  exact ⟨of_decide_eq_true q.1, of_decide_eq_true q.2⟩
theorem ins_mem {B : Int} (hB : 0 < B) {d : Nat} {x : List Int} (hx : x.length = d ∧ TS.Bd B x) : ∀ l : List (List Int), (∀ y, y ∈ l → y.length = d ∧ TS.Bd B y) → ∀ z, z ∈ ins B x l ↔ z = x ∨ z ∈ l
  | [], _, z => by simp [ins]
  | y :: r, h, z => by
    unfold ins
    split
    · simp
    · split
      · rename_i e
        have exy := code_inj hB x y hx.2 (h y List.mem_cons_self).2 (by rw [hx.1, (h y List.mem_cons_self).1]) e
        rw [exy]
        simp
      · rw [List.mem_cons, ins_mem hB hx r (fun w hw => h w (List.mem_cons_of_mem _ hw)) z, List.mem_cons]
        constructor
        · rintro (q | q | q)
          · exact .inr (.inl q)
          · exact .inl q
          · exact .inr (.inr q)
        · rintro (q | q | q)
          · exact .inr (.inl q)
          · exact .inl q
          · exact .inr (.inr q)
theorem ins_srt {B : Int} (hB : 0 < B) {d : Nat} {x : List Int} (hx : x.length = d ∧ TS.Bd B x) : ∀ l : List (List Int), (∀ y, y ∈ l → y.length = d ∧ TS.Bd B y) → l.Pairwise (fun a b => TS.code B a < TS.code B b) → (ins B x l).Pairwise fun a b => TS.code B a < TS.code B b
  | [], _, _ => by
    unfold ins
    exact List.pairwise_singleton _ _
  | y :: r, h, p => by
    have p' := List.pairwise_cons.mp p
    unfold ins
    split
    · rename_i lt
      refine List.pairwise_cons.mpr ⟨fun z hz => ?_, p⟩
      rcases List.mem_cons.mp hz with e | e
      · rw [e]
        exact lt
      · exact Int.lt_trans lt (p'.1 z e)
    · split
      · exact p
      · rename_i n1 n2
        refine List.pairwise_cons.mpr ⟨fun z hz => ?_, ins_srt hB hx r (fun w hw => h w (List.mem_cons_of_mem _ hw)) p'.2⟩
        rcases (ins_mem hB hx r (fun w hw => h w (List.mem_cons_of_mem _ hw)) z).mp hz with e | e
        · rw [e]
          omega
        · exact p'.1 z e
theorem ssort_ok {B : Int} (hB : 0 < B) {d : Nat} : ∀ l : List (List Int), (∀ y, y ∈ l → y.length = d ∧ TS.Bd B y) → (∀ z, z ∈ ssort B l ↔ z ∈ l) ∧ (ssort B l).Pairwise fun a b => TS.code B a < TS.code B b
  | [], _ => ⟨fun _ => Iff.rfl, List.Pairwise.nil⟩
  | x :: r, h => by
    obtain ⟨a, b⟩ := ssort_ok hB r fun y hy => h y (List.mem_cons_of_mem _ hy)
    have h' : ∀ y, y ∈ ssort B r → y.length = d ∧ TS.Bd B y := fun y hy => h y (List.mem_cons_of_mem _ ((a y).mp hy))
    have hx := h x List.mem_cons_self
    refine ⟨fun z => ?_, ins_srt hB hx _ h' b⟩
    show z ∈ ins B x (ssort B r) ↔ _
    rw [ins_mem hB hx _ h' z, a z, List.mem_cons]
/-- there is one such list -/
theorem ssort_uni {B : Int} (hB : 0 < B) {d : Nat} {l m : List (List Int)} (h : ∀ y, y ∈ l → y.length = d ∧ TS.Bd B y) (hm : ∀ z, z ∈ m ↔ z ∈ l) (nd : m.Nodup) (p : m.Pairwise fun a b => TS.code B a ≤ TS.code B b) : m = ssort B l := by
  obtain ⟨a, b⟩ := ssort_ok hB l h
  have nd2 : (ssort B l).Nodup := b.imp fun hlt e => by
    rw [e] at hlt
    exact Int.lt_irrefl _ hlt
  have perm : m.Perm (ssort B l) := (List.perm_ext_iff_of_nodup nd nd2).mpr fun z => by rw [hm z, a z]
  refine perm.eq_of_pairwise (le := fun a b => TS.code B a ≤ TS.code B b) (fun x y hx hy h1 h2 => ?_) p (b.imp fun hlt => Int.le_of_lt hlt)
  have hx' := h x ((hm x).mp hx)
  have hy' := h y ((a y).mp hy)
  exact code_inj hB x y hx'.2 hy'.2 (by rw [hx'.1, hy'.1]) (by omega)
/-! ### the mirror -/
def tupsOf : List D → Option (List (List Int))
  | [] => some []
  | .tuple ds :: r => match intsOf ds, tupsOf r with
    | some l, some ls => some (l :: ls)
    | _, _ => none
  | _ :: _ => none
def tupD (l : List Int) : D := .tuple (l.map PyData.int)
theorem tupsOf_some : ∀ {ds : List D} {ls : List (List Int)}, tupsOf ds = some ls → ds = ls.map tupD
  | [], ls, h => by cases h; rfl
  | .tuple es :: r, ls, h => by
    unfold tupsOf at h
    split at h
    · rename_i l ls' h1 h2
      cases h
      rw [intsOf_some h1, tupsOf_some h2]
      rfl
    · cases h
  | .none :: _, _, h => by cases h
  | .bool _ :: _, _, h => by cases h
  | .int _ :: _, _, h => by cases h
  | .str _ :: _, _, h => by cases h
  | .list _ :: _, _, h => by cases h
  | .dict _ :: _, _, h => by cases h
theorem tupsOf_map : ∀ ls : List (List Int), tupsOf (ls.map tupD) = some ls
  | [] => rfl
  | l :: r => by
    show (match intsOf (l.map PyData.int), tupsOf (r.map tupD) with | some l, some ls => some (l :: ls) | _, _ => none) = _
    rw [intsOf_map, tupsOf_map r]
def dSS : D → R D
  | .list ds => match tupsOf ds with
    | some (l :: ls) => if decide (1 ≤ l.length) && decide ((l :: ls).length < 64) && okT 1000 l.length (l :: ls) then .ok (.list ((ssort 1000 (l :: ls)).map tupD)) else .bad
    | _ => .bad
  | _ => .bad
section
variable {X : Cx} {c : Cf} {e : Expr} {me : Nv → R D} {p p2 pos pos2 : Pos}
theorem tups_at {K : PySem.W.Frag} {H : Hp} : ∀ {ls : List (List Int)} {vs : List V}, AtL K H (ls.map tupD) vs → ∃ ks : List (Addr × List Int), ks.map (·.2) = ls ∧ vs = ks.map (fun p => V.ref p.1) ∧ ∀ p ∈ ks, SqT K H p.1 (p.2.map V.int)
  | [], vs, h => ⟨[], rfl, h, fun _ h => by cases h⟩
  | l :: r, vs, ⟨v, ws, ev, ⟨a, xs, e1, s1, a1⟩, h2⟩ => by
    obtain ⟨ks, k1, k2, k3⟩ := tups_at h2
    have e2 := AtL.ints a1
    subst e1 e2
    refine ⟨(a, l) :: ks, by rw [List.map_cons, k1], by rw [ev, k2]; rfl, fun q hq => ?_⟩
    rcases List.mem_cons.mp hq with rfl | hq
    · exact s1
    · exact k3 q hq
theorem at_tups {K : PySem.W.Frag} {H : Hp} : ∀ (ks : List (Addr × List Int)), (∀ p ∈ ks, SqT K H p.1 (p.2.map V.int)) → AtL K H ((ks.map (·.2)).map tupD) (ks.map fun p => V.ref p.1)
  | [], _ => rfl
  | q :: r, h => by
    have intsA : ∀ l : List Int, AtL K H (l.map PyData.int) (l.map V.int) := fun l => by
      induction l with
      | nil => rfl
      | cons i s ih => exact ⟨_, _, rfl, rfl, ih⟩
    exact ⟨_, _, rfl, ⟨q.1, _, rfl, h q List.mem_cons_self, intsA q.2⟩, at_tups r fun p hp => h p (List.mem_cons_of_mem _ hp)⟩
theorem u64 {n m : Nat} (h : n + 200 < m) : n + 64 < m := by omega
theorem pe_ss (hu : X.A.units + 200 < cLine) (h : PE X e (tCB (rSortedT X.K X.prog X.w) (tCons (tCB (rSetOfT X.K X.prog X.w) (tCons (rdE c me) tNil)) tNil))) (hK : c.K = X.K := by rfl) : PE X e (rdL c (xUn dSS me)) := h.wk fun σ H Q ⟨ε, M, re, d, hm, q⟩ => by
  obtain ⟨x, h1, h2⟩ := R.bind_ok hm
  unfold dSS at h2
  split at h2
  · rename_i ds
    split at h2
    · rename_i l ls ht
      split at h2
      · rename_i hz
        cases h2
        rw [Bool.and_eq_true, Bool.and_eq_true] at hz
        have hd := of_decide_eq_true hz.1.1
        have hf := of_decide_eq_true hz.1.2
        have hok := okT_mem hz.2
        refine ⟨ε, M, re, _, h1, fun v H1 e1 hv => ?_⟩
        obtain ⟨a, xs, ev, g1, g2⟩ := hv
        rw [tupsOf_some ht] at g2
        obtain ⟨ks, k1, k2, k3⟩ := tups_at g2
        subst k2
        refine ⟨a, ks, by rw [ev], hK ▸ sql_le g1, fun p hp => hK ▸ sqt_le (k3 p hp), by rw [← k1, List.length_map] at hf; exact hf, fun b L nb sub all => ?_⟩
        have eL : Ex H1 (L2.upd H1 b (SetTO X.prog X.w b L)) := Evl.Ex.new nb
        have mem : ∀ z, z ∈ L.map (·.2) ↔ z ∈ l :: ls := fun z => by
          rw [← k1]
          constructor
          · intro hz
            obtain ⟨q, hq, rfl⟩ := List.mem_map.mp hz
            exact List.mem_map_of_mem (sub q hq)
          · intro hz
            obtain ⟨q, hq, rfl⟩ := List.mem_map.mp hz
            exact all q hq
        refine ⟨b, L, l.length, 1000, rfl, upd_same, fun p hp => hK ▸ Evl.ex_t eL (sqt_le (k3 p (sub p hp))), hd, fun p hp => hok p.2 ((mem p.2).mp (List.mem_map_of_mem hp)), fun L' r pm nd few pw nr => ?_⟩
        have eR := eL.trans (Evl.Ex.new (o := .lst (L'.map fun q => V.ref q.1)) nr)
        have e2 : L'.map (·.2) = ssort 1000 (l :: ls) := ssort_uni (by decide) hok (fun z => by rw [← mem z, (pm.map (·.2)).mem_iff]) nd (List.pairwise_map.mpr pw)
        have mM : r ∉ M := Trk.no (Trk.ex re.trk (e1.trans eL)) nr
        refine q r (.lst (L'.map fun q => V.ref q.1)) _ (Evl.fresh_back (e1.trans eL) nr) (e1.trans eR) upd_same (.inl ⟨_, _, rfl, rfl, ?_⟩)
        rw [← e2]
        refine at_tups L' fun p hp => ?_
        have hp' := k3 p (sub p (pm.mem_iff.mp hp))
        exact Evl.ex_t (Evl.Ex.trans (hid_ex eL) (hid_new (Evl.Ex.new nr) nr)) hp'
      · cases h2
    · cases h2
  · cases h2
end
end Tw
set_option Elab.async false
set_option linter.all false
set_option maxRecDepth 100000
set_option maxHeartbeats 4000000
/-! Tw14: sorted of ints and of lists of ints, by a sort that evaluates -/
namespace Tw
open PySem PySem.Spec PyProof.Rows L2
section
variable {α : Type} (le : α → α → Bool)
def inB (a : α) : List α → List α
  | [] => [a]
  | b :: r => if le a b then a :: b :: r else b :: inB a r
def isrt (l : List α) : List α := l.foldr (inB le) []
theorem inB_mid (a : α) : ∀ (l m : List α), (∀ b, b ∈ l → (!le a b) = true) → (∀ b, b ∈ m → le a b = true) → inB le a (l ++ m) = l ++ a :: m
  | [], [], _, _ => rfl
  | [], b :: r, _, h => by
    show (if le a b then a :: b :: r else b :: inB le a r) = a :: b :: r
    rw [if_pos (h b List.mem_cons_self)]
  | c :: l, m, h, h2 => by
    have hc : le a c = false := by
      have := h c List.mem_cons_self
      simpa using this
    show (if le a c then a :: c :: (l ++ m) else c :: inB le a (l ++ m)) = c :: (l ++ a :: m)
    rw [hc, if_neg Bool.false_ne_true, inB_mid a l m (fun b hb => h b (List.mem_cons_of_mem _ hb)) h2]
theorem isrt_eq (trans : ∀ (a b c : α), le a b = true → le b c = true → le a c = true) (total : ∀ (a b : α), (le a b || le b a) = true) : ∀ l : List α, l.mergeSort le = isrt le l
  | [] => by rw [List.mergeSort_nil]; rfl
  | a :: l => by
    obtain ⟨l1, l2, h1, h2, h3⟩ := List.mergeSort_cons (le := le) (fun a b c x y => trans a b c x y) total a l
    have p := List.pairwise_mergeSort (le := le) (fun a b c x y => trans a b c x y) total (a :: l)
    rw [h1] at p
    have p2 := (List.pairwise_append.mp p).2.1
    have p3 := (List.pairwise_cons.mp p2).1
    rw [h1]
    show _ = inB le a (isrt le l)
    rw [← isrt_eq trans total l, h2, inB_mid le a l1 l2 (fun b hb => h3 b hb) fun b hb => p3 b hb]
end
def leI (a b : Int) : Bool := decide (a ≤ b)
def leR (a b : List Int) : Bool := decide (a ≤ b)
def rowD' (l : List Int) : D := .list (l.map PyData.int)
def rowsOf : List D → Option (List (List Int))
  | [] => some []
  | .list ds :: r => match intsOf ds, rowsOf r with
    | some l, some ls => some (l :: ls)
    | _, _ => none
  | _ :: _ => none
theorem rowsOf_some : ∀ {ds : List D} {ls : List (List Int)}, rowsOf ds = some ls → ds = ls.map rowD'
  | [], ls, h => by cases h; rfl
  | .list es :: r, ls, h => by
    unfold rowsOf at h
    split at h
    · rename_i l ls' h1 h2
      cases h
      rw [intsOf_some h1, rowsOf_some h2]
      rfl
    · cases h
  | .none :: _, _, h => by cases h
  | .bool _ :: _, _, h => by cases h
  | .int _ :: _, _, h => by cases h
  | .str _ :: _, _, h => by cases h
  | .tuple _ :: _, _, h => by cases h
  | .dict _ :: _, _, h => by cases h
theorem rowsOf_map : ∀ ls : List (List Int), rowsOf (ls.map rowD') = some ls
  | [] => rfl
  | l :: r => by
    show (match intsOf (l.map PyData.int), rowsOf (r.map rowD') with | some l, some ls => some (l :: ls) | _, _ => none) = _
    rw [intsOf_map, rowsOf_map r]
theorem leI_ok : (∀ a b c : Int, leI a b = true → leI b c = true → leI a c = true) ∧ ∀ a b : Int, (leI a b || leI b a) = true := by
  unfold leI
  refine ⟨fun a b c h1 h2 => ?_, fun a b => ?_⟩
  · have := of_decide_eq_true h1
    have := of_decide_eq_true h2
    exact decide_eq_true (by omega)
  · rcases Int.le_total a b with h | h
    · rw [decide_eq_true h]
      rfl
    · rw [decide_eq_true h, Bool.or_true]
theorem leR_ok : (∀ a b c : List Int, leR a b = true → leR b c = true → leR a c = true) ∧ ∀ a b : List Int, (leR a b || leR b a) = true := by
  unfold leR
  refine ⟨fun a b c h1 h2 => decide_eq_true (List.le_trans (of_decide_eq_true h1) (of_decide_eq_true h2)), fun a b => ?_⟩
  rcases List.le_total a b with h | h
  · rw [decide_eq_true h]
    rfl
  · rw [decide_eq_true h, Bool.or_true]
theorem ms_ints (l : List Int) : (l.map PyData.int).mergeSort (PySem.W.dataLe false id) = (isrt leI l).map PyData.int := by
  rw [← isrt_eq leI leI_ok.1 leI_ok.2, List.map_mergeSort (r := leI)]
  intro a _ b _
  have := PySem.W.dataLe_int (β := Int) id
  exact (congrFun (congrFun this a) b).symm
theorem ms_rows (l : List (List Int)) : (l.map rowD').mergeSort (PySem.W.dataLe false id) = (isrt leR l).map rowD' := by
  rw [← isrt_eq leR leR_ok.1 leR_ok.2, List.map_mergeSort (r := leR)]
  intro a _ b _
  have := PySem.W.dataLe_rows (β := List Int) id
  exact (congrFun (congrFun this a) b).symm
def srtD (ds : List D) : List D := isrt (PySem.W.dataLe false id) ds
theorem srtD_eq (ds : List D) : srtD ds = ds.mergeSort (PySem.W.dataLe false id) := by
  have T : PySem.W.TotalLe (PySem.W.dataLe (β := D) false id) := PySem.W.sortLe_total _ false _
  exact (isrt_eq (PySem.W.dataLe false id) T.trans (fun a b => by rw [Bool.or_eq_true]; exact T.total a b) ds).symm
theorem srtD_ints (l : List Int) : srtD (l.map PyData.int) = (isrt leI l).map PyData.int := (srtD_eq _).trans (ms_ints l)
theorem srtD_rows (l : List (List Int)) : srtD (l.map rowD') = (isrt leR l).map rowD' := (srtD_eq _).trans (ms_rows l)
def kSort : List D → R D
  | [.list ds] => if okd (.list ds) && sortB ds && decide (ds.length ≤ lim) then .ok (.list (srtD ds)) else .bad
  | _ => .bad
theorem kSort_eq : kSort = kSorted := by
  funext l
  unfold kSort kSorted
  split
  · rw [srtD_eq]
  · rename_i h
    first
      | rfl
      | (split
         · exact absurd rfl (h _)
         · rfl)
theorem k_sort {X : Cx} (hu : X.A.units + 200 < cLine) : CallR X (.builtin "sorted") (rnL X.K kSort) := by
  rw [kSort_eq]
  exact k_sorted hu
end Tw
set_option Elab.async false
set_option linter.all false
set_option maxRecDepth 100000
set_option maxHeartbeats 4000000
/-! Tw15: zip of a tuple with a list -/
namespace Tw
open PySem PySem.Spec PyProof.Rows L2
def ItzM (K : PySem.W.Frag) (a b : Addr) : It :=
  ⟨fun i H => ∃ (us ws : List V) (x y : V), SqT K H a us ∧ SqL K H b ws ∧ us[i]? = some x ∧ ws[i]? = some y,
    fun i H v H' => ∃ q x y, v = .ref q ∧ H q = none ∧ H' = L2.upd H q (.tup [x, y]) ∧ (∀ us, SqT K H a us → us[i]? = some x) ∧ ∀ ws, SqL K H b ws → ws[i]? = some y,
    fun i H => ∃ us ws : List V, SqT K H a us ∧ SqL K H b ws ∧ i = min us.length ws.length⟩
theorem sub4 {z t1 t2 i1 i2 c : Addr} (h : c ∈ [z, t2, i1, i2]) : c ∈ [z, t1, t2, i1, i2] := by
  simp only [List.mem_cons, List.not_mem_nil, or_false] at h ⊢
  rcases h with h | h | h | h
  · exact .inl h
  · exact .inr (.inr (.inl h))
  · exact .inr (.inr (.inr (.inl h)))
  · exact .inr (.inr (.inr (.inr h)))
theorem turn_zM {P : Program} {w : World} {K : PySem.W.Frag} {elts : List Expr} {kk : Nat} {tpos : Pos} {a b z t1 t2 i1 i2 : Addr} (S : ZipSep2 z t1 t2 i1 i2 [i1, a] [i2, b]) (na : a ≠ i1) (nb : b ≠ i2) :
    Turn P w K (.Tuple elts kk tpos) (ItzM K a b) [z, t1, t2, i1, i2] z (fun i h => IsZip h z t1 t2 .none ∧ IsTupOf2 h t1 (.ref i1) (.ref i2) ∧ (∃ x y, IsTupOf2 h t2 x y) ∧ h.IsTupleIter i1 a i ∧ h.IsListIter i2 b i) where
  mem := List.mem_cons_self
  obj := fun i h st c hc => by
    obtain ⟨g0, g1, ⟨x, y, g2⟩, ⟨o1, e1, _, d1⟩, ⟨o2, e2, _, d2⟩⟩ := st
    simp only [List.mem_cons, List.not_mem_nil, or_false] at hc
    rcases hc with rfl | rfl | rfl | rfl | rfl
    · exact ⟨_, g0, fun v q => nomatch q⟩
    · exact ⟨_, g1, fun v q => nomatch q⟩
    · exact ⟨_, g2, fun v q => nomatch q⟩
    · refine ⟨o1, e1, fun v q => ?_⟩
      rw [d1] at q
      cases q
    · refine ⟨o2, e2, fun v q => ?_⟩
      rw [d2] at q
      cases q
  keep := fun i h h' st k => by
    obtain ⟨g0, g1, ⟨x, y, g2⟩, g3, g4⟩ := st
    refine ⟨k z (by simp) _ g0, k t1 (by simp) _ g1, ⟨x, y, k t2 (by simp) _ g2⟩, g3.at fun o q => k i1 (by simp) o q, g4.at fun o q => k i2 (by simp) o q⟩
  item := by
    intro X e1 e2 e3 hc i pins s σ H E I hf st hg
    subst e1 e2 e3
    obtain ⟨g0, g1, ⟨x0, y0, g2⟩, g3, g4⟩ := st
    obtain ⟨us, ws, x, y, qa, qb, hx, hy⟩ := hg
    obtain ⟨is, rv, p, _⟩ := I.tuple qa
    obtain ⟨js, rw', p', _⟩ := I.list qb
    obtain ⟨u, hu, ru⟩ := rv.get hx
    obtain ⟨v, hv, rv2⟩ := rw'.get hy
    have hh : X.A.in1.handled = none := I.ok.hd hc
    have W := WalksT.zipD2 (prog := X.prog) (w := X.w) (A := X.A) S (Draws.tuple hh i1 a na is.toArray) (Draws.list hh i2 b nb js.toArray)
    have hi : i < min is.toArray.size js.toArray.size := by
      have h1 := (List.getElem?_eq_some_iff.mp hu).1
      have h2 := (List.getElem?_eq_some_iff.mp hv).1
      rw [List.size_toArray, List.size_toArray]
      omega
    refine W.item i s _ _ hi ⟨g0, g1, ⟨x0, y0, g2⟩, ⟨g3, p⟩, g4, p'.isList⟩ fun q vals h1 tk hP hq hT mid hk => ⟨_, rfl, W.go elts kk tpos i q _ _ _ mid fun h2 st2 hk2 => ?_⟩
    obtain ⟨x1, x2, a1, a2, rfl⟩ := hP
    have b1 : x1 = u := by
      rw [List.getElem?_toArray, hu] at a1
      exact (Option.some.inj a1).symm
    have b2 : x2 = v := by
      rw [List.getElem?_toArray, hv] at a2
      exact (Option.some.inj a2).symm
    subst b1 b2
    have hT2 : h2.IsTuple q [x1, x2].toArray := hT.at fun o e => hk2 q o (W.apart i q _ mid) e
    have nq : H q = none := I.hok.fresh hq
    have I1 : Inv X pins σ (L2.upd H q (.tup [x, y])) { s with heap := h2, toks := tk } :=
      I.turnedNew (t' := tk) (ch := [z, t1, t2, i1, i2]) (fun c o hb e => hk2 c o (fun m => hb (sub4 m)) (hk c o (fun m => hb (sub4 m)) e)) hf hq ⟨by show 2 ≤ sizeLine; decide, [x1, x2], .cons ru (.cons rv2 .nil), hT2⟩
    obtain ⟨k0, k1, k2, ⟨k3, _⟩, k4, _⟩ := st2
    refine ⟨.ref q, _, I1, rfl, ⟨q, x, y, rfl, nq, rfl, fun l hl => by rw [I.tuple_inj hl qa]; exact hx, fun l hl => by rw [I.list_inj hl qb]; exact hy⟩, ⟨k0, k1, k2, k3, k4⟩, fun c hc => ?_⟩
    have ex : ∃ o, s.heap.get? c = some o := by
      simp only [List.mem_cons, List.not_mem_nil, or_false] at hc
      obtain ⟨o1, e1, _⟩ := g3
      obtain ⟨o2, e2, _⟩ := g4
      rcases hc with rfl | rfl | rfl | rfl | rfl
      · exact ⟨_, g0⟩
      · exact ⟨_, g1⟩
      · exact ⟨_, g2⟩
      · exact ⟨o1, e1⟩
      · exact ⟨o2, e2⟩
    have ne : c ≠ q := fun e => by
      obtain ⟨o, ho⟩ := ex
      rw [e] at ho
      exact absurd (Heap.lt_size ho) (Nat.not_lt.mpr hq)
    rw [upd_ne ne]
    exact (hf c hc).1
  done := by
    intro X e1 e2 e3 hc i pins s σ H E I hf st hg
    subst e1 e2 e3
    obtain ⟨g0, g1, ⟨x0, y0, g2⟩, g3, g4⟩ := st
    obtain ⟨us, ws, qa, qb, hi⟩ := hg
    obtain ⟨is, rv, p, _⟩ := I.tuple qa
    obtain ⟨js, rw', p', _⟩ := I.list qb
    have hh : X.A.in1.handled = none := I.ok.hd hc
    have W := WalksT.zipD2 (prog := X.prog) (w := X.w) (A := X.A) S (Draws.tuple hh i1 a na is.toArray) (Draws.list hh i2 b nb js.toArray)
    have hi2 : i = min is.toArray.size js.toArray.size := by
      rw [List.size_toArray, List.size_toArray, ← rv.length, ← rw'.length, hi]
    refine W.done s _ _ (by rw [← hi2]; exact ⟨g0, g1, ⟨x0, y0, g2⟩, ⟨g3, p⟩, g4, p'.isList⟩) fun h1 tk hk => ⟨rfl, I.turnedL (t' := tk) (ch := [z, t1, t2, i1, i2]) (fun c o hb e => hk c o (fun m => hb (sub4 m)) e) hf⟩
  self := fun A i s Q E st h => wpAny_pyIter_zip st.1 h
theorem wk_zM {K : PySem.W.Frag} {B : Hp} {a b : Addr} {vs ws : List V} {ds es : List D} (h : SqT K B a vs) (hd : AtL K B ds vs) (h' : SqL K B b ws) (hd' : AtL K B es ws) : Wk K B (ItzM K a b) (zipG ds es) := fun i H e => by
  have g1 : SqT K H a vs := Evl.ex_t e h
  have g2 : SqL K H b ws := Evl.ex_l e h'
  have n := atL_len hd
  have n' := atL_len hd'
  have l := zipG_len ds es
  refine ⟨fun hi => ⟨vs, ws, vs[i]'(by omega), ws[i]'(by omega), g1, g2, List.getElem?_eq_getElem (by omega), List.getElem?_eq_getElem (by omega)⟩, fun hi => ⟨vs, ws, g1, g2, by omega⟩, fun x H' ⟨t, y, z, e1, nt, e2, q, q'⟩ => ?_⟩
  subst e1 e2
  refine ⟨Evl.Ex.new nt, fun d hi M' tk e2 => ?_⟩
  obtain ⟨f, g, k1, k2, k3⟩ := zipG_get ds es i d hi
  subst k3
  obtain ⟨v, h1, h2⟩ := AtL.get hd k1
  obtain ⟨w, h3, h4⟩ := AtL.get hd' k2
  have u1 : v = y := Option.some.inj (h1.symm.trans (q vs g1))
  have u2 : w = z := Option.some.inj (h3.symm.trans (q' ws g2))
  subst u1 u2
  have e3 := Evl.Ex.trans e2 (hid_ex (Evl.Ex.new (o := .tup [v, w]) nt))
  exact ⟨t, _, rfl, SqT.of (hid_of upd_same (tk.no nt)), _, _, rfl, At.mono e3 f v h2, _, _, rfl, At.mono e3 g w h4, rfl⟩
/-! ### the walk -/
def iZipM (K : PySem.W.Frag) (ta : TA) : TI := fun σ H R => ta σ H fun vs H1 => ∃ a b us ws, vs = [.ref a, .ref b] ∧ SqT K H1 a us ∧ SqL K H1 b ws ∧ R (ItzM K a b) H1
theorem pi_zM {X : Cx} {e e2 : Expr} {ta : TA} {p pos tpos : Pos} {elts : List Expr} {kk : Nat} (hm : X.mg "zip" = none) (ha : PA X [e, e2] ta) (hg : Gl X "zip") (hs : starEach [e, e2] X.env = (false, eval e X.env) :: starEach [e2] X.env) (hpl : (backTo pos (starEach [e2] X.env)).any (·.1) = false) :
    PI X (.Tuple elts kk tpos) (.Call (.Name "zip" p) [e, e2] [] pos) (iZipM X.K ta) := by
  constructor
  intro pins s σ H R I h
  refine Call_ (ld_blt I hg hm PyProof.Rows.boot_zip ?_)
  refine PyProof.Rows.callWith_type1 (thn (ha.run pos pins s σ H _ I h) fun xs s1 ⟨vs, H1, I1, r1, a, b, us, ws, ev, qa, qb, q⟩ => ?_) hs hpl
  subst ev
  obtain ⟨y1, y2, rfl, ra, rb⟩ : ∃ y1 y2, xs = [y1, y2] ∧ L2.RelV (V.ref a) y1 ∧ L2.RelV (V.ref b) y2 := by
    cases r1 with
    | cons f g =>
      cases g with
      | cons f' g' =>
        cases g'
        exact ⟨_, _, rfl, f, f'⟩
  obtain rfl : y1 = Value.ref a := ra
  obtain rfl : y2 = Value.ref b := rb
  obtain ⟨is, _, p1, _⟩ := I1.tuple qa
  obtain ⟨js, _, p2, _⟩ := I1.list qb
  obtain ⟨o1, ho1, _⟩ := id p1
  have la : a < s1.heap.objs.size := Heap.lt_size ho1
  have lb : b < s1.heap.objs.size := p2.lt
  refine zip_begins2 (begins_tuple a is.toArray) (begins_list b js.toArray) p1 p2.isList fun h1 g0 g1 g2 g3 g4 hsz hk => wpAny_pyIter_zip g0 ?_
  have I2 : L2.Inv X pins σ H1 { s1 with heap := h1 } := I1.kept (t' := s1.toks) hk
  have fresh : ∀ c, c ∈ [s1.heap.objs.size + 4, s1.heap.objs.size + 2, s1.heap.objs.size + 3, s1.heap.objs.size, s1.heap.objs.size + 1] → FpOk X pins H1 c := fun c hc => by
    have le : s1.heap.objs.size ≤ c := by
      simp only [List.mem_cons, List.not_mem_nil, or_false] at hc
      rcases hc with rfl | rfl | rfl | rfl | rfl
      · exact Nat.le_add_right _ _
      · exact Nat.le_add_right _ _
      · exact Nat.le_add_right _ _
      · exact Nat.le_refl _
      · exact Nat.le_add_right _ _
    exact I1.fpOk le (I1.hok.fresh le)
  have one : ∀ {x : Addr} {c : Addr}, x < s1.heap.objs.size → c ∈ [x] → c < s1.heap.objs.size := fun hx hc => by
    rw [List.mem_singleton] at hc
    rw [hc]
    exact hx
  exact ⟨s1.heap.objs.size + 4, _, _, _, H1, rfl, I2, turn_zM (zip_sep2 (fun c hc => one la hc) fun c hc => one lb hc) (Nat.ne_of_lt la) (Nat.ne_of_lt (Nat.lt_succ_of_lt lb)), ⟨g0, g1, ⟨_, _, g2⟩, ⟨_, g3, rfl, rfl⟩, ⟨_, g4, rfl, rfl⟩⟩, fresh, q⟩
def iZm (m : Nv → R (List D)) : Nv → R (List D) := fun ε => (m ε).bind fun ds => match ds with
  | [.tuple xs, .list ys] => .ok (zipG xs ys)
  | _ => .bad
theorem pi_zm {X : Cx} {c : Cf} {ms : Nv → R (List D)} {p pos tpos : Pos} {e e2 : Expr} {elts : List Expr} {kk : Nat} (hm : X.mg "zip" = none) (ha : PA X [e, e2] (rdA c ms)) (hg : Gl X "zip" := by rfl) (hs : starEach [e, e2] X.env = (false, eval e X.env) :: starEach [e2] X.env := by rfl) (hpl : (backTo pos (starEach [e2] X.env)).any (·.1) = false := by rfl) (hK : c.K = X.K := by rfl) :
    PI X (.Tuple elts kk tpos) (.Call (.Name "zip" p) [e, e2] [] pos) (rdI c (iZm ms)) := (pi_zM hm ha hg hs hpl).wk fun σ H Q ⟨ε, M, re, ds, hm, q⟩ => by
    obtain ⟨as, h1, h2⟩ := R.bind_ok hm
    refine ⟨ε, M, re, as, h1, fun vs H1 e1 hv => ?_⟩
    split at h2
    · cases h2
      obtain ⟨v, w, ev, ⟨a, xs, e2, g1, g2⟩, ⟨b, ys, e3, g3, g4⟩⟩ := at_two hv
      exact ⟨a, b, xs, ys, by rw [ev, e2, e3], hK ▸ sqt_le g1, hK ▸ sql_le g3, q _ H1 e1 (hK ▸ wk_zM g1 g2 g3 g4)⟩
    · cases h2
end Tw
set_option Elab.async false
set_option linter.all false
set_option maxRecDepth 100000
set_option maxHeartbeats 4000000
/-! Tw16: an own exception whose base's init says super().__init__(at); self.at = at -/
namespace Tw
open PySem PySem.Spec PyProof.Rows L2
/-- the init as it is written -/
def iniBody (p0 p1 p2 p3 p4 p5 p6 p7 p8 p9 : Pos) : List Stmt :=
  [.Expr (.Call (.Attribute (.Call (.Name "super" p0) [] [] p1) "__init__" p2) [.Name "at" p3] [] p4) p5, .Assign [.Attribute (.Name "self" p6) "at" p7] (.Name "at" p8) p9]
def iniArgs (q0 q1 : Pos) : Arguments := { posonlyargs := [], args := [{ arg := "self", annotation := none, pos := q0 }, { arg := "at", annotation := none, pos := q1 }], vararg := none, kwonlyargs := [], kw_defaults := [], kwarg := none, defaults := [] }
def iniScope : Scope := { kind := .function, names := [("self", .local), ("at", .local), ("__class__", .free), ("super", .globalImplicit)], isGenerator := false, isCoroutine := false, more := [] }
/-- what the written part says of that init and of a class C that has it -/
structure IniC (P : Program) (K : PySem.W.Frag) (C fI D cdv cc : Addr) (p0 p1 p2 p3 p4 p5 p6 p7 p8 p9 q0 q1 : Pos) : Prop where
  look : ∃ oc od kV doc pm an ct osl, K.lookup fI = some ⟨oc, od, .func (PySem.W.ksFn "__init__" "WareError.__init__" (iniArgs q0 q1) (iniBody p0 p1 p2 p3 p4 p5 p6 p7 p8 p9) iniScope .none kV doc pm an (.ref cdv) ct cc), osl⟩
  code : PySem.W.codeIn K (.ref cdv) "WareError.__init__" = true
  file : ∃ ccl cdd vs ccs f tf, K.lookup cdv = some ⟨ccl, cdd, .fields vs, ccs⟩ ∧ vs[2]? = some (.str f tf) ∧ ((P.main.file : Str) == f) = true
  cell : ∃ cl cld csl, K.lookup cc = some ⟨cl, cld, .cell (some (.ref D)), csl⟩
  clsD : ∃ cdD, PySem.W.clsIn K D = some cdD
  sub : PySem.W.mroIn K C (.ref D) = some true
  subV : PySem.W.subIn K (.ref C) (.type "ValueError") = some true
  sup : PySem.W.ks_superIn K C D "__init__" = some (some (.builtin "ValueError.__init__"))
  opq : PySem.W.nsIn K cStatics "thirdparty.any" = some none
  nsu : PySem.W.nsIn K mainGlobals "super" = some none
  ev : ∃ pl : Env → Sem Bool, ∀ env : Env, eval (.Call (.Attribute (.Call (.Name "super" p0) [] [] p1) "__init__" p2) [.Name "at" p3] [] p4) env = (do
    let ov ← attributeBase (.Call (.Name "super" p0) [] [] p1) "__init__" env (eval (.Call (.Name "super" p0) [] [] p1) env)
    standAt p2.atName
    let (f, first) ← holding [ov] (getMethod ov "__init__" (pl env))
    callWith p4 f first (backTo p4 (starEach [.Name "at" p3] env)) [])
  sw1 : ∀ env : Env, swapsWith (.Call (.Attribute (.Call (.Name "super" p0) [] [] p1) "__init__" p2) [.Name "at" p3] [] p4) none p5.line env = pure false
  sw2 : ∀ env : Env, swapsWith (.Name "at" p8) (some (.Attribute (.Name "self" p6) "at" p7)) p9.line env = pure false
  top : (P.main.scope.names.lookup ("super" : Str)).isSome = false
section
open PySem.W PySem.Calls
variable {P : Program} {w : World} {A : Around} {K : Frag} {mg mb : Str → Option Value} {C fI D cdv cc e t0 : Addr} {p0 p1 p2 p3 p4 p5 p6 p7 p8 p9 q0 q1 : Pos} {u : Value} {R : Result → Shared → Prop}
def iniB (e : Addr) (u : Value) : List (Str × Value) := [("self", .ref e), ("at", u)]
theorem ware_init {h : Heap} {g : Array GenState} {d : Drawn} {t : Nat} {os : OsState} (T : IniC P K C fI D cdv cc p0 p1 p2 p3 p4 p5 p6 p7 p8 p9 q0 q1) (O : OexC K C) (hat : findIn K (.ref C) "at" = some none) (X : K.In h) (hg : h.Ns mainGlobals mg) (hb : h.Ns builtinsNs mb) (hbb : ∀ x : Str, x ≠ "__name__" → mb x = bootBuiltins x) (hlim : h.NoLimit)
    (room : A.depth < recursionLimit) (hKe : K.lookup e = none) (he : h.get? e = some (HandSPX.excO C t0))
    (hq : ∀ h' tk dx t1, (∀ b o, b ≠ e → h.get? b = some o → h'.get? b = some o) → h.objs.size ≤ dx → dx ≠ e → h'.get? e = some ({ cls := .ref C, dict := some dx, data := .fields #[.ref t1, .none, .none, .none, .bool false, .none] } : Obj) →
      h'.Ns1 dx (fun y => if y = "at" then some u else none) → R (.ok (.ret .none)) ⟨h', g, d, tk, os⟩) :
    codeAny (model P w) A (.call (.ref fI) ⟨[.ref e, u], []⟩) R ⟨h, g, d, t, os⟩ := by
  obtain ⟨oc, od, kV, doc, pm, an, ct, osl, look⟩ := T.look
  obtain ⟨ccl, cdd, vs, ccs, f, tf, lookc, hvs, hf⟩ := T.file
  obtain ⟨cl, cld, csl, lookcc⟩ := T.cell
  obtain ⟨cdD, hD⟩ := T.clsD
  obtain ⟨pl, hev⟩ := T.ev
  obtain ⟨nm, q, N, bs, bm, sn, sub, ab, col, dd, k0, k1, k2, k3, k5, hC, hbm⟩ := O.cls
  have hcl : clsIn K C = some { name := nm, bases := bs, mro := .ref C :: bm, ns := N, qualname := q, hasDict := true, slotNames := sn, subclasses := sub, abstract := ab, collection := col, hasDel := false } := by unfold clsIn; rw [hC] <;> rfl
  refine ks_codeAny_call_defAt (fd := ksFn "__init__" "WareError.__init__" (iniArgs q0 q1) (iniBody p0 p1 p2 p3 p4 p5 p6 p7 p8 p9) iniScope .none kV doc pm an (.ref cdv) ct cc) (body := iniBody p0 p1 p2 p3 p4 p5 p6 p7 p8 p9) (binds := iniB e u)
    room (X _ _ look) rfl hlim (codeRec_of X T.code) rfl (.of_eq rfl) (show ∀ x ∈ iniScope.names, x.2 ≠ NameKind.cell by decide) (by intro x hx; unfold iniB at hx; simp at hx; rcases hx with rfl | rfl <;> rfl) (fun h1 hns hk1 => ?_) rfl rfl rfl
  have X1 : K.In h1 := X.keeps hk1
  obtain ⟨oD, hD1, hD2⟩ : ∃ oD, h1.get? D = some oD ∧ oD.data = .cls cdD := by
    unfold clsIn at hD
    split at hD
    · rename_i c d' cd' sl ho
      cases hD
      exact ⟨_, X1 _ _ ho, rfl⟩
    · cases hD
  have he1 := hk1 _ _ he
  have I1 : InstAt h1 e (HandSPX.excO C t0) C none := ⟨he1, rfl, rfl, trivial⟩
  have nsL : h1.Ns h.objs.size (fun x => (iniB e u).reverse.lookup x) := hns
  -- super().__init__(at)
  refine ks_wpAt_execs_cons (ks_wpAt_Expr_any (ks_wpAt_MethodCall (pl := pl _) ?_ (hev _)) rfl (T.sw1 _))
  refine ks_wpAt_super_base (env := ksEnv "WareError.__init__" iniScope h.objs.size fI (.ref cdv) cc) (ar := { arg := "self", annotation := none, pos := q0 }) rfl rfl rfl rfl (X1 _ _ look) rfl rfl rfl (X1 _ _ lookc) rfl hvs hf T.top ?_
  refine ks_loadName_global rfl rfl (loadGlobal_builtin (hg.keeps hk1) (mg_none_of X hg T.nsu) (hb.keeps hk1) ((hbb _ (by decide)).trans (show bootBuiltins "super" = some (.type "super") by decide +kernel)) ⟨rfl, ?_⟩)
  refine wpAny_loadName_free rfl rfl (show List.lookup ("__class__" : Str) [("__class__", cc)] = some cc from rfl) ⟨_, X1 _ _ lookcc, rfl⟩ ?_
  refine wpAny_loadName_local rfl rfl nsL (show List.lookup (α := Str) "self" (iniB e u).reverse = some (Value.ref e) from rfl) ?_
  refine ks_wpAny_isType_cls hD1 hD2 ⟨rfl, ?_⟩
  refine ks_wpAny_call_super hD1 hD2 he1 rfl (fun c z => by cases z) (looks_mroIn X1 T.sub) (fun h2 hso k2 => ?_)
  have X2 : K.In h2 := X1.keeps k2
  have he2 := k2 _ _ he1
  have I2 : InstAt h2 e (HandSPX.excO C t0) C none := ⟨he2, rfl, rfl, trivial⟩
  have sup := T.sup
  unfold ks_superIn at sup
  rw [hcl] at sup
  refine kxs_getMethod kxs_ValueError hso (looks_opaque X2 T.opq) (l₀ := .ref C :: bm) ?_ rfl X2 sup (I2.type.andThen (looks_subIn X2 T.subV)) (ks_ne X2 I2 hcl) rfl ?_
  · exact fun A Q E s k q => wpAny_bind ((looks_clsIn X2 hcl) A _ E s k (wpAny_pure q))
  have hu3 : (h2.push (kxs_mw "ValueError.__init__" e)).get? h2.objs.size = some (kxs_mw "ValueError.__init__" e) := Heap.get?_push_at rfl rfl
  obtain ⟨h3, e3⟩ : ∃ h3, h3 = h2.push (kxs_mw "ValueError.__init__" e) := ⟨_, rfl⟩
  have k3 : ∀ b o, h2.get? b = some o → h3.get? b = some o := fun b o z => by rw [e3]; exact Heap.get?_push_of_some _ z
  rw [← e3] at hu3 ⊢
  have X3 : K.In h3 := X2.keeps k3
  have he3 := k3 _ _ he2
  have nsL3 : h3.Ns h.objs.size (fun x => (iniB e u).reverse.lookup x) := nsL.keeps fun b o z => k3 b o (k2 b o z)
  refine kxs_callWith (i := "ValueError.__init__") (x := e) rfl (evalArgs_plain (spliced_cons ?_))
  refine wpAny_Name (wpAny_loadName_local rfl rfl nsL3 (show List.lookup (α := Str) "at" (iniB e u).reverse = some u from rfl) ?_) rfl
  refine spliced_nil ⟨hu3, ?_⟩
  have hfin : ∀ h4, (∀ b o, b ≠ e → h3.get? b = some o → h4.get? b = some o) → h4.get? e = some (HandSPX.excO C h3.objs.size) → _root_.PySem.wpAt (model P w) (A.deeper (ksEnv "WareError.__init__" iniScope h.objs.size fI (.ref cdv) cc)) (.func (iniBody p0 p1 p2 p3 p4 p5 p6 p7 p8 p9) (ksEnv "WareError.__init__" iniScope h.objs.size fI (.ref cdv) cc)) (execs [.Assign [.Attribute (.Name "self" p6) "at" p7] (.Name "at" p8) p9] (ksEnv "WareError.__init__" iniScope h.objs.size fI (.ref cdv) cc))
      (fun f s' => R (.ok (.ret (match f with | .ret v => v | _ => .none))) s')
      (fun e' s' => wpAny (model P w) (A.deeper (ksEnv "WareError.__init__" iniScope h.objs.size fI (.ref cdv) cc)) (leaving (ksEnv "WareError.__init__" iniScope h.objs.size fI (.ref cdv) cc) e') (fun _ s'' => R (.error e') s'') (fun e'' s'' => R (.error e'') s'') s')
      ⟨h4, g, d, t + 2 + 1, os⟩ := by
    intro h4 k4 he4
    have lz : h.objs.size ≠ e := Nat.ne_of_gt (Heap.lt_size he)
    have old : ∀ b o, b ≠ e → h.get? b = some o → h4.get? b = some o := fun b o z y => k4 b o z (k3 b o (k2 b o (hk1 b o y)))
    have X4 : K.In h4 := fun b o z => by
      by_cases y : b = e
      · rw [y, hKe] at z
        cases z
      · exact old b o y (X b o z)
    have nsL4 : h4.Ns h.objs.size (fun x => List.lookup x (iniB e u).reverse) := by
      obtain ⟨oL, es, ep, hL, r⟩ := nsL3
      exact ⟨oL, es, ep, k4 _ _ lz hL, r⟩
    refine ks_wpAt_execs_cons (ks_wpAt_Assign_Attr (wpAt_of_wpAny ?_) (T.sw2 _))
    refine wpAny_Name (wpAny_loadName_local rfl rfl nsL4 (show List.lookup (α := Str) "at" (iniB e u).reverse = some u from rfl) ?_) rfl
    refine wpAny_Name (wpAny_loadName_local rfl rfl nsL4 (show List.lookup (α := Str) "self" (iniB e u).reverse = some (Value.ref e) from rfl) ?_) rfl
    refine set_plain X4 (ox := HandSPX.excO C h3.objs.size) (od := none) ⟨he4, rfl, rfl, trivial⟩ O.sa ?_
    refine HandSPX.exc_osa X4 he4 hcl (show HandSPX.refsVE (.ref C :: bm) = true from hbm) rfl hat (fun h5 tk5 dx k5 dn dne hx hn => ?_)
    refine wpAt_of_wpAny (wpAny_execs_nil ?_)
    have sz4 : h.objs.size ≤ h4.objs.size := by
      obtain ⟨oL, es, ep, hL, r⟩ := nsL4
      exact Nat.le_of_lt (Heap.lt_size hL)
    exact hq h5 tk5 dx _ (fun b o z y => k5 b o z (old b o z y)) (Nat.le_trans sz4 dn) dne hx hn
  show wpAny (model P w) _ (call (.ref h2.objs.size) [u]) _ _ _
  refine wpAny_call (codeAny_of_tree ?_)
  show wpAny _ (Around.in1 _) (callAny (.ref h2.objs.size) ⟨[u], []⟩) _ _ _
  simp only [callAny]
  refine wpAny_bind (wpAny_load hu3 ?_)
  simp only [kxs_mw, show (Value.type "method-wrapper" == Value.type "method" || Value.type "method-wrapper" == Value.type "builtin_function_or_method" || Value.type "method-wrapper" == Value.type "method-wrapper") = true by decide, if_true]
  refine KFB.if_so (by decide) ?_
  have FB := PySem.F.excBase_ValueError
  refine wpAny_bind (check_bound_init FB.toExcCallFacts (X3 _ _ hC) he3 rfl ?_)
  refine wpAny_bind (wpAny_pure (wpAny_pure ⟨plainId_quiet FB.init.plain _, codeAny_builtin FB.initEntry ?_⟩))
  exact exc_init_tree (cls := .ref C) (t0 := t0) (dv := none) (c2 := .none) (c3 := .none) (b4 := .bool false) he3 (by show 1 ≤ sizeLine; decide) fun h4 k4 e4 _ => hfin h4 k4 e4
end
/-! ### the class called -/
/-- C(e): an exception of the class C, its own dict at d -/
def tWare (C : Addr) (te : TE) : L2.St → Hp → XK → Prop := fun σ H Q => te σ H fun y H1 => ∀ d, H1 d = none → Q (.ref C) (some d) (upd H1 d (.xd [("at", y)]))
structure WareC (P : Program) (K : PySem.W.Frag) (C : Addr) : Prop where
  o : OexC K C
  at_ : PySem.W.findIn K (.ref C) "at" = some none
  ini : ∃ fI D cdv cc p0 p1 p2 p3 p4 p5 p6 p7 p8 p9 q0 q1, IniC P K C fI D cdv cc p0 p1 p2 p3 p4 p5 p6 p7 p8 p9 q0 q1 ∧ PySem.W.findIn K (.ref C) "__init__" = some (some (.ref fI)) ∧ PySem.W.typeIn K (.ref fI) = some (.type "function")
section
variable {X : Cx} {C : Addr} {x : Str} {e : Expr} {te : TE} {p pos : Pos} {k : Nat}
theorem pmk_ware (T : WareC X.prog X.K C) (hr : Room k X.A) (hg : Gl X x) (hm : X.mg x = some (.ref C)) (he : PE X e te)
    (hdb : (x == ("__debug__" : Str)) = false := by decide) (hs : starEach [e] X.env = (false, eval e X.env) :: starEach [] X.env := by rfl) (hpl : (backTo pos (starEach [] X.env)).any (·.1) = false := by rfl) :
    PMk X (.Call (.Name x p) [e] [] pos) (tWare C te) := by
  intro pins s σ H Q I h
  obtain ⟨fI, D, cdv, cc, p0, p1, p2, p3, p4, p5, p6, p7, p8, p9, q0, q1, TI, iC, tI⟩ := T.ini
  obtain ⟨nm, q, N, bs, bm, sn, sub, ab, col, dd, k0, k1, k2, k3, k5, hC, hbm⟩ := T.o.cls
  refine wpAny_Call_Name_kw (ld_glob I hg hm ?_ hdb)
  refine PySem.W.callWith_K (h₀ := X.base) I.ok.mod.kin T.o.kC ?_ hs hpl
  refine spliced_more (wpAny_mono (he.run pins s σ H _ I h) (fun u s1 hh => ?_) fun _ _ z => z) hs
  obtain ⟨y, H1, I1, ry, q1⟩ := hh
  refine spliced_none ⟨I1.kIn, ?_⟩
  obtain ⟨hp, g, dr, tk, os⟩ := s1
  show wpAny _ _ (call (.ref C) [u]) _ _ _
  have e0 := I1.env0
  have kk : ∀ b o, hp.get? b = some o → ((hp.push (PySem.W.kdv_tup [u])).push (PySem.HandSPX.excO C hp.objs.size)).get? b = some o := fun b o z => Heap.get?_push_of_some _ (Heap.get?_push_of_some _ z)
  have hget : ((hp.push (PySem.W.kdv_tup [u])).push (PySem.HandSPX.excO C hp.objs.size)).get? (hp.objs.size + 1) = some (PySem.HandSPX.excO C hp.objs.size) := by heap_get
  obtain ⟨mb, nb, hbb⟩ := e0.mod.blt
  have toH : ∀ b o, X.base.get? b = some o → ((hp.push (PySem.W.kdv_tup [u])).push (PySem.HandSPX.excO C hp.objs.size)).get? b = some o := fun b o z => kk b o (e0.bs b o z).1
  have frE : hp.get? (hp.objs.size + 1) = none := by
    cases z : hp.get? (hp.objs.size + 1) with
    | none => rfl
    | some o =>
      exact absurd (Heap.lt_size z) (Nat.not_lt.mpr (Nat.le_succ _))
  have hKe : X.K.lookup (hp.objs.size + 1) = none := by
    cases z : X.K.lookup (hp.objs.size + 1) with
    | none => rfl
    | some o =>
      have := I1.kIn _ _ z
      rw [show (⟨hp, g, dr, tk, os⟩ : Shared).heap = hp from rfl, frE] at this
      cases this
  refine wpAny_call (PySem.HandSPX.call_own PySem.F.excBase_ValueError (fun Y => PySem.HandSPX.refsVE_contains Y bm hbm) (I1.kIn _ _ hC) (PySem.W.looks_findIn I1.kIn iC) (fun self => PySem.W.bind_fn I1.kIn self tI) (by show 1 ≤ sizeLine; decide) ?_)
  refine ware_init TI T.o T.at_ (I1.kIn.keeps kk) (e0.mod.glob.keeps toH) (nb.keeps toH) hbb (e0.mod.nolimit.keeps toH) ?_ hKe hget (fun h' tk' dx t1 k' dn dne hx hn => ?_)
  · have q := hr.dp
    rw [make_depth]
    exact Nat.lt_of_le_of_lt (by omega) q
  · have nHd : H1 dx = none := I1.hok.fresh (by have := dn; simp [Heap.push] at this; show hp.objs.size ≤ dx; omega)
    have nHe : H1 (hp.objs.size + 1) = none := I1.hok.fresh (by show hp.objs.size ≤ _; omega)
    obtain ⟨G, g1, g2⟩ := restrict h' fun b => decide (b ≠ hp.objs.size + 1)
    have gk : ∀ b, b ≠ hp.objs.size + 1 → G.get? b = h'.get? b := fun b hb => g1 b (decide_eq_true hb)
    have ge : G.get? (hp.objs.size + 1) = none := g2 _ (by simp)
    have kG : ∀ b o, hp.get? b = some o → G.get? b = some o := fun b o z => by
      have hb : b ≠ hp.objs.size + 1 := fun q => by rw [q, frE] at z; cases z
      rw [gk b hb]
      exact k' b o hb (kk b o z)
    have xdok : ObjOk X.prog X.w (upd H1 dx (.xd [("at", y)])) G dx (.xd [("at", y)]) := by
      refine ⟨_, hn.at fun o z => (gk dx dne).trans z, fun f => ?_⟩
      have r := relO_put (f := "at") (fs := []) (mA := fun _ => none) ry (fun g => True.intro) f
      exact r
    have J := I1.laid (t' := tk') (a := dx) (o := .xd [("at", y)]) (h' := G) kG (by have := dn; simp [Heap.push] at this; show hp.objs.size ≤ dx; omega) xdok
    refine ⟨rfl, hp.objs.size + 1, _, _, ⟨G, g, dr, tk', os⟩, _, .ref C, some dx, rfl, J, fun b o z => ?_, ge, hx, ⟨rfl, rfl⟩, rfl, rfl, ?_, rfl, I1.bare, raises_own T.o.exC T.o.tyC, q1 dx nHd⟩
    · by_cases hb : b = hp.objs.size + 1
      · rw [hb, show (⟨G, g, dr, tk', os⟩ : Shared).heap = G from rfl, ge] at z
        cases z
      · exact (gk b hb).symm.trans z
    · rw [upd_ne (Ne.symm dne)]
      exact nHe
end
end Tw
set_option Elab.async false
set_option linter.all false
set_option maxRecDepth 100000
set_option maxHeartbeats 4000000
/-! Tw17: raise, calls that may raise, try -/
namespace Tw
open PySem PySem.Spec PyProof.Rows L2
section
variable {X : Cx} {c : Cf} {W : WX} {e : Expr} {es : List Expr} {me : Nv → R D} {ms : Nv → R (List D)} {g : List D → R D} {pos p p2 : Pos} {x : Str} {C : Addr} {k : Nat}
/-! ### raise C(e) -/
def sRa (k : Nat) (me : Nv → R D) : Nv → R Fl := fun ε => (me ε).bind fun a => if flat a then .ok (.xx ε k a) else .bad
theorem ps_ra (hc : X.calm = true) (tk : Takes X W) (T : WareC X.prog X.K C) {n : Nat} (hr : Room n X.A) (hm : X.mg x = some (.ref C)) (hk : c.cl k = some C) (he : PE X e (rdE c me)) (hg : Gl X x := by rfl)
    (hdb : (x == ("__debug__" : Str)) = false := by decide) (hs : starEach [e] X.env = (false, eval e X.env) :: starEach [] X.env := by rfl) (hpl : (backTo p2 (starEach [] X.env)).any (·.1) = false := by rfl) :
    PS X (.Raise (some (.Call (.Name x p) [e] [] p2)) none pos) (rdS c W (sRa k me)) := (ps_raise hc tk (pmk_ware T hr hg hm he hdb hs hpl)).wk fun E σ H ⟨ε, M, re, f⟩ => by
  unfold sRa at f
  cases q : me ε with
  | bad => rw [q] at f; exact f.elim
  | ex a b => rw [q] at f; exact f.elim
  | ok a =>
    rw [q] at f
    simp only [R.bind] at f
    by_cases hf : flat a = true
    · rw [if_pos hf] at f
      refine ⟨ε, M, re, a, q, fun v H' e' hv d nd => ?_⟩
      have nM : d ∉ M := (Trk.ex re.trk e').no nd
      exact f.2 σ _ M C d v hk (re.ex (e'.trans (Evl.Ex.new nd))) (hid_ex (e'.trans (Evl.Ex.new nd))) (hid_of upd_same nM) (At.flat hf hv)
    · rw [if_neg hf] at f
      exact f.elim
/-! ### a call that may raise -/
theorem runGX {n : Nat} {f : Addr} {fd : FuncData} {ps : List Str} {sp : Sp} (F : FnG X.prog X.w X.K X.mg X.base n f fd ps sp) (hr : Room n X.A) (hG : X.A.guards = some []) (hb : Binds X.K fd ps []) (tk : Takes X W)
    {pins : List (Addr × Obj)} {σ : L2.St} {H : Hp} {s : Shared} {Q : VK} {us : List Value} {vs : List V} (I : Inv X pins σ H s) (r : Vals vs us) (h : sp vs H Q (WE W σ)) : wpAny (model X.prog X.w) X.A (call (.ref f) us) (EP X pins σ Q) X.xe s := by
  have n : (us ++ []).length = ps.length := by
    rw [List.append_nil, ← r.length]
    exact F.len vs H Q _ h
  have b := hb s us I.kIn n
  rw [List.append_nil] at b
  apply wpAny_call
  apply codeAny_mono (F.run X.A X.stack s H ⟨us, []⟩ us vs Q (WE W σ) hr hG I.env0 b r h)
  intro res s' q
  match res, q with
  | .error err, q => exact passAt tk σ pins H s err s' I q
  | .ok (.ret u), q => exact I.after q
  | .ok .next, q => exact q.elim
  | .ok .brk, q => exact q.elim
  | .ok .cont, q => exact q.elim
/-- the reading of such a call -/
def rdC (c : Cf) (W : WX) (sp : Sp) (ms : Nv → R (List D)) : TE := fun σ H Q => rdA c ms σ H fun vs H1 => sp vs H1 Q (WE W σ)
theorem pe_gx {n : Nat} {f : Addr} {fd : FuncData} {ps : List Str} {sp : Sp} (F : FnG X.prog X.w X.K X.mg X.base n f fd ps sp) (hr : Room n X.A) (hG : X.A.guards = some []) (tk : Takes X W) (hm : X.mg x = some (.ref f)) (hk : PySem.W.keepIn X.K (.ref f) = true) (hb : Binds X.K fd ps [])
    (ha : PA X (e :: es) (rdA c ms)) (hg : Gl X x := by rfl) (hdb : (x == ("__debug__" : Str)) = false := by decide) (he : starEach (e :: es) X.env = (false, eval e X.env) :: starEach es X.env := by rfl) (hpl : (backTo pos (starEach es X.env)).any (·.1) = false := by rfl) :
    PE X (.Call (.Name x p) (e :: es) [] pos) (rdC c W sp ms) := by
  constructor
  intro pins s σ H Q I h
  apply wpAny_Call_Name_kw
  apply ld_glob I hg hm _ hdb
  apply PySem.W.callWith_K (h₀ := X.base) I.ok.mod.kin hk _ he hpl
  apply thn (ha.run pos pins s σ H _ I h)
  intro us s1 ⟨vs, H1, I1, r, q⟩
  exact ⟨I1.kIn, runGX F hr hG hb tk I1 r q⟩
def sCl (g : List D → R D) (ms : Nv → R (List D)) (kk : D → Nv → Fl) : Nv → R Fl := fun ε => (ms ε).bind fun ds => match g ds with
  | .ok d => .ok (kk d ε)
  | .ex k a => .ok (.xx ε k a)
  | .bad => .bad
variable {s : Stmt}
/-- what is done with the call's answer: by a reading of the statement over the call's -/
theorem cl_core {kk : D → Nv → Fl} {σ : L2.St} {H : Hp} {E : Ends} {Q : VK} (hK : c.K = X.K)
    (hq : ∀ (ε : Nv) (M : List Addr) (d : D) (H' : Hp) (v : V), Rel c σ H' ε M → At c.K (hid M H') d v → Fin c W E (hid M H') (.ok (kk d ε)) → Q v H') (h : rdS c W (sCl g ms kk) E σ H) : rdC c W (spF X.K c.cl g) ms σ H Q := by
  obtain ⟨ε, M, re, f⟩ := h
  unfold sCl at f
  cases q : ms ε with
  | bad => rw [q] at f; exact f.elim
  | ex a b => rw [q] at f; exact f.elim
  | ok ds =>
    rw [q] at f
    simp only [R.bind] at f
    refine ⟨ε, M, re, ds, q, fun vs H1 e1 hv => ⟨M, ds, Trk.ex re.trk e1, hK ▸ hv, ?_⟩⟩
    cases q2 : g ds with
    | bad => rw [q2] at f; exact f.elim
    | ok d =>
      rw [q2] at f
      exact fun v H' e' hv' => hq ε M d H' v (re.ex (e1.trans e')) (hK ▸ hv') (Fin.mono (hid_ex (e1.trans e')) f)
    | ex k a =>
      rw [q2] at f
      exact ⟨f.1, fun C dx v H' hc e' hx hv' => f.2 σ H' M C dx v hc (re.ex (e1.trans e')) (hid_ex (e1.trans e')) hx (hK ▸ hv')⟩
theorem ps_drX (h : PE X e (rdC c W (spF X.K c.cl g) ms)) (hs : swapsWith e none pos.line X.env = pure false := by rfl) (hK : c.K = X.K := by rfl) : PS X (.Expr e pos) (rdS c W (sCl g ms fun _ ε => .nx ε)) :=
  (ps_expr h hs).wk fun E σ H h => cl_core (kk := fun _ ε => .nx ε) (E := E) hK (fun ε M d H' v re _ f => f σ H' M re (Evl.Ex.refl _)) h
theorem ps_asX {i : Nat} {px : Pos} (hN : X.N.Nodup) (he : PE X e (rdC c W (spF X.K c.cl g) ms)) (hi : X.N[i]? = some x := by rfl) (hx : Loc X.env.scope x := by first | exact Or.inl rfl | exact Or.inr rfl) (hs : swapsWith e (some (.Name x px)) pos.line X.env = pure false := by rfl)
    (hf : X.fn x = true ∨ X.env.scope.names.lookup x = some .local := by first | exact .inl rfl | exact .inr rfl) (hK : c.K = X.K := by rfl) (hq : c.op i = true := by rfl) : PS X (.Assign [.Name x px] e pos) (rdS c W (sCl g ms fun d ε => .nx (st ε i (.im d)))) :=
  (ps_set hN hi hx he hs hf).wk fun E σ H h => cl_core (kk := fun d ε => .nx (st ε i (.im d))) (E := E) hK (fun ε M d H' v re hv f => f _ H' M (re.set hv hq) (Evl.Ex.refl _)) h
theorem ps_rtX (hf : c.fr = false) (h : PE X e (rdC c W (spF X.K c.cl g) ms)) (hK : c.K = X.K := by rfl) (hrp : c.rp = none := by rfl) : PS X (.Return (some e) pos) (rdS c W (sCl g ms fun d _ => .rt d)) :=
  (ps_ret h).wk fun E σ H h => cl_core (kk := fun d _ => .rt d) (E := E) hK (fun ε M d H' v re hv f => by
    have f' : RtOk c E.rt d := f
    unfold RtOk at f'
    rw [hf] at f'
    exact f' v H' re.ext (At.mono (hid_sub re.sub) d v hv) fun p hp => by rw [hrp] at hp; cases hp) h
/-- the same of a call that hands back a new object -/
theorem cl_coreN {kk : D → Nv → Fl} {σ : L2.St} {H : Hp} {E : Ends} {Q : VK} (hK : c.K = X.K)
    (hq : ∀ (ε : Nv) (M : List Addr) (d : D) (H1 H' : Hp) (p : Addr) (o : HO), Rel c σ H1 ε M → H1 p = none → Ex H1 H' → H' p = some o → Own c.K (hid (p :: M) H') o d → Fin c W E (hid M H1) (.ok (kk d ε)) → Q (.ref p) H') (h : rdS c W (sCl g ms kk) E σ H) : rdC c W (spN X.K c.cl g) ms σ H Q := by
  obtain ⟨ε, M, re, f⟩ := h
  unfold sCl at f
  cases q : ms ε with
  | bad => rw [q] at f; exact f.elim
  | ex a b => rw [q] at f; exact f.elim
  | ok ds =>
    rw [q] at f
    simp only [R.bind] at f
    refine ⟨ε, M, re, ds, q, fun vs H1 e1 hv => ⟨M, ds, Trk.ex re.trk e1, hK ▸ hv, ?_⟩⟩
    cases q2 : g ds with
    | bad => rw [q2] at f; exact f.elim
    | ok d =>
      rw [q2] at f
      exact fun p o H' n e' hp ho => hq ε M d H1 H' p o (re.ex e1) n e' hp (hK ▸ ho) (Fin.mono (hid_ex e1) f)
    | ex k a =>
      rw [q2] at f
      exact ⟨f.1, fun C dx v H' hc e' hx hv' => f.2 σ H' M C dx v hc (re.ex (e1.trans e')) (hid_ex (e1.trans e')) hx (hK ▸ hv')⟩
theorem ps_asMX {i : Nat} {px : Pos} (hN : X.N.Nodup) (he : PE X e (rdC c W (spN X.K c.cl g) ms)) (hi : X.N[i]? = some x := by rfl) (hx : Loc X.env.scope x := by first | exact Or.inl rfl | exact Or.inr rfl) (hs : swapsWith e (some (.Name x px)) pos.line X.env = pure false := by rfl)
    (hf : X.fn x = true ∨ X.env.scope.names.lookup x = some .local := by first | exact .inl rfl | exact .inr rfl) (hK : c.K = X.K := by rfl) (hq : c.op i = true := by rfl) : PS X (.Assign [.Name x px] e pos) (rdS c W (sCl g ms fun d ε => .nx (st ε i (.mu d)))) :=
  (ps_set hN hi hx he hs hf).wk fun E σ H h => cl_coreN (kk := fun d ε => .nx (st ε i (.mu d))) (E := E) hK (fun ε M d H1 H' p o re n e' hp ho f => f _ H' (p :: M) (re.setMu n e' hp ho hq) (hid_new e' n)) h
theorem ps_rtLX (hf : c.fr = true) (h : PE X e (rdC c W (spN X.K c.cl g) ms)) (hK : c.K = X.K := by rfl) : PS X (.Return (some e) pos) (rdS c W (sCl g ms fun d _ => .rt d)) :=
  (ps_ret h).wk fun E σ H h => cl_coreN (kk := fun d _ => .rt d) (E := E) hK (fun ε M d H1 H' p o re n e' hp ho f => by
    have f' : RtOk c E.rt d := f
    unfold RtOk at f'
    rw [hf] at f'
    refine f' p o H' (Evl.fresh_back re.ext n) (re.ext.trans e') hp (ho.mono (hid_sub fun a ha => ?_))
    rcases List.mem_cons.mp ha with z | z
    · rw [z]
      exact List.mem_cons_self
    · exact List.mem_cons_of_mem _ (re.sub a z)) h
/-- a call that hands back a new object, as one that hands back data -/
theorem pe_xE (h : PE X e (rdC c W (spN X.K c.cl g) ms)) : PE X e (rdC c W (spF X.K c.cl g) ms) := h.wk fun σ H Q ⟨ε, M, re, ds, q, h⟩ => ⟨ε, M, re, ds, q, fun vs H1 e1 hv => spN_to (h vs H1 e1 hv)⟩
end
end Tw
set_option Elab.async false
set_option linter.all false
set_option maxRecDepth 100000
set_option maxHeartbeats 4000000
/-! Tw18: try .. except C as e: return .. with several clauses -/
namespace Tw
open PySem PySem.Spec PyProof.Rows L2
/-! ### the rule over the machine -/
/-- the ends of a suite whose name goes -/
def gone (i : Nat) (D : Ends) : Ends := ⟨fun σ H => D.nx (σ.set i none) H, D.rt, fun σ H => D.bk (σ.set i none) H, fun σ H => D.ct (σ.set i none) H⟩
abbrev SuT := Addr → Value → Option Addr → TS
/-- what the clauses wish of an exception of the body, one behind the other; each has its class, its name's slot, its suite -/
def wAll (K : PySem.W.Frag) (Wout : WX) (D : Ends) : List (Value × Nat × SuT) → WX
  | [] => Wout
  | (cl, i, ts) :: r => fun cls d σ H => ∃ b, PySem.W.exmOne K cls cl = some b ∧ (b = true → ∀ a, H a = none → ts a cls d (gone i D) (σ.set i (some (.ref a))) H) ∧ (b = false → wAll K Wout D r cls d σ H)
inductive Hds (X : Cx) : List ExceptHandler → List (Value × Nat × SuT) → Prop
  | nil : Hds X [] []
  | cons {x n : Str} {cl : Value} {i : Nat} {ts : SuT} {b0 : Stmt} {suite : List Stmt} {np hp : Pos} {hs : List ExceptHandler} {l : List (Value × Nat × SuT)} (hi : X.N[i]? = some n) (hln : X.env.kindOf n = some .local) (hc : Names X x cl)
      (hsu : ∀ (a : Addr) (oe : Obj) (cls : Value) (d : Option Addr) (pn : List (Addr × Obj)), Zc cls d oe → (∃ vs, oe.data = .fields vs) → PSs (X.suite a ((a, oe) :: pn)) (b0 :: suite) (ts a cls d)) (r : Hds X hs l) :
      Hds X (.ExceptHandler (some (.Name x np)) (some n) (b0 :: suite) hp :: hs) ((cl, i, ts) :: l)
section
variable {X : Cx} {body : List Stmt} {h0 : ExceptHandler} {hds : List ExceptHandler} {l : List (Value × Nat × SuT)} {pos : Pos} {tb : WX → TS} {Wout : WX}
theorem ps_try_all (hst : X.stack = X.env :: X.outer) (hfr : X.env.frame = some X.env.locals) (hN : X.N.Nodup) (tk : Takes X Wout)
    (hb : ∀ (W : WX) (pn : List (Addr × Obj)) (xe : Value → Shared → Prop), Takes (X.tr pn xe) W → PassesOwn (model X.prog X.w) X.A X.env xe → PSs (X.tr pn xe) body (tb W)) (hh : Hds X (h0 :: hds) l) :
    PS X (.Try body (h0 :: hds) [] [] pos) (fun D σ H => tb (wAll X.K Wout D l) D σ H) := by
  constructor
  intro pins s σ H D I h
  have ok := I.ok
  have fr : X.A.frames = some (X.env :: X.outer) := ok.frames.trans (congrArg some hst)
  apply wpAny_Try_except
  have catch_ : Takes (X.tr (X.pn ++ pins) fun e s1 => wpAny (model X.prog X.w) X.A (noteFrame e X.env) (fun _ s2 => wpAny (model X.prog X.w) X.A (setFlight e none) (fun _ s3 => wpAny (model X.prog X.w) X.A (handleBy e X.env (h0 :: hds)) (SP X pins D) X.xe s3) X.xe s2) X.xe s1) (wAll X.K Wout D l) := by
    rintro u s' ⟨a, B, sI, pins', σ', H', cls, d, rfl, I0, nb, up, sky, na, os, ag, w⟩
    have I1 : Inv X pins σ' H' sI := I0.ofTry ok
    have sk : Sky B (X.env :: X.outer) a (Zc cls d) X.env.locals s'.heap := hst ▸ sky
    show wpAny (model X.prog X.w) X.A (noteFrame (.ref a) X.env) _ _ _
    apply Sky.land Zc.steady fr hfr sk
    intro h3 fl3 up3
    have I3 : Inv X pins σ' H' { s' with heap := h3 } := I1.landed nb fl3.1 (up.trans up3) os ag
    obtain ⟨o3, v3, g3, z3, d3⟩ := fl3.there
    have nfr : a ∉ frs (X.env :: X.outer) := fun hm => by
      obtain ⟨_, o', g', ne⟩ := fl3.2.2.1.mem hm
      rw [g3] at g'
      cases g'
      exact ne _ d3
    have nL : a ≠ X.env.locals := fun z => nfr (List.mem_filterMap.mpr ⟨_, List.mem_cons_self, hfr.trans (congrArg some z.symm)⟩)
    have nF : a ∉ X.fs := fun hm => let ⟨e, h1, h2⟩ := List.mem_filterMap.mp hm; nfr (List.mem_filterMap.mpr ⟨e, List.mem_cons_of_mem _ h1, h2⟩)
    have S3 := I3.suite g3 d3 na nL nF
    have LT : PySem.W.Looks (model X.prog X.w) h3 (typeOf (.ref a)) cls := fun A Q E s k q => wpAny_typeOf_ref (k _ _ g3) (z3.1.symm ▸ q)
    have go : ∀ {hs' : List ExceptHandler} {l' : List (Value × Nat × SuT)}, Hds X hs' l' → wAll X.K Wout D l' cls d σ' H' → wpAny (model X.prog X.w) X.A (handleBy (.ref a) X.env hs') (SP X pins D) X.xe { s' with heap := h3 } := by
      intro hs' l' hk
      induction hk with
      | nil =>
        intro w
        apply wpAny_handleBy_nil
        have fl3' := fl3
        obtain ⟨_, _, _, oe, vs, T, oT, ts', ge, ze, de, e1, _⟩ := fl3'
        unfold PySem.passOn
        apply wpAny_bind
        apply wpAny_field ge de e1
        rw [if_neg (show ¬ ((Value.ref T == Value.none) = true) from by simp)]
        have out : wpAny (model X.prog X.w) X.A (setFlight (.ref a) X.env.frame) (fun _ s4 => wpAny (model X.prog X.w) X.A (throw (.ref a) : Sem Flow) (SP X pins D) X.xe s4) X.xe { s' with heap := h3 } := by
          rw [hfr]
          apply HandSPX.setFlight_upZ fl3
          intro h4 hh4 up4
          apply wpAny_throw
          apply tk
          exact ⟨a, B, sI, pins, σ', H', cls, d, rfl, I1, nb, (up.trans up3).trans up4, .inr (.inr (hst.symm ▸ hh4)), na, os, ag, w⟩
        first
          | exact wpAny_bind (wpAny_pure (wpAny_bind out))
          | exact wpAny_bind out
      | @cons x n cl i ts b0 suite np hp hs2 l2 hi hln hc hsu r ih =>
        rintro ⟨b, hb1, yes, no⟩
        apply wpAny_handleBy_cons (codeAny_handlers_test _) (by intro q; cases q)
        have LM := PySem.W.exm_one (M := model X.prog X.w) I3.kIn LT hb1
        have name : ∀ {Q : Value → Shared → Prop} {E : Value → Shared → Prop}, Q cl { s' with heap := h3 } → wpAny (model X.prog X.w) (X.A.mark (some (.ref a))) (eval (.Name x np) X.env) Q E { s' with heap := h3 } := fun {Q E} q =>
          match hc with
          | ⟨hg, hd, .inl hm⟩ => ld_glob (X := X.suite a ((a, o3) :: (X.pn ++ pins))) S3 hg hm q hd
          | ⟨hg, hd, .inr ⟨hm, hv, hn⟩⟩ => ld_blt (X := X.suite a ((a, o3) :: (X.pn ++ pins))) S3 hg hm hv q hn hd
        apply name
        apply LM.here
        cases b with
        | false => exact ih (no rfl)
        | true =>
          apply codeAny_handlers_suite_as
          apply HandSPX.lands_againZ fl3
          intro h4 fl4 up4
          have I4 : Inv X pins σ' H' { s' with heap := h4 } := I1.landed nb fl4.1 ((up.trans up3).trans up4) os ag
          obtain ⟨o4, v4, g4, z4, d4⟩ := fl4.there
          have S4 := I4.suite g4 d4 na nL nF
          apply store_ok (X := X.suite a ((a, o4) :: (X.pn ++ pins))) (v := .ref a) S4 hN hi (.inl hln) rfl _ (.inr hln)
          intro s5 S5
          apply wpAny_mono ((hsu a o4 cls d (X.pn ++ pins) z4 ⟨_, d4⟩).run [] s5 _ H' _ S5 (yes rfl a na)) _ fun _ _ z => False.elim z
          intro f s6 hsp
          have fin : ∀ {σ6 : L2.St} {H6 : Hp} {Q : Shared → Prop}, Inv (X.suite a ((a, o4) :: (X.pn ++ pins))) [] σ6 H6 s6 → (∀ s7, Inv X pins (σ6.set i none) H6 s7 → Q s7) → wpAny (model X.prog X.w) X.A (do bindName X.env n .none; unbindBehindTheSuite X.env n hp) (fun _ s7 => Q s7) X.xe s6 :=
            fun {σ6 H6 Q} S6 hq => gone_ok (S6.unsuite ok) hN hi hln hq
          match f, hsp with
          | .next, ⟨σ6, H6, S6, q6⟩ => exact fin S6 fun s7 J7 => ⟨_, _, J7, q6⟩
          | .brk, ⟨σ6, H6, S6, q6⟩ => exact fin S6 fun s7 J7 => ⟨_, _, J7, q6⟩
          | .cont, ⟨σ6, H6, S6, q6⟩ => exact fin S6 fun s7 J7 => ⟨_, _, J7, q6⟩
          | .ret u, ⟨v6, σ6, H6, S6, r6, q6⟩ => exact fin S6 fun s7 J7 => ⟨_, _, _, J7, r6, q6⟩
    exact go hh w
  apply wpAny_mono ((hb _ _ _ catch_ PassesOwn.looking).run [] s σ H D (I.toTry _) h) _ fun e s1 he => he
  intro f s1 hsp
  match f, hsp with
  | .next, ⟨σ', H', J, q⟩ => exact wpAny_execs_nil ⟨σ', H', J.ofTry ok, q⟩
  | .brk, ⟨σ', H', J, q⟩ => exact ⟨σ', H', J.ofTry ok, q⟩
  | .cont, ⟨σ', H', J, q⟩ => exact ⟨σ', H', J.ofTry ok, q⟩
  | .ret u, ⟨v, σ', H', J, r, q⟩ => exact ⟨v, σ', H', J.ofTry ok, r, q⟩
end
/-! ### e.at in a suite -/
/-- a the caught exception, cls its class, d its own dict -/
def tAt (K : PySem.W.Frag) (a : Addr) (cls : Value) (d : Option Addr) (te : TE) : TE := fun σ H Q => te σ H fun x H1 => x = .ref a ∧ ∃ (C dd : Addr) (fs : List (Str × V)) (v : V), cls = .ref C ∧ XfC K C ∧ PySem.W.findIn K (.ref C) "at" = some none ∧ d = some dd ∧ H1 dd = some (.xd fs) ∧ List.lookup (α := Str) "at" fs = some v ∧ Q v H1
theorem pe_at {X : Cx} {a : Addr} {oe : Obj} {cls : Value} {d : Option Addr} {pn : List (Addr × Obj)} {e : Expr} {te : TE} {pos : Pos} (hz : Zc cls d oe) (hf : ∃ vs, oe.data = .fields vs) (he : PE (X.suite a ((a, oe) :: pn)) e te) (hb : attributeBase e "at" X.env (eval e X.env) = eval e X.env := by rfl) :
    PE (X.suite a ((a, oe) :: pn)) (.Attribute e "at" pos) (tAt X.K a cls d te) := by
  constructor
  intro pins s σ H Q I h
  apply attr_of hb
  apply thn (he.run pins s σ H _ I h)
  rintro u s1 ⟨x, H1, I1, rx, rfl, C, dd, fs, v, rfl, T, hno, rfl, ea, l, q⟩
  cases rx
  have pin := (I1.pin (a, oe) (List.mem_append_left _ List.mem_cons_self)).1
  obtain ⟨vs, hd⟩ := hf
  obtain ⟨mA, hns, hr⟩ : ObjOk X.prog X.w H1 s1.heap dd (.xd fs) := I1.hok dd _ ea
  obtain ⟨od, ho, hl⟩ := lookIn_ns hns
  obtain ⟨u, hu, ru⟩ := RelO.some_of (v := v) (o := mA "at") (l ▸ hr "at")
  have J : PySem.W.InstAt s1.heap a oe C (some od) := ⟨pin, hz.1, by unfold PySem.W.notCls; rw [hd] <;> rfl, hz.2.symm ▸ ho⟩
  exact HandSPX.exc_get I1.kIn J T.ga T.gg T.exC (PySem.W.findObj_own T.hdC hno rfl (by rw [hl, hu])) (handed_of ru) ⟨v, H1, I1.tok _, ru, q⟩
/-! ### suites that hand something back -/
/-- what such a suite wants: F what it hands back of the exception's datum -/
def tsu (c : Cf) (i : Nat) (F : D → D) : SuT := fun a cls d E σ H => σ[i]? = some (some (.ref a)) ∧ ∃ C dx v dat, cls = .ref C ∧ XfC c.K C ∧ PySem.W.findIn c.K (.ref C) "at" = some none ∧ d = some dx ∧ H dx = some (.xd [("at", v)]) ∧ flat dat = true ∧ At c.K H dat v ∧ Trk c.M0 H ∧
  ∀ v' H', Ex H H' → At c.K (hid c.M0 H') (F dat) v' → E.rt v' H'
section
variable {X : Cx} {c : Cf} {a : Addr} {oe : Obj} {cls : Value} {d : Option Addr} {pn : List (Addr × Obj)} {e : Expr} {i : Nat} {pos p1 p2 p3 : Pos}
theorem su_at (hz : Zc cls d oe) (hf : ∃ vs, oe.data = .fields vs) (he : PE (X.suite a ((a, oe) :: pn)) e (tVar i)) (hK : c.K = X.K := by rfl) (hb : attributeBase e "at" X.env (eval e X.env) = eval e X.env := by rfl) :
    PSs (X.suite a ((a, oe) :: pn)) [.Return (some (.Attribute e "at" p1)) p2] (tsu c i id a cls d) := (pss_one (ps_ret (pe_at (pos := p1) hz hf he hb))).wk fun E σ H ⟨hi, C, dx, v, dat, e1, T, hno, e2, hx, hfl, hv, t, q⟩ =>
  ⟨.ref a, hi, rfl, C, dx, _, v, e1, hK ▸ T, hK ▸ hno, e2, hx, rfl, q v H (Evl.Ex.refl _) (At.flat hfl hv)⟩
theorem su_tup {w : Str} {k1 k2 : Nat} (hz : Zc cls d oe) (hf : ∃ vs, oe.data = .fields vs) (he : PE (X.suite a ((a, oe) :: pn)) e (tVar i)) (hK : c.K = X.K := by rfl) (hb : attributeBase e "at" X.env (eval e X.env) = eval e X.env := by rfl) :
    PSs (X.suite a ((a, oe) :: pn)) [.Return (some (.Tuple [.Constant (.str w) k1 p1, .Attribute e "at" p2] k2 p3)) pos] (tsu c i (fun a => .tuple [.str w, a]) a cls d) :=
  (pss_one (ps_ret (L2.pe_tup (pa_cons pe_str (pa_cons (pe_at (pos := p2) hz hf he hb) pa_nil))))).wk fun E σ H ⟨hi, C, dx, v, dat, e1, T, hno, e2, hx, hfl, hv, t, q⟩ => by
  refine ⟨.ref a, hi, rfl, C, dx, _, v, e1, hK ▸ T, hK ▸ hno, e2, hx, rfl, ?_⟩
  refine ⟨by show 2 ≤ sizeLine; decide, fun p np => ?_⟩
  exact q (.ref p) _ (Evl.Ex.new np) ⟨p, _, rfl, SqT.of (hid_of upd_same (t.no np)), .str w, [v], rfl, rfl, v, [], rfl, At.flat hfl hv, rfl⟩
end
/-! ### the layer's try -/
abbrev HdM := (Nat → Bool) × Nat × (D → D)
def findH : List HdM → Nat → Option (Nat × (D → D))
  | [], _ => none
  | (p, i, F) :: r, k => if p k then some (i, F) else findH r k
def sTry (mb : Nv → R Fl) (hs : List HdM) : Nv → R Fl := fun ε => match mb ε with
  | .ok (.xx ε' k a) => (match findH hs k with
    | some (i, F) => if i < ε'.length ∧ flat a = true then .ok (.rt (F a)) else .bad
    | none => .ok (.xx ε' k a))
  | r => r
/-- the clauses in the text, their readings, the layer's clauses -/
inductive HdL (X : Cx) (c : Cf) : List ExceptHandler → List (Value × Nat × SuT) → List HdM → Prop
  | nil : HdL X c [] [] []
  | cons {x n : Str} {C : Addr} {i : Nat} {p : Nat → Bool} {F : D → D} {b0 : Stmt} {suite : List Stmt} {np hp : Pos} {hs : List ExceptHandler} {l : List (Value × Nat × SuT)} {m : List HdM} (hi : X.N[i]? = some n) (hln : X.env.kindOf n = some .local) (hg : Gl X x) (hd : (x == ("__debug__" : Str)) = false) (hm : X.mg x = some (.ref C))
      (hx : ∀ k C', c.cl k = some C' → PySem.W.exmOne X.K (.ref C') (.ref C) = some (p k))
      (hsu : ∀ (a : Addr) (oe : Obj) (cls : Value) (d : Option Addr) (pn : List (Addr × Obj)), Zc cls d oe → (∃ vs, oe.data = .fields vs) → PSs (X.suite a ((a, oe) :: pn)) (b0 :: suite) (tsu c i F a cls d)) (r : HdL X c hs l m) :
      HdL X c (.ExceptHandler (some (.Name x np)) (some n) (b0 :: suite) hp :: hs) ((.ref C, i, tsu c i F) :: l) ((p, i, F) :: m)
theorem HdL.hds {X : Cx} {c : Cf} {hs : List ExceptHandler} {l : List (Value × Nat × SuT)} {m : List HdM} (h : HdL X c hs l m) : Hds X hs l := by
  induction h with
  | nil => exact .nil
  | cons hi hln hg hd hm hx hsu r ih => exact .cons hi hln ⟨hg, hd, .inl hm⟩ hsu ih
section
variable {X : Cx} {c : Cf} {W : WX} {body : List Stmt} {h0 : ExceptHandler} {hds : List ExceptHandler} {l : List (Value × Nat × SuT)} {m : List HdM} {pos : Pos} {mb : Nv → R Fl}
theorem ps_tr (hst : X.stack = X.env :: X.outer) (hfr : X.env.frame = some X.env.locals) (hN : X.N.Nodup) (hf : c.fr = false) (tk : Takes X W) (hK : c.K = X.K) (hcl : ∀ k C, c.cl k = some C → XfC X.K C ∧ PySem.W.findIn X.K (.ref C) "at" = some none)
    (hb : ∀ (W' : WX) (pn : List (Addr × Obj)) (xe : Value → Shared → Prop), Takes (X.tr pn xe) W' → PassesOwn (model X.prog X.w) X.A X.env xe → PSs (X.tr pn xe) body (rdS c W' mb)) (hh : HdL X c (h0 :: hds) l m) (hrp : c.rp = none := by rfl) :
    PS X (.Try body (h0 :: hds) [] [] pos) (rdS c W (sTry mb m)) := (ps_try_all hst hfr hN tk hb hh.hds).wk fun E σ H ⟨ε, M, re, f⟩ => by
  refine ⟨ε, M, re, ?_⟩
  unfold sTry at f
  cases q : mb ε with
  | bad => rw [q] at f; exact f.elim
  | ex a b => rw [q] at f; exact f.elim
  | ok fl =>
    rw [q] at f
    cases fl with
    | nx ε' => exact f
    | rt d => exact f
    | bk ε' => exact f
    | ct ε' => exact f
    | xx ε' k a =>
      simp only at f
      have fa : flat a = true := by
        cases q2 : findH m k with
        | none =>
          rw [q2] at f
          exact f.1
        | some z =>
          rw [q2] at f
          by_cases h : z.1 < ε'.length ∧ flat a = true
          · exact h.2
          · simp only [if_neg h] at f
            exact f.elim
      have key : flat a = true → ∀ σ' H' M' C dx v, c.cl k = some C → Rel c σ' H' ε' M' → Ex (hid M H) (hid M' H') → hid M' H' dx = some (.xd [("at", v)]) → At c.K H' a v → wAll X.K W E l (.ref C) (some dx) σ' H' := by
        intro hfl σ' H' M' C dx v hC r' e' hx hv
        have go : ∀ {hs' : List ExceptHandler} {l' : List (Value × Nat × SuT)} {m' : List HdM}, HdL X c hs' l' m' → Fin c W E (hid M H) (match findH m' k with | some (i, F) => if i < ε'.length ∧ flat a = true then .ok (.rt (F a)) else .bad | none => .ok (.xx ε' k a)) → wAll X.K W E l' (.ref C) (some dx) σ' H' := by
          intro hs' l' m' hk
          induction hk with
          | nil => exact fun g => g.2 σ' H' M' C dx v hC r' e' hx hv
          | @cons x n C1 i p F b0 suite np hp hs l m hi hln hg hd hm hxm hsu r ih =>
            intro g
            refine ⟨p k, hxm k C hC, fun hp a' na => ?_, fun hp => ih (by
              unfold findH at g
              rw [if_neg (by rw [hp]; exact Bool.false_ne_true)] at g
              exact g)⟩
            unfold findH at g
            rw [if_pos hp] at g
            by_cases hl : i < ε'.length ∧ flat a = true
            · simp only [if_pos hl] at g
              have g' : RtOk c E.rt (F a) := g
              unfold RtOk at g'
              rw [hf] at g'
              refine ⟨by rw [List.getElem?_set_self (by rw [r'.len]; exact hl.1)], C, dx, v, a, rfl, hK ▸ (hcl k C hC).1, hK ▸ (hcl k C hC).2, rfl, (of_hid hx).1, hfl, hv, fun b hb => r'.trk b (r'.sub b hb), fun v' H2 e2 hv' => g' v' H2 (r'.ext.trans e2) hv' fun p hp => by rw [hrp] at hp; cases hp⟩
            · simp only [if_neg hl] at g
              exact g.elim
        exact go hh f
      exact ⟨fa, key fa⟩
end
/-! ### the law itself -/
/-- the law's promise at a script -/
def spLaw (K : PySem.W.Frag) : Sp := fun vs H Q E => ∃ (a : Addr) (ns : List Int), vs = [.ref a] ∧ ns.length ≤ 63 ∧ SqL K H a (ns.map V.int) ∧ ∀ v H', v = .bl true → Q v H'
theorem law_sp {K : PySem.W.Frag} {cl : Nat → Option Addr} {f : List D → R D} (ht : ∀ ns : List Int, ns.length ≤ 63 → f [.list (ns.map PyData.int)] = .ok (.bool true)) {vs : List V} {H : Hp} {Q : VK} {E : XK} (h : spLaw K vs H Q E) : spF K cl f vs H Q E := by
  obtain ⟨a, ns, e, hl, hS, q⟩ := h
  subst e
  exact spF.ok (M := []) (ds := [.list (ns.map PyData.int)]) (fun a z => absurd z (List.not_mem_nil)) ⟨_, _, rfl, ⟨a, _, rfl, by rw [hid_nil]; exact hS, ints_at ns⟩, rfl⟩ (ht ns hl) fun v H' _ hv => q v H' hv
theorem FnG.law {P : Program} {w : World} {K : PySem.W.Frag} {mg : Str → Option Value} {base : Heap} {k : Nat} {f : Addr} {fd : FuncData} {ps : List Str} {cl : Nat → Option Addr} {g : List D → R D} (F : FnG P w K mg base k f fd ps (spF K cl g))
    (ht : ∀ ns : List Int, ns.length ≤ 63 → g [.list (ns.map PyData.int)] = .ok (.bool true)) : FnG P w K mg base k f fd ps (spLaw K) :=
  ⟨fun vs H Q E h => F.len vs H Q E (law_sp ht h), fun A outer s H args us vs Q E hr hG he hb hv h => F.run A outer s H args us vs Q E hr hG he hb hv (law_sp ht h)⟩
end Tw
set_option Elab.async false
set_option linter.all false
set_option maxRecDepth 100000
set_option maxHeartbeats 4000000
/-! Tw19: [f, g, ..][i](..): one of several defs is called -/
namespace Tw
open PySem PySem.Spec PyProof.Rows L2
/-- defs in a list: their names in the text, where they stand, what they compute -/
inductive Sels (X : Cx) (c : Cf) : List Expr → List Addr → List (List D → R D) → Prop
  | nil : Sels X c [] [] []
  | cons {x : Str} {p : Pos} {f : Addr} {fd : FuncData} {ps : List Str} {k : Nat} {g : List D → R D} {es : List Expr} {fs : List Addr} {gs : List (List D → R D)} (F : FnG X.prog X.w X.K X.mg X.base k f fd ps (spF X.K c.cl g)) (hr : Room k X.A) (hm : X.mg x = some (.ref f)) (hk : PySem.W.keepIn X.K (.ref f) = true) (hb : Binds X.K fd ps [])
      (hg : Gl X x) (hd : (x == ("__debug__" : Str)) = false) (r : Sels X c es fs gs) : Sels X c (.Name x p :: es) (f :: fs) (g :: gs)
section
variable {X : Cx} {c : Cf} {W : WX}
theorem Sels.pa {es : List Expr} {fs : List Addr} {gs : List (List D → R D)} (h : Sels X c es fs gs) : PA X es (fun σ H Q => Q (fs.map V.ref) H) := by
  induction h with
  | nil => exact pa_nil
  | cons F hr hm hk hb hg hd r ih => exact pa_cons (pe_glob hg hm (show RelV (.ref _) (.ref _) from rfl) hd) ih rfl
theorem Sels.len {es : List Expr} {fs : List Addr} {gs : List (List D → R D)} (h : Sels X c es fs gs) : gs.length = fs.length := by
  induction h with
  | nil => rfl
  | cons F hr hm hk hb hg hd r ih => rw [List.length_cons, List.length_cons, ih]
theorem Sels.get {es : List Expr} {fs : List Addr} {gs : List (List D → R D)} (h : Sels X c es fs gs) : ∀ {j : Nat} {g : List D → R D}, gs[j]? = some g → ∃ f fd ps k, fs[j]? = some f ∧ FnG X.prog X.w X.K X.mg X.base k f fd ps (spF X.K c.cl g) ∧ Room k X.A ∧ PySem.W.keepIn X.K (.ref f) = true ∧ Binds X.K fd ps [] := by
  induction h with
  | nil => intro j g h; simp at h
  | cons F hr hm hk hb hg hd r ih =>
    intro j g h
    cases j with
    | zero =>
      simp at h
      subst h
      exact ⟨_, _, _, _, rfl, F, hr, hk, hb⟩
    | succ j => simpa using ih (by simpa using h)
/-- the reading of such a call -/
def rdSel (c : Cf) (W : WX) (K : PySem.W.Frag) (gs : List (List D → R D)) (mi : Nv → R D) (ms : Nv → R (List D)) : TE := fun σ H Q => ∃ ε M k g ds, Rel c σ H ε M ∧ mi ε = .ok (.int k) ∧ atI gs k = some g ∧ ms ε = .ok ds ∧ ∀ vs H1, Ex H H1 → AtL c.K (hid M H1) ds vs → spF K c.cl g vs H1 Q (WE W σ)
theorem pe_sel {es args : List Expr} {e1 i : Expr} {fs : List Addr} {gs : List (List D → R D)} {mi : Nv → R D} {ms : Nv → R (List D)} {lp sp pos : Pos} (S : Sels X c es fs gs) (hz : es.length ≤ 1000) (hG : X.A.guards = some []) (tk : Takes X W) (hi : PE X i (rdE c mi)) (hs : PlainIx i) (ha : PA X (e1 :: args) (rdA c ms))
    (hc : ∀ env, eval (.Call (.Subscript (.List es lp) i sp) (e1 :: args) [] pos) env = (do let f ← eval (.Subscript (.List es lp) i sp) env; callWith pos f [] (backTo pos (starEach (e1 :: args) env)) [])) (he : starEach (e1 :: args) X.env = (false, eval e1 X.env) :: starEach args X.env := by rfl) (hpl : (backTo pos (starEach args X.env)).any (·.1) = false := by rfl) (hfl : fs.length = es.length := by rfl) :
    PE X (.Call (.Subscript (.List es lp) i sp) (e1 :: args) [] pos) (rdSel c W X.K gs mi ms) := by
  constructor
  rintro pins s σ H Q I ⟨ε, M, k, g, ds, re, hk, hg, hd, q⟩
  rw [hc]
  apply wpAny_bind
  have fun_ := pe_ix (pos := sp) ix_list (pe_lst (pos := lp) S.pa) hi hs
  obtain ⟨j, hj, hgj⟩ : ∃ j, ixN gs.length k = some j ∧ gs[j]? = some g := by
    unfold atI at hg
    cases z : ixN gs.length k with
    | none => rw [z] at hg; cases hg
    | some j => rw [z] at hg; exact ⟨j, rfl, hg⟩
  obtain ⟨f, fd, ps, lv, h1, F, hr, hkp, hb⟩ := S.get hgj
  have hat : atI (fs.map V.ref) k = some (.ref f) := by
    unfold atI
    rw [List.length_map, ← S.len, hj]
    show (fs.map V.ref)[j]? = _
    rw [List.getElem?_map, h1]
    rfl
  refine thn (fun_.run pins s σ H (fun v H1 => v = .ref f ∧ Ex H H1) I ⟨by rw [List.length_map, hfl]; exact Nat.le_trans hz (by decide), fun p np => ?_⟩) ?_
  · refine ⟨ε, M, re.ex (Evl.Ex.new np), _, hk, fun v H1 e1 hv => ?_⟩
    exact ⟨p, _, k, _, rfl, hv, SqL.of (e1 p _ upd_same), hat, rfl, (Evl.Ex.new np).trans e1⟩
  · rintro u s1 ⟨v, H1, I1, rv, rfl, e1⟩
    cases rv
    apply PySem.W.callWith_K (h₀ := X.base) I1.ok.mod.kin hkp _ he hpl
    refine thn (ha.run pos pins s1 σ H1 (fun vs H2 => spF X.K c.cl g vs H2 Q (WE W σ)) I1 ⟨ε, M, re.ex e1, ds, hd, fun vs H2 e2 hv => q vs H2 (e1.trans e2) hv⟩) ?_
    intro us s2 ⟨vs, H2, I2, r, q2⟩
    exact ⟨I2.kIn, runGX F hr hG hb tk I2 r q2⟩
/-- such a call as a statement -/
def sSel (gs : List (List D → R D)) (mi : Nv → R D) (ms : Nv → R (List D)) (kk : D → Nv → Fl) : Nv → R Fl := fun ε => (mi ε).bind fun d => match d with
  | .int k => (match atI gs k with
    | some g => sCl g ms kk ε
    | none => .bad)
  | _ => .bad
theorem ps_drS {gs : List (List D → R D)} {mi : Nv → R D} {ms : Nv → R (List D)} {e : Expr} {pos : Pos} (h : PE X e (rdSel c W X.K gs mi ms)) (hs : swapsWith e none pos.line X.env = pure false := by rfl) (hK : c.K = X.K := by rfl) : PS X (.Expr e pos) (rdS c W (sSel gs mi ms fun _ ε => .nx ε)) :=
  (ps_expr h hs).wk fun E σ H ⟨ε, M, re, f⟩ => by
  unfold sSel at f
  cases q : mi ε with
  | bad => rw [q] at f; exact f.elim
  | ex a b => rw [q] at f; exact f.elim
  | ok d =>
    rw [q] at f
    simp only [R.bind] at f
    split at f
    · rename_i k
      split at f
      · rename_i g hg
        have z := cl_core (X := X) (kk := fun _ ε => .nx ε) (E := E) (Q := fun _ H' => E.nx σ H') hK (fun ε M d H' v re _ f => f σ H' M re (Evl.Ex.refl _)) ⟨ε, M, re, f⟩
        unfold sCl at f
        cases q2 : ms ε with
        | bad => rw [q2] at f; exact f.elim
        | ex a b => rw [q2] at f; exact f.elim
        | ok ds =>
          rw [q2] at f
          refine ⟨ε, M, k, g, ds, re, q, hg, q2, fun vs H1 e1 hv => ⟨M, ds, Trk.ex re.trk e1, hK ▸ hv, ?_⟩⟩
          simp only [R.bind] at f
          cases q3 : g ds with
          | bad => rw [q3] at f; exact f.elim
          | ok d => rw [q3] at f; exact fun v H' e' _ => f σ H' M (re.ex (e1.trans e')) (hid_ex (e1.trans e'))
          | ex k a =>
            rw [q3] at f
            exact ⟨f.1, fun C dx v H' hc e' hx hv' => f.2 σ H' M C dx v hc (re.ex (e1.trans e')) (hid_ex (e1.trans e')) hx (hK ▸ hv')⟩
      · exact f.elim
    · exact f.elim
end
/-! ### facts of classes -/
theorem along_ve (K : PySem.W.Frag) : PySem.W.alongIn K "__init__" PySem.HandSPX.veTail = some (some (.builtin "ValueError.__init__")) := by kernel_rfl
theorem drop_c (C : Addr) (l : List Value) : ((Value.ref C :: l).dropWhile (· != .ref C)).drop 1 = l := by simp [List.dropWhile_cons]
section
variable {K : PySem.W.Frag} {C D N : Addr} {nm q : Str} {bs bm : List Value} {sn : List Str} {sub : List Value} {ab : Bool} {col : Option Bool} {dd : Option Addr} {k0 k1 k2 k3 k5 : Option Value}
theorem sup_base (hC : K.lookup C = some (excClassObj nm q C N bs bm true sn sub ab col dd k0 k1 k2 k3 k5 "ValueError.__new__")) (hb : bm = PySem.HandSPX.veTail) (e : C = D) : PySem.W.ks_superIn K C D "__init__" = some (some (.builtin "ValueError.__init__")) := by
  subst e
  have hcl : PySem.W.clsIn K C = some { name := nm, bases := bs, mro := .ref C :: bm, ns := N, qualname := q, hasDict := true, slotNames := sn, subclasses := sub, abstract := ab, collection := col, hasDel := false } := by unfold PySem.W.clsIn; rw [hC] <;> rfl
  unfold PySem.W.ks_superIn
  rw [hcl, Option.bind_some]
  show PySem.W.alongIn K "__init__" (((Value.ref C :: bm).dropWhile (· != .ref C)).drop 1) = _
  rw [drop_c, hb, along_ve]
theorem sup_sub (hC : K.lookup C = some (excClassObj nm q C N bs bm true sn sub ab col dd k0 k1 k2 k3 k5 "ValueError.__new__")) (hb : bm = .ref D :: PySem.HandSPX.veTail) (e : C ≠ D) : PySem.W.ks_superIn K C D "__init__" = some (some (.builtin "ValueError.__init__")) := by
  have hcl : PySem.W.clsIn K C = some { name := nm, bases := bs, mro := .ref C :: bm, ns := N, qualname := q, hasDict := true, slotNames := sn, subclasses := sub, abstract := ab, collection := col, hasDel := false } := by unfold PySem.W.clsIn; rw [hC] <;> rfl
  unfold PySem.W.ks_superIn
  rw [hcl, Option.bind_some]
  show PySem.W.alongIn K "__init__" (((Value.ref C :: bm).dropWhile (· != .ref D)).drop 1) = _
  rw [List.dropWhile_cons, if_pos (by simp [e]), hb, drop_c, along_ve]
end
end Tw
set_option Elab.async false
set_option linter.all false
set_option maxRecDepth 100000
set_option maxHeartbeats 4000000
/-! Tw20: enumerate of a tuple -/
namespace Tw
open PySem PySem.Spec PyProof.Rows L2
def enO (i : Addr) : Obj := { cls := .type "enumerate", data := .fields #[.none, .bool false, .ref i, rawInt 0, .none, .none] }
theorem meets_en1 {v : Value} {ob : Obj} {C : Heap → Prop} (B : Begins v ob C) :
    Meets (Builtin.«enumerate.__new__» ⟨[.type "enumerate", v], []⟩) (fun _ R s => C s.heap ∧ R (.ok (.ret (.ref (s.heap.push ob).objs.size))) { s with heap := (s.heap.push ob).push (enO s.heap.objs.size) }) :=
  .of_wp fun prog w A R s ⟨b, h⟩ => by
    obtain ⟨hp, g, d, tk, os⟩ := s
    have hsub := sub_enumerate
    have it : ∀ {A2 : Around} {E2 : Value → Shared → Prop} {Q2 : Value → Shared → Prop}, Q2 (.ref hp.objs.size) ⟨hp.push ob, g, d, tk, os⟩ → wpAny (model prog w) A2 (pyIter v) Q2 E2 ⟨hp, g, d, tk, os⟩ := fun q => B.iter prog w _ _ ⟨hp, g, d, tk, os⟩ _ b q
    wp_walk using it
    refine wpAny_stack_any fun st => wpAny_pure ?_
    split
    · rename_i c _ _ _ _ _
      cases (c == Value.type "enumerate")
      all_goals
        wp_walk using it
        exact ⟨_, rfl, h⟩
    · wp_walk using it
      exact ⟨_, rfl, h⟩
theorem en1_begins {prog : Program} {w : World} {A : Around} {E : Value → Shared → Prop} {s : Shared} {v : Value} {ob : Obj} {C : Heap → Prop} {Q : Value → Shared → Prop} (B : Begins v ob C) (b : C s.heap)
    (h : ∀ h1, IsEnum h1 (s.heap.objs.size + 1) s.heap.objs.size 0 .none → h1.get? s.heap.objs.size = some ob → (∀ c o, s.heap.get? c = some o → h1.get? c = some o) → Q (.ref (s.heap.objs.size + 1)) { s with heap := h1 }) :
    wpAny (model prog w) A (call (.type "enumerate") [v]) Q E s := by
  refine callType_new F.called_enumerate (by decide) (F.typeCall_enumerate_1 _) (F.newCall_enumerate_1 _) (fun _ => F.args_object_init_2 _ _) F.entry_enumerate_new (meets_en1 B) ⟨b, ?_⟩
  have z : (s.heap.push ob).objs.size = s.heap.objs.size + 1 := Heap.size_push ..
  show _ ∧ _
  rw [z]
  have e : IsEnum ((s.heap.push ob).push (enO s.heap.objs.size)) (s.heap.objs.size + 1) s.heap.objs.size 0 .none := by
    rw [← z]
    exact Heap.get?_push_size (s.heap.push ob) rfl
  exact ⟨⟨_, e, rfl⟩, h _ e (Heap.get?_push_of_some _ (Heap.get?_push_size _ B.free)) fun c o q => Heap.get?_push_of_some _ (Heap.get?_push_of_some _ q)⟩
def IteT (K : PySem.W.Frag) (a : Addr) : It :=
  ⟨fun i H => ∃ (us : List V) (x : V), SqT K H a us ∧ us[i]? = some x,
    fun i H v H' => ∃ q x, v = .ref q ∧ H q = none ∧ H' = L2.upd H q (.tup [.int (i : Nat), x]) ∧ ∀ us, SqT K H a us → us[i]? = some x,
    fun i H => ∃ us : List V, SqT K H a us ∧ i = us.length⟩
theorem turn_eT {P : Program} {w : World} {K : PySem.W.Frag} {elts : List Expr} {kk : Nat} {tpos : Pos} {a e j : Addr} (ej : e ≠ j) (ea : e ≠ a) (na : a ≠ j) :
    Turn P w K (.Tuple elts kk tpos) (IteT K a) [e, j] e (fun i h => (∃ old, IsEnum h e j ((i : Nat) : Int) old) ∧ h.IsTupleIter j a i) where
  mem := List.mem_cons_self
  obj := fun i h st c hc => by
    obtain ⟨⟨old, g0⟩, ⟨o1, e1, _, d1⟩⟩ := st
    simp only [List.mem_cons, List.not_mem_nil, or_false] at hc
    rcases hc with rfl | rfl
    · exact ⟨_, g0, fun v q => nomatch q⟩
    · refine ⟨o1, e1, fun v q => ?_⟩
      rw [d1] at q
      cases q
  keep := fun i h h' st k => by
    obtain ⟨⟨old, g0⟩, g3⟩ := st
    exact ⟨⟨old, k e (by simp) _ g0⟩, g3.at fun o q => k j (by simp) o q⟩
  item := by
    intro X e1 e2 e3 hc i pins s σ H E I hf st hg
    subst e1 e2 e3
    obtain ⟨⟨old, g0⟩, g3⟩ := st
    obtain ⟨us, x, qa, hx⟩ := hg
    obtain ⟨is, rv, p, _⟩ := I.tuple qa
    obtain ⟨u, hu, ru⟩ := rv.get hx
    have hh : X.A.in1.handled = none := I.ok.hd hc
    have W := WalksT.enumerateD (prog := X.prog) (w := X.w) (A := X.A) (Draws.tuple hh j a na is.toArray) e ej (by simp [ej, ea]) (by simp)
    have hi : i < is.toArray.size := by
      have h1 := (List.getElem?_eq_some_iff.mp hu).1
      rw [List.size_toArray]
      exact h1
    refine W.item i s _ _ hi ⟨⟨old, g0⟩, ⟨g3, p⟩⟩ fun q vals h1 tk hP hq hT mid hk => ⟨_, rfl, W.go elts kk tpos i q _ _ _ mid fun h2 st2 hk2 => ?_⟩
    obtain ⟨t0, x1, a1, rfl⟩ := hP
    have b1 : x1 = u := by
      rw [List.getElem?_toArray, hu] at a1
      exact (Option.some.inj a1).symm
    subst b1
    have hT2 : h2.IsTuple q [Value.int (i : Int) t0, x1].toArray := hT.at fun o z => hk2 q o (W.apart i q _ mid) z
    have nq : H q = none := I.hok.fresh hq
    have I1 : Inv X pins σ (L2.upd H q (.tup [.int (i : Nat), x])) { s with heap := h2, toks := tk } :=
      I.turnedNew (t' := tk) (ch := [e, j]) (fun c o hb z => hk2 c o hb (hk c o hb z)) hf hq ⟨by show 2 ≤ sizeLine; decide, [_, x1], .cons ⟨_, rfl⟩ (.cons ru .nil), hT2⟩
    obtain ⟨⟨ol, k0⟩, k3, _⟩ := st2
    refine ⟨.ref q, _, I1, rfl, ⟨q, x, rfl, nq, rfl, fun l hl => by rw [I.tuple_inj hl qa]; exact hx⟩, ⟨⟨ol, k0⟩, k3⟩, fun c hc => ?_⟩
    have ex : ∃ o, s.heap.get? c = some o := by
      simp only [List.mem_cons, List.not_mem_nil, or_false] at hc
      obtain ⟨o1, e1, _⟩ := g3
      rcases hc with rfl | rfl
      · exact ⟨_, g0⟩
      · exact ⟨o1, e1⟩
    have ne : c ≠ q := fun z => by
      obtain ⟨o, ho⟩ := ex
      rw [z] at ho
      exact absurd (Heap.lt_size ho) (Nat.not_lt.mpr hq)
    rw [upd_ne ne]
    exact (hf c hc).1
  done := by
    intro X e1 e2 e3 hc i pins s σ H E I hf st hg
    subst e1 e2 e3
    obtain ⟨⟨old, g0⟩, g3⟩ := st
    obtain ⟨us, qa, hi⟩ := hg
    obtain ⟨is, rv, p, _⟩ := I.tuple qa
    have hh : X.A.in1.handled = none := I.ok.hd hc
    have W := WalksT.enumerateD (prog := X.prog) (w := X.w) (A := X.A) (Draws.tuple hh j a na is.toArray) e ej (by simp [ej, ea]) (by simp)
    have hi2 : i = is.toArray.size := by rw [List.size_toArray, ← rv.length, hi]
    refine W.done s _ _ (by rw [← hi2]; exact ⟨⟨old, g0⟩, ⟨g3, p⟩⟩) fun h1 tk hk => ⟨rfl, I.turnedL (t' := tk) (ch := [e, j]) (fun c o hb z => hk c o hb z) hf⟩
  self := fun A i s Q E st h => let ⟨⟨_, g⟩, _⟩ := st; wpAny_pyIter_enum g h
theorem wk_eT {K : PySem.W.Frag} {B : Hp} {a : Addr} {vs : List V} {ds : List D} (h : SqT K B a vs) (hd : AtL K B ds vs) : Wk K B (IteT K a) (enumG 0 ds) := fun i H e => by
  have g1 : SqT K H a vs := Evl.ex_t e h
  have n := atL_len hd
  have l := enumG_len 0 ds
  refine ⟨fun hi => ⟨vs, vs[i]'(by omega), g1, List.getElem?_eq_getElem (by omega)⟩, fun hi => ⟨vs, g1, by omega⟩, fun x H' ⟨t, y, e1, nt, e2, q⟩ => ?_⟩
  subst e1 e2
  refine ⟨Evl.Ex.new nt, fun d hi M' tk e2 => ?_⟩
  obtain ⟨f, k1, k2⟩ := enumG_get 0 ds i d hi
  subst k2
  obtain ⟨v, h1, h2⟩ := AtL.get hd k1
  have u1 : v = y := Option.some.inj (h1.symm.trans (q vs g1))
  subst u1
  have e3 := Evl.Ex.trans e2 (hid_ex (Evl.Ex.new (o := .tup [.int (i : Nat), v]) nt))
  refine ⟨t, _, rfl, SqT.of (hid_of upd_same (tk.no nt)), _, _, rfl, ?_, _, _, rfl, At.mono e3 f v h2, rfl⟩
  show V.int (i : Int) = V.int ((0 + i : Nat) : Int)
  rw [Nat.zero_add]
def iEnumT (K : PySem.W.Frag) (ta : TA) : TI := fun σ H R => ta σ H fun vs H1 => ∃ a us, vs = [.ref a] ∧ SqT K H1 a us ∧ R (IteT K a) H1
theorem pi_eT {X : Cx} {e : Expr} {ta : TA} {p pos tpos : Pos} {elts : List Expr} {kk : Nat} (hm : X.mg "enumerate" = none) (ha : PA X [e] ta) (hg : Gl X "enumerate") (hs : starEach [e] X.env = [(false, eval e X.env)]) :
    PI X (.Tuple elts kk tpos) (.Call (.Name "enumerate" p) [e] [] pos) (iEnumT X.K ta) := by
  constructor
  intro pins s σ H R I h
  refine Call_ (ld_blt I hg hm boot_enumerate ?_)
  refine PyProof.Rows.callWith_type1 (thn (ha.run pos pins s σ H _ I h) fun xs s1 ⟨vs, H1, I1, r1, a, us, ev, qa, q⟩ => ?_) hs rfl
  subst ev
  obtain ⟨y1, rfl, ra⟩ : ∃ y1, xs = [y1] ∧ L2.RelV (V.ref a) y1 := by
    cases r1 with
    | cons f g =>
      cases g
      exact ⟨_, rfl, f⟩
  obtain rfl : y1 = Value.ref a := ra
  obtain ⟨is, _, p1, _⟩ := I1.tuple qa
  obtain ⟨o1, ho1, _⟩ := id p1
  have la : a < s1.heap.objs.size := Heap.lt_size ho1
  refine en1_begins (begins_tuple a is.toArray) p1 fun h1 g0 g1 hk => wpAny_pyIter_enum g0 ?_
  have I2 : L2.Inv X pins σ H1 { s1 with heap := h1 } := I1.kept (t' := s1.toks) hk
  have fresh : ∀ c, c ∈ [s1.heap.objs.size + 1, s1.heap.objs.size] → FpOk X pins H1 c := fun c hc => by
    have le : s1.heap.objs.size ≤ c := by
      simp only [List.mem_cons, List.not_mem_nil, or_false] at hc
      rcases hc with rfl | rfl
      · exact Nat.le_add_right _ _
      · exact Nat.le_refl _
    exact I1.fpOk le (I1.hok.fresh le)
  exact ⟨s1.heap.objs.size + 1, _, _, _, H1, rfl, I2, turn_eT (Nat.succ_ne_self _) (Nat.ne_of_gt (Nat.lt_succ_of_lt la)) (Nat.ne_of_lt la), ⟨⟨_, g0⟩, ⟨_, g1, rfl, rfl⟩⟩, fresh, q⟩
/-- enumerate of a tuple -/
def iEnT (m : Nv → R (List D)) : Nv → R (List D) := fun ε => (m ε).bind fun ds => match ds with
  | [.tuple xs] => .ok (enumG 0 xs)
  | _ => .bad
theorem pi_et {X : Cx} {c : Cf} {ms : Nv → R (List D)} {p pos tpos : Pos} {e : Expr} {elts : List Expr} {kk : Nat} (hm : X.mg "enumerate" = none) (ha : PA X [e] (rdA c ms)) (hg : Gl X "enumerate" := by rfl) (hs : starEach [e] X.env = [(false, eval e X.env)] := by rfl) (hK : c.K = X.K := by rfl) :
    PI X (.Tuple elts kk tpos) (.Call (.Name "enumerate" p) [e] [] pos) (rdI c (iEnT ms)) := (pi_eT hm ha hg hs).wk fun σ H Q ⟨ε, M, re, ds, hm, q⟩ => by
    obtain ⟨as, h1, h2⟩ := R.bind_ok hm
    refine ⟨ε, M, re, as, h1, fun vs H1 e1 hv => ?_⟩
    split at h2
    · cases h2
      obtain ⟨v, ev, a, xs, e2, g1, g2⟩ := at_one hv
      exact ⟨a, xs, by rw [ev, e2], hK ▸ sqt_le g1, q _ H1 e1 (hK ▸ wk_eT g1 g2)⟩
    · cases h2
/-- enumerate of a list or a tuple -/
def iEnB (m : Nv → R (List D)) : Nv → R (List D) := fun ε => (m ε).bind fun ds => match ds with
  | [.list xs] => .ok (enumG 0 xs)
  | [.tuple xs] => .ok (enumG 0 xs)
  | _ => .bad
theorem pi_eb {X : Cx} {c : Cf} {ms : Nv → R (List D)} {p pos tpos : Pos} {e : Expr} {elts : List Expr} {kk : Nat} (hm : X.mg "enumerate" = none) (ha : PA X [e] (rdA c ms)) (hg : Gl X "enumerate" := by rfl) (hs : starEach [e] X.env = [(false, eval e X.env)] := by rfl) (hK : c.K = X.K := by rfl) :
    PI X (.Tuple elts kk tpos) (.Call (.Name "enumerate" p) [e] [] pos) (rdI c (iEnB ms)) := by
  constructor
  intro pins s σ H Q I ⟨ε, M, re, ds, hd, q⟩
  obtain ⟨as, h1, h2⟩ := R.bind_ok hd
  split at h2
  · refine (pi_e hm ha hg hs hK).run pins s σ H Q I ⟨ε, M, re, ds, ?_, q⟩
    unfold iEnu
    rw [h1]
    exact h2
  · refine (pi_et hm ha hg hs hK).run pins s σ H Q I ⟨ε, M, re, ds, ?_, q⟩
    unfold iEnT
    rw [h1]
    exact h2
  · cases h2
end Tw
set_option Elab.async false
set_option linter.all false
set_option maxRecDepth 100000
set_option maxHeartbeats 4000000
/-! Tw21: parts of tuples, tuples laid end to end -/
namespace Tw
open PySem PySem.Spec PyProof.Rows L2
section
variable {X : Cx} {c : Cf} {e a b : Expr} {ma mb me : Nv → R D} {pos : Pos}
def xSlT (me : Nv → R D) (lo hi : Nv → R (Option Int)) : Nv → R D := fun ε => (me ε).bind fun d => (lo ε).bind fun l => (hi ε).bind fun h => match d with
  | .tuple xs => .ok (.tuple (cut xs l h))
  | _ => .bad
theorem pe_slT {lo hi : Option Expr} {p2 : Pos} {ml mh : Nv → R (Option Int)} (he : PE X e (rdE c me)) (hl : PO X lo (rdO c ml)) (hh : PO X hi (rdO c mh)) (hK : c.K = X.K := by rfl) : PE X (.Subscript e (.Slice lo hi none p2) pos) (rdE c (xSlT me ml mh)) :=
  (pe_slice sl_tupA he hl hh).wk fun σ H Q ⟨ε, M, re, d, hm, q⟩ => by
    obtain ⟨x, h1, h2⟩ := R.bind_ok hm
    obtain ⟨l, h3, h4⟩ := R.bind_ok h2
    obtain ⟨u, h5, h6⟩ := R.bind_ok h4
    refine ⟨ε, M, re, x, h1, fun v H1 e1 hv => ⟨ε, M, re.ex e1, l, h3, fun H2 e2 => ⟨ε, M, re.ex (e1.trans e2), u, h5, fun H3 e3 => ?_⟩⟩⟩
    cases x with
    | tuple xs =>
      cases h6
      obtain ⟨a, vs, ev, g1, g2⟩ := hv
      have e4 := e2.trans e3
      have n0 := atL_len g2
      refine ⟨a, vs, ev, hK ▸ sqt_le (Evl.ex_t (hid_ex e4) g1), fun hw => ?_, fun nw p n => ?_⟩
      · have ec : cut xs l u = xs := by
          rw [n0] at hw
          unfold cut
          rw [hw.1, hw.2, List.drop_zero, Nat.sub_zero, List.take_length]
        refine q _ _ (e1.trans e4) ?_
        rw [ec]
        exact ⟨a, vs, rfl, Evl.ex_t (hid_ex e4) g1, AtL.mono (hid_ex e4) _ _ g2⟩
      · have nM : p ∉ M := Trk.no (re.ex (e1.trans e4)).trk n
        refine q _ _ ((e1.trans e4).trans (Evl.Ex.new n)) ⟨p, _, rfl, SqT.of (hid_of upd_same nM), ?_⟩
        exact AtL.mono (hid_ex (Evl.Ex.new n)) _ _ (AtL.mono (hid_ex e4) _ _ (cut_at g2 l u))
    | _ => cases h6
def dMulT : D → D → R D
  | .tuple xs, .int k => if xs ≠ [] ∧ 2 ≤ k ∧ k ≤ 1000 ∧ xs.length ≤ 1000 then .ok (.tuple (List.replicate k.toNat xs).flatten) else .bad
  | _, _ => .bad
theorem AtL.rep {K : PySem.W.Frag} {H : Hp} {ds : List D} {vs : List V} (h : AtL K H ds vs) : ∀ n : Nat, AtL K H (List.replicate n ds).flatten (List.replicate n vs).flatten
  | 0 => rfl
  | n + 1 => by
    rw [List.replicate_succ, List.replicate_succ, List.flatten_cons, List.flatten_cons]
    exact AtL.app h (AtL.rep h n)
theorem o_mulT : OpR X (binaryOp .Mult) (r2D X.K dMulT) := by
  intro pins s σ H x y v u Q I rx ry ⟨M, a, b, d, t, ha, hb, hf, q⟩
  unfold dMulT at hf
  split at hf
  · rename_i xs k
    split at hf
    · rename_i hz
      cases hf
      obtain ⟨l, vs, e1, h1, h2⟩ := ha
      obtain ⟨z1, z2, z3, z4⟩ := hz
      have n0 := atL_len h2
      have ne : vs ≠ [] := fun z => z1 (List.eq_nil_of_length_eq_zero (by rw [← n0, z]; rfl))
      have hy : y = V.int k := hb
      refine op_repT pins s σ H x y v u Q I rx ry ⟨l, k, vs, e1, hy, sqt_le h1, ne, z2, z3, by rw [n0]; exact z4, fun p n => q _ _ (Evl.Ex.new n) ⟨p, _, rfl, SqT.of (hid_of upd_same (t.no n)), AtL.mono (hid_ex (Evl.Ex.new n)) _ _ (AtL.rep h2 _)⟩⟩
    · cases hf
  · cases hf
/-- list(x), x one's own list -/
def xCpM (j : Nat) : Nv → R D := fun ε => match gt ε j with
  | .mu (.list ds) => .ok (.list ds)
  | _ => .bad
theorem pe_cpM {j : Nat} {x : Expr} (h : PE X x (tCB (fun xs H Q => ∃ p ys, xs = [.ref p] ∧ (SqL X.K H p ys ∨ SqT X.K H p ys) ∧ ∀ l, H l = none → Q (.ref l) (upd H l (.lst ys))) (tCons (tVar j) tNil))) (hK : c.K = X.K := by rfl) : PE X x (rdL c (xCpM j)) :=
  h.wk fun σ H Q ⟨ε, M, re, d, hm, q⟩ => by
    unfold xCpM at hm
    split at hm
    · rename_i ds g
      cases hm
      obtain ⟨l, o, g1, g2, g3, g4, g5⟩ := re.mu j _ g
      obtain ⟨vs, eo, hl⟩ := own_list g5
      subst eo
      refine ⟨.ref l, g1, l, vs, rfl, .inl (SqL.of g4), fun n hn => ?_⟩
      exact q n _ _ hn (Evl.Ex.new hn) upd_same (.inl ⟨vs, _, rfl, rfl, AtL.mono (hid_new (Evl.Ex.new hn) hn) _ _ hl⟩)
    · cases hm
end
end Tw
set_option Elab.async false
set_option linter.all false
set_option maxRecDepth 100000
set_option maxHeartbeats 4000000
/-! Tw22: sorted(d.items()) of a dict with whole-number keys -/
namespace DI
open PySem PySem.Spec PyProof.Rows L2
section
variable {prog : Program} {w : World} {A : Around} {E : Value → Shared → Prop} {s : Shared}
theorem eq_same {v : Value} {Q : Bool → Shared → Prop} (h : Q true s) : wpAny (model prog w) A (eqBool v v) Q E s := by
  unfold eqBool
  refine wpAny_holding ?_
  refine wpAny_ite_split (fun _ => ?_) (fun z => ?_)
  · exact wpAny_pure (M := model prog w) (E := E) h
  · exact absurd z (by simp)
def keyI (h : Heap) (v : Value) : Int := match DT.seqAt0 h (DT.refOf (some v)) with
  | some (.int x _) => x
  | _ => 0
/-- v is a pair whose key is the number x -/
def PairI (h : Heap) (v : Value) (x : Int) : Prop := ∃ (a : Addr) (t : Tok) (u : Value), v = .ref a ∧ IsTup h a #[.int x t, u]
theorem PairI.key {h : Heap} {v : Value} {x : Int} (p : PairI h v x) : keyI h v = x := by
  obtain ⟨a, t, u, rfl, h1⟩ := p
  unfold keyI
  show (match DT.seqAt0 h a with | some (.int x _) => x | _ => 0) = x
  rw [DT.seqAt0_of h1]
  rfl
theorem firsts {h : Heap} : ∀ vs : List Value, (∀ v ∈ vs, ∃ x, PairI h v x) → ∃ fs : List Value, PySem.W.KatTups h vs fs ∧ fs.length = vs.length ∧ ∀ f ∈ fs, ∃ x t, f = Value.int x t
  | [], _ => ⟨[], PySem.W.KatTups.nil, rfl, fun f hf => by simp at hf⟩
  | v :: vs, x => by
    obtain ⟨fs, k, hl, hi⟩ := firsts vs fun u hu => x u (List.mem_cons_of_mem _ hu)
    obtain ⟨y, a, t, u, rfl, ⟨o, ho, hc, n, hd⟩⟩ := x v (List.mem_cons_self ..)
    refine ⟨.int y t :: fs, PySem.W.KatTups.cons ho hc hd rfl k, by rw [List.length_cons, List.length_cons, hl], fun f hf => ?_⟩
    rcases List.mem_cons.mp hf with rfl | hf
    · exact ⟨y, t, rfl⟩
    · exact hi f hf
theorem kind_ii {vs : List Value} (h2 : 2 ≤ vs.length) (x : ∀ v ∈ vs, ∃ y, PairI s.heap v y) (inj : ∀ v ∈ vs, ∀ u ∈ vs, keyI s.heap v = keyI s.heap u → v = u) (Q : SortKind → Shared → Prop)
    (h : ∀ κ, TS.Cmp prog w A s κ (pairsOf vs) (fun v => keyI s.heap v) → Q κ s) : wpAny (model prog w) A (keyKind' vs.toArray) Q E s := by
  obtain ⟨fs, k, hl, hi⟩ := firsts vs x
  refine PySem.W.kat_kind (T := Value.type "int") k (by omega) (fun f hf => ?_) rfl (h _ ?_)
  · obtain ⟨n, t, rfl⟩ := hi f hf
    exact PySem.W.Looks.of_pure rfl
  · intro p q hp hq Q' E' hQ
    rw [pairsOf_toList] at hp hq
    have mp := (mem_zip_self hp).2
    have mq := (mem_zip_self hq).2
    obtain ⟨y, py⟩ := x _ mp
    obtain ⟨z, pz⟩ := x _ mq
    have hQ' : Q' (decide (y < z)) s := by
      have e : decide (keyI s.heap p.1 < keyI s.heap q.1) = decide (y < z) := by rw [py.key, pz.key]
      rw [← e]
      exact hQ
    have ij := inj _ mp _ mq
    rw [py.key, pz.key] at ij
    by_cases e : y = z
    · have pq := ij e
      rw [← pq]
      subst e
      rw [decide_eq_false (Int.lt_irrefl y)] at hQ'
      obtain ⟨a, t, u, e1, ⟨o, ho, hc, n, hd⟩⟩ := py
      rw [e1]
      refine PySem.W.kat_lt ho hd ho hd ?_
      show PySem.W.KatLex prog w A _ (decide (2 < 2)) Q' [(Value.int y t, Value.int y t), (u, u)] 0 s
      refine PySem.W.kat_cons (eq_same (PySem.W.kat_yes (PySem.W.kat_cons (eq_same (PySem.W.kat_yes (PySem.W.kat_nil ?_))))))
      exact hQ'
    · obtain ⟨a, t, u, e1, ⟨o, ho, hc, n, hd⟩⟩ := py
      obtain ⟨a', t', u', e2, ⟨o', ho', hc', n', hd'⟩⟩ := pz
      rw [e1, e2]
      refine PySem.W.kat_lt ho hd ho' hd' ?_
      show PySem.W.KatLex prog w A _ (decide (2 < 2)) Q' [(Value.int y t, Value.int z t'), (u, u')] 0 s
      refine PySem.W.kat_cons (wpAny_eqBool_int ?_)
      rw [show (y == z) = false from beq_eq_false_iff_ne.mpr e]
      exact PySem.W.kat_no (TS.oneLt_ints _ hQ')
end
theorem pairs_get {prog : Program} {w : World} {K : Type} [DecidableEq K] {knd : KeyKind prog w K} : ∀ {es : List DictEntry} {kvs : List (K × Value)} {j : Nat} {e : DictEntry}, Pairs knd es kvs → es[j]? = some e → ∃ kv, kvs[j]? = some kv ∧ knd.is kv.1 e.key = true ∧ e.val = kv.2
  | _, _, _, _, .nil, h => by simp at h
  | _, _, 0, _, .cons a b c, h => by
    rw [List.getElem?_cons_zero] at h
    cases h
    exact ⟨_, rfl, a, b⟩
  | _, _, j + 1, _, .cons a b c, h => by
    rw [List.getElem?_cons_succ] at h
    obtain ⟨kv, h1, h2⟩ := pairs_get c h
    exact ⟨kv, by rw [List.getElem?_cons_succ]; exact h1, h2⟩
section
variable {X : Cx}
/-- d.items() of a dict of numbers and texts -/
def rItemsK : V → List V → Hp → VK → Prop := fun x xs H Q => ∃ (a : Addr) (kvs : List (Key × V)), x = .ref a ∧ xs = [] ∧ Rd H a (.dK kvs) ∧ ∀ p, H p = none → Q (.ref p) (upd H p (DX.itemsO p a))
theorem mt_itemsK : MtR X "dict.items" rItemsK := by
  intro pins s σ H x xs v us Q I rx rxs h
  obtain ⟨a, kvs, rfl, rfl, ha, q⟩ := h
  cases rx
  cases rxs
  obtain ⟨z, hd, vs, rel, o, es, ep, ho, hx, hdat, _⟩ := dk_rd I.hok ha
  refine DT.callItems (es := es) (ep := ep) hd ⟨o, ho, hx, hdat⟩ ?_
  have hf : H s.heap.objs.size = none := I.hok.fresh (Nat.le_refl _)
  exact ⟨.ref s.heap.objs.size, upd H s.heap.objs.size (DX.itemsO s.heap.objs.size a), I.laid (t' := s.toks) (fun b u e => Heap.get?_push_of_some _ e) (Nat.le_refl _) (DX.itemsO_ok (Heap.get?_push_size _ rfl)), rfl, q _ hf⟩
abbrev entI (e : Int × V) : Key × V := (Sum.inl e.1, e.2)
def rSortII : List V → Hp → VK → Prop := fun vs H Q => ∃ (p a : Addr) (ks : List (Int × V)), vs = [.ref p] ∧ H p = some (DX.itemsO p a) ∧ Rd H a (.dK (ks.map entI)) ∧ ks.length < 64 ∧
  ((ks.map (·.1)).Nodup → ∀ (H' : Hp) (l : Addr) (ps : List (Addr × Int × V)), (∀ b o, H b = some o → H' b = some o) → (ps.map (·.2)).Perm ks → (ps.map (·.2)).Pairwise (fun e f => e.1 ≤ f.1) → H l = none → H' l = some (.lst (ps.map fun z => V.ref z.1)) →
    (∀ z ∈ ps, H z.1 = none ∧ H' z.1 = some (.tup [.int z.2.1, z.2.2])) → Q (.ref l) H')
theorem cr_sortII (hc : X.calm = true) : CallR X (.builtin "sorted") rSortII := by
  intro pins s σ H xs us Q I r h
  obtain ⟨p, a, ks, rfl, hp, ha, h64, q⟩ := h
  obtain rfl := Vals.ref1 r
  have view : s.heap.IsItemsView p a := (show ObjOk X.prog X.w H s.heap p (DX.itemsO p a) from I.hok p _ hp).1
  obtain ⟨z, hd, xs', rel, o, es, ep, ho, hx, hdat, kof, prs, hn⟩ := dk_rd I.hok ha
  have l1 : (ks.map entI).length = xs'.length := Paired.length rel
  rw [List.length_map] at l1
  have l2 : es.toList.length = xs'.length := prs.length
  rw [Array.length_toList] at l2
  have hh : X.A.handled = none := I.ok.hd hc
  have nk : (ks.map (·.1)).Nodup := by
    have e := KV.keys rel
    rw [List.map_map] at e
    have e2 : ks.map ((·.1) ∘ entI) = (ks.map (·.1)).map Sum.inl := by rw [List.map_map]; rfl
    rw [← e, e2] at hn
    exact List.Pairwise.imp (fun h z => h (congrArg Sum.inl z)) (List.pairwise_map.mp hn)
  refine DT.sortedI (es := es) (ep := ep) hh view ⟨o, ho, hx, hdat⟩ (by rw [sizeLine_eq]; omega) fun h' tk as hk hlt hl hG => ?_
  have lak : as.length = ks.length := by omega
  have nd : as.Nodup := List.Pairwise.imp (fun h => Nat.ne_of_lt h) hG.rise
  have pr : ∀ (j : Nat) (b : Addr), as[j]? = some b → ∃ (e : Int × V) (t : Tok) (u : Value), ks[j]? = some e ∧ RelV e.2 u ∧ h'.get? b = some { cls := .type "tuple", data := .seq #[Value.int e.1 t, u] } := by
    intro j b hj
    obtain ⟨en, he, hg⟩ := hG.pairs j b hj
    rw [← Array.getElem?_toList] at he
    obtain ⟨kv, h1, h2, h3⟩ := pairs_get prs he
    obtain ⟨e0, he0, r1, r2⟩ := DX.pget rel h1
    rw [List.getElem?_map] at he0
    cases hkj : ks[j]? with
    | none =>
      rw [hkj] at he0
      exact nomatch (show (none : Option (Key × V)) = some e0 from he0)
    | some e =>
      rw [hkj] at he0
      have ee : entI e = e0 := Option.some.inj he0
      rw [← ee] at r1 r2
      have r1' : kv.1 = Sum.inl e.1 := r1.symm
      rw [r1'] at h2
      rcases keyIs_shape (k := Sum.inl e.1) (v := en.key) h2 with ⟨i, t, e1, e2⟩ | ⟨y, t, e1, e2⟩
      · injection e1 with e1
        refine ⟨e, t, en.val, rfl, ?_, ?_⟩
        · rw [h3]
          exact r2
        · rw [hg, e2, e1]
      · cases e1
  have hob : (h'.push { cls := .type "list", data := .seq (as.map Value.ref).toArray }).get? h'.objs.size = some (seqObj "list" (as.map Value.ref).toArray 0) := Heap.get?_push_size _ rfl
  have kb : ∀ b o, s.heap.get? b = some o → (h'.push { cls := .type "list", data := .seq (as.map Value.ref).toArray }).get? b = some o := fun b o e => Heap.get?_push_of_some _ (hk b o e)
  have ne0 : ∀ b o, h'.get? b = some o → b ≠ h'.objs.size := fun b o e => Nat.ne_of_lt (Heap.lt_size e)
  generalize hh2 : h'.push { cls := .type "list", data := .seq (as.map Value.ref).toArray } = h2 at hob kb ⊢
  have ka : ∀ b o, h'.get? b = some o → h2.get? b = some o := fun b o e => by rw [← hh2]; exact Heap.get?_push_of_some _ e
  have pin : ∀ (j : Nat) (b : Addr) (e : Int × V), as[j]? = some b → ks[j]? = some e → PairI (TS.midHeap h2 h'.objs.size (as.map Value.ref)) (.ref b) e.1 := by
    intro j b e hj he
    obtain ⟨e', t, u, he', _, hg⟩ := pr j b hj
    have ee : e' = e := Option.some.inj (he'.symm.trans he)
    subst ee
    exact ⟨b, t, u, rfl, ⟨_, TS.midHeap_old (ne0 _ _ hg) (ka _ _ hg), rfl, 0, rfl⟩⟩
  have tx : ∀ (j : Nat) (b : Addr) (e : Int × V), as[j]? = some b → ks[j]? = some e → keyI (TS.midHeap h2 h'.objs.size (as.map Value.ref)) (.ref b) = e.1 := fun j b e hj he => (pin j b e hj he).key
  have at_ : ∀ v ∈ as.map Value.ref, ∃ (j : Nat) (b : Addr) (e : Int × V), v = .ref b ∧ as[j]? = some b ∧ ks[j]? = some e := by
    intro v hv'
    obtain ⟨b, hb, rfl⟩ := List.mem_map.mp hv'
    obtain ⟨j, hj⟩ := List.mem_iff_getElem?.mp hb
    obtain ⟨e, t, u, he, _⟩ := pr j b hj
    exact ⟨j, b, e, rfl, hj, he⟩
  refine wpAny_call_entry PyProof.Rows.slot_list_sort ⟨_, hob, rfl⟩ PyProof.Rows.entry_list_sort
    (SK.plain_sort (s := { s with heap := h2, toks := tk }) (r := fun v => keyI (TS.midHeap h2 h'.objs.size (as.map Value.ref)) v) hob (by rw [List.length_map]; omega) (fun h2' Qk hQk => ?_) fun ps out o1 o2 o3 => ⟨.none, rfl, ?_⟩) (PyProof.Rows.args_list_sort _)
  · refine kind_ii (s := { s with heap := TS.midHeap h2 h'.objs.size (as.map Value.ref), toks := tk }) h2' (fun v hv' => ?_) (fun v hv' u hu' ekk => ?_) Qk hQk
    · obtain ⟨j, b, e, rfl, hj, he⟩ := at_ v hv'
      exact ⟨e.1, pin j b e hj he⟩
    · obtain ⟨j, b, e, rfl, hj, he⟩ := at_ v hv'
      obtain ⟨j2, b2, e2, rfl, hj2, he2⟩ := at_ u hu'
      have ek : e.1 = e2.1 := by
        rw [← tx j b e hj he, ← tx j2 b2 e2 hj2 he2]
        exact ekk
      have g1 : (ks.map (·.1))[j]? = some e.1 := by rw [List.getElem?_map, he]; rfl
      have g2 : (ks.map (·.1))[j2]? = some e.1 := by rw [List.getElem?_map, he2, ek]; rfl
      have jj : j = j2 := (List.getElem?_inj (List.getElem?_eq_some_iff.mp g1).1 nk).mp (g1.trans g2.symm)
      subst jj
      rw [Option.some.inj (hj.symm.trans hj2)]
  · show EP X pins σ Q (.ref h'.objs.size) { s with heap := sortedHeap h2 h'.objs.size (as.map Value.ref) out, toks := tk }
    obtain ⟨zs, pz, ez⟩ := perm_lift (fun z : Addr × Int × V => (Value.ref z.1, Value.ref z.1)) o2 (as.zip ks) (DX.zip_self Value.ref as ks lak)
    have idx : ∀ z ∈ zs, ∃ j : Nat, as[j]? = some z.1 ∧ ks[j]? = some z.2 := by
      intro z' hz'
      obtain ⟨j, hj⟩ := List.mem_iff_getElem?.mp (pz.mem_iff.mp hz')
      exact ⟨j, List.getElem?_zip_eq_some.mp hj⟩
    have hout : out.toList = zs.map fun z => Value.ref z.1 := by
      rw [o1, ← ez, List.map_map]
      all_goals rfl
    have hperm : (zs.map (·.2)).Perm ks := by
      have e := pz.map (·.2)
      have m2 : (as.zip ks).map (·.2) = ks := List.map_snd_zip (by rw [lak]; exact Nat.le_refl _)
      rw [m2] at e
      exact e
    have hsort : (zs.map (·.2)).Pairwise (fun e f => e.1 ≤ f.1) := by
      rw [← ez, List.pairwise_map] at o3
      rw [List.pairwise_map]
      refine List.Pairwise.imp_of_mem (fun {x y} hx hy h => ?_) o3
      obtain ⟨j, j1, j2⟩ := idx x hx
      obtain ⟨i, i1, i2⟩ := idx y hy
      have h' : keyI (TS.midHeap h2 h'.objs.size (as.map Value.ref)) (.ref x.1) ≤ keyI (TS.midHeap h2 h'.objs.size (as.map Value.ref)) (.ref y.1) := h
      rw [tx j _ _ j1 j2, tx i _ _ i1 i2] at h'
      exact h'
    have kF : ∀ b o, b ≠ h'.objs.size → h2.get? b = some o → (sortedHeap h2 h'.objs.size (as.map Value.ref) out).get? b = some o := fun b o hb e => (PyProof.Rows.sortedHeap_old hb (Heap.lt_size e)).trans e
    have kS : ∀ b o, s.heap.get? b = some o → (sortedHeap h2 h'.objs.size (as.map Value.ref) out).get? b = some o := fun b o e => kF b o (ne0 _ _ (hk b o e)) (kb b o e)
    obtain ⟨eF, heF⟩ := PyProof.Rows.sortedHeap_at (vs := as.map Value.ref) (out := out) hob
    have I1 : Inv X pins σ H { s with heap := sortedHeap h2 h'.objs.size (as.map Value.ref) out, toks := tk } := I.kept (t' := tk) kS
    have hn0 : H h'.objs.size = none := I.hok.fresh (Nat.le_of_lt hlt)
    have hlen : (zs.map fun z => V.ref z.1).length ≤ sizeLine := by
      have e := hperm.length_eq
      rw [List.length_map] at e
      rw [List.length_map, sizeLine_eq]
      omega
    have rv : Vals (zs.map fun z => V.ref z.1) out.toList := by
      rw [hout]
      exact vals_maps (fun z : Addr × Int × V => V.ref z.1) (fun z => Value.ref z.1) zs fun _ _ => rfl
    have I2 : Inv X pins σ (upd H h'.objs.size (.lst (zs.map fun z => V.ref z.1))) { s with heap := sortedHeap h2 h'.objs.size (as.map Value.ref) out, toks := tk } :=
      I1.take (h' := sortedHeap h2 h'.objs.size (as.map Value.ref) out) (t' := tk) (fun b ob _ e => e) (I.fpOk (Nat.le_of_lt hlt) hn0) ⟨hlen, out.toList, eF, rv, heF⟩
    obtain ⟨H2, I3, g, qt⟩ := DX.takeT (P := fun b vs => ∃ (j : Nat) (e : Int × V), as[j]? = some b ∧ ks[j]? = some e ∧ vs = [.int e.1, e.2]) I as _ I2 nd fun b hb => by
      obtain ⟨j, hj⟩ := List.mem_iff_getElem?.mp hb
      obtain ⟨e, t, u, he, ru, hg⟩ := pr j b hj
      have hbl : s.heap.objs.size ≤ b := Nat.le_of_lt (hG.above b hb)
      refine ⟨hbl, ?_, [.int e.1, e.2], ⟨j, e, hj, he, rfl⟩, fun H3 => ⟨(by rw [sizeLine_eq]; show 2 ≤ 16777216; omega), [Value.int e.1 t, u], .cons ⟨t, rfl⟩ (.cons ru .nil), ⟨_, kF _ _ (ne0 _ _ hg) (ka _ _ hg), rfl, 0, rfl⟩⟩⟩
      rw [upd_ne (ne0 _ _ hg)]
      exact I.hok.fresh hbl
    have gr : ∀ b o, H b = some o → H2 b = some o := fun b o e => g b o (by rw [upd_ne (ne_of_none e hn0)]; exact e)
    refine ⟨.ref h'.objs.size, H2, I3, rfl, q nk H2 h'.objs.size zs gr hperm hsort hn0 (g _ _ upd_same) fun z' hz' => ?_⟩
    obtain ⟨i, i1, i2⟩ := idx z' hz'
    have hb : z'.1 ∈ as := List.mem_of_getElem? i1
    obtain ⟨vs, ⟨j, e, j1, j2, ev⟩, hH⟩ := qt z'.1 hb
    have eij : i = j := (List.getElem?_inj (List.getElem?_eq_some_iff.mp i1).1 nd).mp (i1.trans j1.symm)
    subst eij
    have ee : e = z'.2 := Option.some.inj (j2.symm.trans i2)
    rw [ev, ee] at hH
    exact ⟨I.hok.fresh (Nat.le_of_lt (hG.above _ hb)), hH⟩
end
end DI
set_option Elab.async false
set_option linter.all false
set_option maxRecDepth 100000
set_option maxHeartbeats 4000000
/-! Tw23: dicts with whole-number and text keys -/
namespace Tw
open PySem PySem.Spec PyProof.Rows L2
/-! ### pairs -/
def eqKy : D → D → Bool
  | .int i, .int j => decide (i = j)
  | .str x, .str y => decide (x = y)
  | _, _ => false
def isKy : D → Bool
  | .int _ | .str _ => true
  | _ => false
def unM : List (D × D) → List (D × D)
  | (.bool true, _) :: es => es
  | es => es
def okKs (es : List (D × D)) : Bool := es.all fun p => isKy p.1
def lkD : List (D × D) → D → Option D
  | [], _ => none
  | (k', d) :: r, k => if eqKy k' k then some d else lkD r k
def ptD (es : List (D × D)) (k d : D) : List (D × D) := if es.any (fun p => eqKy p.1 k) then es.map (fun p => if eqKy p.1 k then (p.1, d) else p) else es ++ [(k, d)]
theorem eqKy_key (a b : Key) : eqKy (keyD a) (keyD b) = decide (a = b) := by
  cases a <;> cases b
  · rename_i i j
    show decide (i = j) = _
    by_cases h : i = j <;> simp [h]
  · rfl
  · rfl
  · rename_i i j
    show decide (i = j) = _
    by_cases h : i = j <;> simp [h]
theorem isKy_key (a : Key) : isKy (keyD a) = true := by cases a <;> rfl
theorem ky_of {d : D} (h : isKy d = true) : ∃ k : Key, d = keyD k := by
  cases d <;> first | exact ⟨.inl _, rfl⟩ | exact ⟨.inr _, rfl⟩ | cases h
section
variable {K : PySem.W.Frag} {H : Hp}
theorem atK_keys : ∀ {es : List (D × D)} {kvs : List (Key × V)}, AtK K H es kvs → es.length = kvs.length
  | [], _, h => by
    have e : _ = [] := h
    rw [e]
    rfl
  | (k, d) :: es, _, ⟨c, v, r, e, _, _, h⟩ => by
    rw [e, List.length_cons, List.length_cons, atK_keys h]
/-- what At says of a dict whose keys are numbers or texts -/
theorem at_dk {es : List (D × D)} {v : V} (h : At K H (.dict es) v) (ok : okKs (unM es) = true) : ∃ a kvs, v = .ref a ∧ Rd H a (.dK kvs) ∧ AtK K H (unM es) kvs := by
  obtain ⟨a, ev, q⟩ := h
  rcases q with ⟨kvs, r, q⟩ | ⟨kvs, r, q, q0⟩ | ⟨S, n, xs, r, q, _⟩ | ⟨o, kvs, r, q⟩ | ⟨lo, hi, r, q⟩
  · have e : unM es = es := by
      cases es with
      | nil => rfl
      | cons p es =>
        obtain ⟨k, d⟩ := p
        obtain ⟨c, w, r', e1, e2, _⟩ := q
        subst e2
        cases c <;> rfl
    rw [e]
    exact ⟨a, kvs, ev, r, q⟩
  · cases es with
    | nil => exact absurd rfl q0
    | cons p es =>
      obtain ⟨k, d⟩ := p
      obtain ⟨e2, e1, _⟩ := q
      subst e2
      exact absurd (show false = true from ok) (by decide)
  · subst q
    exact absurd (show false = true from ok) (by decide)
  · cases es with
    | nil => exact absurd q (fun z => z)
    | cons p es =>
      obtain ⟨k, d⟩ := p
      obtain ⟨e1, e2, q⟩ := q
      subst e1 e2
      exact ⟨a, kvs, ev, .inr ⟨o, r⟩, q⟩
  · subst q
    exact absurd (show false = true from ok) (by decide)
theorem own_dk {o : HO} {es : List (D × D)} (h : Own K H o (.dict es)) (ok : okKs es = true) : ∃ kvs, o = .dK kvs ∧ AtK K H es kvs := by
  rcases h with ⟨vs, ds, h1, h2, h3⟩ | ⟨kvs, es', h1, h2, h3⟩ | ⟨kvs, es', h1, h2, h3, h4⟩ | ⟨S, n, xs, h1, h2, h3⟩
  · cases h2
  · cases h2
    exact ⟨kvs, h1, h3⟩
  · cases h2
    cases es with
    | nil => exact absurd rfl h4
    | cons p es =>
      obtain ⟨k, d⟩ := p
      obtain ⟨e2, e1, _⟩ := h3
      subst e2
      exact absurd (show false = true from ok) (by decide)
  · injection h2 with e
    subst e
    exact absurd (show false = true from ok) (by decide)
theorem lk_at (c : Key) : ∀ {es : List (D × D)} {kvs : List (Key × V)}, AtK K H es kvs → (∃ d v, lkD es (keyD c) = some d ∧ valV kvs c = some v ∧ At K H d v) ∨ (lkD es (keyD c) = none ∧ valV kvs c = none)
  | [], _, h => by
    have e : _ = [] := h
    rw [e]
    exact .inr ⟨rfl, rfl⟩
  | (k, d) :: es, _, ⟨c', v, r, e, ek, h1, h2⟩ => by
    subst e ek
    by_cases q : c' = c
    · refine .inl ⟨d, v, ?_, valV_pos q, h1⟩
      show (if eqKy (keyD c') (keyD c) = true then some d else lkD es (keyD c)) = _
      rw [eqKy_key, if_pos (decide_eq_true q)]
    · have e1 : lkD ((keyD c', d) :: es) (keyD c) = lkD es (keyD c) := by
        show (if eqKy (keyD c') (keyD c) = true then some d else lkD es (keyD c)) = _
        rw [eqKy_key, if_neg (by rw [decide_eq_true_eq]; exact q)]
      rw [e1, valV_neg (p := (c', v)) q]
      exact lk_at c h2
theorem any_at (c : Key) : ∀ {es : List (D × D)} {kvs : List (Key × V)}, AtK K H es kvs → es.any (fun p => eqKy p.1 (keyD c)) = kvs.any fun kv => decide (kv.1 = c)
  | [], _, h => by
    have e : _ = [] := h
    rw [e]
    rfl
  | (k, d) :: es, _, ⟨c', v, r, e, ek, h1, h2⟩ => by
    subst e ek
    rw [List.any_cons, List.any_cons, any_at c h2, eqKy_key]
theorem rep_at (c : Key) {d : D} {v : V} (hv : At K H d v) : ∀ {es : List (D × D)} {kvs : List (Key × V)}, AtK K H es kvs → AtK K H (es.map fun p => if eqKy p.1 (keyD c) then (p.1, d) else p) (kvs.map fun kv => if kv.1 = c then (kv.1, v) else kv)
  | [], _, h => by
    have e : _ = [] := h
    rw [e]
    rfl
  | (k, d') :: es, _, ⟨c', v', r, e, ek, h1, h2⟩ => by
    subst e ek
    rw [List.map_cons, List.map_cons]
    by_cases q : c' = c
    · rw [if_pos (by rw [eqKy_key]; exact decide_eq_true q), if_pos q]
      exact ⟨c', v, _, rfl, rfl, hv, rep_at c hv h2⟩
    · rw [if_neg (by rw [eqKy_key, decide_eq_true_eq]; exact q), if_neg q]
      exact ⟨c', v', _, rfl, rfl, h1, rep_at c hv h2⟩
theorem app_at (c : Key) {d : D} {v : V} (hv : At K H d v) : ∀ {es : List (D × D)} {kvs : List (Key × V)}, AtK K H es kvs → AtK K H (es ++ [(keyD c, d)]) (kvs ++ [(c, v)])
  | [], _, h => by
    have e : _ = [] := h
    rw [e]
    exact ⟨c, v, [], rfl, rfl, hv, rfl⟩
  | (k, d') :: es, _, ⟨c', v', r, e, ek, h1, h2⟩ => by
    subst e ek
    exact ⟨c', v', _, rfl, rfl, h1, app_at c hv h2⟩
theorem pt_at (c : Key) {d : D} {v : V} (hv : At K H d v) {es : List (D × D)} {kvs : List (Key × V)} (h : AtK K H es kvs) : AtK K H (ptD es (keyD c) d) (putK kvs c v) := by
  have e1 : putK kvs c v = if kvs.any (fun kv => decide (kv.1 = c)) then kvs.map (fun kv => if kv.1 = c then (kv.1, v) else kv) else kvs ++ [(c, v)] := rfl
  unfold ptD
  rw [e1, any_at c h]
  split
  · exact rep_at c hv h
  · exact app_at c hv h
end
/-! ### reading by a name -/
section
variable {X : Cx} {c : Cf} {e : Expr} {me mk md : Nv → R D}
/-- the dict that a name holds, own or not -/
def dOf (ε : Nv) (i : Nat) : Option (List (D × D)) := match gt ε i with
  | .im (.dict es) => if okKs (unM es) then some (unM es) else none
  | .mu (.dict es) => if okKs es then some es else none
  | _ => none
theorem rel_dk {σ : L2.St} {H : Hp} {ε : Nv} {M : List Addr} (re : Rel c σ H ε M) {i : Nat} {es : List (D × D)} (g : dOf ε i = some es) : ∃ a kvs, σ[i]? = some (some (.ref a)) ∧ Rd H a (.dK kvs) ∧ AtK c.K (hid M H) es kvs ∧ okKs es = true := by
  unfold dOf at g
  split at g
  · rename_i es' ge
    split at g
    · rename_i ok
      cases g
      obtain ⟨v, h1, h2⟩ := re.im i _ ge
      obtain ⟨a, kvs, ev, r, h⟩ := at_dk h2 ok
      subst ev
      refine ⟨a, kvs, h1, ?_, h, ok⟩
      rcases r with r | ⟨o, r⟩
      · exact .inl (of_hid r).1
      · exact .inr ⟨o, (of_hid r).1⟩
    · cases g
  · rename_i es' ge
    split at g
    · rename_i ok
      cases g
      obtain ⟨a, o, h1, h2, h3, h4, h5⟩ := re.mu i _ ge
      obtain ⟨kvs, eo, h⟩ := own_dk h5 ok
      subst eo
      exact ⟨a, kvs, h1, .inl h4, h, ok⟩
    · cases g
  · cases g
theorem ky_at {K : PySem.W.Frag} {H : Hp} {k : Key} {y : V} (h : At K H (keyD k) y) : y = kV k := by cases k <;> exact h
/-- x.get(k, d) -/
def xGet (i : Nat) (mk md : Nv → R D) : Nv → R D := fun ε => match dOf ε i with
  | some es => (mk ε).bind fun k => (md ε).bind fun d => if isKy k then .ok ((lkD es k).getD d) else .bad
  | none => .bad
theorem pe_gt {i : Nat} (h : PE X e (tDGet2 (tVar i) (rdE c mk) (rdE c md))) : PE X e (rdE c (xGet i mk md)) := h.wk fun σ H Q ⟨ε, M, re, d, hm, q⟩ => by
  unfold xGet at hm
  split at hm
  · rename_i es g
    obtain ⟨k, h1, h2⟩ := R.bind_ok hm
    obtain ⟨z, h3, h4⟩ := R.bind_ok h2
    split at h4
    · rename_i hk
      cases h4
      obtain ⟨kk, rfl⟩ := ky_of hk
      obtain ⟨a, kvs, g1, g2, g3, g4⟩ := rel_dk re g
      refine ⟨.ref a, g1, a, rfl, .inl ⟨kvs, g2⟩, ε, M, re, _, h1, fun y H1 e1 hy => ⟨ε, M, re.ex e1, _, h3, fun w H2 e2 hw => ?_⟩⟩
      have ey := ky_at hy
      subst ey
      refine ⟨valV kvs kk, .inl ⟨kvs, kk, ex_rd (e1.trans e2) g2, rfl, rfl⟩, ?_⟩
      rcases lk_at kk g3 with ⟨d', v', l1, l2, l3⟩ | ⟨l1, l2⟩
      · rw [l2]
        rw [l1] at q
        exact q v' H2 (e1.trans e2) (At.mono (hid_ex (e1.trans e2)) _ _ l3)
      · rw [l2]
        rw [l1] at q
        exact q w H2 (e1.trans e2) hw
    · cases h4
  · cases hm
/-- x[k] -/
def xDi (i : Nat) (mk : Nv → R D) : Nv → R D := fun ε => match dOf ε i with
  | some es => (mk ε).bind fun k => if isKy k then (match lkD es k with | some d => .ok d | none => .bad) else .bad
  | none => .bad
theorem pe_di {i : Nat} (h : PE X e (tDGet (tVar i) (rdE c mk))) : PE X e (rdE c (xDi i mk)) := h.wk fun σ H Q ⟨ε, M, re, d, hm, q⟩ => by
  unfold xDi at hm
  split at hm
  · rename_i es g
    obtain ⟨k, h1, h2⟩ := R.bind_ok hm
    split at h2
    · rename_i hk
      obtain ⟨kk, rfl⟩ := ky_of hk
      obtain ⟨a, kvs, g1, g2, g3, g4⟩ := rel_dk re g
      refine ⟨.ref a, g1, ε, M, re, _, h1, fun y H1 e1 hy => ?_⟩
      have ey := ky_at hy
      subst ey
      rcases lk_at kk g3 with ⟨d', v', l1, l2, l3⟩ | ⟨l1, l2⟩
      · rw [l1] at h2
        cases h2
        exact ⟨a, v', rfl, .inl ⟨kvs, kk, ex_rd e1 g2, rfl, l2.symm⟩, q v' H1 e1 (At.mono (hid_ex e1) _ _ l3)⟩
      · rw [l1] at h2
        cases h2
    · cases h2
  · cases hm
/-- sorted(x.items()), the keys whole numbers -/
def insK {α : Type} (x : Int × α) : List (Int × α) → List (Int × α)
  | [] => [x]
  | y :: r => if x.1 ≤ y.1 then x :: y :: r else y :: insK x r
def srtK {α : Type} : List (Int × α) → List (Int × α)
  | [] => []
  | x :: r => insK x (srtK r)
theorem insK_perm {α : Type} (x : Int × α) : ∀ l, (insK x l).Perm (x :: l)
  | [] => .refl _
  | y :: r => by
    unfold insK
    split
    · exact .refl _
    · exact ((insK_perm x r).cons y).trans (.swap x y r)
theorem srtK_perm {α : Type} : ∀ l : List (Int × α), (srtK l).Perm l
  | [] => .refl _
  | x :: r => (insK_perm x _).trans ((srtK_perm r).cons x)
theorem insK_srt {α : Type} (x : Int × α) : ∀ l : List (Int × α), l.Pairwise (fun a b => a.1 ≤ b.1) → (insK x l).Pairwise fun a b => a.1 ≤ b.1
  | [], _ => List.pairwise_singleton _ _
  | y :: r, p => by
    have p' := List.pairwise_cons.mp p
    unfold insK
    split
    · rename_i h
      refine List.pairwise_cons.mpr ⟨fun z hz => ?_, p⟩
      rcases List.mem_cons.mp hz with e | e
      · rw [e]
        exact h
      · exact Int.le_trans h (p'.1 z e)
    · rename_i h
      refine List.pairwise_cons.mpr ⟨fun z hz => ?_, insK_srt x r p'.2⟩
      rcases List.mem_cons.mp ((insK_perm x r).mem_iff.mp hz) with e | e
      · rw [e]
        omega
      · exact p'.1 z e
theorem srtK_srt {α : Type} : ∀ l : List (Int × α), (srtK l).Pairwise fun a b => a.1 ≤ b.1
  | [] => List.Pairwise.nil
  | x :: r => insK_srt x _ (srtK_srt r)
theorem insK_map {α β : Type} (f : α → β) (x : Int × α) : ∀ l : List (Int × α), (insK x l).map (fun p => (p.1, f p.2)) = insK (x.1, f x.2) (l.map fun p => (p.1, f p.2))
  | [] => rfl
  | y :: r => by
    show (if x.1 ≤ y.1 then x :: y :: r else y :: insK x r).map _ = if x.1 ≤ y.1 then (x.1, f x.2) :: (y.1, f y.2) :: r.map (fun p => (p.1, f p.2)) else (y.1, f y.2) :: insK (x.1, f x.2) (r.map fun p => (p.1, f p.2))
    by_cases h : x.1 ≤ y.1
    · rw [if_pos h, if_pos h]
      rfl
    · rw [if_neg h, if_neg h, List.map_cons, insK_map f x r]
theorem srtK_map {α β : Type} (f : α → β) : ∀ l : List (Int × α), (srtK l).map (fun p => (p.1, f p.2)) = srtK (l.map fun p => (p.1, f p.2))
  | [] => rfl
  | x :: r => by
    show (insK x (srtK r)).map _ = insK (x.1, f x.2) (srtK (r.map fun p => (p.1, f p.2)))
    rw [insK_map, srtK_map f r]
theorem srtK_uni {α : Type} {l m : List (Int × α)} (nd : (l.map (·.1)).Nodup) (pm : m.Perm l) (ps : m.Pairwise fun a b => a.1 ≤ b.1) : m = srtK l := by
  refine (pm.trans (srtK_perm l).symm).eq_of_pairwise (le := fun a b : Int × α => a.1 ≤ b.1) (fun x y hx hy h1 h2 => ?_) ps (srtK_srt l)
  have mx := pm.mem_iff.mp hx
  have my := (srtK_perm l).mem_iff.mp hy
  obtain ⟨i, hi⟩ := List.mem_iff_getElem?.mp mx
  obtain ⟨j, hj⟩ := List.mem_iff_getElem?.mp my
  have e : x.1 = y.1 := Int.le_antisymm h1 h2
  have a : (l.map (·.1))[i]? = some x.1 := by rw [List.getElem?_map, hi]; rfl
  have b : (l.map (·.1))[j]? = some x.1 := by rw [List.getElem?_map, hj, e]; rfl
  have ij : i = j := (List.getElem?_inj (List.getElem?_eq_some_iff.mp a).1 nd).mp (a.trans b.symm)
  subst ij
  exact Option.some.inj (hi.symm.trans hj)
def intKs : List (D × D) → Option (List (Int × D))
  | [] => some []
  | (.int i, d) :: r => match intKs r with
    | some l => some ((i, d) :: l)
    | none => none
  | _ :: _ => none
theorem intKs_at {K : PySem.W.Frag} {H : Hp} : ∀ {es : List (D × D)} {kvs : List (Key × V)} {l : List (Int × D)}, AtK K H es kvs → intKs es = some l → ∃ ts : List (Int × V × D), ts.map (fun t => (t.1, t.2.2)) = l ∧ kvs = (ts.map fun t => (t.1, t.2.1)).map DI.entI ∧ ∀ t ∈ ts, At K H t.2.2 t.2.1
  | [], kvs, l, h, g => by
    have e : kvs = [] := h
    have g' : some [] = some l := g
    cases g'
    exact ⟨[], rfl, by rw [e]; rfl, fun _ h => nomatch h⟩
  | (k, d) :: es, kvs, l, ⟨c, v, r, e, ek, h1, h2⟩, g => by
    subst e ek
    cases c with
    | inr x => cases g
    | inl i =>
      have g' : (match intKs es with | some l => some ((i, d) :: l) | none => none) = some l := g
      cases q : intKs es with
      | none =>
        rw [q] at g'
        cases g'
      | some l' =>
        rw [q] at g'
        cases g'
        obtain ⟨ts, t1, t2, t3⟩ := intKs_at h2 q
        refine ⟨(i, v, d) :: ts, by rw [List.map_cons, t1], by rw [t2]; rfl, fun t ht => ?_⟩
        rcases List.mem_cons.mp ht with rfl | ht
        · exact h1
        · exact t3 t ht
theorem at_pairs {K : PySem.W.Frag} {H : Hp} : ∀ (us : List (Int × V × D)) (ps : List (Addr × Int × V)), ps.map (·.2) = us.map (fun t => (t.1, t.2.1)) → (∀ z ∈ ps, SqT K H z.1 [.int z.2.1, z.2.2]) → (∀ u ∈ us, At K H u.2.2 u.2.1) → AtL K H (us.map fun u => PyData.tuple [.int u.1, u.2.2]) (ps.map fun z => V.ref z.1)
  | [], [], _, _, _ => rfl
  | [], _ :: _, h, _, _ => by cases h
  | _ :: _, [], h, _, _ => by cases h
  | u :: us, z :: ps, h, hz, hu => by
    rw [List.map_cons, List.map_cons] at h
    injection h with h1 h2
    have e1 : z.2.1 = u.1 := congrArg Prod.fst h1
    have e2 : z.2.2 = u.2.1 := congrArg Prod.snd h1
    have s := hz z List.mem_cons_self
    rw [e1, e2] at s
    exact ⟨_, _, rfl, ⟨z.1, _, rfl, s, ⟨_, _, rfl, rfl, ⟨_, _, rfl, hu u List.mem_cons_self, rfl⟩⟩⟩, at_pairs us ps h2 (fun w hw => hz w (List.mem_cons_of_mem _ hw)) fun w hw => hu w (List.mem_cons_of_mem _ hw)⟩
def tItK (to : TE) : TE := fun σ H Q => to σ H fun x H1 => DI.rItemsK x [] H1 Q
theorem pe_itK {o : Expr} {to : TE} {apos cpos : Pos} (ho : PE X o to) (hbase : attributeBase o "items" X.env (eval o X.env) = eval o X.env := by rfl) (hline : (apos.endLine == cpos.line) = true := by rfl) : PE X (.Call (.Attribute o "items" apos) [] [] cpos) (tItK to) := by
  refine ⟨fun pins s σ H Q I h => ?_⟩
  refine wpAny_Call_method0_late hbase hline (thn (ho.run pins s σ H _ I h) fun v s1 ⟨x, H1, I1, r1, q1⟩ => ?_)
  obtain ⟨a, kvs, ex, e0, ha, q⟩ := q1
  subst ex
  obtain rfl : v = Value.ref a := r1
  obtain ⟨z, hd, vs, rel, ob, es, ep, hob, hx, hdat, _⟩ := dk_rd I1.hok ha
  refine ⟨"dict", "dict.items", PySem.F.plainAttrs_dict, PySem.F.slot_dict_items, PySem.F.type_dict_items, ⟨ob, hob, hx.1⟩, fun b e => ?_, Calls.callWith_builtin rfl (PySem.evalArgs_none (DI.mt_itemsK pins s1 σ H1 (.ref a) [] (.ref a) [] Q I1 rfl .nil ⟨a, kvs, rfl, rfl, ha, q⟩))⟩
  cases e
  exact ⟨ob, hob, hx.2.1⟩
def xSi (i : Nat) : Nv → R D := fun ε => match dOf ε i with
  | some es => match intKs es with
    | some l => if l.length < 64 then .ok (.list ((srtK l).map fun p => .tuple [.int p.1, p.2])) else .bad
    | none => .bad
  | none => .bad
theorem pe_si {i : Nat} (h : PE X e (tCB DI.rSortII (tCons (tItK (tVar i)) tNil))) (hK : c.K = X.K := by rfl) : PE X e (rdL c (xSi i)) := h.wk fun σ H Q ⟨ε, M, re, d, hm, q⟩ => by
  unfold xSi at hm
  split at hm
  · rename_i es g
    split at hm
    · rename_i l hl
      split at hm
      · rename_i h64
        cases hm
        obtain ⟨a, kvs, g1, g2, g3, g4⟩ := rel_dk re g
        obtain ⟨ts, t1, t2, t3⟩ := intKs_at g3 hl
        refine ⟨.ref a, g1, a, kvs, rfl, rfl, g2, fun p np => ?_⟩
        have e1 : Ex H (L2.upd H p (DX.itemsO p a)) := Evl.Ex.new np
        refine ⟨p, a, ts.map fun t => (t.1, t.2.1), rfl, upd_same, by rw [← t2]; exact ex_rd e1 g2, by rw [List.length_map]; rw [← t1, List.length_map] at h64; exact h64, fun nk H2 r ps ext pm pw nr hr tup => ?_⟩
        have eR : Ex H H2 := e1.trans fun b o hb => ext b o hb
        have nr' : H r = none := Evl.fresh_back e1 nr
        have sub : ∀ z ∈ ps, ∃ v d, (z.2.1, v, d) ∈ ts := fun z hz => by
          have := pm.mem_iff.mp (List.mem_map_of_mem (f := (·.2)) hz)
          obtain ⟨t, ht, et⟩ := List.mem_map.mp this
          exact ⟨t.2.1, t.2.2, by rw [← et]; exact ht⟩
        have uni : ps.map (·.2) = srtK (ts.map fun t => (t.1, t.2.1)) := srtK_uni nk pm pw
        have nat : srtK (ts.map fun t : Int × V × D => (t.1, t.2.1)) = (srtK ts).map fun t => (t.1, t.2.1) := (srtK_map (fun p : V × D => p.1) ts).symm
        have nat2 : srtK l = (srtK ts).map fun t => (t.1, t.2.2) := by
          rw [← t1]
          exact (srtK_map (fun p : V × D => p.2) ts).symm
        refine q r (.lst (ps.map fun z => V.ref z.1)) H2 nr' eR hr (.inl ⟨_, _, rfl, rfl, ?_⟩)
        rw [nat2, List.map_map]
        have eH : Ex (hid M H) (hid (r :: M) H2) := hid_new eR nr'
        refine at_pairs (srtK ts) ps (uni.trans nat) (fun z hz => SqT.of (hid_of (tup z hz).2 fun hm => ?_)) fun u hu => At.mono eH _ _ (t3 u ((srtK_perm ts).mem_iff.mp hu))
        have nz : H z.1 = none := Evl.fresh_back e1 (tup z hz).1
        rcases List.mem_cons.mp hm with e | e
        · have t' := (tup z hz).2
          rw [e, hr] at t'
          cases t'
        · exact re.notM nz e
      · cases hm
    · cases hm
  · cases hm
end
end Tw
set_option Elab.async false
set_option linter.all false
set_option maxRecDepth 100000
set_option maxHeartbeats 4000000
/-! Tw24: own dicts: displays, stores; dicts that stand still -/
namespace Tw
open PySem PySem.Spec PyProof.Rows L2
section
variable {X : Cx} {c : Cf} {W : WX} {e : Expr} {s : Stmt} {r : List Stmt} {me mk md mi : Nv → R D} {n : Nv → R Fl} {pos : Pos}
theorem u1 {n m : Nat} (h : n + 200 < m) : n + 1 < m := by omega
/-- x[k] = e of one's own dict -/
def sDp (j : Nat) (mi me : Nv → R D) : Nv → R Fl := fun ε => (me ε).bind fun d => (mi ε).bind fun k => match gt ε j with
  | .mu (.dict es) => if okKs es && isKy k && decide (es.length < lim) then .ok (.nx (st ε j (.mu (.dict (ptD es k d))))) else .bad
  | _ => .bad
theorem ps_dp {j : Nat} (h : PS X s (sDPut (tVar j) (rdE c mi) (rdE c me))) : PS X s (rdS c W (sDp j mi me)) := h.wk fun E σ H ⟨ε, M, re, f⟩ => by
  unfold sDp at f
  cases q : me ε with
  | bad => rw [q] at f; exact f.elim
  | ex x y => rw [q] at f; exact f.elim
  | ok d =>
    rw [q] at f
    cases q2 : mi ε with
    | bad => simp only [R.bind, q2] at f; exact f.elim
    | ex x y => simp only [R.bind, q2] at f; exact f.elim
    | ok k =>
      simp only [R.bind, q2] at f
      split at f
      · rename_i es g
        split at f
        · rename_i hz
          rw [Bool.and_eq_true, Bool.and_eq_true] at hz
          obtain ⟨⟨ok, hk⟩, hl⟩ := hz
          have hl' := of_decide_eq_true hl
          obtain ⟨kk, rfl⟩ := ky_of hk
          obtain ⟨a, o, h1, h2, h3, h4, h5⟩ := re.mu j _ g
          obtain ⟨kvs, eo, hk⟩ := own_dk h5 ok
          subst eo
          have n0 := atK_keys hk
          refine ⟨ε, M, re, d, q, fun v H' e' hv => ⟨.ref a, h1, ε, M, re.ex e', _, q2, fun y H2 e2 hy => ?_⟩⟩
          have ey := ky_at hy
          subst ey
          have e3 := e'.trans e2
          refine ⟨a, _, rfl, DPut.k (e3 a _ h4) (by rw [← n0]; exact lim_lt (Nat.le_of_lt hl')), ?_⟩
          refine f _ _ M ((re.ex e3).upd g h1 (.inr (.inl ⟨_, _, rfl, rfl, pt_at kk (At.mono (hid_ex e2) _ _ hv) ?_⟩))) ?_
          · exact AtK.mono (hid_ex e3) _ _ hk
          · rw [hid_upd h2]
            exact hid_ex e3
        · exact f.elim
      · exact f.elim
/-- {} -/
def xD0 : Nv → R D := fun _ => .ok (.dict [])
theorem pe_d0 (h : PE X e tDNewK) : PE X e (rdL c xD0) := h.wk fun σ H Q ⟨ε, M, re, d, hm, q⟩ => fun p np => by
  cases hm
  exact q p (.dK []) _ np (Evl.Ex.new np) upd_same (.inr (.inl ⟨_, _, rfl, rfl, rfl⟩))
/-! ### displays -/
theorem Rel.hide {σ : L2.St} {H H' : Hp} {ε : Nv} {M : List Addr} (r : Rel c σ H ε M) {p : Addr} {o : HO} (n : H p = none) (e : Ex H H') (hp : H' p = some o) : Rel c σ H' ε (p :: M) where
  ext := r.ext.trans e
  len := r.len
  sub := fun a ha => List.mem_cons_of_mem _ (r.sub a ha)
  trk := fun a ha => by
    rcases List.mem_cons.mp ha with q | q
    · exact ⟨o, by rw [q]; exact hp⟩
    · obtain ⟨u, q⟩ := r.trk a q
      exact ⟨u, e a u q⟩
  old := r.old
  im := fun j f he => let ⟨w, h1, h2⟩ := r.im j f he; ⟨w, h1, At.mono (hid_new e n) f w h2⟩
  mu := fun j f he => let ⟨a, u, h1, h2, h3, h4, h5⟩ := r.mu j f he; ⟨a, u, h1, List.mem_cons_of_mem _ h2, h3, e a u h4, h5.mono (hid_new e n)⟩
  dis := r.dis
  new := fun a ha => by
    rcases List.mem_cons.mp ha with q | q
    · refine .inr ?_
      rw [q]
      exact Evl.fresh_back r.ext n
    · exact r.new a q
  pin := r.pin
  frs := fun j q d h1 h2 => let ⟨v, h3, h4⟩ := r.frs j q d h1 h2; ⟨v, h3, h4.mono (Evl.Ex.refl _) (hid_new e n)⟩
  pnm := r.pnm
def xPs : List ((Nv → R D) × (Nv → R D)) → Nv → R (List (D × D))
  | [], _ => .ok []
  | (mk, md) :: r, ε => (mk ε).bind fun k => (md ε).bind fun d => (xPs r ε).bind fun ds => .ok ((k, d) :: ds)
def dTrs (c : Cf) : List ((Nv → R D) × (Nv → R D)) → List (TE × TE)
  | [] => []
  | (mk, md) :: r => (rdE c mk, rdE c md) :: dTrs c r
def AtPs (K : PySem.W.Frag) (H : Hp) : List (D × D) → List (V × V) → Prop
  | [], vs => vs = []
  | (k, d) :: es, vs => ∃ x y r, vs = (x, y) :: r ∧ At K H k x ∧ At K H d y ∧ AtPs K H es r
theorem AtPs.mono {K : PySem.W.Frag} {H H' : Hp} (e : Ex H H') : ∀ {es : List (D × D)} {vs : List (V × V)}, AtPs K H es vs → AtPs K H' es vs
  | [], _, h => h
  | (k, d) :: es, _, ⟨x, y, r, h1, h2, h3, h4⟩ => ⟨x, y, r, h1, At.mono e _ _ h2, At.mono e _ _ h3, AtPs.mono e h4⟩
theorem prs_rd : ∀ (ps : List ((Nv → R D) × (Nv → R D))) {σ : L2.St} {H : Hp} {ε : Nv} {M : List Addr} {ds : List (D × D)} {Q : List (V × V) → Hp → Prop}, Rel c σ H ε M → xPs ps ε = .ok ds →
    (∀ vs H', Ex H H' → AtPs c.K (hid M H') ds vs → Q vs H') → tPairs (dTrs c ps) σ H Q
  | [], σ, H, ε, M, ds, Q, re, hm, q => by
    cases hm
    exact q [] H (Evl.Ex.refl _) rfl
  | (mk, md) :: r, σ, H, ε, M, ds, Q, re, hm, q => by
    obtain ⟨k, h1, h2⟩ := R.bind_ok (r := mk ε) hm
    obtain ⟨d, h3, h4⟩ := R.bind_ok (r := md ε) h2
    obtain ⟨es, h5, h6⟩ := R.bind_ok (r := xPs r ε) h4
    cases h6
    refine ⟨ε, M, re, k, h1, fun x H1 e1 hx => ⟨ε, M, re.ex e1, d, h3, fun y H2 e2 hy => ?_⟩⟩
    refine prs_rd r (re.ex (e1.trans e2)) h5 fun vs H3 e3 hv => ?_
    exact q _ H3 ((e1.trans e2).trans e3) ⟨x, y, vs, rfl, At.mono (hid_ex (e2.trans e3)) _ _ hx, At.mono (hid_ex e3) _ _ hy, hv⟩
theorem prs_kv {K : PySem.W.Frag} {H : Hp} : ∀ {es : List (D × D)} {vs : List (V × V)}, AtPs K H es vs → okKs es = true → ∃ kvs : List (Key × V), vs = kvs.map (fun kv => (kV kv.1, kv.2)) ∧ AtK K H es kvs
  | [], _, h, _ => by
    have e : _ = [] := h
    exact ⟨[], e, rfl⟩
  | (k, d) :: es, _, ⟨x, y, r, e, h2, h3, h4⟩, ok => by
    have ok' : (isKy k && okKs es) = true := ok
    rw [Bool.and_eq_true] at ok'
    obtain ⟨kk, rfl⟩ := ky_of ok'.1
    obtain ⟨kvs, e1, e2⟩ := prs_kv h4 ok'.2
    have ex := ky_at h2
    exact ⟨(kk, y) :: kvs, by rw [e, ex, e1]; rfl, kk, y, kvs, rfl, rfl, h3, e2⟩
theorem merge_at {K : PySem.W.Frag} {H : Hp} : ∀ {es : List (D × D)} {kvs : List (Key × V)} {es0 : List (D × D)} {kvs0 : List (Key × V)}, AtK K H es kvs → AtK K H es0 kvs0 → AtK K H (es.foldl (fun a p => ptD a p.1 p.2) es0) (mergeK kvs0 kvs)
  | [], _, _, _, h, h0 => by
    have e : _ = [] := h
    rw [e]
    exact h0
  | (k, d) :: es, _, es0, kvs0, ⟨cc, v, r, e, ek, h1, h2⟩, h0 => by
    subst e ek
    show AtK K H (es.foldl (fun a p => ptD a p.1 p.2) (ptD es0 (keyD cc) d)) (mergeK (putK _ cc v) r)
    exact merge_at (es := es) (es0 := ptD es0 (keyD cc) d) h2 (pt_at cc h1 h0)
def xDc (ps : List ((Nv → R D) × (Nv → R D))) : Nv → R D := fun ε => (xPs ps ε).bind fun ds => if okKs ds && decide (ds.length ≤ 15) then .ok (.dict (ds.foldl (fun a p => ptD a p.1 p.2) [])) else .bad
theorem pe_dcs {ps : List ((Nv → R D) × (Nv → R D))} (h : PE X e (tDisp (dTrs c ps))) : PE X e (rdL c (xDc ps)) := h.wk fun σ H Q ⟨ε, M, re, d, hm, q⟩ => fun p np => by
  obtain ⟨ds, h1, h2⟩ := R.bind_ok (r := xPs ps ε) hm
  split at h2
  · rename_i hz
    cases h2
    rw [Bool.and_eq_true] at hz
    have h15 := of_decide_eq_true hz.2
    have e1 : Ex H (L2.upd H p (.dK [])) := Evl.Ex.new np
    refine prs_rd ps (re.hide np e1 upd_same) h1 fun vs H2 e2 hv => ?_
    obtain ⟨kvs, k1, k2⟩ := prs_kv hv hz.1
    have n0 := atK_keys k2
    refine ⟨e2 p _ upd_same, kvs, k1, by omega, ?_⟩
    have e12 : Ex H H2 := e1.trans e2
    refine q p (.dK (mergeK [] kvs)) _ np (fun b u hb => ?_) upd_same ?_
    · have nb : b ≠ p := fun z => by
        rw [z, np] at hb
        cases hb
      rw [upd_ne nb]
      exact e12 b u hb
    · rw [hid_upd List.mem_cons_self]
      exact .inr (.inl ⟨_, _, rfl, rfl, merge_at k2 rfl⟩)
  · cases h2
/-! ### a dict stands still from here on -/
theorem inv_still {pins : List (Addr × Obj)} {σ : L2.St} {H : Hp} {s : Shared} {a : Addr} {kvs : List (Key × V)} (I : L2.Inv X pins σ H s) (h : H a = some (.dK kvs)) : ∃ o, L2.Inv X pins σ (L2.upd H a (.frz o (.dK kvs))) s := by
  have ok : ObjOk X.prog X.w H s.heap a (.dK kvs) := I.hok a _ h
  obtain ⟨z, hd, vs, rel, o, es, ep, ho, r⟩ := id ok
  refine ⟨o, d_write (h' := s.heap) (t' := s.toks) I (by rw [h]; exact True.intro) (Heap.SameBut.refl _ _) ⟨o, ho⟩ ⟨ho, ⟨z, hd, vs, rel, o, es, ep, ho, r⟩⟩⟩
theorem Rel.still {σ : L2.St} {H : Hp} {ε : Nv} {M : List Addr} (r : Rel c σ H ε M) {i : Nat} {es : List (D × D)} (g : gt ε i = .mu (.dict es)) (ok : okKs es = true) (hq : c.op i = true) : ∃ a kvs, H a = some (.dK kvs) ∧ ∀ o, ∃ M', Ex (hid M H) (hid M' (L2.upd H a (.frz o (.dK kvs)))) ∧ Rel c σ (L2.upd H a (.frz o (.dK kvs))) (st ε i (.im (.dict ((.bool true, .none) :: es)))) M' := by
  obtain ⟨a, o0, h1, h2, h3, h4, h5⟩ := r.mu i _ g
  obtain ⟨kvs, eo, hk⟩ := own_dk h5 ok
  subst eo
  refine ⟨a, kvs, h4, fun o => ?_⟩
  have hl : i < ε.length := gt_lt (by rw [g]; intro z; cases z)
  have sub : ∀ b, b ∈ M.filter (fun b => decide (b ≠ a)) → b ∈ M := fun b hb => (List.mem_filter.mp hb).1
  have keep : ∀ b, b ∈ M → b ≠ a → b ∈ M.filter (fun b => decide (b ≠ a)) := fun b hb n => List.mem_filter.mpr ⟨hb, decide_eq_true n⟩
  have na : a ∉ M.filter (fun b => decide (b ≠ a)) := fun z => of_decide_eq_true (List.mem_filter.mp z).2 rfl
  have hs : Ex (hid M H) (hid (M.filter (fun b => decide (b ≠ a))) (L2.upd H a (.frz o (.dK kvs)))) := fun b u hb => by
    obtain ⟨q1, q2⟩ := of_hid hb
    have nb : b ≠ a := fun z => q2 (z ▸ h2)
    exact hid_of (by rw [upd_ne nb]; exact q1) fun z => q2 (sub b z)
  refine ⟨M.filter (fun b => decide (b ≠ a)), hs, r.ext.mut h3, by rw [st_len]; exact r.len, fun b hb => keep b (r.sub b hb) fun z => r.old b hb (z ▸ h3), fun b hb => ?_, r.old, fun j f he => ?_, fun j f he => ?_, fun j k f g' a1 b1 hjk hj hk q1 q2 => ?_, fun b hb => r.new b (sub b hb), fun j f hj he => ?_, fun j p f hj he => ?_, fun j f he => ?_⟩
  · obtain ⟨u, q⟩ := r.trk b (sub b hb)
    have nb : b ≠ a := fun z => na (z ▸ hb)
    exact ⟨u, by rw [upd_ne nb]; exact q⟩
  · by_cases q : j = i
    · subst q
      rw [gt_same hl] at he
      cases he
      exact ⟨.ref a, h1, a, rfl, .inr (.inr (.inr (.inl ⟨o, kvs, hid_of upd_same na, rfl, rfl, AtK.mono hs _ _ hk⟩)))⟩
    · rw [gt_ne q] at he
      obtain ⟨v, p1, p2⟩ := r.im j f he
      exact ⟨v, p1, At.mono hs f v p2⟩
  · by_cases q : j = i
    · subst q
      rw [gt_same hl] at he
      cases he
    · rw [gt_ne q] at he
      obtain ⟨b, u, p1, p2, p3, p4, p5⟩ := r.mu j f he
      have nb : b ≠ a := r.dis j i f _ b a q he g p1 h1
      exact ⟨b, u, p1, keep b p2 nb, p3, by rw [upd_ne nb]; exact p4, p5.mono hs⟩
  · by_cases q : j = i
    · subst q
      rw [gt_same hl] at hj
      cases hj
    · by_cases q3 : k = i
      · subst q3
        rw [gt_same hl] at hk
        cases hk
      · rw [gt_ne q] at hj
        rw [gt_ne q3] at hk
        exact r.dis j k f g' a1 b1 hjk hj hk q1 q2
  · have q : j ≠ i := fun z => by rw [z, Cf.op_pn hq] at hj; cases hj
    rw [gt_ne q] at he
    exact r.pin j f hj he
  · have q : j ≠ i := fun z => by rw [z, Cf.op_fs hq] at hj; cases hj
    rw [gt_ne q] at he
    obtain ⟨w, p1, p2⟩ := r.frs j p f hj he
    exact ⟨w, p1, p2.mono (Evl.Ex.refl _) hs⟩
  · by_cases q : j = i
    · subst q
      rw [gt_same hl] at he
      cases he
    · rw [gt_ne q] at he
      exact r.pnm j f he
def sFd (i : Nat) : Nv → R Fl := fun ε => match gt ε i with
  | .mu (.dict es) => if okKs es then .ok (.nx (st ε i (.im (.dict ((.bool true, .none) :: es))))) else .bad
  | .im _ => .ok (.nx ε)
  | _ => .bad
theorem ss_fd (i : Nat) (h : PSs X r (rdS c W n)) (hq : c.op i = true := by rfl) : PSs X r (rdS c W (sSeq (sFd i) n)) := by
  refine ⟨fun pins s σ H E I t => ?_⟩
  obtain ⟨ε, M, re, f⟩ := t
  have e : sSeq (sFd i) n ε = (match sFd i ε with | .ok (.nx ε') => n ε' | r => r) := rfl
  rw [e] at f
  unfold sFd at f
  cases g : gt ε i with
  | no =>
    rw [g] at f
    exact f.elim
  | im d =>
    rw [g] at f
    exact h.run pins s σ H E I ⟨ε, M, re, f⟩
  | mu d =>
    rw [g] at f
    cases d with
    | dict es =>
      have f2 : Fin c W E (hid M H) (match (if okKs es = true then R.ok (Fl.nx (st ε i (.im (.dict ((.bool true, .none) :: es))))) else R.bad) with | .ok (.nx ε') => n ε' | r => r) := f
      by_cases ok : okKs es = true
      · rw [if_pos ok] at f2
        obtain ⟨a, kvs, h1, h2⟩ := re.still g ok hq
        obtain ⟨o, I'⟩ := inv_still I h1
        obtain ⟨M', hs, r'⟩ := h2 o
        exact h.run pins s σ _ E I' ⟨_, M', r', Fin.mono hs f2⟩
      · rw [if_neg ok] at f2
        exact f2.elim
    | _ => exact f.elim
/-- k, v of x.items(), x standing still -/
def iIt (i : Nat) : Nv → R (List D) := fun ε => match gt ε i with
  | .im (.dict ((.bool true, _) :: es)) => .ok (es.map fun p => .tuple [p.1, p.2])
  | _ => .bad
theorem wk_items {K : PySem.W.Frag} {B : Hp} {a : Addr} {o : Obj} : ∀ {kvs : List (Key × V)} {es : List (D × D)}, B a = some (.frz o (.dK kvs)) → AtK K B es kvs → Wk K B (Iti a o kvs) (es.map fun p => PyData.tuple [p.1, p.2]) := fun {kvs es} hB hk i H e => by
  have n0 := atK_keys hk
  have hH := e a _ hB
  refine ⟨fun hi => ⟨hH, by rw [List.length_map] at hi; omega⟩, fun hi => ⟨hH, by rw [List.length_map] at hi; omega⟩, fun x H' y => ?_⟩
  obtain ⟨T, k, v, h1, rfl, h2, rfl⟩ := y
  have eN : Ex H (L2.upd H T (.tup [kV k, v])) := Evl.Ex.new h2
  refine ⟨eN, fun d hd M' t e2 => ?_⟩
  have get : ∀ {es : List (D × D)} {kvs : List (Key × V)} {i : Nat}, AtK K B es kvs → kvs[i]? = some (k, v) → ∃ d', es[i]? = some (keyD k, d') ∧ At K B d' v := by
    intro es
    induction es with
    | nil =>
      intro kvs i h h'
      have z : kvs = [] := h
      rw [z] at h'
      simp at h'
    | cons p es ih =>
      intro kvs i h h'
      obtain ⟨k0, d0⟩ := p
      obtain ⟨cc, w, r', e0, ek, g1, g2⟩ := h
      subst e0 ek
      cases i with
      | zero =>
        rw [List.getElem?_cons_zero] at h'
        cases h'
        exact ⟨d0, rfl, g1⟩
      | succ i =>
        rw [List.getElem?_cons_succ] at h'
        obtain ⟨d', a1, a2⟩ := ih g2 h'
        exact ⟨d', by rw [List.getElem?_cons_succ]; exact a1, a2⟩
  obtain ⟨d', g1, g2⟩ := get hk h1
  rw [List.getElem?_map, g1] at hd
  cases hd
  have mM : T ∉ M' := t.no h2
  have e3 : Ex B (hid M' (L2.upd H T (.tup [kV k, v]))) := e2.trans (hid_ex eN)
  refine ⟨T, _, rfl, SqT.of (hid_of upd_same mM), ⟨_, _, rfl, ?_, ⟨_, _, rfl, At.mono e3 _ _ g2, rfl⟩⟩⟩
  cases k <;> rfl
theorem pi_it {tg : Expr} {i : Nat} (h : PI X tg e (iItems (tVar i))) : PI X tg e (rdI c (iIt i)) := h.wk fun σ H Q ⟨ε, M, re, ds, hm, q⟩ => by
  unfold iIt at hm
  split at hm
  · rename_i x es g
    cases hm
    obtain ⟨v, h1, a, ev, h2⟩ := re.im i _ g
    subst ev
    rcases h2 with ⟨kvs, r, cc, w, r', e1, e2, _⟩ | ⟨kvs, r, ⟨e2, _, _⟩, q0⟩ | ⟨S, n, xs, r, e1, _⟩ | ⟨o, kvs, r, e1, e2, h3⟩ | ⟨lo, hi, r, e1⟩
    · cases cc <;> cases e2
    · cases e2
    · cases e1
    rotate_left
    · cases e1
    · exact ⟨.ref a, h1, a, o, kvs, rfl, (of_hid r).1, q _ H (Evl.Ex.refl _) (wk_items r h3)⟩
  · cases hm
end
end Tw
set_option Elab.async false
set_option linter.all false
set_option maxRecDepth 100000
set_option maxHeartbeats 4000000
/-! Tw25: sums of tuples -/
namespace Tw
open PySem PySem.Spec PyProof.Rows L2
theorem sum_tupI {prog : Program} {w : World} {A : Around} {E : Value → Shared → Prop} {s : Shared} {l : Addr} {xs : Array (Int × Tok)} {Q : Value → Shared → Prop} (hh : A.handled = none) (hl : s.heap.IsTuple l (intItems xs))
    (h : ∀ h' tk t', (∀ b o, s.heap.get? b = some o → h'.get? b = some o) → Q (.int (preSum (numAt xs) xs.size) t') { s with heap := h', toks := tk }) : wpAny (model prog w) A (call (.builtin "sum") [.ref l]) Q E s := by
  have hlt : l < s.heap.objs.size := by obtain ⟨_, e, _⟩ := hl; exact Heap.lt_size e
  refine call_sum_walkG (wpAny_pyIter_tuple hl ⟨_, _, _, _, _, _, numAt xs, rfl, Walks.tuple (A := A.in1) hh _ l (Nat.ne_of_lt hlt) (intItems xs), ⟨⟨_, Heap.get?_push_size _ rfl, rfl, rfl⟩, hl.push _⟩, fun b hb => ?_, (fun _ _ => intItems_at), fun h' tk t' hk => ?_⟩)
  · show b < (s.heap.push _).objs.size
    rw [Heap.size_push]
    rcases List.mem_cons.mp hb with rfl | hb
    · exact Nat.lt_succ_self _
    · rw [List.mem_singleton.mp hb]
      exact Nat.lt_succ_of_lt hlt
  · have := h h' tk t' fun b o e => hk b o (fun z => by
      have z' : b = s.heap.objs.size := by simpa using z
      exact Nat.lt_irrefl _ (z' ▸ Heap.lt_size e)) (Heap.get?_push_of_some _ e)
    simpa [intItems] using this
def cSumT : List D → R D
  | [.tuple xs] => match intsOf xs with | some l => .ok (.int l.sum) | none => .bad
  | _ => .bad
section
variable {X : Cx}
theorem k_sumT (hc : X.calm = true) : CallR X (.builtin "sum") (rnD X.K cSumT) := by
  intro pins s σ H xs us Q I r ⟨M, as, d, t, ha, hf, q⟩
  unfold cSumT at hf
  split at hf
  · split at hf
    · rename_i l g
      cases hf
      obtain ⟨v, e, a, vs, e2, h1, h2⟩ := at_one ha
      rw [intsOf_some g] at h2
      rw [AtL.ints h2] at h1
      subst e2
      rw [e] at r
      obtain ⟨its, rv, hl, _⟩ := I.tuple (sqt_le h1)
      rw [Vals.ref1 r]
      have hi := rv.ints
      obtain ⟨xs', e'⟩ := hi.allInts.items
      have hn : numsOf (intItems xs').toList = l := by rw [← e']; exact hi.numsOf
      rw [nums_intItems] at hn
      rw [e'] at hl
      refine sum_tupI (I.ok.hd hc) hl fun h' tk t' hk => ?_
      refine ⟨.int l.sum, H, I.kept hk, ?_, q _ H (Evl.Ex.refl H) rfl⟩
      rw [preSum_eq, List.take_of_length_le (by simp), hn]
      exact ⟨_, rfl⟩
    · cases hf
  · cases hf
end
theorem cSumT_i (l : List Int) : cSumT [.tuple (l.map .int)] = .ok (.int l.sum) := by
  show (match intsOf (l.map PyData.int) with | some l => R.ok (PyData.int l.sum) | none => .bad) = _
  rw [intsOf_map]
end Tw
set_option Elab.async false
set_option linter.all false
set_option maxRecDepth 100000
set_option maxHeartbeats 4000000
/-! Tw26: dict comprehensions -/
namespace Tw
open PySem PySem.Spec PyProof.Rows L2
def lcP (g : D → Nv → R Nv) (t : Nv → R Bool) (ek ev : Nv → R D) (ε : Nv) : List D → R (List (D × D))
  | [] => .ok []
  | d :: ds => (g d ε).bind fun ε1 => (t ε1).bind fun k => if k then (ek ε1).bind fun y => (ev ε1).bind fun z => (lcP g t ek ev ε ds).bind fun ys => .ok ((y, z) :: ys) else lcP g t ek ev ε ds
def xDcm (vs : List Nat) (mi : Nv → R (List D)) (g : D → Nv → R Nv) (t : Nv → R Bool) (ek ev : Nv → R D) : Nv → R D := fun ε => (mi ε).bind fun ds => (lcP g t ek ev (wipeE ε vs) ds).bind fun ps => if okKs ps && decide (ps.length ≤ lim) then .ok (.dict (ps.foldl (fun a p => ptD a p.1 p.2) [])) else .bad
section
variable {X : Cx} {c : Cf} {W : WX}
theorem tDc_rd {g : TG} {b : D → Nv → R Nv} {js vs : List Nat} {mi : Nv → R (List D)} {t : Nv → R Bool} {ek ev : Nv → R D} (hg : GOk c g b js) (hj : ∀ j, j ∈ js → j ∈ vs) :
    ∀ σ H Q, rdL c (xDcm vs mi b t ek ev) σ H Q → tDc (rdI c mi) g (rdT c t) (rdE c ek) (rdE c ev) vs σ H Q := fun σ H Q ⟨ε, M, re, d, hm, q⟩ => by
  obtain ⟨ds, h1, h2⟩ := R.bind_ok hm
  obtain ⟨ys, h3, h4⟩ := R.bind_ok h2
  split at h4
  · rename_i hz
    cases h4
    rw [Bool.and_eq_true] at hz
    have okk := hz.1
    have hz := of_decide_eq_true hz.2
    refine ⟨ε, M, re, ds, h1, fun J H1 e1 wk D nD => ?_⟩
    have nD0 : H D = none := Evl.fresh_back e1 nD
    have nM : D ∉ M := Trk.no re.trk nD0
    have n0 : c.H0 D = none := Evl.fresh_back re.ext nD0
    refine ⟨fun i m H2 => m = ds.length - i ∧ i ≤ ds.length ∧ ∃ acc rest vs0, lcP b t ek ev (wipeE ε vs) (ds.drop i) = .ok rest ∧ acc ++ rest = ys ∧ H2 D = some (.dK vs0) ∧ vs0.length ≤ acc.length ∧ AtK c.K (hid (D :: M) H2) (acc.foldl (fun a p => ptD a p.1 p.2) []) vs0 ∧ Rel c (wipe σ vs) H2 (wipeE ε vs) (D :: M) ∧ Ex H1 H2,
      ⟨ds.length, by omega, Nat.zero_le _, [], ys, [], h3, rfl, upd_same, Nat.le_refl _, rfl, ((re.ex e1).wipe vs).add nD (Evl.Ex.new nD) upd_same, Evl.Ex.new nD⟩, ?_⟩
    rintro i m H2 ⟨rfl, hi, acc, rest, vs0, hl, ha, hD, hN, hA, hR, hE⟩
    have hB : Ex (hid M H1) (hid (D :: M) H2) := hid_new hE nD
    have wi := wk i H2 (Evl.Ex.trans hB hid_le)
    by_cases hlt : i < ds.length
    · refine .inr ⟨wi.1 hlt, fun H' => ∃ acc rest vs0, lcP b t ek ev (wipeE ε vs) (ds.drop (i + 1)) = .ok rest ∧ acc ++ rest = ys ∧ H' D = some (.dK vs0) ∧ vs0.length ≤ acc.length ∧ AtK c.K (hid (D :: M) H') (acc.foldl (fun a p => ptD a p.1 p.2) []) vs0 ∧ Rel c (wipe σ vs) H' (wipeE ε vs) (D :: M) ∧ Ex H1 H', fun H' p => ⟨_, by omega, rfl, hlt, p⟩, fun x H' y => ?_⟩
      obtain ⟨ex, item⟩ := wi.2.2 x H' y
      have hx := item ds[i] (List.getElem?_eq_getElem hlt) (D :: M) hR.trk hB
      rw [List.drop_eq_getElem_cons hlt] at hl
      obtain ⟨ε1, l1, l2⟩ := R.bind_ok hl
      obtain ⟨k, l3, l4⟩ := R.bind_ok l2
      refine hg x (wipe σ vs) H' _ _ (D :: M) ds[i] ε1 (hR.ex ex) hx l1 fun σ2 r2 w2 _ => ⟨by rw [w2 vs hj, wipe_wipe], ε1, D :: M, r2, k, l3, fun H3 e3 => ?_⟩
      have exx := Evl.Ex.trans ex e3
      cases k with
      | false =>
        exact ⟨acc, rest, vs0, l4, ha, exx D _ hD, hN, AtK.mono (hid_ex exx) _ _ hA, hR.ex exx, Evl.Ex.trans hE exx⟩
      | true =>
        obtain ⟨y1, l5, l6⟩ := R.bind_ok (r := ek ε1) l4
        obtain ⟨z1, l7, l8⟩ := R.bind_ok (r := ev ε1) l6
        obtain ⟨ys', l9, l10⟩ := R.bind_ok l8
        cases l10
        have ky : isKy y1 = true := by
          have := List.all_eq_true.mp okk (y1, z1) (by rw [← ha]; exact List.mem_append_right _ List.mem_cons_self)
          exact this
        obtain ⟨kk, rfl⟩ := ky_of ky
        refine ⟨ε1, D :: M, r2.ex e3, _, l5, fun v H4 e4 hv => ⟨ε1, D :: M, (r2.ex e3).ex e4, z1, l7, fun u H5 e5 hu => ⟨vs0, kk, ky_at hv, e5 D _ (e4 D _ (exx D _ hD)), ?_, ?_⟩⟩⟩
        · refine lim_lt (Nat.le_trans hN (Nat.le_trans ?_ hz))
          rw [← ha, List.length_append]
          omega
        · have ex5 := Evl.Ex.trans (Evl.Ex.trans exx e4) e5
          have hm : D ∈ D :: M := List.mem_cons_self
          refine ⟨acc ++ [(keyD kk, z1)], ys', putK vs0 kk u, l9, by rw [← ha, List.append_assoc]; rfl, upd_same, ?_, ?_, ?_, ?_⟩
          · have := length_putK vs0 kk u
            rw [List.length_append, List.length_singleton]
            omega
          · rw [hid_upd hm, List.foldl_append]
            exact pt_at kk hu (AtK.mono (hid_ex ex5) _ _ hA)
          · refine (hR.ex ex5).updD hm n0 fun j f hj z => ?_
            obtain ⟨w', o', z1, z2, _⟩ := (re.wipe vs).mu j f hj
            rw [z] at z1
            cases z1
            exact nM z2
          · exact Evl.Ex.mut (Evl.Ex.trans hE ex5) nD
    · have ei : i = ds.length := by omega
      subst ei
      refine .inl ⟨wi.2.1 rfl, ?_⟩
      rw [List.drop_length] at hl
      cases hl
      rw [List.append_nil] at ha
      subst ha
      exact q D _ H2 nD0 (Evl.Ex.trans e1 hE) hD (.inr (.inl ⟨vs0, _, rfl, rfl, hA⟩))
  · cases h4
theorem ps_setDc {i : Nat} {y : Str} {py : Pos} {kx vx tg iter : Expr} {ifs : List Expr} {scope : Scope} {own : List (Str × Nat)} {pos spos : Pos} {wi : TI} {g : TG} {tt : TT} {tk tv : TE} (hc : X.calm = true) (hN : X.N.Nodup) (hy : X.N[i]? = some y) (hyl : X.env.scope.names.lookup y = some .local)
    (hsw : swapsWith (.DictComp kx vx [⟨tg, iter, ifs, 0⟩] scope pos) (some (.Name y py)) spos.line X.env = pure true) (hi : PI X tg iter wi) (ok : BlkOk X.N X.env.scope scope own)
    (hg : ∀ (s : Shared) (H : Hp) (C : Addr) (cl : List (Str × Addr)) (fp : List Addr), PG (X.blk s H scope (compEnvC scope cl C X.env) fp) tg g) (ht : ∀ (s : Shared) (H : Hp) (C : Addr) (cl : List (Str × Addr)) (fp : List Addr), PTs (X.blk s H scope (compEnvC scope cl C X.env) fp) ifs tt)
    (hk : ∀ (s : Shared) (H : Hp) (C : Addr) (cl : List (Str × Addr)) (fp : List Addr), PE (X.blk s H scope (compEnvC scope cl C X.env) fp) kx tk)
    (he : ∀ (s : Shared) (H : Hp) (C : Addr) (cl : List (Str × Addr)) (fp : List Addr), PE (X.blk s H scope (compEnvC scope cl C X.env) fp) vx tv) (hs : ∀ x, foldedSetIterable iter X.env x = pure x := by intro _; rfl) :
    PS X (.Assign [.Name y py] (.DictComp kx vx [⟨tg, iter, ifs, 0⟩] scope pos) spos) (tAsg (tDc wi g tt tk tv (own.map (·.2))) (gName i)) := by
  refine ⟨fun pins s σ H D I h => ?_⟩
  rw [exec_Assign_Name_used _ _ _ _ hsw]
  refine wpAny_bind (wpAny_standAt (wpAny_bind ?_))
  show wpAny _ X.A (do let _ ← comprehension (.DictComp kx vx [⟨tg, iter, ifs, 0⟩] scope pos) scope X.env (firstIterPos [⟨tg, iter, ifs, 0⟩] pos) newDict false (eval iter X.env) (some (assign (.Name y py) X.env))) _ _ s
  have h : tDc wi g tt tk tv (own.map (·.2)) σ H (fun x H1 => gName i x σ H1 D.nx) := h
  refine wpAny_bind (thn (dc_core (Qf := fun _ s' => SP X pins D .next s') hc hN I hi ok hg ht hk he hs h fun L C s' m H' I' q hn f => ?_) fun _ s' hq => wpAny_pure (wpAny_pure hq))
  show wpAny _ _ (assign (.Name y py) X.env (.ref L)) _ _ _
  refine wpAny_assign_Name (store_ok2 (v := V.ref L) I' hN hy (.inl hyl) rfl (fun s2 I2 ⟨a, sb, ha⟩ => ?_) (.inr hyl))
  obtain ⟨f0, f1, f2, f3, f4, f5⟩ := f
  have haC : C ≠ a := by
    rcases ha with z | z
    · rw [z]; exact f1
    · exact fun e => f4 y a z e.symm
  refine ⟨m, hn.sameBut sb haC, fun h3 sb3 => ?_⟩
  exact ⟨_, H', I2.turned (t' := s2.toks) (fun b o hb e => (sb3.2 b hb).trans e) f0 f1 f3 f4 f5, q⟩
theorem swd_true {kx vx : Expr} {gs : List Comprehension} {scope : Scope} {pos py : Pos} {y : Str} {l : Nat} {env : Env} (hk : env.scope.kind = .function) (hy : env.scope.names.lookup y = some .local) (hl : (py.line == pos.line) = true)
    (ha : (scope.names.any fun (n, k) => n == y && (k == .local || k == .cell)) = false) : swapsWith (.DictComp kx vx gs scope pos) (some (.Name y py)) l env = pure true := by
  have ky : env.kindOf y = some .local := hy
  have hb : env.blockKind = .function := by unfold Env.blockKind; rw [hk]; rfl
  unfold swapsWith
  simp only [hb, ky, ha, Expr.pos, hl]
  rfl

theorem ps_cod {kx vx tg iter : Expr} {ifs : List Expr} {scope : Scope} {own : List (Str × Nat)} {pos spos py : Pos} {g : TG} {b : D → Nv → R Nv} {js : List Nat} {mi : Nv → R (List D)} {t : Nv → R Bool} {mk me : Nv → R D} {y : Str} {i : Nat} (hc : X.calm = true) (hN : X.N.Nodup) (hi : PI X tg iter (rdI c mi)) (ok : BlkOk X.N X.env.scope scope own) (gk : GOk c g b js) (hj : ∀ j, j ∈ js → j ∈ own.map (·.2))
    (hg : ∀ (s : Shared) (H : Hp) (C : Addr) (cl : List (Str × Addr)) (fp : List Addr), PG (X.blk s H scope (compEnvC scope cl C X.env) fp) tg g) (ht : ∀ (s : Shared) (H : Hp) (C : Addr) (cl : List (Str × Addr)) (fp : List Addr), PTs (X.blk s H scope (compEnvC scope cl C X.env) fp) ifs (rdT c t))
    (hk : ∀ (s : Shared) (H : Hp) (C : Addr) (cl : List (Str × Addr)) (fp : List Addr), PE (X.blk s H scope (compEnvC scope cl C X.env) fp) kx (rdE c mk))
    (he : ∀ (s : Shared) (H : Hp) (C : Addr) (cl : List (Str × Addr)) (fp : List Addr), PE (X.blk s H scope (compEnvC scope cl C X.env) fp) vx (rdE c me))
    (hsw : swapsWith (.DictComp kx vx [⟨tg, iter, ifs, 0⟩] scope pos) (some (.Name y py)) spos.line X.env = pure true) (hy : X.N[i]? = some y := by rfl) (hyl : X.env.scope.names.lookup y = some .local := by rfl) (hs : ∀ x, foldedSetIterable iter X.env x = pure x := by intro _; rfl) (hq : c.op i = true := by rfl) :
    PS X (.Assign [.Name y py] (.DictComp kx vx [⟨tg, iter, ifs, 0⟩] scope pos) spos) (rdS c W (sAs i (xDcm (own.map (·.2)) mi b t mk me))) :=
  (ps_setDc hc hN hy hyl hsw hi ok hg ht hk he hs).wk fun E σ H h => (tAsg_rdL (c := c) (i := i) hq E σ H h : tAsg (rdL c (xDcm (own.map (·.2)) mi b t mk me)) (gName i) E σ H) |> fun q => tDc_rd gk hj σ H _ q
theorem ps_codM {kx vx tg iter : Expr} {ifs : List Expr} {scope : Scope} {own : List (Str × Nat)} {pos spos py : Pos} {g : TG} {b : D → Nv → R Nv} {js : List Nat} {mi : Nv → R (List D)} {t : Nv → R Bool} {mk me : Nv → R D} {y : Str} {i : Nat} (hc : X.calm = true) (hN : X.N.Nodup) (hi : PI X tg iter (rdI c mi)) (ok : BlkOk X.N X.env.scope scope own) (gk : GOk c g b js) (hj : ∀ j, j ∈ js → j ∈ own.map (·.2))
    (hg : ∀ (s : Shared) (H : Hp) (C : Addr) (cl : List (Str × Addr)) (fp : List Addr), PG (X.blk s H scope (compEnvC scope cl C X.env) fp) tg g) (ht : ∀ (s : Shared) (H : Hp) (C : Addr) (cl : List (Str × Addr)) (fp : List Addr), PTs (X.blk s H scope (compEnvC scope cl C X.env) fp) ifs (rdT c t))
    (hk : ∀ (s : Shared) (H : Hp) (C : Addr) (cl : List (Str × Addr)) (fp : List Addr), PE (X.blk s H scope (compEnvC scope cl C X.env) fp) kx (rdE c mk))
    (he : ∀ (s : Shared) (H : Hp) (C : Addr) (cl : List (Str × Addr)) (fp : List Addr), PE (X.blk s H scope (compEnvC scope cl C X.env) fp) vx (rdE c me))
    (hsw : swapsWith (.DictComp kx vx [⟨tg, iter, ifs, 0⟩] scope pos) (some (.Name y py)) spos.line X.env = pure true) (hy : X.N[i]? = some y := by rfl) (hyl : X.env.scope.names.lookup y = some .local := by rfl) (hs : ∀ x, foldedSetIterable iter X.env x = pure x := by intro _; rfl) (hq : c.op i = true := by rfl) :
    PS X (.Assign [.Name y py] (.DictComp kx vx [⟨tg, iter, ifs, 0⟩] scope pos) spos) (rdS c W (sAsM i (xDcm (own.map (·.2)) mi b t mk me))) :=
  (ps_setDc hc hN hy hyl hsw hi ok hg ht hk he hs).wk fun E σ H h => (tAsg_rdM (c := c) (i := i) hq E σ H h : tAsg (rdL c (xDcm (own.map (·.2)) mi b t mk me)) (gName i) E σ H) |> fun q => tDc_rd gk hj σ H _ q
end
end Tw
set_option Elab.async false
set_option linter.all false
set_option maxRecDepth 100000
set_option maxHeartbeats 4000000
/-! Tw27: dicts whose keys are tuples of whole numbers and texts -/
namespace Tw
open PySem PySem.Spec PyProof.Rows L2
def eqKL : List D → List D → Bool
  | [], [] => true
  | a :: r, b :: s => eqKy a b && eqKL r s
  | _, _ => false
def isKL (ks : List D) : Bool := ks.all isKy
def hitT (k : List D) : D → Bool
  | .tuple k' => eqKL k' k
  | _ => false
def lkT : List (D × D) → List D → Option D
  | [], _ => none
  | (k', d) :: r, k => if hitT k k' then some d else lkT r k
def ptT (es : List (D × D)) (k : List D) (d : D) : List (D × D) := if es.any (fun p => hitT k p.1) then es.map (fun p => if hitT k p.1 then (p.1, d) else p) else es ++ [(.tuple k, d)]
theorem eqKL_key : ∀ a b : List Key, eqKL (a.map keyD) (b.map keyD) = decide (a = b)
  | [], [] => rfl
  | [], _ :: _ => rfl
  | _ :: _, [] => rfl
  | x :: a, y :: b => by
    show (eqKy (keyD x) (keyD y) && eqKL (a.map keyD) (b.map keyD)) = _
    rw [eqKy_key, eqKL_key a b, Bool.eq_iff_iff, Bool.and_eq_true, decide_eq_true_eq, decide_eq_true_eq, decide_eq_true_eq, List.cons.injEq]
theorem kl_of : ∀ {ks : List D}, isKL ks = true → ∃ c : List Key, ks = c.map keyD
  | [], _ => ⟨[], rfl⟩
  | d :: ks, h => by
    have h' : (isKy d && isKL ks) = true := h
    rw [Bool.and_eq_true] at h'
    obtain ⟨x, rfl⟩ := ky_of h'.1
    obtain ⟨c, rfl⟩ := kl_of h'.2
    exact ⟨x :: c, rfl⟩
section
variable {K : PySem.W.Frag} {H : Hp}
theorem kl_at : ∀ {c : List Key} {vs : List V}, AtL K H (c.map keyD) vs → vs = c.map kV
  | [], vs, h => h
  | k :: c, _, ⟨v, r, e, h1, h2⟩ => by
    rw [e, ky_at h1, kl_at h2]
    rfl
theorem atU_len : ∀ {es : List (D × D)} {kvs : List (List Key × V)}, AtU K H es kvs → es.length = kvs.length
  | [], _, h => by
    have e : _ = [] := h
    rw [e]
    rfl
  | (k, d) :: es, _, ⟨c, v, r, e, _, _, h⟩ => by
    rw [e, List.length_cons, List.length_cons, atU_len h]
theorem hit_key (c c' : List Key) : hitT (c.map keyD) (.tuple (c'.map keyD)) = decide (c' = c) := eqKL_key c' c
theorem lkT_at (c : List Key) : ∀ {es : List (D × D)} {kvs : List (List Key × V)}, AtU K H es kvs → (∃ d v, lkT es (c.map keyD) = some d ∧ valV kvs c = some v ∧ At K H d v) ∨ (lkT es (c.map keyD) = none ∧ valV kvs c = none)
  | [], _, h => by
    have e : _ = [] := h
    rw [e]
    exact .inr ⟨rfl, rfl⟩
  | (k, d) :: es, _, ⟨c', v, r, e, ek, h1, h2⟩ => by
    subst e ek
    by_cases q : c' = c
    · refine .inl ⟨d, v, ?_, valV_pos q, h1⟩
      show (if hitT (c.map keyD) (.tuple (c'.map keyD)) = true then some d else lkT es (c.map keyD)) = _
      rw [hit_key, if_pos (decide_eq_true q)]
    · have e1 : lkT ((.tuple (c'.map keyD), d) :: es) (c.map keyD) = lkT es (c.map keyD) := by
        show (if hitT (c.map keyD) (.tuple (c'.map keyD)) = true then some d else lkT es (c.map keyD)) = _
        rw [hit_key, if_neg (by rw [decide_eq_true_eq]; exact q)]
      rw [e1, valV_neg (p := (c', v)) q]
      exact lkT_at c h2
theorem anyT_at (c : List Key) : ∀ {es : List (D × D)} {kvs : List (List Key × V)}, AtU K H es kvs → es.any (fun p => hitT (c.map keyD) p.1) = kvs.any fun kv => decide (kv.1 = c)
  | [], _, h => by
    have e : _ = [] := h
    rw [e]
    rfl
  | (k, d) :: es, _, ⟨c', v, r, e, ek, h1, h2⟩ => by
    subst e ek
    rw [List.any_cons, List.any_cons, anyT_at c h2, hit_key]
theorem repT_at (c : List Key) {d : D} {v : V} (hv : At K H d v) : ∀ {es : List (D × D)} {kvs : List (List Key × V)}, AtU K H es kvs → AtU K H (es.map fun p => if hitT (c.map keyD) p.1 then (p.1, d) else p) (kvs.map fun kv => if kv.1 = c then (kv.1, v) else kv)
  | [], _, h => by
    have e : _ = [] := h
    rw [e]
    rfl
  | (k, d') :: es, _, ⟨c', v', r, e, ek, h1, h2⟩ => by
    subst e ek
    rw [List.map_cons, List.map_cons]
    by_cases q : c' = c
    · rw [if_pos (by rw [hit_key]; exact decide_eq_true q), if_pos q]
      exact ⟨c', v, _, rfl, rfl, hv, repT_at c hv h2⟩
    · rw [if_neg (by rw [hit_key, decide_eq_true_eq]; exact q), if_neg q]
      exact ⟨c', v', _, rfl, rfl, h1, repT_at c hv h2⟩
theorem appT_at (c : List Key) {d : D} {v : V} (hv : At K H d v) : ∀ {es : List (D × D)} {kvs : List (List Key × V)}, AtU K H es kvs → AtU K H (es ++ [(.tuple (c.map keyD), d)]) (kvs ++ [(c, v)])
  | [], _, h => by
    have e : _ = [] := h
    rw [e]
    exact ⟨c, v, [], rfl, rfl, hv, rfl⟩
  | (k, d') :: es, _, ⟨c', v', r, e, ek, h1, h2⟩ => by
    subst e ek
    exact ⟨c', v', _, rfl, rfl, h1, appT_at c hv h2⟩
theorem ptT_at (c : List Key) {d : D} {v : V} (hv : At K H d v) {es : List (D × D)} {kvs : List (List Key × V)} (h : AtU K H es kvs) : AtU K H (ptT es (c.map keyD) d) (putK kvs c v) := by
  have e1 : putK kvs c v = if kvs.any (fun kv => decide (kv.1 = c)) then kvs.map (fun kv => if kv.1 = c then (kv.1, v) else kv) else kvs ++ [(c, v)] := rfl
  unfold ptT
  rw [e1, anyT_at c h]
  split
  · exact repT_at c hv h
  · exact appT_at c hv h
theorem at_dT {x : D} {es : List (D × D)} {v : V} (h : At K H (.dict ((.bool false, x) :: es)) v) : ∃ a kvs, v = .ref a ∧ Rd H a (.dT kvs) ∧ AtU K H es kvs := by
  obtain ⟨a, ev, q⟩ := h
  rcases q with ⟨kvs, r, c, w, r', e1, e2, _⟩ | ⟨kvs, r, ⟨_, _, q⟩, _⟩ | ⟨S, n, xs, r, q, _⟩ | ⟨o, kvs, r, e1, e2, _⟩ | ⟨lo, hi, r, q⟩
  · cases c <;> cases e2
  · exact ⟨a, kvs, ev, r, q⟩
  · cases q
  · cases e1
  · cases q
theorem own_dT {o : HO} {x : D} {es : List (D × D)} (h : Own K H o (.dict ((.bool false, x) :: es))) : ∃ kvs, o = .dT kvs ∧ AtU K H es kvs ∧ x = .none := by
  rcases h with ⟨vs, ds, h1, h2, h3⟩ | ⟨kvs, es', h1, h2, h3⟩ | ⟨kvs, es', h1, h2, h3, h4⟩ | ⟨S, n, xs, h1, h2, h3⟩
  · cases h2
  · cases h2
    obtain ⟨c, w, r', e1, e2, _⟩ := h3
    cases c <;> cases e2
  · cases h2
    obtain ⟨_, e, q⟩ := h3
    exact ⟨kvs, h1, q, e⟩
  · injection h2 with e
    cases e
end
section
variable {X : Cx} {c : Cf} {W : WX} {e : Expr} {s : Stmt} {r : List Stmt} {me md : Nv → R D} {ms : Nv → R (List D)} {n : Nv → R Fl}
def dT1 (es : List (D × D)) : D := .dict ((.bool false, .none) :: es)
/-- {}, the keys to come being tuples -/
def xD0T : Nv → R D := fun _ => .ok (dT1 [])
theorem pe_d0T (h : PE X e tDNewT) : PE X e (rdL c xD0T) := h.wk fun σ H Q ⟨ε, M, re, d, hm, q⟩ => fun p np => by
  cases hm
  exact q p (.dT []) _ np (Evl.Ex.new np) upd_same (.inr (.inr (.inl ⟨_, _, rfl, rfl, ⟨rfl, rfl, rfl⟩, fun z => by cases z⟩)))
/-- x[k] = e of one's own dict, k a written tuple -/
def sDpT (j : Nat) (ms : Nv → R (List D)) (me : Nv → R D) : Nv → R Fl := fun ε => (me ε).bind fun d => (ms ε).bind fun ks => match gt ε j with
  | .mu (.dict ((.bool false, _) :: es)) => if isKL ks && decide (es.length < lim) && decide (ks.length < lim) then .ok (.nx (st ε j (.mu (dT1 (ptT es ks d))))) else .bad
  | _ => .bad
theorem ps_dpT {j : Nat} (h : PS X s (sDPut (tVar j) (tTup (rdA c ms)) (rdE c me))) : PS X s (rdS c W (sDpT j ms me)) := h.wk fun E σ H ⟨ε, M, re, f⟩ => by
  unfold sDpT at f
  cases q : me ε with
  | bad => rw [q] at f; exact f.elim
  | ex x y => rw [q] at f; exact f.elim
  | ok d =>
    rw [q] at f
    cases q2 : ms ε with
    | bad => simp only [R.bind, q2] at f; exact f.elim
    | ex x y => simp only [R.bind, q2] at f; exact f.elim
    | ok ks =>
      simp only [R.bind, q2] at f
      split at f
      · rename_i x es g
        split at f
        · rename_i hz
          rw [Bool.and_eq_true, Bool.and_eq_true] at hz
          obtain ⟨⟨hk, hl⟩, hkl⟩ := hz
          have hl' := of_decide_eq_true hl
          have hkl' := of_decide_eq_true hkl
          obtain ⟨kk, rfl⟩ := kl_of hk
          obtain ⟨a, o, h1, h2, h3, h4, h5⟩ := re.mu j _ g
          obtain ⟨kvs, eo, hk', ex⟩ := own_dT h5
          subst eo ex
          have n0 := atU_len hk'
          refine ⟨ε, M, re, d, q, fun v H' e' hv => ⟨.ref a, h1, ε, M, re.ex e', _, q2, fun vs H2 e2 hvs => ?_⟩⟩
          have ev := kl_at hvs
          subst ev
          refine ⟨by rw [List.length_map]; rw [List.length_map] at hkl'; exact lim_le (Nat.le_of_lt hkl'), fun p np => ?_⟩
          have e3 := e'.trans e2
          have e4 : Ex H (L2.upd H2 p (.tup (kk.map kV))) := e3.trans (Evl.Ex.new np)
          refine ⟨a, _, rfl, DPut.t (e4 a _ h4) upd_same (by rw [← n0]; exact lim_lt (Nat.le_of_lt hl')), ?_⟩
          refine f _ _ M ((re.ex e4).upd g h1 (.inr (.inr (.inl ⟨_, _, rfl, rfl, ⟨rfl, rfl, ptT_at kk (At.mono (hid_ex (e2.trans (Evl.Ex.new np))) _ _ hv) ?_⟩, fun z => by cases z⟩)))) ?_
          · exact AtU.mono (hid_ex e4) _ _ hk'
          · rw [hid_upd h2]
            exact hid_ex e4
        · exact f.elim
      · exact f.elim
/-- the dict with tuples as keys that a name holds -/
def dTOf (ε : Nv) (i : Nat) : Option (List (D × D)) := match gt ε i with
  | .im (.dict ((.bool false, _) :: es)) => some es
  | .mu (.dict ((.bool false, _) :: es)) => some es
  | _ => none
theorem rel_dT {σ : L2.St} {H : Hp} {ε : Nv} {M : List Addr} (re : Rel c σ H ε M) {i : Nat} {es : List (D × D)} (g : dTOf ε i = some es) : ∃ a kvs, σ[i]? = some (some (.ref a)) ∧ Rd H a (.dT kvs) ∧ AtU c.K (hid M H) es kvs := by
  unfold dTOf at g
  split at g
  · rename_i x es' ge
    cases g
    obtain ⟨v, h1, h2⟩ := re.im i _ ge
    obtain ⟨a, kvs, ev, r, h⟩ := at_dT h2
    subst ev
    refine ⟨a, kvs, h1, ?_, h⟩
    rcases r with r | ⟨o, r⟩
    · exact .inl (of_hid r).1
    · exact .inr ⟨o, (of_hid r).1⟩
  · rename_i x es' ge
    cases g
    obtain ⟨a, o, h1, h2, h3, h4, h5⟩ := re.mu i _ ge
    obtain ⟨kvs, eo, h, _⟩ := own_dT h5
    subst eo
    exact ⟨a, kvs, h1, .inl h4, h⟩
  · cases g
/-- x.get(k, d), k a written tuple -/
def xGetT (i : Nat) (ms : Nv → R (List D)) (md : Nv → R D) : Nv → R D := fun ε => match dTOf ε i with
  | some es => (ms ε).bind fun k => (md ε).bind fun d => if isKL k && decide (k.length < lim) then .ok ((lkT es k).getD d) else .bad
  | none => .bad
theorem pe_gtT {i : Nat} (h : PE X e (tDGet2 (tVar i) (tTup (rdA c ms)) (rdE c md))) : PE X e (rdE c (xGetT i ms md)) := h.wk fun σ H Q ⟨ε, M, re, d, hm, q⟩ => by
  unfold xGetT at hm
  split at hm
  · rename_i es g
    obtain ⟨k, h1, h2⟩ := R.bind_ok hm
    obtain ⟨z, h3, h4⟩ := R.bind_ok h2
    split at h4
    · rename_i hk
      cases h4
      rw [Bool.and_eq_true] at hk
      have hkl' := of_decide_eq_true hk.2
      obtain ⟨kk, rfl⟩ := kl_of hk.1
      obtain ⟨a, kvs, g1, g2, g3⟩ := rel_dT re g
      refine ⟨.ref a, g1, a, rfl, .inr ⟨kvs, g2⟩, ε, M, re, _, h1, fun vs H1 e1 hvs => ?_⟩
      have ev := kl_at hvs
      subst ev
      refine ⟨by rw [List.length_map]; rw [List.length_map] at hkl'; exact lim_le (Nat.le_of_lt hkl'), fun p np => ?_⟩
      have e2 : Ex H (L2.upd H1 p (.tup (kk.map kV))) := e1.trans (Evl.Ex.new np)
      refine ⟨ε, M, re.ex e2, _, h3, fun w H3 e3 hw => ?_⟩
      refine ⟨valV kvs kk, .inr ⟨kvs, kk, p, ex_rd (e2.trans e3) g2, rfl, e3 p _ upd_same, rfl⟩, ?_⟩
      rcases lkT_at kk g3 with ⟨d', v', l1, l2, l3⟩ | ⟨l1, l2⟩
      · rw [l2]
        rw [l1] at q
        exact q v' H3 (e2.trans e3) (At.mono (hid_ex (e2.trans e3)) _ _ l3)
      · rw [l2]
        rw [l1] at q
        exact q w H3 (e2.trans e3) hw
    · cases h4
  · cases hm
/-- x[k], k a written tuple -/
def xDiT (i : Nat) (ms : Nv → R (List D)) : Nv → R D := fun ε => match dTOf ε i with
  | some es => (ms ε).bind fun k => if isKL k && decide (k.length < lim) then (match lkT es k with | some d => .ok d | none => .bad) else .bad
  | none => .bad
theorem pe_diT {i : Nat} (h : PE X e (tDGet (tVar i) (tTup (rdA c ms)))) : PE X e (rdE c (xDiT i ms)) := h.wk fun σ H Q ⟨ε, M, re, d, hm, q⟩ => by
  unfold xDiT at hm
  split at hm
  · rename_i es g
    obtain ⟨k, h1, h2⟩ := R.bind_ok hm
    split at h2
    · rename_i hk
      rw [Bool.and_eq_true] at hk
      have hkl' := of_decide_eq_true hk.2
      obtain ⟨kk, rfl⟩ := kl_of hk.1
      obtain ⟨a, kvs, g1, g2, g3⟩ := rel_dT re g
      refine ⟨.ref a, g1, ε, M, re, _, h1, fun vs H1 e1 hvs => ?_⟩
      have ev := kl_at hvs
      subst ev
      refine ⟨by rw [List.length_map]; rw [List.length_map] at hkl'; exact lim_le (Nat.le_of_lt hkl'), fun p np => ?_⟩
      have e2 : Ex H (L2.upd H1 p (.tup (kk.map kV))) := e1.trans (Evl.Ex.new np)
      rcases lkT_at kk g3 with ⟨d', v', l1, l2, l3⟩ | ⟨l1, l2⟩
      · rw [l1] at h2
        cases h2
        exact ⟨a, v', rfl, .inr ⟨kvs, kk, p, ex_rd e2 g2, rfl, upd_same, l2.symm⟩, q v' _ e2 (At.mono (hid_ex e2) _ _ l3)⟩
      · rw [l1] at h2
        cases h2
    · cases h2
  · cases hm
end
end Tw
set_option Elab.async false
set_option linter.all false
set_option maxRecDepth 100000
set_option maxHeartbeats 4000000
/-! Tw28: list comprehensions of three clauses -/
namespace Tw
open PySem PySem.Spec PyProof.Rows L2
/-- the comprehension -/
abbrev cE3 (elt t0 i0 : Expr) (f0 : List Expr) (t1 i1 : Expr) (f1 : List Expr) (t2 i2 : Expr) (f2 : List Expr) (scope : Scope) (pos : Pos) : Expr :=
  .ListComp elt [⟨t0, i0, f0, 0⟩, ⟨t1, i1, f1, 0⟩, ⟨t2, i2, f2, 0⟩] scope pos
def ff : Value → Shared → Prop := fun _ _ => False
/-- what a code ends in, with no error -/
def okK (K : Shared → Prop) : Result → Shared → Prop := fun r s => match r with
  | .ok _ => K s
  | .error _ => False
/-- the tests of one clause -/
abbrev tsC (ifs : List Expr) (env : Env) : Sem Bool := forIn ifs true fun c r => if r = true then do let ok ← isTrue c env (eval c env); pure (ForInStep.yield ok) else pure (ForInStep.yield r)
section
variable {prog : Program} {w : World} {A : Around} {elt t0 i0 t1 i1 t2 i2 : Expr} {f0 f1 f2 : List Expr} {scope : Scope} {pos : Pos} {acc : Value} {env : Env}
/-- what a turn does behind the tests, with a clause below -/
def goesB (prog : Program) (w : World) (A : Around) (e : Expr) (d : Nat) (i1 : Expr) (acc : Value) (env : Env) (s : Shared) (K : Shared → Prop) : Prop :=
  wpAny (model prog w) A (eval i1 env) (fun x s4 => wpAny (model prog w) A (pyIter x) (fun it s5 => codeAny (model prog w) A (.compStart e d it acc env) (okK K) s5) ff s4) ff s
/-- .. with none -/
def goesE (prog : Program) (w : World) (A : Around) (elt : Expr) (acc : Value) (env : Env) (s : Shared) (K : Shared → Prop) : Prop :=
  wpAny (model prog w) A (eval elt env) (fun x s4 => wpAny (model prog w) A (call (.builtin "list.append") [acc, x]) (fun _ s5 => K s5) ff s4) ff s
/-- the rule of a clause's loop -/
def LpRule (prog : Program) (w : World) (A : Around) (e : Expr) (d : Nat) (tg : Expr) (ifs : List Expr) (acc : Value) (env : Env) (go : Shared → (Shared → Prop) → Prop) : Prop :=
  ∀ (it : Value) (R : Result → Shared → Prop) (I : Nat → Shared → Prop),
    (∀ n s, I n s → wpAny (model prog w) A (pyNext it) (fun r s1 => match r with
      | none => R (.ok .next) s1
      | some v => wpAny (model prog w) A (letOwnedTupleGo tg it v) (fun _ s1' => wpAny (model prog w) A (assign tg env v) (fun _ s2 =>
          wpAny (model prog w) A (tsC ifs env) (fun ok s3 => if ok = true then go s3 (fun s' => ∃ m, m < n ∧ I m s') else ∃ m, m < n ∧ I m s3) ff s2) ff s1') ff s1) ff s) →
    ∀ n s, I n s → codeAny (model prog w) A (.compLoop e d it acc env) R s
theorem turn3_0 (it : Value) :
    compTurn (cE3 elt t0 i0 f0 t1 i1 f1 t2 i2 f2 scope pos) 0 it acc env = (do
      standAt i0.pos
      match ← pyNext it with
      | none => pure (.done .next)
      | some v =>
        letOwnedTupleGo t0 it v
        assign t0 env v
        let mut ok := true
        for c in f0 do
          if ok then ok ← isTrue c env (eval c env)
        if ok then
          let x ← eval i1 env
          standAt i1.pos
          let x ← foldedSetIterable i1 env x
          let _ ← runOwn (.compStart (cE3 elt t0 i0 f0 t1 i1 f1 t2 i2 f2 scope pos) 1 (← holding [x] (pyIter x)) acc env) env
        again (.compLoop (cE3 elt t0 i0 f0 t1 i1 f1 t2 i2 f2 scope pos) 0 it acc env)) := by rfl
theorem turn3_1 (it : Value) :
    compTurn (cE3 elt t0 i0 f0 t1 i1 f1 t2 i2 f2 scope pos) 1 it acc env = (do
      standAt i1.pos
      match ← pyNext it with
      | none => pure (.done .next)
      | some v =>
        letOwnedTupleGo t1 it v
        assign t1 env v
        let mut ok := true
        for c in f1 do
          if ok then ok ← isTrue c env (eval c env)
        if ok then
          let x ← eval i2 env
          standAt i2.pos
          let x ← foldedSetIterable i2 env x
          let _ ← runOwn (.compStart (cE3 elt t0 i0 f0 t1 i1 f1 t2 i2 f2 scope pos) 2 (← holding [x] (pyIter x)) acc env) env
        again (.compLoop (cE3 elt t0 i0 f0 t1 i1 f1 t2 i2 f2 scope pos) 1 it acc env)) := by rfl
theorem turn3_2 (it : Value) :
    compTurn (cE3 elt t0 i0 f0 t1 i1 f1 t2 i2 f2 scope pos) 2 it acc env = (do
      standAt i2.pos
      match ← pyNext it with
      | none => pure (.done .next)
      | some v =>
        letOwnedTupleGo t2 it v
        assign t2 env v
        let mut ok := true
        for c in f2 do
          if ok then ok ← isTrue c env (eval c env)
        if ok then
          (do let _ ← call (.builtin "list.append") [acc, ← eval elt env])
        again (.compLoop (cE3 elt t0 i0 f0 t1 i1 f1 t2 i2 f2 scope pos) 2 it acc env)) := by rfl
theorem lpB {d : Nat} {tg it0 iB : Expr} {ifs : List Expr} {gens : List Comprehension}
    (hT : ∀ it, compTurn (.ListComp elt gens scope pos) d it acc env = (do
      standAt it0.pos
      match ← pyNext it with
      | none => pure (.done .next)
      | some v =>
        letOwnedTupleGo tg it v
        assign tg env v
        let mut ok := true
        for c in ifs do
          if ok then ok ← isTrue c env (eval c env)
        if ok then
          let x ← eval iB env
          standAt iB.pos
          let x ← foldedSetIterable iB env x
          let _ ← runOwn (.compStart (.ListComp elt gens scope pos) (d + 1) (← holding [x] (pyIter x)) acc env) env
        again (.compLoop (.ListComp elt gens scope pos) d it acc env)))
    (hs : ∀ x, foldedSetIterable iB env x = pure x) : LpRule prog w A (.ListComp elt gens scope pos) d tg ifs acc env (goesB prog w A (.ListComp elt gens scope pos) (d + 1) iB acc env) := by
  intro it R I turn n s h
  refine codeAny_loop rfl I (fun n s hI => ?_) n h
  show wpAny _ A ((compTurn (.ListComp elt gens scope pos) d it acc env).onRaise (fun x => do noteFrame x env; theTreesLotGoes x)) _ _ s
  refine wpAny_noted ?_
  rw [hT]
  refine wpAny_bind (wpAny_standAt (wpAny_bind (thnF (turn n s hI) (fun r s1 h1 => ?_))))
  cases r with
  | none => exact wpAny_pure h1
  | some v =>
    refine wpAny_bind (thnF h1 (fun _ s1' h1' => ?_))
    refine wpAny_bind (thnF h1' (fun _ s2 h2 => wpAny_bind (thnF h2 (fun ok s3 h3 => ?_))))
    cases ok with
    | false => exact wpAny_pure ⟨rfl, h3⟩
    | true =>
      refine wpAny_bind (thnF h3 (fun x s4 h4 => ?_))
      refine wpAny_bind (wpAny_standAt (wpAny_bind (wpAny_of_eq (hs x) (wpAny_bind (wpAny_holding (thnF h4 (fun it1 s5 h5 => ?_)))))))
      refine wpAny_bind (wpAny_runOwn ?_)
      rw [Around.mark_none]
      refine codeAny_mono h5 fun r s' hr => ?_
      cases r with
      | ok f =>
        first
          | exact wpAny_pure ⟨rfl, hr⟩
          | exact wpAny_bind (wpAny_pure (wpAny_pure ⟨rfl, hr⟩))
      | error e => exact False.elim hr
theorem lpE {d : Nat} {tg it0 : Expr} {ifs : List Expr} {gens : List Comprehension}
    (hT : ∀ it, compTurn (.ListComp elt gens scope pos) d it acc env = (do
      standAt it0.pos
      match ← pyNext it with
      | none => pure (.done .next)
      | some v =>
        letOwnedTupleGo tg it v
        assign tg env v
        let mut ok := true
        for c in ifs do
          if ok then ok ← isTrue c env (eval c env)
        if ok then
          (do let _ ← call (.builtin "list.append") [acc, ← eval elt env])
        again (.compLoop (.ListComp elt gens scope pos) d it acc env))) : LpRule prog w A (.ListComp elt gens scope pos) d tg ifs acc env (goesE prog w A elt acc env) := by
  intro it R I turn n s h
  refine codeAny_loop rfl I (fun n s hI => ?_) n h
  show wpAny _ A ((compTurn (.ListComp elt gens scope pos) d it acc env).onRaise (fun x => do noteFrame x env; theTreesLotGoes x)) _ _ s
  refine wpAny_noted ?_
  rw [hT]
  refine wpAny_bind (wpAny_standAt (wpAny_bind (thnF (turn n s hI) (fun r s1 h1 => ?_))))
  cases r with
  | none => exact wpAny_pure h1
  | some v =>
    refine wpAny_bind (thnF h1 (fun _ s1' h1' => ?_))
    refine wpAny_bind (thnF h1' (fun _ s2 h2 => wpAny_bind (thnF h2 (fun ok s3 h3 => ?_))))
    cases ok with
    | false => exact wpAny_pure ⟨rfl, h3⟩
    | true => exact wpAny_bind (wpAny_bind (thnF h3 (fun x s4 h4 => wpAny_bind (thnF h4 (fun _ s5 h5 => wpAny_pure (wpAny_pure ⟨rfl, h5⟩))))))
/-- a clause's start, behind the first -/
theorem start3 {d : Nat} {it : Value} {R : Result → Shared → Prop} {s : Shared} (hd : d = 1 ∨ d = 2) (h0 : codeAny (model prog w) A (.compLoop (cE3 elt t0 i0 f0 t1 i1 f1 t2 i2 f2 scope pos) d it acc env) R s)
    (h : ∀ Q E, Q it s → wpAny (model prog w) A (pyIter it) Q E s) :
    codeAny (model prog w) A (.compStart (cE3 elt t0 i0 f0 t1 i1 f1 t2 i2 f2 scope pos) d it acc env) R s := by
  refine codeAny_of_tree ?_
  show wpAny _ _ ((compStart (cE3 elt t0 i0 f0 t1 i1 f1 t2 i2 f2 scope pos) d it acc env).onRaise (fun x => do noteFrame x env; standAt theWindowsPlace)) _ _ s
  refine wpAny_notedAt ?_
  unfold compStart
  rcases hd with rfl | rfl
  all_goals
    show wpAny _ _ (ask >>= _) _ _ s
    refine wpAny_bind (wpAny_askSetting (wpAny_ite ?_))
    split
    · first
        | exact wpAny_bind (wpAny_pure (wpAny_pure (And.intro rfl h0)))
        | exact wpAny_pure (And.intro rfl h0)
    · first
        | exact wpAny_bind (wpAny_rule (wpAny_bind (wpAny_standAt (wpAny_bind (h _ _ (wpAny_pure (And.intro rfl h0)))))))
        | (refine wpAny_bind (wpAny_rule ?_); first | (show wpAny _ _ (standAt i1.pos >>= _) _ _ s; exact wpAny_bind (wpAny_standAt (wpAny_bind (h _ _ (wpAny_pure (And.intro rfl h0)))))) | (show wpAny _ _ (standAt i2.pos >>= _) _ _ s; exact wpAny_bind (wpAny_standAt (wpAny_bind (h _ _ (wpAny_pure (And.intro rfl h0)))))))
end
/-! ### a clause's turn, from any slots; the names vs may be forgotten -/
def BdOk (Y : Cx) (go : Shared → (Shared → Prop) → Prop) (B : L2.St → Hp → (Hp → Prop) → Prop) (vs : List Nat) : Prop :=
  ∀ (pins : List (Addr × Obj)) (s : Shared) (σ : L2.St) (H : Hp) (Nx : Hp → Prop) (K : Shared → Prop), L2.Inv Y pins σ H s → B σ H Nx →
    (∀ σ9 H' s', L2.Inv Y pins σ9 H' s' → σ9.length = σ.length → (∀ (j : Nat) v, j ∉ vs → σ[j]? = some (some v) → σ9[j]? = some (some v)) → Nx H' → K s') → go s K
def tCl (wi : TI) (g : TG) (tt : TT) (vs : List Nat) (B : L2.St → Hp → (Hp → Prop) → Prop) : L2.St → Hp → (Hp → Prop) → Prop := fun σ H Nx => wi σ H fun J H1 => ∃ W : Nat → Nat → Hp → Prop, (∃ m, W 0 m H1) ∧ ∀ j k H, W j k H →
  (J.stop j H ∧ Nx H) ∨ (J.go j H ∧ ∃ Nx1 : Hp → Prop, (∀ H', Nx1 H' → ∃ k', k' < k ∧ W (j + 1) k' H') ∧ ∀ x H', J.yld j H x H' → g x (wipe σ vs) H' fun σ3 H5 => wipe σ3 vs = wipe σ vs ∧ tt σ3 H5 fun b H6 => if b = true then B σ3 H6 Nx1 else Nx1 H6)
def tApp (te : TE) (D : Addr) : L2.St → Hp → (Hp → Prop) → Prop := fun σ H Nx => te σ H fun y H7 => ∃ acc, H7 D = some (.lst acc) ∧ acc.length < sizeLine ∧ Nx (upd H7 D (.lst (acc ++ [y])))
section
variable {Y : Cx} {elt tg iter t0 i0 t1 i1 t2 i2 : Expr} {ifs f0 f1 f2 : List Expr} {scope : Scope} {pos : Pos} {acc : Value} {wi : TI} {g : TG} {tt : TT} {te : TE}
theorem bd_app {D : Addr} (hx : Y.xe = fun _ _ => False) (he : PE Y elt te) : BdOk Y (goesE Y.prog Y.w Y.A elt (.ref D) Y.env) (tApp te D) [] := by
  intro pins s σ H Nx K I h hK
  have h0 := he.run pins s σ H _ I h
  rw [hx] at h0
  refine thnF h0 fun z s17 ⟨yv, H17, I17, r17, acc, hD17, hz17, nx⟩ => ?_
  exact app_ok (X := Y) I17 hD17 hz17 r17 fun s18 I18 => hK σ _ s18 I18 rfl (fun _ _ _ e => e) nx
theorem bd_cl {go : Shared → (Shared → Prop) → Prop} {B : L2.St → Hp → (Hp → Prop) → Prop} {vs vs' : List Nat} {d : Nat} (hc : Y.calm = true) (hx : Y.xe = fun _ _ => False) (hd : d = 1 ∨ d = 2)
    (rule : LpRule Y.prog Y.w Y.A (cE3 elt t0 i0 f0 t1 i1 f1 t2 i2 f2 scope pos) d tg ifs acc Y.env go) (hi : PI Y tg iter wi) (hg : PG Y tg g) (ht : PTs Y ifs tt) (hB : BdOk Y go B vs') (hsub : ∀ i ∈ vs', i ∈ vs) :
    BdOk Y (goesB Y.prog Y.w Y.A (cE3 elt t0 i0 f0 t1 i1 f1 t2 i2 f2 scope pos) d iter acc Y.env) (tCl wi g tt vs B) vs := by
  intro pins s σ H Nx K I h hK
  have h0 := hi.run pins s σ H _ I h
  rw [hx] at h0
  refine thnF h0 fun xv s10 hx' => thnF hx' fun itv s11 h11 => ?_
  obtain ⟨it1, fp1, tn1, J1, H11, e1, I11, T1, st11, f11, W1, ⟨m1, w1⟩, turn1⟩ := h11
  subst e1
  have stat : ∀ {H' : Hp}, (∀ b ∈ fp1, H' b = none) → ∀ b ∈ fp1, FpOk Y pins H' b := fun hn b hb => ⟨hn b hb, (f11 b hb).2⟩
  have loop1 : codeAny (model Y.prog Y.w) Y.A (.compLoop (cE3 elt t0 i0 f0 t1 i1 f1 t2 i2 f2 scope pos) d (.ref it1) acc Y.env) (okK K) s11 := by
    refine rule _ _ (fun k s' => ∃ j H', L2.Inv Y pins (wipe σ vs) H' s' ∧ tn1 j s'.heap ∧ (∀ b ∈ fp1, H' b = none) ∧ W1 j k H') ?_ m1 s11 ⟨0, H11, I11.weak (wipe_length _ _) (fun j v e => (wipe_some e).1), st11, fun b hb => (f11 b hb).1, w1⟩
    rintro k s12 ⟨j, H12, I12, st12, n12, w12⟩
    rcases turn1 j k H12 w12 with ⟨stop1, nx1⟩ | ⟨go1, Nx1, hNx1, step1⟩
    · refine thnF (T1.done Y rfl rfl rfl hc j _ s12 (wipe σ vs) H12 (fun _ _ => False) I12 (stat n12) st12 stop1) fun r s13 ⟨hr, I13⟩ => ?_
      subst hr
      exact hK _ _ _ I13 (wipe_length σ vs) (fun j v hj e => by rw [wipe_out hj]; exact e) nx1
    · refine thnF (T1.item Y rfl rfl rfl hc j _ s12 (wipe σ vs) H12 (fun _ _ => False) I12 (stat n12) st12 go1) fun r s13 ⟨u1, hr, h13⟩ => ?_
      subst hr
      refine thnF h13 fun _ s14 ⟨x1, H14, I14, r14, y14, st14, n14⟩ => ?_
      have I14' := I14.pinned (stat n14) (T1.obj _ _ st14)
      have hg0 := hg.run _ s14 (wipe σ vs) H14 x1 u1 _ I14' r14 (step1 x1 H14 y14)
      rw [hx] at hg0
      refine thnF hg0 fun _ s15 ⟨σ15, H15, I15, hw15, q15⟩ => ?_
      have ht0 := ht.run _ s15 σ15 H15 _ I15 q15
      rw [hx] at ht0
      refine thnF ht0 fun b1 s16 ⟨H16, I16, q16⟩ => ?_
      have fin1 : ∀ {σ9 : L2.St} {s' : Shared} {H' : Hp}, L2.Inv Y (pins ++ pinsAt fp1 s14.heap) σ9 H' s' → σ9.length = σ15.length → (∀ (j : Nat) v, j ∉ vs' → σ15[j]? = some (some v) → σ9[j]? = some (some v)) → Nx1 H' →
          ∃ m, m < k ∧ ∃ j H', L2.Inv Y pins (wipe σ vs) H' s' ∧ tn1 j s'.heap ∧ (∀ b ∈ fp1, H' b = none) ∧ W1 j m H' := fun {σ9 s' H'} I' hl hk nx => by
        obtain ⟨m', hm, w'⟩ := hNx1 H' nx
        have pin' : ∀ b ∈ fp1, ∀ o, s14.heap.get? b = some o → s'.heap.get? b = some o ∧ H' b = none := fun b hb o e =>
          let z := I'.pin (b, o) (List.mem_append_right _ (List.mem_append_right _ (mem_pinsAt hb e)))
          ⟨z.1, z.2.1⟩
        refine ⟨m', hm, j + 1, H', I'.unpinned.weak (by rw [← hw15, wipe_length, hl]) (fun j v e => ?_), T1.keep _ _ _ st14 fun b hb o e => (pin' b hb o e).1, fun b hb => ?_, w'⟩
        · rw [← hw15] at e
          obtain ⟨e1, e2⟩ := wipe_some e
          exact hk j v (fun z => e2 (hsub j z)) e1
        · obtain ⟨o, e, _⟩ := T1.obj _ _ st14 b hb
          exact (pin' b hb o e).2
      cases b1 with
      | false =>
        simp only [Bool.false_eq_true, if_false] at q16 ⊢
        exact fin1 I16 rfl (fun _ _ _ e => e) q16
      | true =>
        simp only [if_true] at q16 ⊢
        exact hB _ s16 σ15 H16 Nx1 _ I16 q16 fun σ9 H' s' I' hl hk nx => fin1 I' hl hk nx
  exact start3 hd loop1 fun Q E hq => T1.self Y.A 0 _ Q E st11 hq
end
/-! ### the whole -/
def tLc3 (wi : TI) (g : TG) (tt : TT) (wi1 : TI) (g1 : TG) (tt1 : TT) (wi2 : TI) (g2 : TG) (tt2 : TT) (te : TE) (vs vs1 vs2 : List Nat) : TE := fun σ H Q => wi σ H fun J H1 => ∀ D, H1 D = none → ∃ W : Nat → Nat → Hp → Prop, (∃ m, W 0 m (upd H1 D (.lst []))) ∧ ∀ i m H, W i m H →
  (J.stop i H ∧ Q (.ref D) H) ∨ (J.go i H ∧ ∃ Nx : Hp → Prop, (∀ H', Nx H' → ∃ m', m' < m ∧ W (i + 1) m' H') ∧ ∀ x H', J.yld i H x H' → g x (wipe σ vs) H' fun σ2 H2 => wipe σ2 vs = wipe σ vs ∧ tt σ2 H2 fun b H3 =>
    if b = true then tCl wi1 g1 tt1 vs1 (tCl wi2 g2 tt2 vs2 (tApp te D)) σ2 H3 Nx else Nx H3)
section
variable {X : Cx}
theorem lc3_core {pins : List (Addr × Obj)} {s : Shared} {σ : L2.St} {H : Hp} {Q : VK} {elt tg iter tg1 iter1 tg2 iter2 : Expr} {ifs ifs1 ifs2 : List Expr} {scope : Scope} {own : List (Str × Nat)} {vs1 vs2 : List Nat} {pos pos' : Pos} {wi wi1 wi2 : TI} {g g1 g2 : TG} {tt tt1 tt2 : TT} {te : TE} {use : Option (Value → Sem Unit)} {Qf : Value → Shared → Prop}
    (hc : X.calm = true) (hN : X.N.Nodup) (I : L2.Inv X pins σ H s) (hi : PI X tg iter wi) (ok : BlkOk X.N X.env.scope scope own) (hv : ∀ i ∈ vs1, i ∈ own.map (·.2)) (hv2 : ∀ i ∈ vs2, i ∈ vs1)
    (hg : ∀ (s : Shared) (H : Hp) (C : Addr) (cl : List (Str × Addr)) (fp : List Addr), PG (X.blk s H scope (compEnvC scope cl C X.env) fp) tg g) (ht : ∀ (s : Shared) (H : Hp) (C : Addr) (cl : List (Str × Addr)) (fp : List Addr), PTs (X.blk s H scope (compEnvC scope cl C X.env) fp) ifs tt)
    (he : ∀ (s : Shared) (H : Hp) (C : Addr) (cl : List (Str × Addr)) (fp : List Addr), PE (X.blk s H scope (compEnvC scope cl C X.env) fp) elt te) (hs : ∀ x, foldedSetIterable iter X.env x = pure x)
    (hi1 : ∀ (s : Shared) (H : Hp) (C : Addr) (cl : List (Str × Addr)) (fp : List Addr), PI (X.blk s H scope (compEnvC scope cl C X.env) fp) tg1 iter1 wi1)
    (hg1 : ∀ (s : Shared) (H : Hp) (C : Addr) (cl : List (Str × Addr)) (fp : List Addr), PG (X.blk s H scope (compEnvC scope cl C X.env) fp) tg1 g1)
    (ht1 : ∀ (s : Shared) (H : Hp) (C : Addr) (cl : List (Str × Addr)) (fp : List Addr), PTs (X.blk s H scope (compEnvC scope cl C X.env) fp) ifs1 tt1)
    (hi2 : ∀ (s : Shared) (H : Hp) (C : Addr) (cl : List (Str × Addr)) (fp : List Addr), PI (X.blk s H scope (compEnvC scope cl C X.env) fp) tg2 iter2 wi2)
    (hg2 : ∀ (s : Shared) (H : Hp) (C : Addr) (cl : List (Str × Addr)) (fp : List Addr), PG (X.blk s H scope (compEnvC scope cl C X.env) fp) tg2 g2)
    (ht2 : ∀ (s : Shared) (H : Hp) (C : Addr) (cl : List (Str × Addr)) (fp : List Addr), PTs (X.blk s H scope (compEnvC scope cl C X.env) fp) ifs2 tt2)
    (hs1 : ∀ env x, foldedSetIterable iter1 env x = pure x) (hs2 : ∀ env x, foldedSetIterable iter2 env x = pure x)
    (h : tLc3 wi g tt wi1 g1 tt1 wi2 g2 tt2 te (own.map (·.2)) vs1 vs2 σ H Q)
    (hRR : ∀ D C s' m H', L2.Inv X pins σ H' s' → Q (.ref D) H' → s'.heap.Ns C m → FpOk X pins H' C → compPost (model X.prog X.w) X.A X.xe use Qf (.ref D) C (.ok .next) s') :
    wpAny (model X.prog X.w) X.A (comprehension (cE3 elt tg iter ifs tg1 iter1 ifs1 tg2 iter2 ifs2 scope pos) scope X.env pos' (newList []) false (eval iter X.env) use) Qf X.xe s := by
  have hfree : ∀ y ∈ scope.names, y.2 = .free → ∃ c, X.env.cells.lookup y.1 = some c := fun y hy e => by
    rcases ok.free y hy e with k | k
    · exact I.ok.has _ (.inl k)
    · exact I.ok.has _ (.inr k)
  refine wpAny_comprehension_free (use := use) rfl hs (closure_ok hfree) ok.kind (fun y hy e => by rw [ok.uniq y hy, e])
    (thn (hi.run pins s σ H _ I h) fun xv s1 hx => thn hx fun itv s2 h2 => ?_)
  obtain ⟨it, fp, tn, J, H2, e, I2, T, st2, f2, q⟩ := h2
  subst e
  refine wpAny_newObj_type (newEnv_comp ?_) (by show 0 ≤ sizeLine; decide)
  generalize hD : s2.heap.objs.size = D
  have hDn : H2 D = none := I2.hok.fresh (Nat.le_of_eq hD)
  obtain ⟨W, ⟨m0, w0⟩, turn⟩ := q D hDn
  generalize hs3 : ({ s2 with heap := s2.heap.push { cls := .type "list", data := .seq ([] : List Value).toArray } } : Shared) = s3
  have I3 : L2.Inv X pins σ (upd H2 D (.lst [])) s3 := by
    rw [← hs3]
    refine I2.laid (t' := s2.toks) (fun b o e => Heap.get?_push_of_some _ e) (Nat.le_of_eq hD) ⟨Nat.zero_le _, [], 0, .nil, ?_⟩
    rw [← hD]
    exact Heap.get?_push_size _ rfl
  have h3 : s3.heap = s2.heap.push { cls := .type "list", data := .seq ([] : List Value).toArray } := by rw [← hs3]
  have sz : ∀ b ∈ fp, b < s2.heap.objs.size := fun b hb => by
    obtain ⟨o, e, _⟩ := T.obj _ _ st2 b hb
    exact Heap.lt_size e
  have f3 : ∀ b ∈ fp, FpOk X pins (upd H2 D (.lst [])) b ∧ b < s3.heap.objs.size := fun b hb => by
    have hlt := sz b hb
    refine ⟨⟨?_, (f2 b hb).2⟩, by rw [h3, Heap.size_push]; exact Nat.lt_succ_of_lt hlt⟩
    rw [upd_ne (by rw [← hD]; exact Nat.ne_of_lt hlt)]
    exact (f2 b hb).1
  have st3 : tn 0 s3.heap := T.keep _ _ _ st2 fun b _ o e => by rw [h3]; exact Heap.get?_push_of_some _ e
  have I4 := block_start I3 ok hN f3
  have pg := hg s3 (upd H2 D (.lst [])) s3.heap.objs.size (cellsFrom (s3.heap.objs.size + 1) scope.names (cloFrom X.env.cells scope.names [])) fp
  have pt := ht s3 (upd H2 D (.lst [])) s3.heap.objs.size (cellsFrom (s3.heap.objs.size + 1) scope.names (cloFrom X.env.cells scope.names [])) fp
  have pe := he s3 (upd H2 D (.lst [])) s3.heap.objs.size (cellsFrom (s3.heap.objs.size + 1) scope.names (cloFrom X.env.cells scope.names [])) fp
  have pi1 := hi1 s3 (upd H2 D (.lst [])) s3.heap.objs.size (cellsFrom (s3.heap.objs.size + 1) scope.names (cloFrom X.env.cells scope.names [])) fp
  have pg1 := hg1 s3 (upd H2 D (.lst [])) s3.heap.objs.size (cellsFrom (s3.heap.objs.size + 1) scope.names (cloFrom X.env.cells scope.names [])) fp
  have pt1 := ht1 s3 (upd H2 D (.lst [])) s3.heap.objs.size (cellsFrom (s3.heap.objs.size + 1) scope.names (cloFrom X.env.cells scope.names [])) fp
  have pi2 := hi2 s3 (upd H2 D (.lst [])) s3.heap.objs.size (cellsFrom (s3.heap.objs.size + 1) scope.names (cloFrom X.env.cells scope.names [])) fp
  have pg2 := hg2 s3 (upd H2 D (.lst [])) s3.heap.objs.size (cellsFrom (s3.heap.objs.size + 1) scope.names (cloFrom X.env.cells scope.names [])) fp
  have pt2 := ht2 s3 (upd H2 D (.lst [])) s3.heap.objs.size (cellsFrom (s3.heap.objs.size + 1) scope.names (cloFrom X.env.cells scope.names [])) fp
  show codeAny _ _ (.compStart (cE3 elt tg iter ifs tg1 iter1 ifs1 tg2 iter2 ifs2 scope pos) 0 (.ref it) (.ref D) (compEnvC scope (cellsFrom (s3.heap.objs.size + 1) scope.names (cloFrom X.env.cells scope.names [])) s3.heap.objs.size X.env)) (compPost (model X.prog X.w) X.A X.xe use Qf (.ref D) s3.heap.objs.size) { s3 with heap := pushCells (s3.heap.push { cls := .type "dict", data := .dict #[] }) scope.names }
  have nfp : ∀ b ∈ fp, (upd H2 D (.lst [])) b = none := fun b hb => (f3 b hb).1.1
  generalize hce : compEnvC scope (cellsFrom (s3.heap.objs.size + 1) scope.names (cloFrom X.env.cells scope.names [])) s3.heap.objs.size X.env = ce at I4 pg pt pe pi1 pg1 pt1 pi2 pg2 pt2 ⊢
  have cL : ce.locals = s3.heap.objs.size := by subst hce; rfl
  generalize hH3 : upd H2 D (.lst []) = H3 at I3 I4 pg pt pe pi1 pg1 pt1 pi2 pg2 pt2 w0 nfp f3
  generalize hs4 : ({ s3 with heap := pushCells (s3.heap.push { cls := .type "dict", data := .dict #[] }) scope.names } : Shared) = s4 at I4 ⊢
  have st4 : tn 0 s4.heap := T.keep _ _ _ st3 fun b _ o e => by rw [← hs4]; exact pushCells_keeps _ _ _ _ (Heap.get?_push_of_some _ e)
  have stat : ∀ {σ' : L2.St} {H' : Hp} {s' : Shared}, L2.Inv (X.blk s3 H3 scope ce fp) [] σ' H' s' → (∀ b ∈ fp, H' b = none) → ∀ b ∈ fp, FpOk (X.blk s3 H3 scope ce fp) [] H' b := fun {σ' H' s'} I' hn b hb =>
    ⟨hn b hb, (I'.ok.exf b hb).1, I'.ok.exfs b hb, .inl hb, fun x c e => (I'.ok.exf b hb).2 x c e, fun p hp => absurd (show p ∈ ([] : List (Addr × Obj)) ++ [] from hp) (by simp)⟩
  have b2 : BdOk (X.blk s3 H3 scope ce fp) _ (tApp te D) [] := bd_app (D := D) rfl pe
  have b1 := bd_cl (Y := X.blk s3 H3 scope ce fp) (vs := vs2) hc rfl (.inr rfl) (lpE (it0 := iter2) fun it => turn3_2 (elt := elt) (t0 := tg) (i0 := iter) (f0 := ifs) (t1 := tg1) (i1 := iter1) (f1 := ifs1) (t2 := tg2) (i2 := iter2) (f2 := ifs2) (scope := scope) (pos := pos) it) pi2 pg2 pt2 b2 (fun _ h => by cases h)
  have b0 := bd_cl (Y := X.blk s3 H3 scope ce fp) (vs := vs1) hc rfl (.inl rfl) (lpB (it0 := iter1) (iB := iter2) (fun it => turn3_1 (elt := elt) (t0 := tg) (i0 := iter) (f0 := ifs) (t1 := tg1) (i1 := iter1) (f1 := ifs1) (t2 := tg2) (i2 := iter2) (f2 := ifs2) (scope := scope) (pos := pos) it) (hs2 _)) pi1 pg1 pt1 b1 hv2
  have loop : codeAny (model X.prog X.w) X.A (.compLoop (cE3 elt tg iter ifs tg1 iter1 ifs1 tg2 iter2 ifs2 scope pos) 0 (.ref it) (.ref D) ce) (compPost (model X.prog X.w) X.A X.xe use Qf (.ref D) s3.heap.objs.size) s4 := by
    refine (lpB (it0 := iter) (iB := iter1) (fun it => turn3_0 (elt := elt) (t0 := tg) (i0 := iter) (f0 := ifs) (t1 := tg1) (i1 := iter1) (f1 := ifs1) (t2 := tg2) (i2 := iter2) (f2 := ifs2) (scope := scope) (pos := pos) it) (hs1 ce)) (.ref it) _ (fun n s' => ∃ i H', L2.Inv (X.blk s3 H3 scope ce fp) [] (wipe σ (own.map (·.2))) H' s' ∧ tn i s'.heap ∧ (∀ b ∈ fp, H' b = none) ∧ W i n H') ?_ m0 s4 ⟨0, H3, I4, st4, nfp, w0⟩
    rintro n s5 ⟨i, H5, I5, st5, n5, w5⟩
    rcases turn i n H5 w5 with ⟨stop, qq⟩ | ⟨go, Nx, hNx, step⟩
    · have td := T.done (X.blk s3 H3 scope ce fp) rfl rfl rfl hc i [] s5 _ H5 (fun _ _ => False) I5 (stat I5 n5) st5 stop
      refine thnF td fun r s6 ⟨hr, I6⟩ => ?_
      subst hr
      have I7 : L2.Inv X pins σ H5 s6 := I3.call' (ch := fp) I6.os I6.base I6.hok I6.bare fun b hb => ⟨(f3 b hb).1.2.2.2.1, (f3 b hb).1.2.1, (f3 b hb).1.2.2.2.2.1, (f3 b hb).1.2.2.2.2.2⟩
      have nC : H5 s3.heap.objs.size = none := by
        have z : H5 ce.locals = none := I6.free
        rw [cL] at z
        exact z
      obtain ⟨m, hn, _⟩ := I6.loc
      have hn : s6.heap.Ns ce.locals m := hn
      rw [cL] at hn
      exact hRR D s3.heap.objs.size s6 m H5 I7 qq hn (I3.fpOk (Nat.le_refl _) nC)
    · have ti := T.item (X.blk s3 H3 scope ce fp) rfl rfl rfl hc i [] s5 _ H5 (fun _ _ => False) I5 (stat I5 n5) st5 go
      refine thnF ti fun r s6 ⟨u, hr, h6⟩ => ?_
      subst hr
      refine thnF h6 fun _ s7 ⟨x, H7, I7, r7, y7, st7, n7⟩ => ?_
      have I7' := I7.pinned (stat I7 n7) (T.obj _ _ st7)
      refine thnF (pg.run _ s7 _ H7 x u _ I7' r7 (step x H7 y7)) fun _ s8 ⟨σ8, H8, I8, hw8, q8⟩ => ?_
      refine thnF (pt.run _ s8 σ8 H8 _ I8 q8) fun b s9 ⟨H9, I9, q9⟩ => ?_
      have fin : ∀ {σ9 : L2.St} {s' : Shared} {H' : Hp}, L2.Inv (X.blk s3 H3 scope ce fp) ([] ++ pinsAt fp s7.heap) σ9 H' s' → σ9.length = σ8.length → (∀ (j : Nat) v, j ∉ vs1 → σ8[j]? = some (some v) → σ9[j]? = some (some v)) → Nx H' →
          ∃ m, m < n ∧ ∃ i H', L2.Inv (X.blk s3 H3 scope ce fp) [] (wipe σ (own.map (·.2))) H' s' ∧ tn i s'.heap ∧ (∀ b ∈ fp, H' b = none) ∧ W i m H' := fun {σ9 s' H'} I' hl hk nx => by
        obtain ⟨m', hm, w'⟩ := hNx H' nx
        have pin' : ∀ b ∈ fp, ∀ o, s7.heap.get? b = some o → s'.heap.get? b = some o ∧ H' b = none := fun b hb o e =>
          let z := I'.pin (b, o) (List.mem_append_right _ (List.mem_append_right _ (mem_pinsAt hb e)))
          ⟨z.1, z.2.1⟩
        refine ⟨m', hm, i + 1, H', (I'.unpinned (pins := [])).weak (by rw [← hw8, wipe_length, hl]) (fun j v e => ?_), T.keep _ _ _ st7 fun b hb o e => (pin' b hb o e).1, fun b hb => ?_, w'⟩
        · rw [← hw8] at e
          obtain ⟨e1, e2⟩ := wipe_some e
          exact hk j v (fun z => e2 (hv j z)) e1
        · obtain ⟨o, e, _⟩ := T.obj _ _ st7 b hb
          exact (pin' b hb o e).2
      cases b with
      | false =>
        simp only [Bool.false_eq_true, if_false] at q9 ⊢
        exact fin I9 rfl (fun _ _ _ e => e) q9
      | true =>
        simp only [if_true] at q9 ⊢
        exact b0 _ s9 σ8 H9 Nx _ I9 q9 fun σ9 H' s' I' hl hk nx => fin I' hl hk nx
  exact codeAny_compStart_list loop (T.self X.A 0 _ _ _ st4 loop)
end
/-! ### by values -/
def lcGB (b : D → Nv → R Nv) (t : Nv → R Bool) (mm : Nv → R (List D)) (ε : Nv) : List D → R (List D)
  | [] => .ok []
  | d :: ds => (b d ε).bind fun ε1 => (t ε1).bind fun k => if k then (mm ε1).bind fun y => (lcGB b t mm ε ds).bind fun ys => .ok (y ++ ys) else lcGB b t mm ε ds
def lcG3 (g : D → Nv → R Nv) (t : Nv → R Bool) (mi1 : Nv → R (List D)) (g1 : D → Nv → R Nv) (t1 : Nv → R Bool) (mi2 : Nv → R (List D)) (g2 : D → Nv → R Nv) (t2 : Nv → R Bool) (e : Nv → R D) (vs1 vs2 : List Nat) (ε : Nv) : List D → R (List D)
  | [] => .ok []
  | d :: ds => (g d ε).bind fun ε1 => (t ε1).bind fun k => if k then (mi1 ε1).bind fun es => (lcG2 g1 t1 mi2 g2 t2 e vs2 (wipeE ε1 vs1) es).bind fun y => (lcG3 g t mi1 g1 t1 mi2 g2 t2 e vs1 vs2 ε ds).bind fun ys => .ok (y ++ ys) else lcG3 g t mi1 g1 t1 mi2 g2 t2 e vs1 vs2 ε ds
def xLc3 (vs vs1 vs2 : List Nat) (mi : Nv → R (List D)) (g : D → Nv → R Nv) (t : Nv → R Bool) (mi1 : Nv → R (List D)) (g1 : D → Nv → R Nv) (t1 : Nv → R Bool) (mi2 : Nv → R (List D)) (g2 : D → Nv → R Nv) (t2 : Nv → R Bool) (e : Nv → R D) : Nv → R D := fun ε => (mi ε).bind fun ds => (lcG3 g t mi1 g1 t1 mi2 g2 t2 e vs1 vs2 (wipeE ε vs) ds).bind fun ys => if ys.length ≤ lim then .ok (.list ys) else .bad
/-- one element -/
def mm1 (e : Nv → R D) : Nv → R (List D) := fun ε => (e ε).bind fun y => .ok [y]
/-- a clause below -/
def mmC (mi : Nv → R (List D)) (b : D → Nv → R Nv) (t : Nv → R Bool) (vs : List Nat) (mm : Nv → R (List D)) : Nv → R (List D) := fun ε => (mi ε).bind fun es => lcGB b t mm (wipeE ε vs) es
theorem bind_assoc' {α β γ : Type} (a : R α) (f : α → R β) (k : β → R γ) : (a.bind f).bind k = a.bind fun x => (f x).bind k := by cases a <;> rfl
theorem bind_ext {α β : Type} {a : R α} {f k : α → R β} (h : ∀ x, f x = k x) : a.bind f = a.bind k := by
  cases a
  · exact h _
  · rfl
  · rfl
theorem lcGB_1 (g : D → Nv → R Nv) (t : Nv → R Bool) (e : Nv → R D) (ε : Nv) : ∀ ds : List D, lcGB g t (mm1 e) ε ds = lcG g t e ε ds
  | [] => rfl
  | d :: ds => by
    unfold lcGB lcG
    refine bind_ext fun ε1 => bind_ext fun k => ?_
    cases k
    · exact lcGB_1 g t e ε ds
    · show ((mm1 e ε1).bind _) = _
      rw [if_pos rfl, lcGB_1 g t e ε ds]
      unfold mm1
      rw [bind_assoc']
      rfl
theorem lcGB_2 (g : D → Nv → R Nv) (t : Nv → R Bool) (mi1 : Nv → R (List D)) (g1 : D → Nv → R Nv) (t1 : Nv → R Bool) (e : Nv → R D) (vs1 : List Nat) (ε : Nv) : ∀ ds : List D, lcGB g t (mmC mi1 g1 t1 vs1 (mm1 e)) ε ds = lcG2 g t mi1 g1 t1 e vs1 ε ds
  | [] => rfl
  | d :: ds => by
    unfold lcGB lcG2
    refine bind_ext fun ε1 => bind_ext fun k => ?_
    cases k
    · exact lcGB_2 g t mi1 g1 t1 e vs1 ε ds
    · rw [if_pos rfl, if_pos rfl]
      unfold mmC
      rw [bind_assoc']
      refine bind_ext fun es => ?_
      rw [lcGB_1]
      show _ = (lcG g1 t1 e (wipeE ε1 vs1) es).bind _
      refine bind_ext fun y => ?_
      exact congrArg (fun z => R.bind z _) (lcGB_2 g t mi1 g1 t1 e vs1 ε ds)
theorem lcGB_3 (g : D → Nv → R Nv) (t : Nv → R Bool) (mi1 : Nv → R (List D)) (g1 : D → Nv → R Nv) (t1 : Nv → R Bool) (mi2 : Nv → R (List D)) (g2 : D → Nv → R Nv) (t2 : Nv → R Bool) (e : Nv → R D) (vs1 vs2 : List Nat) (ε : Nv) : ∀ ds : List D, lcGB g t (mmC mi1 g1 t1 vs1 (mmC mi2 g2 t2 vs2 (mm1 e))) ε ds = lcG3 g t mi1 g1 t1 mi2 g2 t2 e vs1 vs2 ε ds
  | [] => rfl
  | d :: ds => by
    unfold lcGB lcG3
    refine bind_ext fun ε1 => bind_ext fun k => ?_
    cases k
    · exact lcGB_3 g t mi1 g1 t1 mi2 g2 t2 e vs1 vs2 ε ds
    · rw [if_pos rfl, if_pos rfl]
      rw [show mmC mi1 g1 t1 vs1 (mmC mi2 g2 t2 vs2 (mm1 e)) ε1 = (mi1 ε1).bind fun es => lcGB g1 t1 (mmC mi2 g2 t2 vs2 (mm1 e)) (wipeE ε1 vs1) es from rfl, bind_assoc']
      refine bind_ext fun es => ?_
      rw [lcGB_2]
      refine bind_ext fun y => ?_
      exact congrArg (fun z => R.bind z _) (lcGB_3 g t mi1 g1 t1 mi2 g2 t2 e vs1 vs2 ε ds)
section
variable {c : Cf}
/-- the new list's items so far -/
def Acc (c : Cf) (Dn : Addr) (M : List Addr) (zs : List D) (H : Hp) : Prop := ∃ vs, H Dn = some (.lst vs) ∧ AtL c.K (hid (Dn :: M) H) zs vs
def NoD (Dn : Addr) (σ : L2.St) (ε : Nv) : Prop := ∀ j f, gt ε j = .mu f → σ[j]? ≠ some (some (.ref Dn))
/-- from one heap to another one, the new list apart -/
structure Stp (c : Cf) (Dn : Addr) (M : List Addr) (H H' : Hp) : Prop where
  hd : Ex (hid (Dn :: M) H) (hid (Dn :: M) H')
  rel : ∀ σ ε, Rel c σ H ε (Dn :: M) → NoD Dn σ ε → Rel c σ H' ε (Dn :: M)
  old : ∀ H1 : Hp, H1 Dn = none → Ex H1 H → Ex H1 H'
variable {Dn : Addr} {M : List Addr} {H H' H'' : Hp}
theorem Stp.refl : Stp c Dn M H H := ⟨Evl.Ex.refl _, fun _ _ r _ => r, fun _ _ e => e⟩
theorem Stp.trans (a : Stp c Dn M H H') (b : Stp c Dn M H' H'') : Stp c Dn M H H'' := ⟨Evl.Ex.trans a.hd b.hd, fun σ ε r n => b.rel σ ε (a.rel σ ε r n) n, fun H1 n e => b.old H1 n (a.old H1 n e)⟩
theorem Stp.ex (e : Ex H H') : Stp c Dn M H H' := ⟨hid_ex e, fun _ _ r _ => r.ex e, fun _ _ z => Evl.Ex.trans z e⟩
theorem Stp.upd {o : HO} (n0 : c.H0 Dn = none) : Stp c Dn M H (L2.upd H Dn o) :=
  ⟨by rw [hid_upd List.mem_cons_self]; exact Evl.Ex.refl _, fun σ ε r n => r.updD List.mem_cons_self n0 n, fun H1 n e => Evl.Ex.mut e n⟩
theorem Acc.ex {zs : List D} (a : Acc c Dn M zs H) (e : Ex H H') : Acc c Dn M zs H' := by
  obtain ⟨vs, h1, h2⟩ := a
  exact ⟨vs, e Dn _ h1, AtL.mono (hid_ex e) _ _ h2⟩
theorem NoD.wipe {σ : L2.St} {ε : Nv} (n : NoD Dn σ ε) (vs : List Nat) : NoD Dn (wipe σ vs) (wipeE ε vs) := fun j f h z => by
  obtain ⟨h1, h2⟩ := muK_wipe σ ε vs j f h
  exact n j f h1 (by rw [← h2]; exact z)
theorem NoD.muK {σ σ' : L2.St} {ε ε' : Nv} (n : NoD Dn σ ε) (k : MuK σ ε σ' ε') : NoD Dn σ' ε' := fun j f h z => by
  obtain ⟨h1, h2⟩ := k j f h
  exact n j f h1 (by rw [← h2]; exact z)
/-- a clause's turn adds what mm says -/
def RdB (c : Cf) (Dn : Addr) (M : List Addr) (B : L2.St → Hp → (Hp → Prop) → Prop) (mm : Nv → R (List D)) : Prop := ∀ (σ : L2.St) (ε : Nv) (H : Hp) (zs ys : List D) (Nx : Hp → Prop), Rel c σ H ε (Dn :: M) → NoD Dn σ ε → Acc c Dn M zs H → mm ε = .ok ys → (zs ++ ys).length ≤ lim →
  (∀ H', Stp c Dn M H H' → Acc c Dn M (zs ++ ys) H' → Nx H') → B σ H Nx
theorem rdb_app {e : Nv → R D} (n0 : c.H0 Dn = none) : RdB c Dn M (tApp (rdE c e) Dn) (mm1 e) := fun σ ε H zs ys Nx r n a hm hz k => by
  obtain ⟨y, h1, h2⟩ := R.bind_ok hm
  cases h2
  refine ⟨ε, Dn :: M, r, y, h1, fun v H1 e1 hv => ?_⟩
  obtain ⟨vs, g1, g2⟩ := a.ex e1
  refine ⟨vs, g1, ?_, ?_⟩
  · rw [atL_len g2]
    exact lim_lt (by simp only [List.length_append, List.length_cons, List.length_nil] at hz; omega)
  · refine k _ ((Stp.ex e1).trans (Stp.upd n0)) ⟨_, upd_same, ?_⟩
    rw [hid_upd List.mem_cons_self]
    exact AtL.app g2 ⟨v, [], rfl, hv, rfl⟩
theorem rdb_cl {g : TG} {b : D → Nv → R Nv} {js vs : List Nat} {mi : Nv → R (List D)} {t : Nv → R Bool} {B : L2.St → Hp → (Hp → Prop) → Prop} {mm : Nv → R (List D)} (hB : RdB c Dn M B mm) (hg : GOk c g b js) (hj : ∀ j, j ∈ js → j ∈ vs) :
    RdB c Dn M (tCl (rdI c mi) g (rdT c t) vs B) (mmC mi b t vs mm) := fun σ ε H zs ys Nx r n a hm hz kk => by
  obtain ⟨es, h1, h2⟩ := R.bind_ok hm
  refine ⟨ε, Dn :: M, r, es, h1, fun J H1 e1 wk => ?_⟩
  refine ⟨fun j k H2 => k = es.length - j ∧ j ≤ es.length ∧ ∃ acc rest, lcGB b t mm (wipeE ε vs) (es.drop j) = .ok rest ∧ acc ++ rest = ys ∧ Acc c Dn M (zs ++ acc) H2 ∧ Stp c Dn M H1 H2,
    ⟨es.length, by omega, Nat.zero_le _, [], ys, h2, rfl, by rw [List.append_nil]; exact a.ex e1, Stp.refl⟩, ?_⟩
  rintro j k H2 ⟨rfl, hjl, acc, rest, hl, ha, hA, hS⟩
  have wj := wk j H2 (Evl.Ex.trans hS.hd hid_le)
  by_cases hlt : j < es.length
  · refine .inr ⟨wj.1 hlt, fun H' => ∃ acc rest, lcGB b t mm (wipeE ε vs) (es.drop (j + 1)) = .ok rest ∧ acc ++ rest = ys ∧ Acc c Dn M (zs ++ acc) H' ∧ Stp c Dn M H1 H', fun H' p => ⟨_, by omega, rfl, hlt, p⟩, fun x H3 y => ?_⟩
    have rj := hS.rel _ _ (r.ex e1) n
    obtain ⟨ex, item⟩ := wj.2.2 x H3 y
    have hx := item es[j] (List.getElem?_eq_getElem hlt) (Dn :: M) (rj.wipe vs).trk hS.hd
    rw [List.drop_eq_getElem_cons hlt] at hl
    obtain ⟨ε1, l1, l2⟩ := R.bind_ok hl
    obtain ⟨k1, l3, l4⟩ := R.bind_ok l2
    refine hg x (wipe σ vs) H3 _ _ (Dn :: M) es[j] ε1 ((rj.wipe vs).ex ex) hx l1 fun σ3 r3 w3 k3 => ⟨by rw [w3 vs hj, wipe_wipe], ε1, Dn :: M, r3, k1, l3, fun H4 e4 => ?_⟩
    have exx := Evl.Ex.trans ex e4
    cases k1 with
    | false => exact ⟨acc, rest, l4, ha, hA.ex exx, hS.trans (Stp.ex exx)⟩
    | true =>
      obtain ⟨y1, l5, l6⟩ := R.bind_ok l4
      obtain ⟨ys1, l7, l8⟩ := R.bind_ok l6
      cases l8
      refine hB σ3 ε1 H4 (zs ++ acc) y1 _ (r3.ex e4) ((n.wipe vs).muK k3) (hA.ex exx) l5 ?_ fun H5 s5 a5 => ?_
      · rw [← ha] at hz
        simp only [List.length_append] at hz ⊢
        omega
      · exact ⟨acc ++ y1, ys1, l7, by rw [← ha, List.append_assoc], by rw [← List.append_assoc]; exact a5, (hS.trans (Stp.ex exx)).trans s5⟩
  · have ej : j = es.length := by omega
    subst ej
    refine .inl ⟨wj.2.1 rfl, ?_⟩
    rw [List.drop_length] at hl
    cases hl
    rw [List.append_nil] at ha
    subst ha
    exact kk H2 ((Stp.ex e1).trans hS) hA
theorem tLc3_rd {g g1 g2 : TG} {b b1 b2 : D → Nv → R Nv} {js js1 js2 vs vs1 vs2 : List Nat} {mi mi1 mi2 : Nv → R (List D)} {t t1 t2 : Nv → R Bool} {e : Nv → R D} (hg : GOk c g b js) (hj : ∀ j, j ∈ js → j ∈ vs) (hg1 : GOk c g1 b1 js1) (hj1 : ∀ j, j ∈ js1 → j ∈ vs1) (hg2 : GOk c g2 b2 js2) (hj2 : ∀ j, j ∈ js2 → j ∈ vs2) :
    ∀ σ H Q, rdL c (xLc3 vs vs1 vs2 mi b t mi1 b1 t1 mi2 b2 t2 e) σ H Q → tLc3 (rdI c mi) g (rdT c t) (rdI c mi1) g1 (rdT c t1) (rdI c mi2) g2 (rdT c t2) (rdE c e) vs vs1 vs2 σ H Q := fun σ H Q ⟨ε, M, re, d, hm, q⟩ => by
  obtain ⟨ds, h1, h2⟩ := R.bind_ok hm
  obtain ⟨ys, h3, h4⟩ := R.bind_ok h2
  split at h4
  · rename_i hz
    cases h4
    rw [← lcGB_3] at h3
    refine ⟨ε, M, re, ds, h1, fun J H1 e1 wk Dn nD => ?_⟩
    have nD0 : H Dn = none := Evl.fresh_back e1 nD
    have nM : Dn ∉ M := Trk.no re.trk nD0
    have n0 : c.H0 Dn = none := Evl.fresh_back re.ext nD0
    have nod : NoD Dn (wipe σ vs) (wipeE ε vs) := fun j f hj z => by
      obtain ⟨w', o', z1, z2, _⟩ := (re.wipe vs).mu j f hj
      rw [z] at z1
      cases z1
      exact nM z2
    have hB : RdB c Dn M (tCl (rdI c mi1) g1 (rdT c t1) vs1 (tCl (rdI c mi2) g2 (rdT c t2) vs2 (tApp (rdE c e) Dn))) (mmC mi1 b1 t1 vs1 (mmC mi2 b2 t2 vs2 (mm1 e))) := rdb_cl (rdb_cl (rdb_app n0) hg2 hj2) hg1 hj1
    have r0 : Rel c (wipe σ vs) (upd H1 Dn (.lst [])) (wipeE ε vs) (Dn :: M) := ((re.ex e1).wipe vs).add nD (Evl.Ex.new nD) upd_same
    refine ⟨fun i m H2 => m = ds.length - i ∧ i ≤ ds.length ∧ ∃ acc rest, lcGB b t (mmC mi1 b1 t1 vs1 (mmC mi2 b2 t2 vs2 (mm1 e))) (wipeE ε vs) (ds.drop i) = .ok rest ∧ acc ++ rest = ys ∧ Acc c Dn M acc H2 ∧ Stp c Dn M (upd H1 Dn (.lst [])) H2,
      ⟨ds.length, by omega, Nat.zero_le _, [], ys, h3, rfl, ⟨[], upd_same, rfl⟩, Stp.refl⟩, ?_⟩
    rintro i m H2 ⟨rfl, hi, acc, rest, hl, ha, hA, hS⟩
    have hE : Ex H1 H2 := hS.old H1 nD (Evl.Ex.new nD)
    have hBx : Ex (hid M H1) (hid (Dn :: M) H2) := hid_new hE nD
    have wi := wk i H2 (Evl.Ex.trans hBx hid_le)
    by_cases hlt : i < ds.length
    · refine .inr ⟨wi.1 hlt, fun H' => ∃ acc rest, lcGB b t (mmC mi1 b1 t1 vs1 (mmC mi2 b2 t2 vs2 (mm1 e))) (wipeE ε vs) (ds.drop (i + 1)) = .ok rest ∧ acc ++ rest = ys ∧ Acc c Dn M acc H' ∧ Stp c Dn M (upd H1 Dn (.lst [])) H', fun H' p => ⟨_, by omega, rfl, hlt, p⟩, fun x H' y => ?_⟩
      have hR := hS.rel _ _ r0 nod
      obtain ⟨ex, item⟩ := wi.2.2 x H' y
      have hx := item ds[i] (List.getElem?_eq_getElem hlt) (Dn :: M) hR.trk hBx
      rw [List.drop_eq_getElem_cons hlt] at hl
      obtain ⟨ε1, l1, l2⟩ := R.bind_ok hl
      obtain ⟨k, l3, l4⟩ := R.bind_ok l2
      refine hg x (wipe σ vs) H' _ _ (Dn :: M) ds[i] ε1 (hR.ex ex) hx l1 fun σ2 r2 w2 k2 => ⟨by rw [w2 vs hj, wipe_wipe], ε1, Dn :: M, r2, k, l3, fun H3 e3 => ?_⟩
      have exx := Evl.Ex.trans ex e3
      cases k with
      | false => exact ⟨acc, rest, l4, ha, hA.ex exx, hS.trans (Stp.ex exx)⟩
      | true =>
        obtain ⟨y1, l5, l6⟩ := R.bind_ok l4
        obtain ⟨ys1, l7, l8⟩ := R.bind_ok l6
        cases l8
        refine hB σ2 ε1 H3 acc y1 _ (r2.ex e3) (nod.muK k2) (hA.ex exx) l5 ?_ fun H5 s5 a5 => ?_
        · rw [← ha] at hz
          simp only [List.length_append] at hz ⊢
          omega
        · exact ⟨acc ++ y1, ys1, l7, by rw [← ha, List.append_assoc], a5, (hS.trans (Stp.ex exx)).trans s5⟩
    · have ei : i = ds.length := by omega
      subst ei
      refine .inl ⟨wi.2.1 rfl, ?_⟩
      rw [List.drop_length] at hl
      cases hl
      rw [List.append_nil] at ha
      subst ha
      obtain ⟨vs0, hD, hA⟩ := hA
      exact q Dn _ H2 nD0 (Evl.Ex.trans e1 hE) hD (.inl ⟨vs0, acc, rfl, rfl, hA⟩)
  · cases h4
end
section
variable {X : Cx} {c : Cf} {W : WX} {elt tg iter tg1 iter1 tg2 iter2 : Expr} {ifs ifs1 ifs2 : List Expr} {scope : Scope} {own : List (Str × Nat)} {pos spos py : Pos} {wi wi1 wi2 : TI} {g g1 g2 : TG} {tt tt1 tt2 : TT} {te : TE} {b b1 b2 : D → Nv → R Nv} {js js1 js2 : List Nat} {mi mi1 mi2 : Nv → R (List D)} {t t1 t2 : Nv → R Bool} {me : Nv → R D} {y : Str} {i : Nat}
theorem pe_lc3 {vs1 vs2 : List Nat} (hc : X.calm = true) (hN : X.N.Nodup) (hi : PI X tg iter wi) (ok : BlkOk X.N X.env.scope scope own) (hv : ∀ i ∈ vs1, i ∈ own.map (·.2)) (hv2 : ∀ i ∈ vs2, i ∈ vs1) (hg : ∀ (s : Shared) (H : Hp) (C : Addr) (cl : List (Str × Addr)) (fp : List Addr), PG (X.blk s H scope (compEnvC scope cl C X.env) fp) tg g) (ht : ∀ (s : Shared) (H : Hp) (C : Addr) (cl : List (Str × Addr)) (fp : List Addr), PTs (X.blk s H scope (compEnvC scope cl C X.env) fp) ifs tt) (hi1 : ∀ (s : Shared) (H : Hp) (C : Addr) (cl : List (Str × Addr)) (fp : List Addr), PI (X.blk s H scope (compEnvC scope cl C X.env) fp) tg1 iter1 wi1) (hg1 : ∀ (s : Shared) (H : Hp) (C : Addr) (cl : List (Str × Addr)) (fp : List Addr), PG (X.blk s H scope (compEnvC scope cl C X.env) fp) tg1 g1) (ht1 : ∀ (s : Shared) (H : Hp) (C : Addr) (cl : List (Str × Addr)) (fp : List Addr), PTs (X.blk s H scope (compEnvC scope cl C X.env) fp) ifs1 tt1) (hi2 : ∀ (s : Shared) (H : Hp) (C : Addr) (cl : List (Str × Addr)) (fp : List Addr), PI (X.blk s H scope (compEnvC scope cl C X.env) fp) tg2 iter2 wi2) (hg2 : ∀ (s : Shared) (H : Hp) (C : Addr) (cl : List (Str × Addr)) (fp : List Addr), PG (X.blk s H scope (compEnvC scope cl C X.env) fp) tg2 g2) (ht2 : ∀ (s : Shared) (H : Hp) (C : Addr) (cl : List (Str × Addr)) (fp : List Addr), PTs (X.blk s H scope (compEnvC scope cl C X.env) fp) ifs2 tt2) (he : ∀ (s : Shared) (H : Hp) (C : Addr) (cl : List (Str × Addr)) (fp : List Addr), PE (X.blk s H scope (compEnvC scope cl C X.env) fp) elt te) (hs : ∀ x, foldedSetIterable iter X.env x = pure x := by intro _; rfl) (hs1 : ∀ env x, foldedSetIterable iter1 env x = pure x := by intro _ _; rfl) (hs2 : ∀ env x, foldedSetIterable iter2 env x = pure x := by intro _ _; rfl) :
    PE X (.ListComp elt [⟨tg, iter, ifs, 0⟩, ⟨tg1, iter1, ifs1, 0⟩, ⟨tg2, iter2, ifs2, 0⟩] scope pos) (tLc3 wi g tt wi1 g1 tt1 wi2 g2 tt2 te (own.map (·.2)) vs1 vs2) := by
  refine ⟨fun pins s σ H Q I h => ?_⟩
  rw [eval_ListComp]
  refine lc3_core hc hN I hi ok hv hv2 hg ht he hs hi1 hg1 ht1 hi2 hg2 ht2 hs1 hs2 h fun D C s' m H' I' q hn f => ⟨m, hn, fun h'' sb => ?_⟩
  obtain ⟨f0, f1, f2, f3, f4, f5⟩ := f
  exact ⟨.ref D, H', I'.turned (t' := s'.toks) (fun b o hb e => (sb.2 b hb).trans e) f0 f1 f3 f4 f5, rfl, q⟩
theorem ps_setLc3 {vs1 vs2 : List Nat} (hy : X.N[i]? = some y) (hyl : X.env.scope.names.lookup y = some .local) (hsw : swapsWith (.ListComp elt [⟨tg, iter, ifs, 0⟩, ⟨tg1, iter1, ifs1, 0⟩, ⟨tg2, iter2, ifs2, 0⟩] scope pos) (some (.Name y py)) spos.line X.env = pure true)
    (hc : X.calm = true) (hN : X.N.Nodup) (hi : PI X tg iter wi) (ok : BlkOk X.N X.env.scope scope own) (hv : ∀ i ∈ vs1, i ∈ own.map (·.2)) (hv2 : ∀ i ∈ vs2, i ∈ vs1) (hg : ∀ (s : Shared) (H : Hp) (C : Addr) (cl : List (Str × Addr)) (fp : List Addr), PG (X.blk s H scope (compEnvC scope cl C X.env) fp) tg g) (ht : ∀ (s : Shared) (H : Hp) (C : Addr) (cl : List (Str × Addr)) (fp : List Addr), PTs (X.blk s H scope (compEnvC scope cl C X.env) fp) ifs tt) (hi1 : ∀ (s : Shared) (H : Hp) (C : Addr) (cl : List (Str × Addr)) (fp : List Addr), PI (X.blk s H scope (compEnvC scope cl C X.env) fp) tg1 iter1 wi1) (hg1 : ∀ (s : Shared) (H : Hp) (C : Addr) (cl : List (Str × Addr)) (fp : List Addr), PG (X.blk s H scope (compEnvC scope cl C X.env) fp) tg1 g1) (ht1 : ∀ (s : Shared) (H : Hp) (C : Addr) (cl : List (Str × Addr)) (fp : List Addr), PTs (X.blk s H scope (compEnvC scope cl C X.env) fp) ifs1 tt1) (hi2 : ∀ (s : Shared) (H : Hp) (C : Addr) (cl : List (Str × Addr)) (fp : List Addr), PI (X.blk s H scope (compEnvC scope cl C X.env) fp) tg2 iter2 wi2) (hg2 : ∀ (s : Shared) (H : Hp) (C : Addr) (cl : List (Str × Addr)) (fp : List Addr), PG (X.blk s H scope (compEnvC scope cl C X.env) fp) tg2 g2) (ht2 : ∀ (s : Shared) (H : Hp) (C : Addr) (cl : List (Str × Addr)) (fp : List Addr), PTs (X.blk s H scope (compEnvC scope cl C X.env) fp) ifs2 tt2) (he : ∀ (s : Shared) (H : Hp) (C : Addr) (cl : List (Str × Addr)) (fp : List Addr), PE (X.blk s H scope (compEnvC scope cl C X.env) fp) elt te) (hs : ∀ x, foldedSetIterable iter X.env x = pure x := by intro _; rfl) (hs1 : ∀ env x, foldedSetIterable iter1 env x = pure x := by intro _ _; rfl) (hs2 : ∀ env x, foldedSetIterable iter2 env x = pure x := by intro _ _; rfl) :
    PS X (.Assign [.Name y py] (.ListComp elt [⟨tg, iter, ifs, 0⟩, ⟨tg1, iter1, ifs1, 0⟩, ⟨tg2, iter2, ifs2, 0⟩] scope pos) spos) (tAsg (tLc3 wi g tt wi1 g1 tt1 wi2 g2 tt2 te (own.map (·.2)) vs1 vs2) (gName i)) := by
  refine ⟨fun pins s σ H D I h => ?_⟩
  rw [exec_Assign_Name_used _ _ _ _ hsw]
  refine wpAny_bind (wpAny_standAt (wpAny_bind ?_))
  show wpAny _ X.A (do let _ ← comprehension (.ListComp elt [⟨tg, iter, ifs, 0⟩, ⟨tg1, iter1, ifs1, 0⟩, ⟨tg2, iter2, ifs2, 0⟩] scope pos) scope X.env (firstIterPos [⟨tg, iter, ifs, 0⟩, ⟨tg1, iter1, ifs1, 0⟩, ⟨tg2, iter2, ifs2, 0⟩] pos) (newList []) false (eval iter X.env) (some (assign (.Name y py) X.env))) _ _ s
  have h : (tLc3 wi g tt wi1 g1 tt1 wi2 g2 tt2 te (own.map (·.2)) vs1 vs2) σ H (fun x H1 => gName i x σ H1 D.nx) := h
  refine wpAny_bind (thn (lc3_core (Qf := fun _ s' => SP X pins D .next s') hc hN I hi ok hv hv2 hg ht he hs hi1 hg1 ht1 hi2 hg2 ht2 hs1 hs2 h fun L C s' m H' I' q hn f => ?_) fun _ s' hq => wpAny_pure (wpAny_pure hq))
  show wpAny _ _ (assign (.Name y py) X.env (.ref L)) _ _ _
  refine wpAny_assign_Name (store_ok2 (v := V.ref L) I' hN hy (.inl hyl) rfl (fun s2 I2 ⟨a, sb, ha⟩ => ?_) (.inr hyl))
  obtain ⟨f0, f1, f2, f3, f4, f5⟩ := f
  have haC : C ≠ a := by
    rcases ha with z | z
    · rw [z]; exact f1
    · exact fun e => f4 y a z e.symm
  refine ⟨m, hn.sameBut sb haC, fun h3 sb3 => ?_⟩
  exact ⟨_, H', I2.turned (t' := s2.toks) (fun b o hb e => (sb3.2 b hb).trans e) f0 f1 f3 f4 f5, q⟩
theorem pe_co3 (vs1 vs2 : List Nat) (hc : X.calm = true) (hN : X.N.Nodup) (hi : PI X tg iter (rdI c mi)) (ok : BlkOk X.N X.env.scope scope own) (gk : GOk c g b js) (hj : ∀ j, j ∈ js → j ∈ own.map (·.2)) (gk1 : GOk c g1 b1 js1) (hj1 : ∀ j, j ∈ js1 → j ∈ vs1) (gk2 : GOk c g2 b2 js2) (hj2 : ∀ j, j ∈ js2 → j ∈ vs2) (hv : ∀ i ∈ vs1, i ∈ own.map (·.2)) (hv2 : ∀ i ∈ vs2, i ∈ vs1) (hg : ∀ (s : Shared) (H : Hp) (C : Addr) (cl : List (Str × Addr)) (fp : List Addr), PG (X.blk s H scope (compEnvC scope cl C X.env) fp) tg g) (ht : ∀ (s : Shared) (H : Hp) (C : Addr) (cl : List (Str × Addr)) (fp : List Addr), PTs (X.blk s H scope (compEnvC scope cl C X.env) fp) ifs (rdT c t)) (hi1 : ∀ (s : Shared) (H : Hp) (C : Addr) (cl : List (Str × Addr)) (fp : List Addr), PI (X.blk s H scope (compEnvC scope cl C X.env) fp) tg1 iter1 (rdI c mi1)) (hg1 : ∀ (s : Shared) (H : Hp) (C : Addr) (cl : List (Str × Addr)) (fp : List Addr), PG (X.blk s H scope (compEnvC scope cl C X.env) fp) tg1 g1) (ht1 : ∀ (s : Shared) (H : Hp) (C : Addr) (cl : List (Str × Addr)) (fp : List Addr), PTs (X.blk s H scope (compEnvC scope cl C X.env) fp) ifs1 (rdT c t1)) (hi2 : ∀ (s : Shared) (H : Hp) (C : Addr) (cl : List (Str × Addr)) (fp : List Addr), PI (X.blk s H scope (compEnvC scope cl C X.env) fp) tg2 iter2 (rdI c mi2)) (hg2 : ∀ (s : Shared) (H : Hp) (C : Addr) (cl : List (Str × Addr)) (fp : List Addr), PG (X.blk s H scope (compEnvC scope cl C X.env) fp) tg2 g2) (ht2 : ∀ (s : Shared) (H : Hp) (C : Addr) (cl : List (Str × Addr)) (fp : List Addr), PTs (X.blk s H scope (compEnvC scope cl C X.env) fp) ifs2 (rdT c t2)) (he : ∀ (s : Shared) (H : Hp) (C : Addr) (cl : List (Str × Addr)) (fp : List Addr), PE (X.blk s H scope (compEnvC scope cl C X.env) fp) elt (rdE c me)) (hs : ∀ x, foldedSetIterable iter X.env x = pure x := by intro _; rfl) (hs1 : ∀ env x, foldedSetIterable iter1 env x = pure x := by intro _ _; rfl) (hs2 : ∀ env x, foldedSetIterable iter2 env x = pure x := by intro _ _; rfl) :
    PE X (.ListComp elt [⟨tg, iter, ifs, 0⟩, ⟨tg1, iter1, ifs1, 0⟩, ⟨tg2, iter2, ifs2, 0⟩] scope pos) (rdL c (xLc3 (own.map (·.2)) vs1 vs2 mi b t mi1 b1 t1 mi2 b2 t2 me)) := (pe_lc3 hc hN hi ok hv hv2 hg ht hi1 hg1 ht1 hi2 hg2 ht2 he hs hs1 hs2).wk (tLc3_rd gk hj gk1 hj1 gk2 hj2)
theorem ps_co3 (vs1 vs2 : List Nat) (hc : X.calm = true) (hN : X.N.Nodup) (hi : PI X tg iter (rdI c mi)) (ok : BlkOk X.N X.env.scope scope own) (gk : GOk c g b js) (hj : ∀ j, j ∈ js → j ∈ own.map (·.2)) (gk1 : GOk c g1 b1 js1) (hj1 : ∀ j, j ∈ js1 → j ∈ vs1) (gk2 : GOk c g2 b2 js2) (hj2 : ∀ j, j ∈ js2 → j ∈ vs2) (hv : ∀ i ∈ vs1, i ∈ own.map (·.2)) (hv2 : ∀ i ∈ vs2, i ∈ vs1) (hg : ∀ (s : Shared) (H : Hp) (C : Addr) (cl : List (Str × Addr)) (fp : List Addr), PG (X.blk s H scope (compEnvC scope cl C X.env) fp) tg g) (ht : ∀ (s : Shared) (H : Hp) (C : Addr) (cl : List (Str × Addr)) (fp : List Addr), PTs (X.blk s H scope (compEnvC scope cl C X.env) fp) ifs (rdT c t)) (hi1 : ∀ (s : Shared) (H : Hp) (C : Addr) (cl : List (Str × Addr)) (fp : List Addr), PI (X.blk s H scope (compEnvC scope cl C X.env) fp) tg1 iter1 (rdI c mi1)) (hg1 : ∀ (s : Shared) (H : Hp) (C : Addr) (cl : List (Str × Addr)) (fp : List Addr), PG (X.blk s H scope (compEnvC scope cl C X.env) fp) tg1 g1) (ht1 : ∀ (s : Shared) (H : Hp) (C : Addr) (cl : List (Str × Addr)) (fp : List Addr), PTs (X.blk s H scope (compEnvC scope cl C X.env) fp) ifs1 (rdT c t1)) (hi2 : ∀ (s : Shared) (H : Hp) (C : Addr) (cl : List (Str × Addr)) (fp : List Addr), PI (X.blk s H scope (compEnvC scope cl C X.env) fp) tg2 iter2 (rdI c mi2)) (hg2 : ∀ (s : Shared) (H : Hp) (C : Addr) (cl : List (Str × Addr)) (fp : List Addr), PG (X.blk s H scope (compEnvC scope cl C X.env) fp) tg2 g2) (ht2 : ∀ (s : Shared) (H : Hp) (C : Addr) (cl : List (Str × Addr)) (fp : List Addr), PTs (X.blk s H scope (compEnvC scope cl C X.env) fp) ifs2 (rdT c t2)) (he : ∀ (s : Shared) (H : Hp) (C : Addr) (cl : List (Str × Addr)) (fp : List Addr), PE (X.blk s H scope (compEnvC scope cl C X.env) fp) elt (rdE c me))
    (hsw : swapsWith (.ListComp elt [⟨tg, iter, ifs, 0⟩, ⟨tg1, iter1, ifs1, 0⟩, ⟨tg2, iter2, ifs2, 0⟩] scope pos) (some (.Name y py)) spos.line X.env = pure true) (hy : X.N[i]? = some y := by rfl) (hyl : X.env.scope.names.lookup y = some .local := by rfl) (hs : ∀ x, foldedSetIterable iter X.env x = pure x := by intro _; rfl) (hs1 : ∀ env x, foldedSetIterable iter1 env x = pure x := by intro _ _; rfl) (hs2 : ∀ env x, foldedSetIterable iter2 env x = pure x := by intro _ _; rfl) (hq : c.op i = true := by rfl) :
    PS X (.Assign [.Name y py] (.ListComp elt [⟨tg, iter, ifs, 0⟩, ⟨tg1, iter1, ifs1, 0⟩, ⟨tg2, iter2, ifs2, 0⟩] scope pos) spos) (rdS c W (sAs i (xLc3 (own.map (·.2)) vs1 vs2 mi b t mi1 b1 t1 mi2 b2 t2 me))) :=
  (ps_setLc3 hy hyl hsw hc hN hi ok hv hv2 hg ht hi1 hg1 ht1 hi2 hg2 ht2 he hs hs1 hs2).wk fun E σ H h => (tAsg_rdL (c := c) (i := i) hq E σ H h : tAsg (rdL c (xLc3 (own.map (·.2)) vs1 vs2 mi b t mi1 b1 t1 mi2 b2 t2 me)) (gName i) E σ H) |> fun q => tLc3_rd gk hj gk1 hj1 gk2 hj2 σ H _ q
theorem ps_co3M (vs1 vs2 : List Nat) (hc : X.calm = true) (hN : X.N.Nodup) (hi : PI X tg iter (rdI c mi)) (ok : BlkOk X.N X.env.scope scope own) (gk : GOk c g b js) (hj : ∀ j, j ∈ js → j ∈ own.map (·.2)) (gk1 : GOk c g1 b1 js1) (hj1 : ∀ j, j ∈ js1 → j ∈ vs1) (gk2 : GOk c g2 b2 js2) (hj2 : ∀ j, j ∈ js2 → j ∈ vs2) (hv : ∀ i ∈ vs1, i ∈ own.map (·.2)) (hv2 : ∀ i ∈ vs2, i ∈ vs1) (hg : ∀ (s : Shared) (H : Hp) (C : Addr) (cl : List (Str × Addr)) (fp : List Addr), PG (X.blk s H scope (compEnvC scope cl C X.env) fp) tg g) (ht : ∀ (s : Shared) (H : Hp) (C : Addr) (cl : List (Str × Addr)) (fp : List Addr), PTs (X.blk s H scope (compEnvC scope cl C X.env) fp) ifs (rdT c t)) (hi1 : ∀ (s : Shared) (H : Hp) (C : Addr) (cl : List (Str × Addr)) (fp : List Addr), PI (X.blk s H scope (compEnvC scope cl C X.env) fp) tg1 iter1 (rdI c mi1)) (hg1 : ∀ (s : Shared) (H : Hp) (C : Addr) (cl : List (Str × Addr)) (fp : List Addr), PG (X.blk s H scope (compEnvC scope cl C X.env) fp) tg1 g1) (ht1 : ∀ (s : Shared) (H : Hp) (C : Addr) (cl : List (Str × Addr)) (fp : List Addr), PTs (X.blk s H scope (compEnvC scope cl C X.env) fp) ifs1 (rdT c t1)) (hi2 : ∀ (s : Shared) (H : Hp) (C : Addr) (cl : List (Str × Addr)) (fp : List Addr), PI (X.blk s H scope (compEnvC scope cl C X.env) fp) tg2 iter2 (rdI c mi2)) (hg2 : ∀ (s : Shared) (H : Hp) (C : Addr) (cl : List (Str × Addr)) (fp : List Addr), PG (X.blk s H scope (compEnvC scope cl C X.env) fp) tg2 g2) (ht2 : ∀ (s : Shared) (H : Hp) (C : Addr) (cl : List (Str × Addr)) (fp : List Addr), PTs (X.blk s H scope (compEnvC scope cl C X.env) fp) ifs2 (rdT c t2)) (he : ∀ (s : Shared) (H : Hp) (C : Addr) (cl : List (Str × Addr)) (fp : List Addr), PE (X.blk s H scope (compEnvC scope cl C X.env) fp) elt (rdE c me))
    (hsw : swapsWith (.ListComp elt [⟨tg, iter, ifs, 0⟩, ⟨tg1, iter1, ifs1, 0⟩, ⟨tg2, iter2, ifs2, 0⟩] scope pos) (some (.Name y py)) spos.line X.env = pure true) (hy : X.N[i]? = some y := by rfl) (hyl : X.env.scope.names.lookup y = some .local := by rfl) (hs : ∀ x, foldedSetIterable iter X.env x = pure x := by intro _; rfl) (hs1 : ∀ env x, foldedSetIterable iter1 env x = pure x := by intro _ _; rfl) (hs2 : ∀ env x, foldedSetIterable iter2 env x = pure x := by intro _ _; rfl) (hq : c.op i = true := by rfl) :
    PS X (.Assign [.Name y py] (.ListComp elt [⟨tg, iter, ifs, 0⟩, ⟨tg1, iter1, ifs1, 0⟩, ⟨tg2, iter2, ifs2, 0⟩] scope pos) spos) (rdS c W (sAsM i (xLc3 (own.map (·.2)) vs1 vs2 mi b t mi1 b1 t1 mi2 b2 t2 me))) :=
  (ps_setLc3 hy hyl hsw hc hN hi ok hv hv2 hg ht hi1 hg1 ht1 hi2 hg2 ht2 he hs hs1 hs2).wk fun E σ H h => (tAsg_rdM (c := c) (i := i) hq E σ H h : tAsg (rdL c (xLc3 (own.map (·.2)) vs1 vs2 mi b t mi1 b1 t1 mi2 b2 t2 me)) (gName i) E σ H) |> fun q => tLc3_rd gk hj gk1 hj1 gk2 hj2 σ H _ q
end
end Tw
set_option Elab.async false
set_option linter.all false
set_option maxRecDepth 100000
set_option maxHeartbeats 4000000
/-! Tw29: ranges as values -/
namespace Tw
open PySem PySem.Spec PyProof.Rows L2
def rgD (lo hi : Int) : D := .dict [(.none, .tuple [.int lo, .int hi])]
def cRg1 : List D → R D
  | [.int j] => .ok (rgD 0 j)
  | _ => .bad
def iRgV (m : Nv → R D) : Nv → R (List D) := fun ε => (m ε).bind fun d => match d with
  | .dict [(.none, .tuple [.int lo, .int hi])] => if rlim lo && rlim hi then .ok (rangeD lo (hi - lo).toNat) else .bad
  | _ => .bad
section
variable {X : Cx} {c : Cf} {tg : Expr}
theorem k_rg1 : CallR X (.type "range") (rnD X.K cRg1) := by
  intro pins s σ H xs us Q I r ⟨M, as, d, t, ha, hf, q⟩
  unfold cRg1 at hf
  split at hf
  · rename_i j
    cases hf
    obtain ⟨v, e, h1⟩ := at_one ha
    obtain rfl : v = .int j := h1
    subst e
    cases r with
    | cons rv rr =>
      cases rr
      obtain ⟨t1, rfl⟩ := rv
      have n : H s.heap.objs.size = none := I.hok.fresh (Nat.le_refl _)
      refine call_range_1 ⟨.ref s.heap.objs.size, upd H s.heap.objs.size (.rng 0 j), I.laid (t' := s.toks + 1 + 1) (fun b o e => Heap.get?_push_of_some _ e) (Nat.le_refl _) ⟨_, _, _, Heap.get?_push_size _ rfl⟩, rfl,
        q _ _ (Evl.Ex.new n) ⟨s.heap.objs.size, rfl, .inr (.inr (.inr (.inr ⟨0, j, hid_of upd_same (t.no n), rfl⟩)))⟩⟩
  · cases hf
theorem pi_rgV {e : Expr} {me : Nv → R D} (he : PE X e (rdE c me)) : PI X tg e (rdI c (iRgV me)) := by
  constructor
  intro pins s σ H Rr I ⟨ε, M, re, ds, hm, q⟩
  obtain ⟨d, h1, h2⟩ := R.bind_ok hm
  apply thn (he.run pins s σ H (fun v H1 => Ex H H1 ∧ At c.K (hid M H1) d v) I ⟨ε, M, re, d, h1, fun v H' e hv => ⟨e, hv⟩⟩)
  intro u s1 ⟨v, H1, I1, rv, e1, hv⟩
  split at h2
  · rename_i lo hi
    split at h2
    · rename_i hz
      cases h2
      rw [Bool.and_eq_true] at hz
      obtain ⟨b1, b2⟩ := rlim_iff hz.1
      obtain ⟨b3, b4⟩ := rlim_iff hz.2
      obtain ⟨a, ev, qq⟩ := hv
      subst ev
      cases rv
      have hr : H1 a = some (.rng lo hi) := by
        rcases qq with ⟨kvs, r, c', w, r', x1, x2, _⟩ | ⟨kvs, r, ⟨x1, _, _⟩, _⟩ | ⟨S, n, xs, r, x1, _⟩ | ⟨o, kvs, r, x1, x2, _⟩ | ⟨lo', hi', r, x1⟩
        · cases c' <;> cases x2
        · cases x1
        · cases x1
        · cases x1
        · cases x1
          exact (of_hid r).1
      obtain ⟨t, u, v, ho⟩ := I1.hok a _ hr
      refine wpAny_pyIter_range (show IsRange s1.heap a lo hi 1 t u v from ho) (small_one b1 b2 b3 b4) ?_
      refine ⟨s1.heap.objs.size, [s1.heap.objs.size], _, _, H1, rfl, I1.kept (t' := _) fun b o e => Heap.get?_push_of_some _ e, turn_range _ lo (hi - lo).toNat, ?_, fun b hb => ?_, q _ H1 e1 (wk_range lo _)⟩
      · have e1 : lo + ((0 : Nat) : Int) * 1 = lo := by simp
        have e2 : (((hi - lo).toNat : Nat) : Int) - ((0 : Nat) : Int) = Builtin.Range.rangeSize lo hi 1 := by rw [rangeSize_one]; split <;> omega
        show IsRangeIter _ _ (lo + ((0 : Nat) : Int) * 1) ((((hi - lo).toNat : Nat) : Int) - ((0 : Nat) : Int)) 1
        rw [e1, e2]
        exact Heap.get?_push_size _ rfl
      · have e : b = s1.heap.objs.size := by simpa using hb
        subst e
        exact I1.fpOk (Nat.le_refl _) (I1.hok.fresh (Nat.le_refl _))
    · cases h2
  · cases h2
end
end Tw
set_option Elab.async false
set_option linter.all false
set_option maxRecDepth 100000
set_option maxHeartbeats 4000000
/-! Tw30: lists that are new since a place in the text, changed there -/
namespace Tw
open PySem PySem.Spec PyProof.Rows L2
/-! ### environments slot by slot -/
def ixE (f : Nat → SV → SV) : Nat → Nv → Nv
  | _, [] => []
  | k, s :: r => f k s :: ixE f (k + 1) r
theorem ixE_len (f : Nat → SV → SV) : ∀ (k : Nat) (ε : Nv), (ixE f k ε).length = ε.length
  | _, [] => rfl
  | k, s :: r => by
    show (ixE f (k + 1) r).length + 1 = _
    rw [ixE_len f (k + 1) r]
    rfl
theorem gt_ix {f : Nat → SV → SV} (hf : ∀ k, f k .no = .no) : ∀ (ε : Nv) (k i : Nat), gt (ixE f k ε) i = f (k + i) (gt ε i)
  | [], k, i => (hf _).symm
  | s :: r, k, 0 => rfl
  | s :: r, k, i + 1 => by
    show gt (ixE f (k + 1) r) i = _
    rw [gt_ix hf r (k + 1) i, show k + 1 + i = k + (i + 1) by omega]
    rfl
def flk : List (Nat × FP) → Nat → Option FP
  | [], _ => none
  | (j, p) :: r, i => if j = i then some p else flk r i
def killS (F : List (Nat × FP)) (k : Nat) (s : SV) : SV := match flk F k with
  | some _ => .no
  | none => s
theorem kill_no (F : List (Nat × FP)) (k : Nat) : killS F k .no = .no := by
  unfold killS
  split <;> rfl
mutual
/-- data with no list, no dict -/
def lt : D → Bool
  | .none | .bool _ | .int _ | .str _ => true
  | .tuple ds => ltL ds
  | .list _ | .dict _ => false
def ltL : List D → Bool
  | [] => true
  | d :: ds => lt d && ltL ds
end
def liteS : SV → SV
  | .im d => if lt d then .im d else .no
  | .mu (.list ds) => if ltL ds then .mu (.list ds) else .no
  | _ => .no
def keepS (L : List Nat) (F : List (Nat × FP)) (k : Nat) (s : SV) : SV := match flk F k with
  | some _ => .no
  | none => if L.contains k then s else liteS s
theorem keep_no (L : List Nat) (F : List (Nat × FP)) (k : Nat) : keepS L F k .no = .no := by
  unfold keepS
  split
  · rfl
  · split <;> rfl
/-! ### a block with slots that stay as they are -/
def nmu : SV → Bool
  | .mu _ => false
  | _ => true
def sBar (L : List Nat) (F : List (Nat × FP)) (m : Nv → R Fl) : Nv → R Fl := fun ε => if L.all (fun j => nmu (gt ε j)) then m (ixE (killS F) 0 ε) else .bad
def Cf.bar (c : Cf) (L : List Nat) (F : List (Nat × FP)) (H0 : Hp) : Cf := ⟨c.K, H0, c.M0, c.fr, c.cl, fun i => L.contains i, flk F, none⟩
/-- the heap without what is owned here -/
def barH (M M0 : List Addr) (H : Hp) : Hp := fun a => if a ∈ M ∧ a ∉ M0 then none else H a
theorem barH_ex {M M0 : List Addr} {H : Hp} : Ex (barH M M0 H) H := fun a o h => by
  unfold barH at h
  split at h
  · cases h
  · exact h
theorem barH_of {M M0 : List Addr} {H : Hp} {a : Addr} {o : HO} (h : H a = some o) (n : a ∈ M → a ∈ M0) : barH M M0 H a = some o := by
  unfold barH
  rw [if_neg fun z => z.2 (n z.1)]
  exact h
section
variable {X : Cx} {c : Cf} {W : WX}
theorem Rel.bar {σ : L2.St} {H : Hp} {ε : Nv} {M : List Addr} (r : Rel c σ H ε M) {L : List Nat} {F : List (Nat × FP)} (hL : L.all (fun j => nmu (gt ε j)) = true) : Rel (c.bar L F (barH M c.M0 H)) σ H (ixE (killS F) 0 ε) M := by
  have g : ∀ {i s}, gt (ixE (killS F) 0 ε) i = s → s ≠ .no → gt ε i = s ∧ flk F i = none := fun {i s} h n => by
    rw [gt_ix (kill_no F), Nat.zero_add] at h
    unfold killS at h
    cases q : flk F i with
    | none =>
      rw [q] at h
      exact ⟨h, rfl⟩
    | some p =>
      rw [q] at h
      exact absurd h.symm n
  have old0 : ∀ a, a ∈ c.M0 → ∃ o, H a = some o := fun a h => r.trk a (r.sub a h)
  have own0 : ∀ a, a ∈ M → a ∉ c.M0 → barH M c.M0 H a = none := fun a h1 h2 => by
    unfold barH
    rw [if_pos ⟨h1, h2⟩]
  refine ⟨barH_ex, by rw [ixE_len]; exact r.len, r.sub, r.trk, fun a h z => ?_, fun i d h => ?_, fun i d h => ?_, fun i j d e a b hij h1 h2 => ?_, fun a h => ?_, fun j d hj h => ?_, fun j p d hj h => ?_, fun j d h => ?_⟩
  · obtain ⟨o, q⟩ := old0 a h
    have : barH M c.M0 H a = some o := barH_of q fun _ => h
    have z' : barH M c.M0 H a = none := z
    rw [this] at z'
    cases z'
  · exact r.im i d (g h (by intro z; cases z)).1
  · obtain ⟨a, o, q1, q2, q3, q4, q5⟩ := r.mu i d (g h (by intro z; cases z)).1
    exact ⟨a, o, q1, q2, own0 a q2 fun z => r.old a z q3, q4, q5⟩
  · exact r.dis i j d e a b hij (g h1 (by intro z; cases z)).1 (g h2 (by intro z; cases z)).1
  · by_cases q : a ∈ c.M0
    · exact .inl q
    · exact .inr (own0 a h q)
  · obtain ⟨v, q1, q2⟩ := r.im j d (g h (by intro z; cases z)).1
    refine ⟨v, q1, At.mono (fun a o z => ?_) d v q2⟩
    obtain ⟨z1, z2⟩ := of_hid z
    exact hid_of (barH_of z1 fun z => absurd z z2) fun z => z2 (r.sub a z)
  · have := (g h (by intro z; cases z)).2
    have hj' : flk F j = some p := hj
    rw [this] at hj'
    cases hj'
  · obtain ⟨q1, q2⟩ := g h (by intro z; cases z)
    refine ⟨?_, .inl q2⟩
    show L.contains j = false
    cases q : L.contains j with
    | false => rfl
    | true =>
      have := List.all_eq_true.mp hL j (List.contains_iff_mem.mp q)
      rw [q1] at this
      cases this
theorem Rel.out {σ σ' : L2.St} {H H' : Hp} {ε ε' : Nv} {M M' : List Addr} (r : Rel c σ H ε M) {L : List Nat} {F : List (Nat × FP)} (hp : c.pn = fun _ => false) (hf : c.fs = fun _ => none) (r' : Rel (c.bar L F (barH M c.M0 H)) σ' H' ε' M') : Rel c σ' H' ε' M' := by
  have e0 : Ex c.H0 (barH M c.M0 H) := fun a o h => barH_of (r.ext a o h) fun z => by
    rcases r.new a z with q | q
    · exact q
    · rw [h] at q
      cases q
  have n0 : ∀ {a}, barH M c.M0 H a = none → c.H0 a = none := fun {a} h => by
    cases q : c.H0 a with
    | none => rfl
    | some u =>
      have := e0 a u q
      rw [h] at this
      cases this
  refine ⟨e0.trans r'.ext, r'.len, r'.sub, r'.trk, r.old, r'.im, fun i d h => ?_, r'.dis, fun a h => ?_, fun j d hj h => ?_, fun j p d hj h => ?_, fun j d h => ?_⟩
  · obtain ⟨a, o, q1, q2, q3, q4⟩ := r'.mu i d h
    exact ⟨a, o, q1, q2, n0 q3, q4⟩
  · rcases r'.new a h with q | q
    · exact .inl q
    · exact .inr (n0 q)
  · rw [hp] at hj
    cases hj
  · rw [hf] at hj
    cases hj
  · rw [hp, hf]
    exact ⟨rfl, .inl rfl⟩
/-- what stands since the entry, stands -/
theorem Rel.base {σ : L2.St} {H : Hp} {ε : Nv} {M : List Addr} (r : Rel c σ H ε M) : Ex (hid c.M0 c.H0) (hid M H) := fun a o h => by
  obtain ⟨h1, h2⟩ := of_hid h
  refine hid_of (r.ext a o h1) fun z => ?_
  rcases r.new a z with q | q
  · exact h2 q
  · rw [h1] at q
    cases q
/-- ends of what may change such lists -/
def FinM (c : Cf) (W : WX) (E : Ends) : R Fl → Prop
  | .ok (.nx ε) => ∀ σ H M, Rel c σ H ε M → E.nx σ H
  | .ok (.rt d) => RtOk c E.rt d
  | .ok (.bk ε) => ∀ σ H M, Rel c σ H ε M → E.bk σ H
  | .ok (.ct ε) => ∀ σ H M, Rel c σ H ε M → E.ct σ H
  | .ok (.xx ε k a) => flat a = true ∧ ∀ σ H M C dx v, c.cl k = some C → Rel c σ H ε M → hid M H dx = some (.xd [("at", v)]) → At c.K H a v → W (.ref C) (some dx) σ H
  | _ => False
def rdM (c : Cf) (W : WX) (m : Nv → R Fl) : TS := fun E σ H => ∃ ε M, Rel c σ H ε M ∧ FinM c W E (m ε)
theorem FinM.fin {E : Ends} {B : Hp} : ∀ {r : R Fl}, FinM c W E r → Fin c W E B r
  | .ok (.nx _), h => fun σ H M r _ => h σ H M r
  | .ok (.rt _), h => h
  | .ok (.bk _), h => fun σ H M r _ => h σ H M r
  | .ok (.ct _), h => fun σ H M r _ => h σ H M r
  | .ok (.xx _ _ _), h => ⟨h.1, fun σ H M C dx v hc r _ => h.2 σ H M C dx v hc r⟩
  | .ex _ _, h => h
  | .bad, h => h
variable {s : Stmt} {r : List Stmt} {m n : Nv → R Fl}
/-- what changes none of them -/
theorem ps_nm (h : PS X s (rdS c W m)) : PS X s (rdM c W m) := h.wk fun E σ H ⟨ε, M, re, f⟩ => ⟨ε, M, re, f.fin⟩
theorem ss_nm (h : PSs X r (rdS c W m)) : PSs X r (rdM c W m) := h.wk fun E σ H ⟨ε, M, re, f⟩ => ⟨ε, M, re, f.fin⟩
theorem tSeq_rdM : ∀ E σ H, rdM c W (sSeq m n) E σ H → tSeq (rdM c W m) (rdM c W n) E σ H := fun E σ H ⟨ε, M, re, f⟩ => by
  refine ⟨ε, M, re, ?_⟩
  unfold sSeq at f
  cases q : m ε with
  | bad =>
    rw [q] at f
    exact f
  | ex a b =>
    rw [q] at f
    exact f
  | ok fl =>
    rw [q] at f
    cases fl with
    | nx ε' => exact fun σ' H' M' r' => ⟨ε', M', r', f⟩
    | rt d => exact f
    | bk ε' => exact f
    | ct ε' => exact f
    | xx ε' k a => exact f
theorem ss_cM (h1 : PS X s (rdM c W m)) (h2 : PSs X r (rdM c W n)) : PSs X (s :: r) (rdM c W (sSeq m n)) := (pss_cons h1 h2).wk tSeq_rdM
theorem ss_1M (h1 : PS X s (rdM c W m)) : PSs X [s] (rdM c W m) := pss_one h1
theorem ss_fzM (i : Nat) (h : PSs X r (rdM c W n)) (hq : c.op i = true := by rfl) : PSs X r (rdM c W (sSeq (sFz i) n)) := h.wk fun E σ H ⟨ε, M, re, f⟩ => by
  unfold sSeq sFz at f
  cases g : gt ε i with
  | no =>
    rw [g] at f
    exact f.elim
  | im d =>
    rw [g] at f
    exact ⟨ε, M, re, f⟩
  | mu d =>
    rw [g] at f
    obtain ⟨M', sub, r'⟩ := re.frz g hq
    exact ⟨_, M', r', f⟩
theorem ps_iM {pos : Pos} {cd : Expr} {a b : List Stmt} {t : Nv → R Bool} (hc : PT X cd (rdT c t)) (ha : PSs X a (rdM c W m)) (hb : PSs X b (rdM c W n)) : PS X (.If cd a b pos) (rdM c W (sIf t m n)) := (ps_if hc ha hb).wk fun E σ H ⟨ε, M, re, f⟩ => by
  unfold sIf at f
  cases q : t ε with
  | bad => rw [q] at f; exact f.elim
  | ex x y => rw [q] at f; exact f.elim
  | ok k =>
    rw [q] at f
    refine ⟨ε, M, re, k, q, fun H' e' => ?_⟩
    cases k with
    | true => exact ⟨ε, M, re.ex e', f⟩
    | false => exact ⟨ε, M, re.ex e', f⟩
theorem ss_bar (L : List Nat) (F : List (Nat × FP)) (h : ∀ H0 : Hp, PSs X r (rdM (c.bar L F H0) W m)) (hp : c.pn = fun _ => false := by rfl) (hf : c.fs = fun _ => none := by rfl) (hr : c.rp = none := by rfl) : PSs X r (rdS c W (sBar L F m)) := by
  refine ⟨fun pins s σ H E I t => ?_⟩
  obtain ⟨ε, M, re, f⟩ := t
  unfold sBar at f
  split at f
  · rename_i hL
    have e0 : Ex c.H0 (barH M c.M0 H) := fun a o h => barH_of (re.ext a o h) fun z => by
      rcases re.new a z with q | q
      · exact q
      · rw [h] at q
        cases q
    have out : ∀ {σ' H' ε' M'}, Rel (c.bar L F (barH M c.M0 H)) σ' H' ε' M' → Ex (hid M H) (hid M' H') := fun r' => Evl.Ex.trans (fun a o z => by
      obtain ⟨z1, z2⟩ := of_hid z
      exact hid_of (barH_of z1 fun z => absurd z z2) fun z => z2 (re.sub a z)) r'.base
    refine (h (barH M c.M0 H)).run pins s σ H E I ⟨_, M, re.bar hL, ?_⟩
    cases q : m (ixE (killS F) 0 ε) with
    | bad => rw [q] at f; exact f.elim
    | ex a b => rw [q] at f; exact f.elim
    | ok fl =>
      rw [q] at f
      cases fl with
      | nx ε' => exact fun σ' H' M' r' => f σ' H' M' (re.out hp hf r') (out r')
      | bk ε' => exact fun σ' H' M' r' => f σ' H' M' (re.out hp hf r') (out r')
      | ct ε' => exact fun σ' H' M' r' => f σ' H' M' (re.out hp hf r') (out r')
      | xx ε' k a => exact ⟨f.1, fun σ' H' M' C dx v hc r' => f.2 σ' H' M' C dx v hc (re.out hp hf r') (out r')⟩
      | rt d =>
        have f' : RtOk c E.rt d := f
        show RtOk (c.bar L F (barH M c.M0 H)) E.rt d
        unfold RtOk at f' ⊢
        show match c.fr with | true => _ | false => _
        cases z : c.fr with
        | true =>
          rw [z] at f'
          intro p o H' n e' h1 h2
          refine f' p o H' ?_ (e0.trans e') h1 h2
          cases y : c.H0 p with
          | none => rfl
          | some u =>
            have := e0 p u y
            have n' : barH M c.M0 H p = none := n
            rw [n'] at this
            cases this
        | false =>
          rw [z] at f'
          exact fun v H' e' hv _ => f' v H' (e0.trans e') hv fun p hp => by rw [hr] at hp; cases hp
  · exact f.elim
end
/-! ### data with no list do not lean on a list -/
section
variable {K : PySem.W.Frag} {M M' : List Addr} {H : Hp} {b : Addr} {ws : List V} {o : HO}
theorem sqt_upd (hb : H b = some (.lst ws)) (hM : ∀ a, a ∈ M' → a ∈ M ∨ a = b) {a : Addr} {xs : List V} (h : SqT K (hid M H) a xs) : SqT K (hid M' (L2.upd H b o)) a xs := by
  have go : ∀ {u : HO}, hid M H a = some u → (∀ l, u ≠ .lst l) → hid M' (L2.upd H b o) a = some u := fun {u} h n => by
    obtain ⟨h1, h2⟩ := of_hid h
    have ne : a ≠ b := fun z => by
      rw [z, hb] at h1
      cases h1
      exact n ws rfl
    exact hid_of (by rw [upd_ne ne]; exact h1) fun z => (hM a z).elim h2 ne
  rcases h with (h | ⟨q, h⟩) | h
  · exact .inl (.inl (go h fun l z => by cases z))
  · exact .inl (.inr ⟨q, go h fun l z => by cases z⟩)
  · exact .inr h
mutual
theorem At.light (hb : H b = some (.lst ws)) (hM : ∀ a, a ∈ M' → a ∈ M ∨ a = b) : ∀ (d : D) (v : V), lt d = true → At K (hid M H) d v → At K (hid M' (L2.upd H b o)) d v
  | .none, v, _, h => h
  | .bool _, v, _, h => h
  | .int _, v, _, h => h
  | .str _, v, _, h => h
  | .tuple ds, v, l, ⟨a, xs, h1, h2, h3⟩ => ⟨a, xs, h1, sqt_upd hb hM h2, AtL.light hb hM ds xs (by unfold lt at l; exact l) h3⟩
  | .list ds, v, l, h => by unfold lt at l; cases l
  | .dict es, v, l, h => by unfold lt at l; cases l
theorem AtL.light (hb : H b = some (.lst ws)) (hM : ∀ a, a ∈ M' → a ∈ M ∨ a = b) : ∀ (ds : List D) (vs : List V), ltL ds = true → AtL K (hid M H) ds vs → AtL K (hid M' (L2.upd H b o)) ds vs
  | [], vs, _, h => h
  | d :: ds, vs, l, ⟨v, r, h1, h2, h3⟩ => by
    unfold ltL at l
    rw [Bool.and_eq_true] at l
    exact ⟨v, r, h1, At.light hb hM d v l.1 h2, AtL.light hb hM ds r l.2 h3⟩
end
end
/-! ### a new list is changed -/
section
variable {X : Cx} {c : Cf} {W : WX}
theorem Rel.mut {σ : L2.St} {H : Hp} {ε : Nv} {M M' : List Addr} (r : Rel c σ H ε M) {L : List Nat} {F : List (Nat × FP)} {b : Addr} {ws : List V} {o : HO} (hb : H b = some (.lst ws)) (nb : b ∉ M) (h0 : c.H0 b = none) (hp : c.pn = fun i => L.contains i) (hf : c.fs = flk F) (hM : ∀ a, a ∈ M' → a ∈ M ∨ a = b) (hM2 : ∀ a, a ∈ M → a ∈ M') :
    Rel c σ (L2.upd H b o) (ixE (keepS L F) 0 ε) M' := by
  have g : ∀ {i s}, gt (ixE (keepS L F) 0 ε) i = s → s ≠ .no → flk F i = none ∧ ((L.contains i = true ∧ gt ε i = s) ∨ (liteS (gt ε i) = s)) := fun {i s} h n => by
    rw [gt_ix (keep_no L F), Nat.zero_add] at h
    unfold keepS at h
    cases q : flk F i with
    | some p =>
      rw [q] at h
      exact absurd h.symm n
    | none =>
      rw [q] at h
      refine ⟨rfl, ?_⟩
      cases q2 : L.contains i with
      | true =>
        rw [q2] at h
        exact .inl ⟨rfl, h⟩
      | false =>
        rw [q2] at h
        exact .inr h
  have gim : ∀ {i d}, gt (ixE (keepS L F) 0 ε) i = .im d → gt ε i = .im d ∧ (L.contains i = true ∨ lt d = true) := fun {i d} h => by
    rcases (g h (by intro z; cases z)).2 with ⟨q1, q2⟩ | q
    · exact ⟨q2, .inl q1⟩
    · cases e : gt ε i with
      | no => rw [e] at q; cases q
      | im f =>
        rw [e] at q
        unfold liteS at q
        simp only at q
        split at q
        · rename_i hl
          cases q
          exact ⟨rfl, .inr hl⟩
        · cases q
      | mu f =>
        rw [e] at q
        unfold liteS at q
        cases f with
        | list ds =>
          simp only at q
          split at q
          · cases q
          · cases q
        | _ => cases q
  have gmu : ∀ {i d}, gt (ixE (keepS L F) 0 ε) i = .mu d → gt ε i = .mu d ∧ (L.contains i = true ∨ ∃ ds, d = .list ds ∧ ltL ds = true) := fun {i d} h => by
    rcases (g h (by intro z; cases z)).2 with ⟨q1, q2⟩ | q
    · exact ⟨q2, .inl q1⟩
    · cases e : gt ε i with
      | no => rw [e] at q; cases q
      | im f =>
        rw [e] at q
        unfold liteS at q
        simp only at q
        split at q
        · cases q
        · cases q
      | mu f =>
        rw [e] at q
        unfold liteS at q
        cases f with
        | list ds =>
          simp only at q
          split at q
          · rename_i hl
            cases q
            exact ⟨rfl, .inr ⟨ds, rfl, hl⟩⟩
          · cases q
        | _ => cases q
  refine ⟨r.ext.mut h0, by rw [ixE_len]; exact r.len, fun a h => hM2 a (r.sub a h), fun a h => ?_, r.old, fun i d h => ?_, fun i d h => ?_, fun i j d e a b' hij h1 h2 => ?_, fun a h => ?_, fun j d hj h => ?_, fun j p d hj h => ?_, fun j d h => ?_⟩
  · by_cases q : a = b
    · exact ⟨o, by rw [q]; exact upd_same⟩
    · rcases hM a h with z | z
      · obtain ⟨u, w⟩ := r.trk a z
        exact ⟨u, by rw [upd_ne q]; exact w⟩
      · exact absurd z q
  · obtain ⟨q1, q2⟩ := gim h
    rcases q2 with q2 | q2
    · obtain ⟨v, z1, z2⟩ := r.pin i d (by rw [hp]; exact q2) q1
      refine ⟨v, z1, At.mono (fun a u z => ?_) d v z2⟩
      obtain ⟨y1, y2⟩ := of_hid z
      have ne : a ≠ b := fun e => by rw [e, h0] at y1; cases y1
      refine hid_of (by rw [upd_ne ne]; exact r.ext a u y1) fun e => ?_
      rcases hM a e with e | e
      · rcases r.new a e with w | w
        · exact y2 w
        · rw [y1] at w
          cases w
      · exact ne e
    · obtain ⟨v, z1, z2⟩ := r.im i d q1
      exact ⟨v, z1, At.light hb hM d v q2 z2⟩
  · obtain ⟨q1, q2⟩ := gmu h
    obtain ⟨a, u, z1, z2, z3, z4, z5⟩ := r.mu i d q1
    have ne : a ≠ b := fun e => nb (e ▸ z2)
    rcases q2 with q2 | ⟨ds, rfl, q2⟩
    · have := (r.pnm i d q1).1
      rw [hp] at this
      have this' : L.contains i = false := this
      rw [q2] at this'
      cases this'
    · obtain ⟨vs, rfl, hl⟩ := own_list z5
      exact ⟨a, _, z1, hM2 a z2, z3, by rw [upd_ne ne]; exact z4, .inl ⟨vs, ds, rfl, rfl, AtL.light hb hM ds vs q2 hl⟩⟩
  · exact r.dis i j d e a b' hij (gmu h1).1 (gmu h2).1
  · rcases hM a h with z | z
    · exact r.new a z
    · exact .inr (z ▸ h0)
  · exact r.pin j d hj (gim h).1
  · have := (g h (by intro z; cases z)).1
    rw [hf, this] at hj
    cases hj
  · exact r.pnm j d (gmu h).1
/-- a slot's list, hidden, is one's own -/
theorem Rel.own {σ : L2.St} {H : Hp} {ε : Nv} {M : List Addr} (r : Rel c σ H ε M) {j : Nat} {b : Addr} {o : HO} {d : D} (hs : σ[j]? = some (some (.ref b))) (hb : H b = some o) (hM : b ∈ M) (h0 : c.H0 b = none) (ho : Own c.K (hid M H) o d)
    (hd : ∀ i e, gt ε i = .mu e → σ[i]? ≠ some (some (.ref b))) (hp : c.pn j = false) (hf : c.fs j = some .top) : Rel c σ H (st ε j (.mu d)) M := by
  have hl : ∀ {s}, gt (st ε j (.mu d)) j = s → s ≠ .no → s = .mu d := fun {s} h n => by
    have := gt_lt (ε := st ε j (.mu d)) (i := j) (by rw [h]; exact n)
    rw [st_len] at this
    rw [gt_same this] at h
    exact h.symm
  refine ⟨r.ext, by rw [st_len]; exact r.len, r.sub, r.trk, r.old, fun i e h => ?_, fun i e h => ?_, fun i k d1 d2 a1 b1 hik h1 h2 q1 q2 => ?_, r.new, fun i e hi h => ?_, fun i p e hi h => ?_, fun i e h => ?_⟩
  · by_cases q : i = j
    · subst q
      cases hl h (by intro z; cases z)
    · rw [gt_ne q] at h
      exact r.im i e h
  · by_cases q : i = j
    · subst q
      cases hl h (by intro z; cases z)
      exact ⟨b, o, hs, hM, h0, hb, ho⟩
    · rw [gt_ne q] at h
      exact r.mu i e h
  · by_cases q : i = j
    · subst q
      rw [hs] at q1
      cases q1
      rw [gt_ne (Ne.symm hik)] at h2
      exact fun z => hd k d2 h2 (z ▸ q2)
    · rw [gt_ne q] at h1
      by_cases q3 : k = j
      · subst q3
        rw [hs] at q2
        cases q2
        exact fun z => hd i d1 h1 (z ▸ q1)
      · rw [gt_ne q3] at h2
        exact r.dis i k d1 d2 a1 b1 hik h1 h2 q1 q2
  · by_cases q : i = j
    · subst q
      cases hl h (by intro z; cases z)
    · rw [gt_ne q] at h
      exact r.pin i e hi h
  · by_cases q : i = j
    · subst q
      cases hl h (by intro z; cases z)
    · rw [gt_ne q] at h
      exact r.frs i p e hi h
  · by_cases q : i = j
    · subst q
      exact ⟨hp, .inr hf⟩
    · rw [gt_ne q] at h
      exact r.pnm i e h
variable {s : Stmt} {me : Nv → R D}
/-- told.append(e), told new since the block's beginning -/
def sMt (j : Nat) (L : List Nat) (F : List (Nat × FP)) (me : Nv → R D) : Nv → R Fl := fun ε => (me ε).bind fun x => match gt ε j with
  | .im (.list ds) => if ds.length < lim then .ok (.nx (if ltL ds && lt x then st (ixE (keepS L F) 0 ε) j (.mu (.list (ds ++ [x]))) else ixE (keepS L F) 0 ε)) else .bad
  | _ => .bad
theorem ltL_app : ∀ {a b : List D}, ltL a = true → ltL b = true → ltL (a ++ b) = true
  | [], b, _, h => h
  | d :: a, b, h1, h2 => by
    unfold ltL at h1
    rw [Bool.and_eq_true] at h1
    show ltL (d :: (a ++ b)) = true
    unfold ltL
    rw [Bool.and_eq_true]
    exact ⟨h1.1, ltL_app h1.2 h2⟩
theorem ps_mt {j : Nat} {L : List Nat} {F : List (Nat × FP)} (h : PS X s (tDrop (tBM X.K "list" rAppend (tVar j) (tCons (rdE c me) tNil)))) (hp : c.pn = fun i => L.contains i := by rfl) (hf : c.fs = flk F := by rfl) (hj : flk F j = some .top := by rfl) (hpj : L.contains j = false := by rfl) : PS X s (rdM c W (sMt j L F me)) :=
  h.wk fun E σ H ⟨ε, M, re, f⟩ => by
    unfold sMt at f
    cases q : me ε with
    | bad => rw [q] at f; exact f.elim
    | ex x y => rw [q] at f; exact f.elim
    | ok x =>
      rw [q] at f
      simp only [R.bind] at f
      split at f
      · rename_i ds g
        split at f
        · rename_i hz
          obtain ⟨v, h1, b, ws, e1, h2, h3, h4⟩ := re.frs j .top _ (by rw [hf]; exact hj) g
          subst e1
          obtain ⟨hb, nb⟩ := of_hid h2
          refine ⟨.ref b, h1, .inl ⟨rfl, ws, SqL.of hb⟩, ε, M, re, x, q, fun u H' e' hv => ⟨b, ws, u, rfl, rfl, e' b _ hb, ?_, ?_⟩⟩
          · rw [atL_len h3]
            exact lim_lt (Nat.le_of_lt hz)
          · have hb' := e' b _ hb
            have ll : (AtL.mono (hid_ex e') _ _ h3 : AtL c.K (hid M H') ds ws) = AtL.mono (hid_ex e') _ _ h3 := rfl
            have h3' : AtL c.K (hid M H') ds ws := AtL.mono (hid_ex e') _ _ h3
            split at f
            · rename_i hl
              rw [Bool.and_eq_true] at hl
              have rm := (re.ex e').mut (M' := b :: M) (o := .lst (ws ++ [u])) hb' nb h4 hp hf (fun a ha => (List.mem_cons.mp ha).symm) fun a ha => List.mem_cons_of_mem _ ha
              refine f _ _ (b :: M) (rm.own h1 upd_same List.mem_cons_self h4 (.inl ⟨_, _, rfl, rfl, ?_⟩) ?_ (by rw [hp]; exact hpj) (by rw [hf]; exact hj))
              · exact AtL.light hb' (M' := b :: M) (fun a ha => (List.mem_cons.mp ha).symm) _ _ (ltL_app hl.1 (by unfold ltL ltL; rw [hl.2]; rfl)) (AtL.app h3' ⟨u, [], rfl, hv, rfl⟩)
              · intro i e he z
                obtain ⟨a, o, z1, z2, z3, z4, _⟩ := rm.mu i e he
                rw [z] at z1
                cases z1
                rw [gt_ix (keep_no L F), Nat.zero_add] at he
                have : gt ε i = .mu e := by
                  unfold keepS at he
                  split at he
                  · cases he
                  · split at he
                    · exact he
                    · unfold liteS at he
                      split at he
                      · split at he <;> cases he
                      · split at he
                        · rename_i y _
                          cases he
                          exact y
                        · cases he
                      · cases he
                obtain ⟨a', o', y1, y2, _⟩ := re.mu i e this
                rw [z] at y1
                cases y1
                exact nb y2
            · exact f _ _ M ((re.ex e').mut (M' := M) (o := .lst (ws ++ [u])) hb' nb h4 hp hf (fun a ha => .inl ha) fun a ha => ha)
        · exact f.elim
      · exact f.elim
end
end Tw
set_option Elab.async false
set_option linter.all false
set_option maxRecDepth 100000
set_option maxHeartbeats 4000000
/-! Tw31: values with new lists in them: readings, stores, answers, defs -/
namespace Tw
open PySem PySem.Spec PyProof.Rows L2
theorem fresh_flat {K : PySem.W.Frag} {H0 H : Hp} {p : FP} : ∀ {d : D} {v : V}, flat d = true → Fresh K H0 H p d v
  | .none, _, _ => by cases p <;> trivial
  | .bool _, _, _ => by cases p <;> trivial
  | .int _, _, _ => by cases p <;> trivial
  | .str _, _, _ => by cases p <;> trivial
  | .list _, _, h => by cases h
  | .tuple _, _, h => by cases h
  | .dict _, _, h => by cases h
theorem fresh_new {K : PySem.W.Frag} {M : List Addr} {H0 H' : Hp} {p : Addr} {o : HO} {d : D} (n0 : H0 p = none) (nM : p ∉ M) (hp : H' p = some o) (h : Own K (hid (p :: M) H') o d) : Fresh K H0 (hid M H') .top d (.ref p) := by
  cases d with
  | list ds =>
    obtain ⟨vs, rfl, hl⟩ := own_list h
    exact ⟨p, vs, rfl, hid_of hp nM, AtL.mono (hid_sub fun a ha => List.mem_cons_of_mem _ ha) _ _ hl, n0⟩
  | _ => trivial
/-! ### readings -/
def rdP (c : Cf) (p : FP) (m : Nv → R D) : TE := fun σ H Q => ∃ ε M, Rel c σ H ε M ∧ ∃ d, m ε = .ok d ∧ ∀ v H', Ex H H' → At c.K (hid M H') d v → Fresh c.K c.H0 (hid M H') p d v → Q v H'
section
variable {X : Cx} {c : Cf} {W : WX} {e a b : Expr} {es : List Expr} {me ma mb : Nv → R D} {ms : Nv → R (List D)} {pos : Pos}
theorem PE.lP (h : PE X e (rdL c me)) : PE X e (rdP c .top me) := h.wk fun σ H Q ⟨ε, M, re, d, hm, q⟩ => ⟨ε, M, re, d, hm, fun p o H' n e hp ho => q _ H' e (own_new re.trk n hp ho) (fresh_new (Evl.fresh_back re.ext n) (Trk.no re.trk n) hp ho)⟩
theorem PE.pE {p : FP} (h : PE X e (rdP c p me)) : PE X e (rdE c me) := h.wk fun σ H Q ⟨ε, M, re, d, hm, q⟩ => ⟨ε, M, re, d, hm, fun v H' e' hv _ => q v H' e' hv⟩
theorem pe_flP {p : FP} (h : PE X e (rdE c me)) (hf : ∀ ε d, me ε = .ok d → flat d = true := by intro _ _ h; cases h; rfl) : PE X e (rdP c p me) := h.wk fun σ H Q ⟨ε, M, re, d, hm, q⟩ => ⟨ε, M, re, d, hm, fun v H' e' hv => q v H' e' hv (fresh_flat (hf ε d hm))⟩
theorem pe_vP {p : FP} {i : Nat} (h : PE X e (tVar i)) (hf : c.fs i = some p := by rfl) : PE X e (rdP c p (xV i)) := h.wk fun σ H Q ⟨ε, M, re, d, hm, q⟩ => by
  obtain ⟨v, h1, h2⟩ := re.im i d (xV_ok hm)
  obtain ⟨v', h3, h4⟩ := re.frs i p d hf (xV_ok hm)
  rw [h1] at h3
  cases h3
  exact ⟨v, h1, q v H (Evl.Ex.refl H) h2 h4⟩
/-- a pair, the first one new -/
theorem pe_tuP0 {x1} (ha : PE X a (rdP c .top ma)) (hb : PE X b (rdE c mb)) (st1 : starEach [a, b] X.env = (false, eval a X.env) :: starEach [b] X.env := by rfl) (st2 : starEach [b] X.env = (false, eval b X.env) :: starEach [] X.env := by rfl) : PE X (.Tuple [a, b] x1 pos) (rdP c (.at 0) (xTup (xCons ma (xCons mb xNil)))) :=
  (L2.pe_tup (pa_cons ha (pa_cons hb pa_nil st2) st1)).wk fun σ H Q ⟨ε, M, re, d, hm, q⟩ => by
    obtain ⟨ds, h1, h2⟩ := R.bind_ok hm
    cases h2
    obtain ⟨x, h3, h4⟩ := R.bind_ok h1
    obtain ⟨r, h5, h6⟩ := R.bind_ok h4
    cases h6
    obtain ⟨y, h7, h8⟩ := R.bind_ok h5
    obtain ⟨r2, h9, h10⟩ := R.bind_ok h8
    cases h9
    cases h10
    refine ⟨ε, M, re, x, h3, fun v H1 e1 hv hf => ⟨ε, M, re.ex e1, y, h7, fun w H2 e2 hw => ⟨by show 2 ≤ sizeLine; decide, fun p n => ?_⟩⟩⟩
    have e3 : Ex H2 (L2.upd H2 p (.tup [v, w])) := Evl.Ex.new n
    have nM : p ∉ M := Trk.no (Trk.ex re.trk (e1.trans e2)) n
    have s : SqT c.K (hid M (L2.upd H2 p (.tup [v, w]))) p [v, w] := SqT.of (hid_of upd_same nM)
    have l : AtL c.K (hid M (L2.upd H2 p (.tup [v, w]))) [x, y] [v, w] := ⟨v, [w], rfl, At.mono (hid_ex (e2.trans e3)) _ _ hv, w, [], rfl, At.mono (hid_ex e3) _ _ hw, rfl⟩
    refine q (.ref p) _ ((e1.trans e2).trans e3) ⟨p, _, rfl, s, l⟩ ⟨p, _, rfl, s, l, fun f z q1 q2 => ?_⟩
    cases q1
    cases q2
    exact FreshT.mono (Evl.Ex.refl _) (hid_ex (e2.trans e3)) hf
/-- a pair, the second one new -/
theorem pe_tuP1 {x1} (ha : PE X a (rdE c ma)) (hb : PE X b (rdP c .top mb)) (st1 : starEach [a, b] X.env = (false, eval a X.env) :: starEach [b] X.env := by rfl) (st2 : starEach [b] X.env = (false, eval b X.env) :: starEach [] X.env := by rfl) : PE X (.Tuple [a, b] x1 pos) (rdP c (.at 1) (xTup (xCons ma (xCons mb xNil)))) :=
  (L2.pe_tup (pa_cons ha (pa_cons hb pa_nil st2) st1)).wk fun σ H Q ⟨ε, M, re, d, hm, q⟩ => by
    obtain ⟨ds, h1, h2⟩ := R.bind_ok hm
    cases h2
    obtain ⟨x, h3, h4⟩ := R.bind_ok h1
    obtain ⟨r, h5, h6⟩ := R.bind_ok h4
    cases h6
    obtain ⟨y, h7, h8⟩ := R.bind_ok h5
    obtain ⟨r2, h9, h10⟩ := R.bind_ok h8
    cases h9
    cases h10
    refine ⟨ε, M, re, x, h3, fun v H1 e1 hv => ⟨ε, M, re.ex e1, y, h7, fun w H2 e2 hw hf => ⟨by show 2 ≤ sizeLine; decide, fun p n => ?_⟩⟩⟩
    have e3 : Ex H2 (L2.upd H2 p (.tup [v, w])) := Evl.Ex.new n
    have nM : p ∉ M := Trk.no (Trk.ex re.trk (e1.trans e2)) n
    have s : SqT c.K (hid M (L2.upd H2 p (.tup [v, w]))) p [v, w] := SqT.of (hid_of upd_same nM)
    have l : AtL c.K (hid M (L2.upd H2 p (.tup [v, w]))) [x, y] [v, w] := ⟨v, [w], rfl, At.mono (hid_ex (e2.trans e3)) _ _ hv, w, [], rfl, At.mono (hid_ex e3) _ _ hw, rfl⟩
    refine q (.ref p) _ ((e1.trans e2).trans e3) ⟨p, _, rfl, s, l⟩ ⟨p, _, rfl, s, l, fun f z q1 q2 => ?_⟩
    cases q1
    cases q2
    exact FreshT.mono (Evl.Ex.refl _) (hid_ex e3) hf
/-! ### a def's promise -/
def spP (K : PySem.W.Frag) (cl : Nat → Option Addr) (p : FP) (f : List D → R D) : Sp := fun vs H Q E => ∃ M ds, Trk M H ∧ AtL K (hid M H) ds vs ∧ match f ds with
  | .ok d => ∀ v H', Ex H H' → At K (hid M H') d v → Fresh K H (hid M H') p d v → Q v H'
  | .ex k a => Exw K cl M H E k a
  | .bad => False
theorem spP_of_F {K : PySem.W.Frag} {cl : Nat → Option Addr} {p : FP} {g : List D → R D} {vs : List V} {H : Hp} {Q : VK} {E : XK} (h : spF K cl g vs H Q E) : spP K cl p g vs H Q E := by
  obtain ⟨M, ds, t, ha, hf⟩ := h
  refine ⟨M, ds, t, ha, ?_⟩
  cases q : g ds with
  | ok d =>
    rw [q] at hf
    exact fun v H' e hv _ => hf v H' e hv
  | ex k a =>
    rw [q] at hf
    exact hf
  | bad =>
    rw [q] at hf
    exact hf
theorem spN_of_P {K : PySem.W.Frag} {cl : Nat → Option Addr} {g : List D → R D} {vs : List V} {H : Hp} {Q : VK} {E : XK} (h : spP K cl .top g vs H Q E) : spN K cl g vs H Q E := by
  obtain ⟨M, ds, t, ha, hf⟩ := h
  refine ⟨M, ds, t, ha, ?_⟩
  cases q : g ds with
  | ok d =>
    rw [q] at hf
    exact fun p o H' n e hp ho => hf _ H' e (own_new t n hp ho) (fresh_new n (Trk.no t n) hp ho)
  | ex k a =>
    rw [q] at hf
    exact hf
  | bad =>
    rw [q] at hf
    exact hf
section
variable {P : Program} {w : World} {K : PySem.W.Frag} {mg : Str → Option Value} {base : Heap}
theorem spP_F {cl : Nat → Option Addr} {p : FP} {f : Addr} {fd : FuncData} {ps : List Str} {k : Nat} {g : List D → R D} (F : FnG P w K mg base k f fd ps (spP K cl p g)) : FnG P w K mg base k f fd ps (spF K cl g) :=
  ⟨fun vs H Q E h => F.len vs H Q E (spP_of_F h), fun A outer s H args us vs Q E hr hG he hb hv h => F.run A outer s H args us vs Q E hr hG he hb hv (spP_of_F h)⟩
theorem spN_P {cl : Nat → Option Addr} {f : Addr} {fd : FuncData} {ps : List Str} {k : Nat} {g : List D → R D} (F : FnG P w K mg base k f fd ps (spN K cl g)) : FnG P w K mg base k f fd ps (spP K cl .top g) :=
  ⟨fun vs H Q E h => F.len vs H Q E (spN_of_P h), fun A outer s H args us vs Q E hr hG he hb hv h => F.run A outer s H args us vs Q E hr hG he hb hv (spN_of_P h)⟩
theorem spP_len {cl : Nat → Option Addr} {p : FP} {n N : Nat} {m : Nv → R Fl} {ps : List Str} (h : ps.length = n) : ∀ vs H Q E, spP K cl p (runF n N m) vs H Q E → vs.length = ps.length := fun vs H Q E ⟨M, ds, t, ha, hf⟩ => by
  by_cases e : ds.length = n
  · rw [atL_len ha, e, h]
  · unfold runF at hf
    rw [if_neg e] at hf
    exact hf.elim
/-- THE RULE: a def whose answers have new lists; F its own slots with such lists -/
theorem def_P (F0 : List (Nat × FP)) {p : FP} {cl : Nat → Option Addr} {x qual : Str} {st : Stmt} {f : Addr} {fd : FuncData} {Ns ps : List Str} {k n : Nat} {m : Nv → R Fl} (F : Fun K x qual st f fd) (S : FnScope Ns ps (defScope st)) (hn : ps.length = n) (hN : n ≤ Ns.length) (hF0 : (List.range n).all (fun i => (flk F0 i).isNone) = true)
    (body : ∀ (cdv : Value) (A : Around) (outer : List PySem.Env) (s : Shared) (H : Hp) (E : XK) (M : List Addr), Room k (A.deeper (envOfC qual (defScope st) s.heap.objs.size f cdv)) → A.guards = some [] →
      PassesOwn (model P w) (A.deeper (envOfC qual (defScope st) s.heap.objs.size f cdv)) (envOfC qual (defScope st) s.heap.objs.size f cdv) (cxOf (L2.CX P w) P w K mg base Ns qual (defScope st) f cdv A outer s H E).xe →
      Takes (cxOf (L2.CX P w) P w K mg base Ns qual (defScope st) f cdv A outer s H E) (fun cls d _ H' => E cls d H') →
      PSs (cxOf (L2.CX P w) P w K mg base Ns qual (defScope st) f cdv A outer s H E) (defBody st) (rdS ⟨K, H, M, false, cl, fun _ => false, flk F0, some p⟩ (fun cls d _ H' => E cls d H') m)) : FnG P w K mg base (k + 1) f fd ps (spP K cl p (runF n Ns.length m)) := by
  refine fnG_of F S (spP_len hn) fun cdv A outer s H vs Q E hr hG ⟨M, ds, t, ha, hf⟩ => ⟨_, body cdv A outer s H E M hr hG (passes_of (X := cxOf (L2.CX P w) P w K mg base Ns qual (defScope st) f cdv A outer s H E) rfl) (takes_of rfl rfl rfl rfl), ?_⟩
  unfold runF at hf
  by_cases e : ds.length = n
  · rw [if_pos e] at hf
    refine ⟨_, M, Rel.start (fr := false) (cl := cl) t ha e hN (fun i hi => ?_), ?_⟩
    · have := List.all_eq_true.mp hF0 i (List.mem_range.mpr hi)
      cases q : flk F0 i with
      | none => rfl
      | some p =>
        rw [q] at this
        cases this
    cases g : m (ds.map SV.im ++ List.replicate (Ns.length - n) SV.no) with
    | bad =>
      rw [g] at hf
      exact hf.elim
    | ex a b =>
      rw [g] at hf
      exact hf.elim
    | ok fl =>
      rw [g] at hf
      cases fl with
      | nx ε' => exact fun σ' H' M' r' _ => hf .non H' r'.ext rfl (fresh_flat rfl)
      | rt d' => exact fun v H' e' hv hfr => hf v H' e' hv (hfr p rfl)
      | bk _ => exact hf.elim
      | ct _ => exact hf.elim
      | xx ε' k a => exact ⟨hf.1, fun σ' H' M' C dx v hc r' e' hx hv => hf.2 C dx v H' hc r'.ext (by
          obtain ⟨h1, h2⟩ := of_hid hx
          exact hid_of h1 fun z => h2 (r'.sub dx z)) hv⟩
  · rw [if_neg e] at hf
    exact hf.elim
end
theorem pfP {p : FP} {x : Str} {px : Pos} {cl : Nat → Option Addr} {k : Nat} {f : Addr} {fd : FuncData} {ps : List Str} {g : List D → R D} (F : FnG X.prog X.w X.K X.mg X.base k f fd ps (spP X.K cl p g)) (hr : Room k X.A) (hG : X.A.guards = some []) (hm : X.mg x = some (.ref f)) (hk : PySem.W.keepIn X.K (.ref f) = true) (hb : Binds X.K fd ps [])
    (ha : PA X (e :: es) (rdA c ms)) (hg : Gl X x := by rfl) (hdb : (x == ("__debug__" : Str)) = false := by decide) (he : starEach (e :: es) X.env = (false, eval e X.env) :: starEach es X.env := by rfl) (hpl : (backTo pos (starEach es X.env)).any (·.1) = false := by rfl) (hK : c.K = X.K := by rfl) :
    PE X (.Call (.Name x px) (e :: es) [] pos) (rdP c p (xCall g ms)) := (pe_callG (E := E0') F hr hG hm hk hb pass0' ha hg hdb he hpl).wk fun σ H Q ⟨ε, M, re, d, hm, q⟩ => by
  obtain ⟨ds, h1, h2⟩ := R.bind_ok hm
  refine ⟨ε, M, re, ds, h1, fun vs H1 e1 hv => ⟨M, ds, Trk.ex re.trk e1, hK ▸ hv, ?_⟩⟩
  rw [h2]
  exact fun w H3 e3 hw hf => q w H3 (e1.trans e3) (hK ▸ hw) (hK ▸ hf.mono (re.ext.trans e1) (Evl.Ex.refl _))
/-! ### answers -/
theorem ps_rtP {p : FP} (hf : c.fr = false) (h : PE X e (rdP c p me)) (hrp : c.rp = some p := by rfl) : PS X (.Return (some e) pos) (rdS c W (sRt me)) := (ps_ret h).wk fun E σ H ⟨ε, M, re, f⟩ => by
  unfold sRt at f
  cases q : me ε with
  | bad => rw [q] at f; exact f.elim
  | ex a b => rw [q] at f; exact f.elim
  | ok d =>
    rw [q] at f
    have f' : RtOk c E.rt d := f
    unfold RtOk at f'
    rw [hf] at f'
    refine ⟨ε, M, re, d, q, fun v H' e' hv hfr => f' v H' (re.ext.trans e') (At.mono (hid_sub re.sub) d v hv) fun p' hp => ?_⟩
    rw [hrp] at hp
    cases hp
    exact hfr.mono (Evl.Ex.refl _) (hid_sub re.sub)
/-! ### stores -/
theorem tAsg_rdP {i : Nat} {p : FP} (hq : c.pn i = false := by rfl) (hq2 : c.fs i = some p := by rfl) : ∀ E σ H, rdS c W (sAs i me) E σ H → tAsg (rdP c p me) (gName i) E σ H := fun E σ H ⟨ε, M, re, f⟩ => by
  unfold sAs at f
  cases q : me ε with
  | bad => rw [q] at f; exact f.elim
  | ex a b => rw [q] at f; exact f.elim
  | ok d =>
    rw [q] at f
    refine ⟨ε, M, re, d, q, fun v H' e' hv hf => f _ H' M ((re.ex e').setF hv hq fun p' hp => ?_) (hid_ex e')⟩
    rw [hq2] at hp
    cases hp
    exact hf
variable {x : Str} {px : Pos}
theorem ps_asP {i : Nat} {p : FP} (hN : X.N.Nodup) (he : PE X e (rdP c p me)) (hi : X.N[i]? = some x := by rfl) (hx : Loc X.env.scope x := by first | exact Or.inl rfl | exact Or.inr rfl) (hs : swapsWith e (some (.Name x px)) pos.line X.env = pure false := by rfl)
    (hf : X.fn x = true ∨ X.env.scope.names.lookup x = some .local := by first | exact .inl rfl | exact .inr rfl) (hq : c.pn i = false := by rfl) (hq2 : c.fs i = some p := by rfl) : PS X (.Assign [.Name x px] e pos) (rdS c W (sAs i me)) := (ps_set hN hi hx he hs hf).wk (tAsg_rdP hq hq2)
theorem tAsg_rdLP {i : Nat} (hq : c.pn i = false := by rfl) (hq2 : c.fs i = some .top := by rfl) : ∀ E σ H, rdS c W (sAs i me) E σ H → tAsg (rdL c me) (gName i) E σ H := fun E σ H ⟨ε, M, re, f⟩ => by
  unfold sAs at f
  cases q : me ε with
  | bad => rw [q] at f; exact f.elim
  | ex a b => rw [q] at f; exact f.elim
  | ok d =>
    rw [q] at f
    refine ⟨ε, M, re, d, q, fun p o H' n e' hp ho => f _ H' M ((re.ex e').setF (own_new re.trk n hp ho) hq fun p' hp' => ?_) (hid_ex e')⟩
    rw [hq2] at hp'
    cases hp'
    exact fresh_new (Evl.fresh_back re.ext n) (Trk.no re.trk n) hp ho
section
variable {elt tg iter : Expr} {ifs : List Expr} {scope : Scope} {own : List (Str × Nat)} {spos py : Pos} {g : TG} {bb : D → Nv → R Nv} {js : List Nat} {mi : Nv → R (List D)} {t : Nv → R Bool} {y : Str} {i : Nat}
theorem ps_coP (hc : X.calm = true) (hN : X.N.Nodup) (hi : PI X tg iter (rdI c mi)) (ok : BlkOk X.N X.env.scope scope own) (gk : GOk c g bb js) (hj : ∀ j, j ∈ js → j ∈ own.map (·.2))
    (hg : ∀ (s : Shared) (H : Hp) (C : Addr) (cl : List (Str × Addr)) (fp : List Addr), PG (X.blk s H scope (compEnvC scope cl C X.env) fp) tg g) (ht : ∀ (s : Shared) (H : Hp) (C : Addr) (cl : List (Str × Addr)) (fp : List Addr), PTs (X.blk s H scope (compEnvC scope cl C X.env) fp) ifs (rdT c t))
    (he : ∀ (s : Shared) (H : Hp) (C : Addr) (cl : List (Str × Addr)) (fp : List Addr), PE (X.blk s H scope (compEnvC scope cl C X.env) fp) elt (rdE c me))
    (hsw : swapsWith (.ListComp elt [⟨tg, iter, ifs, 0⟩] scope pos) (some (.Name y py)) spos.line X.env = pure true) (hy : X.N[i]? = some y := by rfl) (hyl : X.env.scope.names.lookup y = some .local := by rfl) (hs : ∀ x, foldedSetIterable iter X.env x = pure x := by intro _; rfl) (hq : c.pn i = false := by rfl) (hq2 : c.fs i = some .top := by rfl) :
    PS X (.Assign [.Name y py] (.ListComp elt [⟨tg, iter, ifs, 0⟩] scope pos) spos) (rdS c W (sAs i (xLc (own.map (·.2)) mi bb t me))) :=
  (ps_setLc hc hN hy hyl hsw hi ok hg ht he hs).wk fun E σ H h => (tAsg_rdLP (c := c) (i := i) hq hq2 E σ H h : tAsg (rdL c (xLc (own.map (·.2)) mi bb t me)) (gName i) E σ H) |> fun q => tLc_rd gk hj σ H _ q
end
/-- two names from a pair, one of its items new -/
theorem ps_unP {s : Stmt} {i a1 b1 : Nat} (h : PS X s (tAsg (rdP c (.at i) me) (gTup X.K 2 (gCons (gName a1) (gCons (gName b1) gNil))))) (hab : a1 ≠ b1 := by decide) (ha : c.pn a1 = false := by rfl) (hb : c.pn b1 = false := by rfl)
    (ha2 : c.fs a1 = (if i = 0 then some .top else none) := by rfl) (hb2 : c.fs b1 = (if i = 1 then some .top else none) := by rfl) (hK : c.K = X.K := by rfl) : PS X s (rdS c W (sUn me (bT 2 (bsC (bN a1) (bsC (bN b1) bs0))))) :=
  h.wk fun E σ H ⟨ε, M, re, f⟩ => by
    unfold sUn at f
    cases q : me ε with
    | bad => rw [q] at f; exact f.elim
    | ex x y => rw [q] at f; exact f.elim
    | ok d =>
      rw [q] at f
      simp only [R.bind] at f
      refine ⟨ε, M, re, d, q, fun v H' e' hv hfr => ?_⟩
      cases d with
      | tuple ds =>
        match ds, f, hv, hfr with
        | [x, y], f, hv, ⟨t, xs, e1, h1, h2, h3⟩ =>
          obtain ⟨u, w, ev, k1, k2⟩ := at_two h2
          subst ev
          refine ⟨t, _, e1, hK ▸ sqt_le h1, rfl, u, [w], rfl, w, [], rfl, rfl, ?_⟩
          have r1 := (re.ex e').setF (i := a1) k1 ha fun p hp => by
            rw [ha2] at hp
            split at hp
            · rename_i z
              cases hp
              subst z
              exact h3 x u rfl rfl
            · cases hp
          have r2 := r1.setF (i := b1) k2 hb fun p hp => by
            rw [hb2] at hp
            split at hp
            · rename_i z
              cases hp
              subst z
              exact h3 y w rfl rfl
            · cases hp
          exact f _ _ M r2 (hid_ex e')
        | [], f, _, _ => exact f.elim
        | [_], f, _, _ => exact f.elim
        | _ :: _ :: _ :: _, f, _, _ => exact f.elim
      | _ => exact f.elim
/-! ### told[i].append(e) -/
def itemL (j : Nat) (F : List (Nat × FP)) (i : Nat) (d : D) : Option (List D) := match flk F j, d with
  | some (.at k), .tuple es => if k = i then (match es[i]? with | some (.list ds) => some ds | _ => none) else none
  | some .each, .list es => (match es[i]? with | some (.list ds) => some ds | _ => none)
  | _, _ => none
def sMtI (j i : Nat) (L : List Nat) (F : List (Nat × FP)) (me : Nv → R D) : Nv → R Fl := fun ε => (me ε).bind fun x => match gt ε j with
  | .im d => match itemL j F i d with
    | some ds => if ds.length < lim then .ok (.nx (ixE (keepS L F) 0 ε)) else .bad
    | none => .bad
  | _ => .bad
theorem ps_mtI {s : Stmt} {j i : Nat} {L : List Nat} {F : List (Nat × FP)} (h : PS X s (tDrop (tBM X.K "list" rAppend (tOp (rIx X.K) (tVar j) (rdE c (xC (.int (i : Int))))) (tCons (rdE c me) tNil)))) (hp : c.pn = fun i => L.contains i := by rfl) (hf : c.fs = flk F := by rfl) (hK : c.K = X.K := by rfl) : PS X s (rdM c W (sMtI j i L F me)) :=
  h.wk fun E σ H ⟨ε, M, re, f⟩ => by
    unfold sMtI at f
    cases q : me ε with
    | bad => rw [q] at f; exact f.elim
    | ex x y => rw [q] at f; exact f.elim
    | ok x =>
      rw [q] at f
      simp only [R.bind] at f
      split at f
      · rename_i d g
        split at f
        · rename_i ds hd
          split at f
          · rename_i hz
            -- the outer object, the list in it
            have key : ∃ v t xs b ws, σ[j]? = some (some v) ∧ v = .ref t ∧ (SqL c.K (hid M H) t xs ∨ SqT c.K (hid M H) t xs) ∧ xs[i]? = some (.ref b) ∧ hid M H b = some (.lst ws) ∧ AtL c.K (hid M H) ds ws ∧ c.H0 b = none := by
              unfold itemL at hd
              split at hd
              · rename_i k es hk
                split at hd
                · rename_i ki
                  subst ki
                  split at hd
                  · rename_i ds' he
                    cases hd
                    obtain ⟨v, h1, t, xs, e1, h2, h3, h4⟩ := re.frs j _ _ (by rw [hf]; exact hk) g
                    obtain ⟨y, z1, z2⟩ := AtL.get h3 he
                    obtain ⟨b, ws, e2, h5, h6, h7⟩ := h4 _ _ he z1
                    subst e2
                    exact ⟨v, t, xs, b, ws, h1, e1, .inr h2, z1, h5, h6, h7⟩
                  · cases hd
                · cases hd
              · rename_i es hk
                split at hd
                · rename_i ds' he
                  cases hd
                  obtain ⟨v, h1, t, xs, e1, h2, h3, h4⟩ := re.frs j _ _ (by rw [hf]; exact hk) g
                  obtain ⟨y, z1, z2⟩ := AtL.get h3 he
                  obtain ⟨b, ws, e2, h5, h6, h7⟩ := h4 i _ _ he z1
                  subst e2
                  exact ⟨v, t, xs, b, ws, h1, e1, .inl h2, z1, h5, h6, h7⟩
                · cases hd
              · cases hd
            obtain ⟨v, t, xs, b, ws, h1, e1, h2, h3, h4, h5, h6⟩ := key
            subst e1
            obtain ⟨hb, nb⟩ := of_hid h4
            have at1 : L2.atI xs (i : Int) = some (.ref b) := L2.atI_nat h3
            refine ⟨.ref t, h1, ε, M, re, _, rfl, fun y H1 e1 hy => ?_⟩
            have ey : y = .int (i : Int) := hy
            subst ey
            have hb1 := e1 b _ hb
            have rest : tyV X.K "list" (.ref b) H1 ∧ tCons (rdE c me) tNil σ H1 fun xs H2 => rAppend (.ref b) xs H2 fun _ H3 => E.nx σ H3 := by
              refine ⟨.inl ⟨rfl, ws, SqL.of hb1⟩, ε, M, re.ex e1, x, q, fun u H' e' hv => ⟨b, ws, u, rfl, rfl, e' b _ hb1, ?_, ?_⟩⟩
              · rw [atL_len h5]
                exact lim_lt (Nat.le_of_lt hz)
              · exact f _ _ M (((re.ex e1).ex e').mut (M' := M) (o := .lst (ws ++ [u])) (e' b _ hb1) nb h6 hp hf (fun a ha => .inl ha) fun a ha => ha)
            rcases h2 with h2 | h2
            · exact .inl ⟨t, xs, i, .ref b, rfl, rfl, hK ▸ Evl.ex_l (hid_le.trans e1) h2, at1, rest⟩
            · exact .inr (.inl ⟨t, xs, i, .ref b, rfl, rfl, hK ▸ Evl.ex_t (hid_le.trans e1) h2, at1, rest⟩)
          · exact f.elim
        · exact f.elim
      · exact f.elim
end
end Tw
set_option Elab.async false
set_option linter.all false
set_option maxRecDepth 100000
set_option maxHeartbeats 4000000
/-! Tw32: sorted(set(..)) of a list of ints, or of tuples -/
namespace Tw
open PySem PySem.Spec PyProof.Rows L2
/-- a set that holds nothing yet -/
abbrev nS (w : World) : PySem.Obj := ⟨.type "set", none, .set #[] 0 (.fresh 0 0 (!w.params.followText "set-order")), #[]⟩
section
variable {P : Program} {w : World} {A : Around} {E : Value → Shared → Prop} {s : Shared}
set_option maxHeartbeats 3200000 in
theorem set_of_ints {l : Addr} {xs : Array Value} (ns : List Int) {Q : Value → Shared → Prop} (quiet : A.handled = none) (here : s.heap.IsList l xs) (nums : IntsAre xs.toList ns) (room : ns.length + 1 < scanBound)
    (go : ∀ (g : Heap) (tk c : Nat), SetR w g s.heap.objs.size (fun j => decide (j ∈ ns)) c → c ≤ ns.length → (∀ b o, s.heap.get? b = some o → g.get? b = some o) → Q (.ref s.heap.objs.size) { s with heap := g, toks := tk }) : wpAny (model P w) A (call (.type "set") [.ref l]) Q E s := by
  have sz : xs.size = ns.length := by rw [← nums.length, Array.length_toList]
  obtain ⟨cc, ct, mro_⟩ := F.called_set.mro
  have ma := F.called_set.made; have su := F.called_set.sub
  refine wpAny_call (codeAny_of_tree ?_)
  show wpAny _ _ (callAny (.type "set") _) _ _ _
  refine wpAny_pure ⟨Code.quiet_builtin _ (by decide +kernel), codeAny_builtin F.entry_type_call ?_⟩
  rw [Around.under_plain (weight_type_call_type "set" [.ref l] []) rfl]
  have n1 := F.called_set.notType; have n2 := F.called_set.canCreate; have n3 := F.typeCall_set_1 (.ref l)
  repeat (any_goals (first | assumption | wp_step))
  have K := code_set_led1 (P := P) (w := w) (A := A.in1) (s := s) (.ref l) (E := E) (Q₁ := fun v t => v = .ref s.heap.objs.size ∧ t = { s with heap := s.heap.push (nS w) }) ⟨rfl, rfl⟩
  refine codeAny_mono K fun r t hr => ?_
  cases r with
  | error e => exact hr
  | ok fl =>
    cases fl with
    | ret v =>
      obtain ⟨rfl, rfl⟩ := hr
      have at0 : (s.heap.push (nS w)).get? s.heap.objs.size = some (nS w) := Heap.get?_push_size _ rfl
      have ty0 : Shared.TypeIs { s with heap := s.heap.push (nS w) } (.ref s.heap.objs.size) "set" := ⟨_, at0, rfl⟩
      have lo := F.called_set.init.lookup; have bi := F.called_set.init.bind (.ref s.heap.objs.size)
      repeat (any_goals (first | assumption | wp_step))
      refine codeAny_mono (codeAny_call_builtin (R := wants (fun r t => r = .none ∧ ∃ g tk c, t = { s with heap := g, toks := tk } ∧ SetR w g s.heap.objs.size (fun j => decide (j ∈ ns)) c ∧ c ≤ ns.length ∧ (∀ b o, s.heap.get? b = some o → g.get? b = some o)) E) F.called_set.init.plain F.entry_set_init (check_set_init_1 ty0 ?_)) fun r t hr => ?_
      · obtain ⟨⟨k1, k2, k3, k4⟩, at1, e1, m1, e2⟩ := here
        simp only at e1 e2
        subst e1; subst e2
        have at2 : (s.heap.push (nS w)).get? l = some { cls := .type "list", dict := k2, data := .seq xs m1, slots := k4 } := Heap.get?_push_of_some _ at1
        have f1 := F.sub_list_set; have f2 := F.sub_list_frozenset; have f3 : (Value.type "list" == Value.type "dict") = false := by decide
        have here1 : (s.heap.push (nS w)).IsList l xs := ⟨_, at2, rfl, m1, rfl⟩
        unfold Builtin.«set.__init__» noKeywords Builtin.Frozenset.updateFrom
        generalize hPI : pyIter = PI; wp_walk; subst hPI
        refine wpAny_pyIter_list here1 (wpAny_bind (wpAny_runValue ?_))
        have ls : l < s.heap.objs.size := Heap.lt_size at1
        have q3 : A.in1.in1.in1.handled = none := by simp [quiet]
        have ne : l ≠ (s.heap.push (nS w)).objs.size := by rw [Heap.size_push]; exact Nat.ne_of_lt (Nat.lt_succ_of_lt ls)
        have apart : s.heap.objs.size ∉ [(s.heap.push (nS w)).objs.size, l] := by
          rw [Heap.size_push]
          intro z
          rcases List.mem_cons.mp z with z | z
          · exact absurd z (Nat.ne_of_lt (Nat.lt_succ_self _))
          · exact absurd (List.mem_singleton.mp z) (Nat.ne_of_gt ls)
        have val : ∀ (i : Nat) (v : Value), xs[i]? = some v → ∃ k t, ns[i]? = some k ∧ v = .int k t := fun i v hv => by
          have li : i < ns.length := by rw [← sz]; exact (Array.getElem?_eq_some_iff.mp hv).1
          obtain ⟨t, e⟩ := PyProof.Rows.IntsAre.int_at nums i v (by rw [Array.getElem?_toList]; exact hv)
          exact ⟨ns[i], t, List.getElem?_eq_getElem li, by rw [e, List.getD_eq_getElem?_getD, List.getElem?_eq_getElem li] <;> rfl⟩
        refine set_update_ints ((Walks.list q3 _ l ne xs).toS) s.heap.objs.size apart ns sz room val (xs.size - 0) 0 _ (by omega) (Nat.zero_le _) ⟨⟨_, Heap.get?_push_size _ rfl, rfl, rfl⟩, here1.push _⟩ ⟨0, Nat.le_refl 0, setR_new_at (Heap.get?_push_of_some _ at0)⟩ fun t c mv lc got => ?_
        obtain ⟨g, g2, d2, tk, o2⟩ := t
        have a1 : g2 = s.gens := mv.gens; have a2 : d2 = s.drawn := mv.drawn; have a3 : o2 = s.os := mv.os
        subst a1; subst a2; subst a3
        show wpAny _ _ _ _ _ _
        refine wpAny_pure ?_
        show wpAny _ _ (ret Value.none) _ _ _
        rw [sz] at lc
        refine wpAny_pure ⟨rfl, g, tk, c, rfl, got, lc, fun b o e => ?_⟩
        have lb : b < s.heap.objs.size := Heap.lt_size e
        refine mv.heap b o (fun z => ?_) (Heap.get?_push_of_some _ (Heap.get?_push_of_some _ e))
        rcases List.mem_cons.mp z with z | z
        · exact absurd z (Nat.ne_of_lt lb)
        · have y := List.mem_singleton.mp z
          rw [Heap.size_push] at y
          exact absurd y (Nat.ne_of_lt (Nat.lt_succ_of_lt lb))
      · cases r with
        | error e => exact hr
        | ok fl =>
          cases fl with
          | ret r =>
            obtain ⟨rfl, g, tk, c, rfl, got, lc, old⟩ := hr
            repeat (any_goals (first | assumption | wp_step))
            exact go _ _ _ got lc old
          | _ => exact hr.elim
    | _ => exact hr.elim
end
section
variable {X : Cx}
/-- set(xs), xs a list of ints -/
def rSetI (K : PySem.W.Frag) (w : World) : List V → Hp → VK → Prop := fun xs H Q => ∃ (l : Addr) (ns : List Int), xs = [V.ref l] ∧ SqL K H l (ns.map V.int) ∧ ns.length < 64 ∧
  ∀ a n, H a = none → n ≤ ns.length → Q (.ref a) (L2.upd H a (SetO w a (fun j => decide (j ∈ ns)) n))
theorem scan64 {n : Nat} (h : n < 64) : n + 1 < scanBound := Nat.lt_of_lt_of_le (Nat.add_lt_add_right h 1) (by decide)
theorem cr_setI (hc : X.calm = true) : CallR X (.type "set") (rSetI X.K X.w) := by
  intro pins s σ H xs us Q I r ⟨l, ns, e, hl, hf, q⟩
  subst e
  rw [Vals.ref1 r]
  obtain ⟨its, rv, pl, _⟩ := I.list hl
  refine set_of_ints (P := X.prog) (w := X.w) ns (I.ok.hd hc) pl.isList (by simpa using rv.ints) (scan64 hf) fun g tk c R lc old => ?_
  exact ⟨.ref s.heap.objs.size, L2.upd H s.heap.objs.size (SetO X.w s.heap.objs.size (fun j => decide (j ∈ ns)) c), I.laid (t' := tk) old (Nat.le_refl _) (setO_new R), rfl, q _ _ (I.hok.fresh (Nat.le_refl _)) lc⟩
theorem cr_or {f : Value} {r1 r2 : List V → Hp → VK → Prop} (h1 : CallR X f r1) (h2 : CallR X f r2) : CallR X f (fun vs H Q => r1 vs H Q ∨ r2 vs H Q) := by
  intro pins s σ H vs us Q I r h
  rcases h with h | h
  · exact h1 pins s σ H vs us Q I r h
  · exact h2 pins s σ H vs us Q I r h
end
/-! ### ints in order, each once -/
def iins (x : Int) : List Int → List Int
  | [] => [x]
  | y :: r => if x < y then x :: y :: r else if x = y then y :: r else y :: iins x r
def isrt1 : List Int → List Int
  | [] => []
  | x :: r => iins x (isrt1 r)
theorem iins_mem (x z : Int) : ∀ l : List Int, z ∈ iins x l ↔ z = x ∨ z ∈ l
  | [] => by simp [iins]
  | y :: r => by
    unfold iins
    split
    · rw [List.mem_cons]
    · split
      · rename_i e
        rw [e]
        simp
      · rw [List.mem_cons, iins_mem x z r, List.mem_cons]
        constructor
        · rintro (q | q | q)
          · exact .inr (.inl q)
          · exact .inl q
          · exact .inr (.inr q)
        · rintro (q | q | q)
          · exact .inr (.inl q)
          · exact .inl q
          · exact .inr (.inr q)
theorem iins_srt (x : Int) : ∀ l : List Int, l.Pairwise (· < ·) → (iins x l).Pairwise (· < ·)
  | [], _ => List.pairwise_singleton _ _
  | y :: r, p => by
    obtain ⟨p1, p2⟩ := List.pairwise_cons.mp p
    unfold iins
    split
    · rename_i lt
      refine List.pairwise_cons.mpr ⟨fun z hz => ?_, p⟩
      rcases List.mem_cons.mp hz with e | e
      · rw [e]
        exact lt
      · exact Int.lt_trans lt (p1 z e)
    · split
      · exact p
      · refine List.pairwise_cons.mpr ⟨fun z hz => ?_, iins_srt x r p2⟩
        rcases (iins_mem x z r).mp hz with e | e
        · rw [e]
          omega
        · exact p1 z e
theorem isrt1_ok : ∀ l : List Int, (∀ z, z ∈ isrt1 l ↔ z ∈ l) ∧ (isrt1 l).Pairwise (· < ·)
  | [] => ⟨fun _ => Iff.rfl, List.Pairwise.nil⟩
  | x :: r => by
    obtain ⟨a, b⟩ := isrt1_ok r
    refine ⟨fun z => ?_, iins_srt x _ b⟩
    show z ∈ iins x (isrt1 r) ↔ _
    rw [iins_mem, a z, List.mem_cons]
theorem lt_uni {l m : List Int} (hl : l.Pairwise (· < ·)) (hm : m.Pairwise (· < ·)) (h : ∀ z, z ∈ m ↔ z ∈ l) : m = l := by
  have nd : ∀ {l : List Int}, l.Pairwise (· < ·) → l.Nodup := fun p => p.imp fun hlt e => by
    rw [e] at hlt
    exact Int.lt_irrefl _ hlt
  refine ((List.perm_ext_iff_of_nodup (nd hm) (nd hl)).mpr h).eq_of_pairwise (le := fun a b => a ≤ b) (fun x y _ _ h1 h2 => Int.le_antisymm h1 h2) (hm.imp fun hlt => Int.le_of_lt hlt) (hl.imp fun hlt => Int.le_of_lt hlt)
/-! ### the mirror -/
def dS2 (d : D) : R D := match d with
  | .list ds => match intsOf ds with
    | some ns => if ns.length < 64 then .ok (.list ((isrt1 ns).map PyData.int)) else .bad
    | none => dSS d
  | _ => .bad
section
variable {X : Cx} {c : Cf} {e : Expr} {me : Nv → R D} {p p2 pos pos2 : Pos}
def rSet2 (K : PySem.W.Frag) (P : Program) (w : World) : List V → Hp → VK → Prop := fun vs H Q => rSetOfT K P w vs H Q ∨ rSetI K w vs H Q
def rSort2 (K : PySem.W.Frag) (P : Program) (w : World) : List V → Hp → VK → Prop := fun vs H Q => rSortedT K P w vs H Q ∨ rSortedSet w vs H Q
theorem cr_set2 (hc : X.calm = true) (hu : X.A.units + 64 < cLine) : CallR X (.type "set") (rSet2 X.K X.prog X.w) := cr_or (cr_setOfT hc hu) (cr_setI hc)
theorem cr_sort2 (hc : X.calm = true) : CallR X (.builtin "sorted") (rSort2 X.K X.prog X.w) := cr_or (cr_sortedT hc) (cr_sortedSet hc)
theorem pe_ss2 (hu : X.A.units + 200 < cLine) (h : PE X e (tCB (rSort2 X.K X.prog X.w) (tCons (tCB (rSet2 X.K X.prog X.w) (tCons (rdE c me) tNil)) tNil))) (hK : c.K = X.K := by rfl) : PE X e (rdL c (xUn dS2 me)) := h.wk fun σ H Q ⟨ε, M, re, d, hm, q⟩ => by
  obtain ⟨x, h1, h2⟩ := R.bind_ok hm
  unfold dS2 at h2
  split at h2
  · rename_i ds
    split at h2
    · rename_i ns hi
      split at h2
      · rename_i hf
        cases h2
        refine ⟨ε, M, re, _, h1, fun v H1 e1 hv => ?_⟩
        obtain ⟨a, xs, ev, g1, g2⟩ := hv
        rw [intsOf_some hi] at g2
        have ex := AtL.ints g2
        subst ex
        refine .inr ⟨a, ns, by rw [ev], hK ▸ sql_le g1, hf, fun b n nb ln => .inr ⟨b, _, n, rfl, upd_same, by omega, fun ms r srt mem len nr => ?_⟩⟩
        have eR := (Evl.Ex.new nb).trans (Evl.Ex.new (o := .lst (ms.map V.int)) nr)
        have e2 : ms = isrt1 ns := lt_uni (isrt1_ok ns).2 srt fun z => by rw [mem z, decide_eq_true_eq, (isrt1_ok ns).1]
        have mM : r ∉ M := Trk.no (Trk.ex re.trk (e1.trans (Evl.Ex.new nb))) nr
        refine q r (.lst (ms.map V.int)) _ (Evl.fresh_back (e1.trans (Evl.Ex.new nb)) nr) (e1.trans eR) upd_same (.inl ⟨_, _, rfl, rfl, ?_⟩)
        rw [← e2]
        exact ints_at ms
      · cases h2
    · have h3 : (match tupsOf ds with | some (l :: ls) => if decide (1 ≤ l.length) && decide ((l :: ls).length < 64) && okT 1000 l.length (l :: ls) then R.ok (PyData.list ((ssort 1000 (l :: ls)).map tupD)) else R.bad | _ => R.bad) = R.ok _ := h2
      clear h2
      split at h3
      · rename_i l ls ht
        split at h3
        · rename_i hz
          cases h3
          rw [Bool.and_eq_true, Bool.and_eq_true] at hz
          have hd := of_decide_eq_true hz.1.1
          have hf := of_decide_eq_true hz.1.2
          have hok := okT_mem hz.2
          refine ⟨ε, M, re, _, h1, fun v H1 e1 hv => ?_⟩
          obtain ⟨a, xs, ev, g1, g2⟩ := hv
          rw [tupsOf_some ht] at g2
          obtain ⟨ks, k1, k2, k3⟩ := tups_at g2
          subst k2
          refine .inl ⟨a, ks, by rw [ev], hK ▸ sql_le g1, fun p hp => hK ▸ sqt_le (k3 p hp), by rw [← k1, List.length_map] at hf; exact hf, fun b L nb sub all => ?_⟩
          have eL : Ex H1 (L2.upd H1 b (SetTO X.prog X.w b L)) := Evl.Ex.new nb
          have mem : ∀ z, z ∈ L.map (·.2) ↔ z ∈ l :: ls := fun z => by
            rw [← k1]
            constructor
            · intro hz
              obtain ⟨q, hq, rfl⟩ := List.mem_map.mp hz
              exact List.mem_map_of_mem (sub q hq)
            · intro hz
              obtain ⟨q, hq, rfl⟩ := List.mem_map.mp hz
              exact all q hq
          refine .inl ⟨b, L, l.length, 1000, rfl, upd_same, fun p hp => hK ▸ Evl.ex_t eL (sqt_le (k3 p (sub p hp))), hd, fun p hp => hok p.2 ((mem p.2).mp (List.mem_map_of_mem hp)), fun L' r pm nd few pw nr => ?_⟩
          have eR := eL.trans (Evl.Ex.new (o := .lst (L'.map fun q => V.ref q.1)) nr)
          have e2 : L'.map (·.2) = ssort 1000 (l :: ls) := ssort_uni (by decide) hok (fun z => by rw [← mem z, (pm.map (·.2)).mem_iff]) nd (List.pairwise_map.mpr pw)
          have mM : r ∉ M := Trk.no (Trk.ex re.trk (e1.trans eL)) nr
          refine q r (.lst (L'.map fun q => V.ref q.1)) _ (Evl.fresh_back (e1.trans eL) nr) (e1.trans eR) upd_same (.inl ⟨_, _, rfl, rfl, ?_⟩)
          rw [← e2]
          refine at_tups L' fun p hp => ?_
          have hp' := k3 p (sub p (pm.mem_iff.mp hp))
          exact Evl.ex_t (Evl.Ex.trans (hid_ex eL) (hid_new (Evl.Ex.new nr) nr)) hp'
        · cases h3
      · cases h3
  · cases h2
end
end Tw
set_option Elab.async false
set_option linter.all false
set_option maxRecDepth 100000
set_option maxHeartbeats 4000000
/-! Tw33: [d[x] for x in d], a dict whose keys are tuples and whose values are ints -/
namespace Tw
open PySem PySem.Spec PyProof.Rows L2
def vlsT (es0 : List (D × D)) : List (D × D) → Option (List Int)
  | [] => some []
  | (.tuple ks, _) :: r => match lkT es0 ks, vlsT es0 r with
    | some (.int z), some zs => some (z :: zs)
    | _, _ => none
  | _ :: _ => none
/-- the values, key by key; j is the comprehension's own name -/
def xVls (i j : Nat) : Nv → R D := fun ε => match dTOf ε i with
  | some es => match vlsT es es with
    | some zs => if i ≠ j ∧ j < ε.length ∧ zs.length < lim then .ok (.list (zs.map PyData.int)) else .bad
    | none => .bad
  | none => .bad
section
variable {K : PySem.W.Frag} {H : Hp}
theorem vls_at {es0 : List (D × D)} {kvs0 : List (List Key × V)} (h0 : AtU K H es0 kvs0) : ∀ {es : List (D × D)} {kvs : List (List Key × V)} {zs : List Int}, AtU K H es kvs → vlsT es0 es = some zs → zs.length = kvs.length ∧ ∀ (n : Nat) (k : List Key) (v : V), kvs[n]? = some (k, v) → ∃ z, zs[n]? = some z ∧ valV kvs0 k = some (V.int z)
  | [], kvs, zs, h, hz => by
    have e : kvs = [] := h
    subst e
    cases hz
    exact ⟨rfl, fun n k v hn => by cases hn⟩
  | (kd, d) :: es, kvs, zs, ⟨c, v, r, e, ek, _, h2⟩, hz => by
    subst e ek
    have hz' : (match lkT es0 (c.map keyD), vlsT es0 es with | some (.int z), some zs => some (z :: zs) | _, _ => none) = some zs := hz
    split at hz'
    · rename_i z zs' e1 e2
      cases hz'
      obtain ⟨l1, l2⟩ := vls_at h0 h2 e2
      refine ⟨by rw [List.length_cons, List.length_cons, l1], fun n k v' hn => ?_⟩
      cases n with
      | zero =>
        cases hn
        refine ⟨z, rfl, ?_⟩
        rcases lkT_at c h0 with ⟨d', v', q1, q2, q3⟩ | ⟨q1, _⟩
        · rw [e1] at q1
          cases q1
          have q3' : v' = V.int z := q3
          rw [q2, q3']
        · rw [e1] at q1
          cases q1
      | succ n => exact l2 n k v' hn
    · cases hz'
end
section
variable {X : Cx} {c : Cf} {e : Expr}
theorem pe_or {t1 t2 : TE} (h1 : PE X e t1) (h2 : PE X e t2) : PE X e (fun σ H Q => t1 σ H Q ∨ t2 σ H Q) := ⟨fun pins s σ H Q I h => by
  rcases h with h | h
  · exact h1.run pins s σ H Q I h
  · exact h2.run pins s σ H Q I h⟩
/-- the walk over a dict that is locked -/
theorem vls_core {i j : Nat} {σ : L2.St} {H : Hp} {Q : VK} {d : Addr} {od : PySem.Obj} {kvs : List (List Key × V)} {zs : List Int} (hij : i ≠ j) (hj : j < σ.length) (hσ : σ[i]? = some (some (.ref d))) (hd : H d = some (.frz od (.dT kvs))) (hl : zs.length = kvs.length) (hz : zs.length < lim)
    (hv : ∀ (n : Nat) (k : List Key) (v : V), kvs[n]? = some (k, v) → ∃ z, zs[n]? = some z ∧ valV kvs k = some (V.int z))
    (q : ∀ D H2, H D = none → Ex H H2 → H2 D = some (.lst (zs.map V.int)) → Q (.ref D) H2) : tLc (iKeys (tVar i)) (gName j) tYes (tDGet (tVar i) (tVar j)) [j] σ H Q := by
  refine ⟨.ref d, hσ, d, od, rfl, .inr ⟨kvs, hd, fun D nD => ?_⟩⟩
  refine ⟨fun n m H2 => m = zs.length - n ∧ n ≤ zs.length ∧ H2 D = some (.lst ((zs.take n).map V.int)) ∧ Ex H H2, ⟨zs.length, by omega, Nat.zero_le _, by rw [List.take_zero]; exact upd_same, Evl.Ex.new nD⟩, ?_⟩
  rintro n m H2 ⟨rfl, hn, hD, hE⟩
  by_cases hlt : n < zs.length
  · refine .inr ⟨⟨hE d _ hd, by omega⟩, fun H' => H' D = some (.lst ((zs.take (n + 1)).map V.int)) ∧ Ex H H', fun H' p => ⟨zs.length - (n + 1), by omega, rfl, hlt, p⟩, fun x H' y => ?_⟩
    obtain ⟨eH, k, v, a, e1, e2, e3⟩ := y
    subst eH e2
    obtain ⟨z, hzn, hvz⟩ := hv n k v e1
    have sj : ((wipe σ [j]).set j (some (V.ref a)))[j]? = some (some (V.ref a)) := by
      rw [List.getElem?_set_self (by rw [wipe_length]; exact hj)]
    have si : ((wipe σ [j]).set j (some (V.ref a)))[i]? = some (some (V.ref d)) := by
      rw [List.getElem?_set_ne (fun z => hij z.symm)]
      show (σ.set j none)[i]? = _
      rw [List.getElem?_set_ne (fun z => hij z.symm), hσ]
    refine ⟨?_, ?_⟩
    · show (((σ.set j none).set j (some (V.ref a))).set j none) = σ.set j none
      rw [List.set_set, List.set_set]
    · show tDGet (tVar i) (tVar j) _ _ _
      refine ⟨.ref d, si, .ref a, sj, d, V.int z, rfl, .inr ⟨kvs, k, a, .inr ⟨od, hE d _ hd⟩, rfl, e3, hvz.symm⟩, ?_⟩
      refine ⟨(zs.take n).map V.int, hD, ?_, ?_, ?_⟩
      · rw [List.length_map, List.length_take]
        exact lim_lt (by omega)
      · rw [upd_same, List.take_succ, hzn, List.map_append]
        rfl
      · exact Evl.Ex.mut hE nD
  · have en : n = zs.length := by omega
    subst en
    rw [List.take_length] at hD
    exact .inl ⟨⟨hE d _ hd, by omega⟩, q D H2 nD hE hD⟩
theorem pe_vls {i j : Nat} (h : PE X e (tLc (iKeys (tVar i)) (gName j) tYes (tDGet (tVar i) (tVar j)) [j])) (hK : c.K = X.K := by rfl) : PE X e (rdL c (xVls i j)) := (pe_or (pe_lock h) h).wk fun σ H Q ⟨ε, M, re, x, hm, q⟩ => by
  unfold xVls at hm
  split at hm
  · rename_i es g
    split at hm
    · rename_i zs hz
      split at hm
      · rename_i hc
        cases hm
        obtain ⟨hij, hj, hl⟩ := hc
        obtain ⟨d, kvs, g1, g2, g3⟩ := rel_dT re g
        obtain ⟨l1, l2⟩ := vls_at g3 g3 hz
        have jl : j < σ.length := by rw [re.len]; exact hj
        rcases g2 with g2 | ⟨od, g2⟩
        · refine .inl ⟨d, .dT kvs, g2, True.intro, fun od => ?_⟩
          refine vls_core hij jl g1 upd_same l1 hl l2 fun D H2 nD e2 eD => ?_
          have dD : D ≠ d := fun z => by
            rw [z, upd_same] at nD
            cases nD
          have nD0 : H D = none := by rwa [upd_ne dD] at nD
          refine ⟨e2 d _ upd_same, ?_⟩
          have ex : Ex H (L2.upd H2 d (.dT kvs)) := fun a o ha => by
            by_cases z : a = d
            · rw [z, upd_same, ← g2, ← z]
              exact ha
            · rw [upd_ne z]
              exact e2 a o (by rw [upd_ne z]; exact ha)
          exact q D _ _ nD0 ex (by rw [upd_ne dD]; exact eD) (.inl ⟨_, _, rfl, rfl, ints_at zs⟩)
        · refine .inr (vls_core hij jl g1 g2 l1 hl l2 fun D H2 nD e2 eD => ?_)
          exact q D _ H2 nD e2 eD (.inl ⟨_, _, rfl, rfl, ints_at zs⟩)
      · cases hm
    · cases hm
  · cases hm
end
end Tw
set_option Elab.async false
set_option linter.all false
set_option maxRecDepth 100000
set_option maxHeartbeats 4000000
/-! Tw34: sorted({.. for ..}), ints; len(set(..)) of ints -/
namespace Tw
open PySem PySem.Spec PyProof.Rows L2
section
variable {X : Cx}
theorem setO_nil (w : World) {P : Program} {K : Hp} {h : Heap} : ObjOk P w K (h.push (nS w)) h.objs.size (SetO w h.objs.size (fun _ => false) 0) := by
  have at0 : (h.push (nS w)).get? h.objs.size = some (nS w) := Heap.get?_push_size _ rfl
  have z := setR_new_at (w := w) (ns := []) at0
  exact setO_new z
theorem addI_ok {pins : List (Addr × Obj)} {σ : L2.St} {K : Hp} {s : Shared} {E : Value → Shared → Prop} {D : Addr} {S : Int → Bool} {n : Nat} {y : Int} {tk : Tok} {Q : Value → Shared → Prop} (I : Inv X pins σ K s) (atD : K D = some (SetO X.w D S n)) (few : n + 1 < scanBound)
    (nxt : ∀ s', Inv X pins σ (L2.upd K D (SetO X.w D (fun j => S j || decide (j = y)) (if S y = true then n else n + 1))) s' → Q .none s') : wpAny (model X.prog X.w) X.A (call (.builtin "set.add") [.ref D, .int y tk]) Q E s := by
  refine setR_add (setO_get I atD) few fun h' same new => ?_
  have ex : ∃ u, h'.get? D = some u := by
    have ⟨o, _, _, _, ho, _⟩ := new
    exact ⟨o, ho⟩
  exact nxt _ (I.write (e := D) (t' := s.toks + 1) (by rw [atD]; trivial) (.inl rfl) (fun b u hb hu => (same.2 b hb).trans hu) ex (setO_new new))
/-- {elt for target in iter if ..}, ints: D the new set -/
def tSI (w : World) (wi : TI) (g : TG) (tt : TT) (te : TE) (vs : List Nat) : TE := fun σ K Q => wi σ K fun J K1 => ∀ D, K1 D = none → ∃ W : Nat → Nat → Hp → Prop, (∃ m, W 0 m (L2.upd K1 D (SetO w D (fun _ => false) 0))) ∧ ∀ i m K, W i m K →
  (J.stop i K ∧ Q (.ref D) K) ∨ (J.go i K ∧ ∃ Nx : Hp → Prop, (∀ K', Nx K' → ∃ m', m' < m ∧ W (i + 1) m' K') ∧ ∀ x K', J.yld i K x K' → g x (wipe σ vs) K' fun σ2 K2 => wipe σ2 vs = wipe σ vs ∧ tt σ2 K2 fun b K3 =>
    if b = true then te σ2 K3 fun y K4 => ∃ (c : Int) (S : Int → Bool) (n : Nat), y = .int c ∧ K4 D = some (SetO w D S n) ∧ n + 1 < scanBound ∧ Nx (L2.upd K4 D (SetO w D (fun j => S j || decide (j = c)) (if S c = true then n else n + 1))) else Nx K3)
set_option maxHeartbeats 3200000 in
theorem si_core {pins : List (Addr × Obj)} {s : Shared} {σ : L2.St} {H : Hp} {Q : VK} {elt tg iter : Expr} {ifs : List Expr} {scope : Scope} {own : List (Str × Nat)} {pos pos' : Pos} {wi : TI} {g : TG} {tt : TT} {te : TE} {use : Option (Value → Sem Unit)} {Qf : Value → Shared → Prop}
    (calm : X.calm = true) (nod : X.N.Nodup) (I : Inv X pins σ H s) (oit : PI X tg iter wi) (okb : BlkOk X.N X.env.scope scope own)
    (og : ∀ (s : Shared) (H : Hp) (C : Addr) (cl : List (Str × Addr)) (fp : List Addr), PG (X.blk s H scope (compEnvC scope cl C X.env) fp) tg g) (ot : ∀ (s : Shared) (H : Hp) (C : Addr) (cl : List (Str × Addr)) (fp : List Addr), PTs (X.blk s H scope (compEnvC scope cl C X.env) fp) ifs tt)
    (oe : ∀ (s : Shared) (H : Hp) (C : Addr) (cl : List (Str × Addr)) (fp : List Addr), PE (X.blk s H scope (compEnvC scope cl C X.env) fp) elt te) (ofs : ∀ x, foldedSetIterable iter X.env x = pure x)
    (h : tSI X.w wi g tt te (own.map (·.2)) σ H Q)
    (fwd : ∀ D C s' m H', Inv X pins σ H' s' → Q (.ref D) H' → s'.heap.Ns C m → FpOk X pins H' C → compPost (model X.prog X.w) X.A X.xe use Qf (.ref D) C (.ok .next) s') :
    wpAny (model X.prog X.w) X.A (comprehension (.SetComp elt [⟨tg, iter, ifs, 0⟩] scope pos) scope X.env pos' (newSet (.type "set")) false (eval iter X.env) use) Qf X.xe s := by
  have hfr : ∀ y ∈ scope.names, y.2 = .free → ∃ c, X.env.cells.lookup y.1 = some c := fun y hy e => by
    rcases okb.free y hy e with k | k
    · exact I.ok.has _ (.inl k)
    · exact I.ok.has _ (.inr k)
  refine wpAny_comprehension_free (use := use) rfl ofs (closure_ok hfr) okb.kind (fun y hy e => by rw [okb.uniq y hy, e])
    (thn (oit.run pins s σ H _ I h) fun xv z0 hx => thn hx fun itv za h2 => ?_)
  obtain ⟨it, fp, tn, J, Ka, e, Ja, T, t2, ff, q⟩ := h2
  subst e
  refine PpSet.newSet_ok (newEnv_comp ?_)
  generalize eqD : za.heap.objs.size = D
  have nilD : Ka D = none := Ja.hok.fresh (Nat.le_of_eq eqD)
  obtain ⟨W, ⟨begM, begW⟩, each⟩ := q D nilD
  -- the new list
  generalize eq3 : ({ za with heap := za.heap.push { cls := .type "set", dict := none, data := .set #[] 0 (.fresh 0 0 (!X.w.params.followText "set-order")) } } : Shared) = zb
  have Jb : Inv X pins σ (upd Ka D (SetO X.w D (fun _ => false) 0)) zb := by
    rw [← eq3]
    refine Ja.laid (t' := za.toks) (fun b o e => Heap.get?_push_of_some _ e) (Nat.le_of_eq eqD) ?_
    rw [← eqD]
    exact setO_nil X.w
  have hz : zb.heap = za.heap.push { cls := .type "set", dict := none, data := .set #[] 0 (.fresh 0 0 (!X.w.params.followText "set-order")) } := by rw [← eq3]
  have low : ∀ b ∈ fp, b < za.heap.objs.size := fun b hb => by
    obtain ⟨o, e, _⟩ := T.obj _ _ t2 b hb
    exact Heap.lt_size e
  have fg : ∀ b ∈ fp, FpOk X pins (upd Ka D (SetO X.w D (fun _ => false) 0)) b ∧ b < zb.heap.objs.size := fun b hb => by
    have hlt := low b hb
    refine ⟨⟨?_, (ff b hb).2⟩, by rw [hz, Heap.size_push]; exact Nat.lt_succ_of_lt hlt⟩
    rw [upd_ne (by rw [← eqD]; exact Nat.ne_of_lt hlt)]
    exact (ff b hb).1
  have t3 : tn 0 zb.heap := T.keep _ _ _ t2 fun b _ o e => by rw [hz]; exact Heap.get?_push_of_some _ e
  have Jc := block_start Jb okb nod fg
  have qg := og zb (upd Ka D (SetO X.w D (fun _ => false) 0)) zb.heap.objs.size (cellsFrom (zb.heap.objs.size + 1) scope.names (cloFrom X.env.cells scope.names [])) fp
  have qt := ot zb (upd Ka D (SetO X.w D (fun _ => false) 0)) zb.heap.objs.size (cellsFrom (zb.heap.objs.size + 1) scope.names (cloFrom X.env.cells scope.names [])) fp
  have qe := oe zb (upd Ka D (SetO X.w D (fun _ => false) 0)) zb.heap.objs.size (cellsFrom (zb.heap.objs.size + 1) scope.names (cloFrom X.env.cells scope.names [])) fp
  show codeAny _ _ (.compStart (.SetComp elt [⟨tg, iter, ifs, 0⟩] scope pos) 0 (.ref it) (.ref D) (compEnvC scope (cellsFrom (zb.heap.objs.size + 1) scope.names (cloFrom X.env.cells scope.names [])) zb.heap.objs.size X.env)) (compPost (model X.prog X.w) X.A X.xe use Qf (.ref D) zb.heap.objs.size) { zb with heap := pushCells (zb.heap.push { cls := .type "dict", data := .dict #[] }) scope.names }
  have nofp : ∀ b ∈ fp, (upd Ka D (SetO X.w D (fun _ => false) 0)) b = none := fun b hb => (fg b hb).1.1
  generalize eqce : compEnvC scope (cellsFrom (zb.heap.objs.size + 1) scope.names (cloFrom X.env.cells scope.names [])) zb.heap.objs.size X.env = cev at Jc qg qt qe ⊢
  have locC : cev.locals = zb.heap.objs.size := by subst eqce; rfl
  generalize eqK : upd Ka D (SetO X.w D (fun _ => false) 0) = Kb at Jb Jc qg qt qe begW nofp fg
  generalize eq4 : ({ zb with heap := pushCells (zb.heap.push { cls := .type "dict", data := .dict #[] }) scope.names } : Shared) = zc at Jc ⊢
  have t4 : tn 0 zc.heap := T.keep _ _ _ t3 fun b _ o e => by rw [← eq4]; exact pushCells_keeps _ _ _ _ (Heap.get?_push_of_some _ e)
  have stay : ∀ {σ' : L2.St} {H' : Hp} {s' : Shared}, Inv (X.blk zb Kb scope cev fp) [] σ' H' s' → (∀ b ∈ fp, H' b = none) → ∀ b ∈ fp, FpOk (X.blk zb Kb scope cev fp) [] H' b := fun {σ' H' s'} I' hn b hb =>
    ⟨hn b hb, (I'.ok.exf b hb).1, I'.ok.exfs b hb, .inl hb, fun x c e => (I'.ok.exf b hb).2 x c e, fun p hp => absurd (show p ∈ ([] : List (Addr × Obj)) ++ [] from hp) (by simp)⟩
  have walk : codeAny (model X.prog X.w) X.A (.compLoop (.SetComp elt [⟨tg, iter, ifs, 0⟩] scope pos) 0 (.ref it) (.ref D) cev) (compPost (model X.prog X.w) X.A X.xe use Qf (.ref D) zb.heap.objs.size) zc := by
    refine PpSet.compLoopS_any (fun n s' => ∃ i H', Inv (X.blk zb Kb scope cev fp) [] (wipe σ (own.map (·.2))) H' s' ∧ tn i s'.heap ∧ (∀ b ∈ fp, H' b = none) ∧ W i n H') ?_ begM ⟨0, Kb, Jc, t4, nofp, begW⟩
    rintro n zd ⟨i, Kd, Jd, t5, noneb, curW⟩
    rcases each i n Kd curW with ⟨stop, qq⟩ | ⟨go, Nx, decr, onx⟩
    · have tdn := T.done (X.blk zb Kb scope cev fp) rfl rfl rfl calm i [] zd _ Kd (fun _ _ => False) Jd (stay Jd noneb) t5 stop
      refine thnF tdn fun r ze ⟨hr, Je⟩ => ?_
      subst hr
      -- back in the def's context
      have Jf : Inv X pins σ Kd ze := Jb.call' (ch := fp) Je.os Je.base Je.hok Je.bare fun b hb => ⟨(fg b hb).1.2.2.2.1, (fg b hb).1.2.1, (fg b hb).1.2.2.2.2.1, (fg b hb).1.2.2.2.2.2⟩
      have nC : Kd zb.heap.objs.size = none := by
        have z : Kd cev.locals = none := Je.free
        rw [locC] at z
        exact z
      obtain ⟨m, hn, _⟩ := Je.loc
      have hn : ze.heap.Ns cev.locals m := hn
      rw [locC] at hn
      exact fwd D zb.heap.objs.size ze m Kd Jf qq hn (Jb.fpOk (Nat.le_refl _) nC)
    · have tit := T.item (X.blk zb Kb scope cev fp) rfl rfl rfl calm i [] zd _ Kd (fun _ _ => False) Jd (stay Jd noneb) t5 go
      refine thnF tit fun r ze ⟨u, hr, h6⟩ => ?_
      subst hr
      refine thnF h6 fun _ zf ⟨x, Kf, Jf, rx7, yld7, t7, none7⟩ => ?_
      have Jf' := Jf.pinned (stay Jf none7) (T.obj _ _ t7)
      refine thnF (qg.run _ zf _ Kf x u _ Jf' rx7 (onx x Kf yld7)) fun _ zg ⟨σ8, Kg, Jg, wip8, qa⟩ => ?_
      refine thnF (qt.run _ zg σ8 Kg _ Jg qa) fun b zh ⟨Kh, Jh, qb⟩ => ?_
      -- the turn's end
      have endT : ∀ {s' : Shared} {H' : Hp}, Inv (X.blk zb Kb scope cev fp) ([] ++ pinsAt fp zf.heap) σ8 H' s' → Nx H' → ∃ m, m < n ∧ ∃ i H', Inv (X.blk zb Kb scope cev fp) [] (wipe σ (own.map (·.2))) H' s' ∧ tn i s'.heap ∧ (∀ b ∈ fp, H' b = none) ∧ W i m H' := fun {s' H'} I' nxt => by
        obtain ⟨m', lessm, nextW⟩ := decr H' nxt
        have pins' : ∀ b ∈ fp, ∀ o, zf.heap.get? b = some o → s'.heap.get? b = some o ∧ H' b = none := fun b hb o e =>
          let pz := I'.pin (b, o) (List.mem_append_right _ (List.mem_append_right _ (mem_pinsAt hb e)))
          ⟨pz.1, pz.2.1⟩
        have lenw : (wipe σ (own.map (·.2))).length = σ8.length := by rw [← wip8, wipe_length]
        refine ⟨m', lessm, i + 1, H', (I'.unpinned (pins := [])).weak lenw (fun j v e => ?_), T.keep _ _ _ t7 fun b hb o e => (pins' b hb o e).1, fun b hb => ?_, nextW⟩
        · rw [← wip8] at e
          exact (wipe_some e).1
        · obtain ⟨o, e, _⟩ := T.obj _ _ t7 b hb
          exact (pins' b hb o e).2
      cases b with
      | false =>
        simp only [Bool.false_eq_true, if_false] at qb ⊢
        exact endT Jh qb
      | true =>
        simp only [if_true] at qb ⊢
        refine thnF (qe.run _ zh σ8 Kh _ Jh qb) fun z zi ⟨vy, Ki, Ji, ry, cn, Sn, kn, evy, atD, few, nxt⟩ => ?_
        subst evy
        obtain ⟨tk, ez⟩ := (show ∃ t, z = Value.int cn t from ry)
        subst ez
        exact addI_ok (X := X.blk zb Kb scope cev fp) Ji atD few fun zj Jj => endT Jj nxt
  exact PpSet.codeAny_compStart_set walk (T.self X.A 0 _ _ _ t4 walk)

theorem pe_SI {elt tg iter : Expr} {ifs : List Expr} {scope : Scope} {own : List (Str × Nat)} {pos : Pos} {wi : TI} {g : TG} {tt : TT} {te : TE} (calm : X.calm = true) (nod : X.N.Nodup) (oit : PI X tg iter wi) (okb : BlkOk X.N X.env.scope scope own)
    (og : ∀ (s : Shared) (H : Hp) (C : Addr) (cl : List (Str × Addr)) (fp : List Addr), PG (X.blk s H scope (compEnvC scope cl C X.env) fp) tg g) (ot : ∀ (s : Shared) (H : Hp) (C : Addr) (cl : List (Str × Addr)) (fp : List Addr), PTs (X.blk s H scope (compEnvC scope cl C X.env) fp) ifs tt)
    (oe : ∀ (s : Shared) (H : Hp) (C : Addr) (cl : List (Str × Addr)) (fp : List Addr), PE (X.blk s H scope (compEnvC scope cl C X.env) fp) elt te) (ofs : ∀ x, foldedSetIterable iter X.env x = pure x := by intro _; rfl) :
    PE X (.SetComp elt [⟨tg, iter, ifs, 0⟩] scope pos) (tSI X.w wi g tt te (own.map (·.2))) := by
  refine ⟨fun pins s σ H Q I h => ?_⟩
  rw [PpSet.eval_SetComp]
  refine si_core calm nod I oit okb og ot oe ofs h fun D C s' m H' I' q hn f => ⟨m, hn, fun h2 sb => ?_⟩
  obtain ⟨f0, f1, f2, f3, f4, f5⟩ := f
  exact ⟨.ref D, H', I'.turned (t' := s'.toks) (fun b o hb e => (sb.2 b hb).trans e) f0 f1 f3 f4 f5, rfl, q⟩
end
/-! ### sorted of it -/
/-- ints in order, each once -/
def dS1 (d : D) : R D := match d with
  | .list ds => match intsOf ds with
    | some ns => if (isrt1 ns).length < 64 ∧ ns.length < 1000 then .ok (.list ((isrt1 ns).map PyData.int)) else .bad
    | none => .bad
  | _ => .bad
theorem scan_64 {n : Nat} (h : n < 1000) : n + 1 < scanBound := Nat.lt_of_lt_of_le (Nat.add_lt_add_right h 1) (by decide)
theorem is1_nd (l : List Int) : (isrt1 l).Nodup := (isrt1_ok l).2.imp fun hlt e => by
  rw [e] at hlt
  exact Int.lt_irrefl _ hlt
theorem is1_app (l : List Int) (k : Int) : (isrt1 (l ++ [k])).length = if k ∈ l then (isrt1 l).length else (isrt1 l).length + 1 := by
  split
  · rename_i h
    refine List.Perm.length_eq ((List.perm_ext_iff_of_nodup (is1_nd _) (is1_nd _)).mpr fun z => ?_)
    rw [(isrt1_ok _).1, (isrt1_ok _).1, List.mem_append, List.mem_singleton]
    exact ⟨fun q => q.elim id fun e => e ▸ h, .inl⟩
  · rename_i h
    have nd : (k :: isrt1 l).Nodup := List.nodup_cons.mpr ⟨fun q => h (((isrt1_ok l).1 k).mp q), is1_nd l⟩
    refine (List.Perm.length_eq ((List.perm_ext_iff_of_nodup (is1_nd _) nd).mpr fun z => ?_)).trans List.length_cons
    rw [(isrt1_ok _).1, List.mem_append, List.mem_singleton, List.mem_cons, (isrt1_ok _).1]
    exact ⟨fun q => q.elim .inr .inl, fun q => q.elim .inr .inl⟩
theorem iins_le (x : Int) : ∀ l : List Int, (iins x l).length ≤ l.length + 1
  | [] => Nat.le_refl _
  | y :: r => by
    unfold iins
    split
    · exact Nat.le_refl _
    · split
      · exact Nat.le_succ _
      · rw [List.length_cons, List.length_cons]
        exact Nat.succ_le_succ (iins_le x r)
theorem is1_le : ∀ l : List Int, (isrt1 l).length ≤ l.length
  | [] => Nat.le_refl _
  | x :: l => Nat.le_trans (iins_le x (isrt1 l)) (Nat.succ_le_succ (is1_le l))
theorem intsOf_app {a b : List D} {z : List Int} (h : intsOf (a ++ b) = some z) : ∃ x y, intsOf a = some x ∧ intsOf b = some y ∧ z = x ++ y := by
  have e := intsOf_some h
  obtain ⟨x, y, e1, e2, e3⟩ := List.append_eq_map_iff.mp e
  refine ⟨x, y, ?_, ?_, e1⟩
  · rw [← e2]
    exact intsOf_map x
  · rw [← e3]
    exact intsOf_map y
section
variable {X : Cx} {c : Cf}
theorem tSI_rd {g : TG} {b : D → Nv → R Nv} {js vs : List Nat} {mi : Nv → R (List D)} {t : Nv → R Bool} {e : Nv → R D} (hg : GOk c g b js) (hj : ∀ j, j ∈ js → j ∈ vs) :
    ∀ σ H Q, rdL c (xUn dS1 (xLc vs mi b t e)) σ H Q → tCB (rSortedSet X.w) (tCons (tSI X.w (rdI c mi) g (rdT c t) (rdE c e) vs) tNil) σ H Q := fun σ H Q ⟨ε, M, re, d, hm, q⟩ => by
  obtain ⟨x, hx, hs⟩ := R.bind_ok hm
  obtain ⟨ds, h1, h2⟩ := R.bind_ok hx
  obtain ⟨ys, h3, h4⟩ := R.bind_ok h2
  split at h4
  · cases h4
    have hs : (match intsOf ys with | some ns => if (isrt1 ns).length < 64 ∧ ns.length < 1000 then R.ok (PyData.list ((isrt1 ns).map PyData.int)) else .bad | none => .bad) = R.ok d := hs
    split at hs
    · rename_i ns hi
      split at hs
      · rename_i hf
        cases hs
        refine ⟨ε, M, re, ds, h1, fun J H1 e1 wk D nD => ?_⟩
        have nD0 : H D = none := Evl.fresh_back e1 nD
        have nM : D ∉ M := Trk.no re.trk nD0
        have n0 : c.H0 D = none := Evl.fresh_back re.ext nD0
        have eD : ∀ {o : HO}, Ex H1 (L2.upd H1 D o) := Evl.Ex.new nD
        refine ⟨fun i m H2 => m = ds.length - i ∧ i ≤ ds.length ∧ ∃ acc rest zs n, lcG b t e (wipeE ε vs) (ds.drop i) = .ok rest ∧ acc ++ rest = ys ∧ intsOf acc = some zs ∧ n = (isrt1 zs).length ∧ (∃ S, (∀ z, S z = decide (z ∈ zs)) ∧ H2 D = some (SetO X.w D S n)) ∧ Rel c (wipe σ vs) H2 (wipeE ε vs) (D :: M) ∧ Ex H1 H2,
          ⟨ds.length, by omega, Nat.zero_le _, [], ys, [], 0, h3, rfl, rfl, rfl, ⟨_, fun z => by simp, upd_same⟩, ((re.ex e1).wipe vs).add nD eD upd_same, eD⟩, ?_⟩
        rintro i m H2 ⟨rfl, hi', acc, rest, zs, n, hl, ha, hz, hn, ⟨S, hS, hD⟩, hR, hE⟩
        have hB : Ex (hid M H1) (hid (D :: M) H2) := hid_new hE nD
        have wi := wk i H2 (Evl.Ex.trans hB hid_le)
        by_cases hlt : i < ds.length
        · refine .inr ⟨wi.1 hlt, fun H' => ∃ acc rest zs n, lcG b t e (wipeE ε vs) (ds.drop (i + 1)) = .ok rest ∧ acc ++ rest = ys ∧ intsOf acc = some zs ∧ n = (isrt1 zs).length ∧ (∃ S, (∀ z, S z = decide (z ∈ zs)) ∧ H' D = some (SetO X.w D S n)) ∧ Rel c (wipe σ vs) H' (wipeE ε vs) (D :: M) ∧ Ex H1 H', fun H' p => ⟨_, by omega, rfl, hlt, p⟩, fun x H' y => ?_⟩
          obtain ⟨ex, item⟩ := wi.2.2 x H' y
          have hx := item ds[i] (List.getElem?_eq_getElem hlt) (D :: M) hR.trk hB
          rw [List.drop_eq_getElem_cons hlt] at hl
          obtain ⟨ε1, l1, l2⟩ := R.bind_ok hl
          obtain ⟨k, l3, l4⟩ := R.bind_ok l2
          refine hg x (wipe σ vs) H' _ _ (D :: M) ds[i] ε1 (hR.ex ex) hx l1 fun σ2 r2 w2 _ => ⟨by rw [w2 vs hj, wipe_wipe], ε1, D :: M, r2, k, l3, fun H3 e3 => ?_⟩
          have exx := Evl.Ex.trans ex e3
          cases k with
          | false => exact ⟨acc, rest, zs, n, l4, ha, hz, hn, ⟨S, hS, exx D _ hD⟩, hR.ex exx, Evl.Ex.trans hE exx⟩
          | true =>
            obtain ⟨y1, l5, l6⟩ := R.bind_ok l4
            obtain ⟨ys', l7, l8⟩ := R.bind_ok l6
            cases l8
            have hi2 := hi
            rw [← ha, show acc ++ y1 :: ys' = (acc ++ [y1]) ++ ys' by rw [List.append_assoc]; rfl] at hi2
            obtain ⟨za, zr, i1, i2, i3⟩ := intsOf_app hi2
            obtain ⟨zp, zq, i4, i5, i6⟩ := intsOf_app i1
            rw [hz] at i4
            cases i4
            have fewer : zs.length < 1000 := by
              have hf := hf.2
              rw [i3, i6] at hf
              simp only [List.length_append] at hf
              omega
            have le1 := is1_le zs
            have hy1 : ∃ k, y1 = PyData.int k ∧ zq = [k] := by
              cases y1 with
              | int k =>
                cases i5
                exact ⟨k, rfl, rfl⟩
              | _ => cases i5
            obtain ⟨k, rfl, rfl⟩ := hy1
            refine ⟨ε1, D :: M, r2.ex e3, _, l5, fun v H4 e4 hv => ⟨k, S, n, hv, e4 D _ (exx D _ hD), scan_64 (by omega), ?_⟩⟩
            have ex4 := Evl.Ex.trans exx e4
            have hm : D ∈ D :: M := List.mem_cons_self
            refine ⟨acc ++ [.int k], ys', zs ++ [k], _, l7, by rw [← ha, List.append_assoc]; rfl, by rw [i1, i6], ?_, ⟨_, fun z => ?_, upd_same⟩, ?_, ?_⟩
            · rw [is1_app, hn, hS k]
              by_cases q : k ∈ zs
              · rw [if_pos (decide_eq_true q), if_pos q]
              · rw [if_neg (by rw [decide_eq_true_eq]; exact q), if_neg q]
            · rw [hS z]
              simp only [List.mem_append, List.mem_singleton, Bool.decide_or]
            · refine (hR.ex ex4).updD hm n0 fun j f hj z => ?_
              obtain ⟨w', o', z1, z2, _⟩ := (re.wipe vs).mu j f hj
              rw [z] at z1
              cases z1
              exact nM z2
            · exact Evl.Ex.mut (Evl.Ex.trans hE ex4) nD
        · have ei : i = ds.length := by omega
          subst ei
          rw [List.drop_length] at hl
          cases hl
          rw [List.append_nil] at ha
          subst ha
          rw [hi] at hz
          cases hz
          refine .inl ⟨wi.2.1 rfl, ?_⟩
          refine ⟨D, S, n, rfl, hD, by rw [hn]; exact hf.1, fun ms r srt mem len nr => ?_⟩
          have eR : Ex H2 (L2.upd H2 r (.lst (ms.map V.int))) := Evl.Ex.new nr
          have e2 : ms = isrt1 ns := lt_uni (isrt1_ok ns).2 srt fun z => by rw [mem z, hS, decide_eq_true_eq, (isrt1_ok ns).1]
          refine q r (.lst (ms.map V.int)) _ (Evl.fresh_back (Evl.Ex.trans e1 hE) nr) (Evl.Ex.trans (Evl.Ex.trans e1 hE) eR) upd_same (.inl ⟨_, _, rfl, rfl, ?_⟩)
          rw [← e2]
          exact ints_at ms
      · cases hs
    · cases hs
  · cases h4
theorem pe_sSI {elt tg iter : Expr} {ifs : List Expr} {scope : Scope} {own : List (Str × Nat)} {pos pos2 p2 : Pos} {g : TG} {b : D → Nv → R Nv} {js : List Nat} {mi : Nv → R (List D)} {t : Nv → R Bool} {me : Nv → R D}
    (h : ∀ {T : TE}, PE X (.SetComp elt [⟨tg, iter, ifs, 0⟩] scope pos) T → PE X (.Call (.Name "sorted" p2) [.SetComp elt [⟨tg, iter, ifs, 0⟩] scope pos] [] pos2) (tCB (rSortedSet X.w) (tCons T tNil)))
    (hc : X.calm = true) (hN : X.N.Nodup) (hi : PI X tg iter (rdI c mi)) (ok : BlkOk X.N X.env.scope scope own) (gk : GOk c g b js) (hj : ∀ j, j ∈ js → j ∈ own.map (·.2))
    (hg : ∀ (s : Shared) (H : Hp) (C : Addr) (cl : List (Str × Addr)) (fp : List Addr), PG (X.blk s H scope (compEnvC scope cl C X.env) fp) tg g) (ht : ∀ (s : Shared) (H : Hp) (C : Addr) (cl : List (Str × Addr)) (fp : List Addr), PTs (X.blk s H scope (compEnvC scope cl C X.env) fp) ifs (rdT c t))
    (he : ∀ (s : Shared) (H : Hp) (C : Addr) (cl : List (Str × Addr)) (fp : List Addr), PE (X.blk s H scope (compEnvC scope cl C X.env) fp) elt (rdE c me)) (hs : ∀ x, foldedSetIterable iter X.env x = pure x := by intro _; rfl) :
    PE X (.Call (.Name "sorted" p2) [.SetComp elt [⟨tg, iter, ifs, 0⟩] scope pos] [] pos2) (rdL c (xUn dS1 (xLc (own.map (·.2)) mi b t me))) := (h (pe_SI hc hN hi ok hg ht he hs)).wk (tSI_rd gk hj)
end
end Tw
set_option Elab.async false
set_option linter.all false
set_option maxRecDepth 100000
set_option maxHeartbeats 4000000
/-! Tw35: len(set(..)) of ints, isqrt, sorted({d[x] for x in d}) -/
namespace Tw
open PySem PySem.Spec PyProof.Rows L2
section
variable {X : Cx} {c : Cf} {e : Expr} {me : Nv → R D}
/-! ### how many -/
def rLenSet (w : World) : List V → Hp → VK → Prop := fun vs K Q => ∃ (a : Addr) (S : Int → Bool) (n : Nat), vs = [V.ref a] ∧ K a = some (SetO w a S n) ∧ ∀ l : List Int, l.Nodup → (∀ k, S k = true ↔ k ∈ l) → Q (.int l.length) K
theorem cr_lenSet : CallR X (.builtin "len") (rLenSet X.w) := by
  intro pins s σ K vs us Q I r ⟨a, S, n, ev, atA, q⟩
  subst ev
  rw [Vals.ref1 r]
  obtain ⟨o, es, ep, t, ho, hex, hd, _, nd, hm, hb, hf, _⟩ := setO_get I atA
  have few : (es.size : Int) < 2 ^ 63 := by
    have : scanBound < 2 ^ 63 := by decide +kernel
    omega
  have q2 := q (es.toList.map keyOf) nd hm
  rw [List.length_map, Array.length_toList] at q2
  exact call_len_set ho hex hd hf few ⟨.int es.size, K, I.tok _, ⟨_, rfl⟩, q2⟩
def dLs (d : D) : R D := match d with
  | .list ds => match intsOf ds with
    | some ns => if ns.length < 64 then .ok (.int (isrt1 ns).length) else .bad
    | none => .bad
  | _ => .bad
theorem pe_ls (h : PE X e (tCB (rLenSet X.w) (tCons (tCB (rSetI X.K X.w) (tCons (rdE c me) tNil)) tNil))) (hK : c.K = X.K := by rfl) : PE X e (rdE c (xUn dLs me)) := h.wk fun σ K Q ⟨ε, M, re, d, hm, q⟩ => by
  obtain ⟨x, h1, h2⟩ := R.bind_ok hm
  unfold dLs at h2
  split at h2
  · split at h2
    · rename_i ds ns hi
      split at h2
      · rename_i hf
        cases h2
        refine ⟨ε, M, re, _, h1, fun v K1 e1 hv => ?_⟩
        obtain ⟨a, xs, ev, g1, g2⟩ := hv
        rw [intsOf_some hi] at g2
        have ex := AtL.ints g2
        subst ex
        refine ⟨a, ns, by rw [ev], hK ▸ sql_le g1, hf, fun b n nb ln => ⟨b, _, n, rfl, upd_same, fun l nd mem => ?_⟩⟩
        have p : l.Perm (isrt1 ns) := (List.perm_ext_iff_of_nodup nd ((isrt1_ok ns).2.imp fun hlt e => by rw [e] at hlt; exact Int.lt_irrefl _ hlt)).mpr fun z => by rw [← mem z, decide_eq_true_eq, (isrt1_ok ns).1]
        rw [p.length_eq]
        exact q _ _ (e1.trans (Evl.Ex.new nb)) rfl
      · cases h2
    · cases h2
  · cases h2
/-! ### the whole root -/
def cIsq (ds : List D) : R D := match ds with
  | [.int a] => if 0 ≤ a ∧ a < 2 ^ 64 then .ok (.int ((PySem.Float64.isqrt a.toNat : Nat) : Int)) else .bad
  | _ => .bad
theorem k_isq : CallR X (.builtin "math.isqrt") (rnD X.K cIsq) := by
  intro pins s σ H xs us Q I r ⟨M, as, d, t, ha, hf, q⟩
  unfold cIsq at hf
  split at hf
  · split at hf
    · rename_i hz
      cases hf
      obtain ⟨v, e2, h3⟩ := at_one ha
      subst e2
      rw [show v = _ from h3] at r
      obtain ⟨u, eu, ru⟩ := Vals.one r
      obtain ⟨tk, ez⟩ := ru
      subst eu ez
      exact PySem.W.mg_isqrt hz.1 hz.2 ⟨.int _, H, I.tok _, ⟨_, rfl⟩, q _ H (Evl.Ex.refl H) rfl⟩
    · cases hf
  · cases hf
theorem pe_isq {x : Str} {es : List Expr} {ms : Nv → R (List D)} {p pos : Pos} (hm : X.mg x = some (.builtin "math.isqrt")) (ha : PA X (e :: es) (rdA c ms)) (hg : Gl X x := by rfl) (hK : c.K = X.K := by rfl) (hd : (x == ("__debug__" : Str)) = false := by decide)
    (hst : starEach (e :: es) X.env = (false, eval e X.env) :: starEach es X.env := by rfl) (hpl : (backTo pos (starEach es X.env)).any (·.1) = false := by rfl) :
    PE X (.Call (.Name x p) (e :: es) [] pos) (rdE c (xCall cIsq ms)) := (pe_callBfun k_isq hg hm ha hd hst hpl).wk (tCB_rd fun _ _ _ h => hK ▸ h)
theorem isq_spec {a : Int} (h : 0 ≤ a) : ∃ r : Int, ((PySem.Float64.isqrt a.toNat : Nat) : Int) = r ∧ 0 ≤ r ∧ r * r ≤ a ∧ a < (r + 1) * (r + 1) := by
  obtain ⟨h1, h2⟩ := PySem.Float64.isqrt_spec a.toNat
  generalize PySem.Float64.isqrt a.toNat = m at *
  obtain ⟨n, rfl⟩ := Int.eq_ofNat_of_zero_le h
  refine ⟨m, rfl, Int.natCast_nonneg _, ?_, ?_⟩
  · exact_mod_cast h1
  · exact_mod_cast h2
/-! ### the values of a dict, each once -/
theorem svl_core {w : World} {i j : Nat} {σ : L2.St} {H : Hp} {Q : VK} {d : Addr} {od : PySem.Obj} {kvs : List (List Key × V)} {zs : List Int} (hij : i ≠ j) (hj : j < σ.length) (hσ : σ[i]? = some (some (.ref d))) (hd : H d = some (.frz od (.dT kvs))) (hl : zs.length = kvs.length) (hz : (isrt1 zs).length < 64) (hz2 : zs.length < 1000)
    (hv : ∀ (n : Nat) (k : List Key) (v : V), kvs[n]? = some (k, v) → ∃ z, zs[n]? = some z ∧ valV kvs k = some (V.int z))
    (q : ∀ D H2, H D = none → Ex H H2 → H2 D = some (.lst ((isrt1 zs).map V.int)) → Q (.ref D) H2) : tCB (rSortedSet w) (tCons (tSI w (iKeys (tVar i)) (gName j) tYes (tDGet (tVar i) (tVar j)) [j]) tNil) σ H Q := by
  refine ⟨.ref d, hσ, d, od, rfl, .inr ⟨kvs, hd, fun D nD => ?_⟩⟩
  refine ⟨fun n m H2 => m = zs.length - n ∧ n ≤ zs.length ∧ (∃ c S, c = (isrt1 (zs.take n)).length ∧ (∀ z, S z = decide (z ∈ zs.take n)) ∧ H2 D = some (SetO w D S c)) ∧ Ex H H2, ⟨zs.length, by omega, Nat.zero_le _, ⟨0, _, rfl, fun z => by simp, upd_same⟩, Evl.Ex.new nD⟩, ?_⟩
  rintro n m H2 ⟨rfl, hn, ⟨c, S, hc, hS, hD⟩, hE⟩
  by_cases hlt : n < zs.length
  · refine .inr ⟨⟨hE d _ hd, by omega⟩, fun H' => (∃ c S, c = (isrt1 (zs.take (n + 1))).length ∧ (∀ z, S z = decide (z ∈ zs.take (n + 1))) ∧ H' D = some (SetO w D S c)) ∧ Ex H H', fun H' p => ⟨zs.length - (n + 1), by omega, rfl, hlt, p⟩, fun x H' y => ?_⟩
    obtain ⟨eH, k, v, a, e1, e2, e3⟩ := y
    subst eH e2
    obtain ⟨z, hzn, hvz⟩ := hv n k v e1
    have sj : ((wipe σ [j]).set j (some (V.ref a)))[j]? = some (some (V.ref a)) := by
      rw [List.getElem?_set_self (by rw [wipe_length]; exact hj)]
    have si : ((wipe σ [j]).set j (some (V.ref a)))[i]? = some (some (V.ref d)) := by
      rw [List.getElem?_set_ne (fun z => hij z.symm)]
      show (σ.set j none)[i]? = _
      rw [List.getElem?_set_ne (fun z => hij z.symm), hσ]
    refine ⟨?_, ?_⟩
    · show (((σ.set j none).set j (some (V.ref a))).set j none) = σ.set j none
      rw [List.set_set, List.set_set]
    · show tDGet (tVar i) (tVar j) _ _ _
      refine ⟨.ref d, si, .ref a, sj, d, V.int z, rfl, .inr ⟨kvs, k, a, .inr ⟨od, hE d _ hd⟩, rfl, e3, hvz.symm⟩, ?_⟩
      refine ⟨z, S, c, rfl, hD, scan_64 (by have := is1_le (zs.take n); rw [List.length_take] at this; omega), ⟨_, _, ?_, fun z' => ?_, upd_same⟩, Evl.Ex.mut hE nD⟩
      · rw [List.take_succ, hzn]
        show _ = (isrt1 (zs.take n ++ [z])).length
        rw [is1_app, hc, hS z]
        by_cases q : z ∈ zs.take n
        · rw [if_pos (decide_eq_true q), if_pos q]
        · rw [if_neg (by rw [decide_eq_true_eq]; exact q), if_neg q]
      · rw [hS z', List.take_succ, hzn]
        simp only [Option.toList_some, List.mem_append, List.mem_singleton, Bool.decide_or]
  · have en : n = zs.length := by omega
    subst en
    rw [List.take_length] at hS hc
    refine .inl ⟨⟨hE d _ hd, by omega⟩, D, S, c, rfl, hD, by rw [hc]; exact hz, fun ms r srt mem len nr => ?_⟩
    have e2 : ms = isrt1 zs := lt_uni (isrt1_ok zs).2 srt fun z => by rw [mem z, hS, decide_eq_true_eq, (isrt1_ok zs).1]
    refine q r _ (Evl.fresh_back hE nr) (Evl.Ex.trans hE (Evl.Ex.new nr)) ?_
    rw [upd_same, e2]
theorem pe_svl {i j : Nat} (h : PE X e (tCB (rSortedSet X.w) (tCons (tSI X.w (iKeys (tVar i)) (gName j) tYes (tDGet (tVar i) (tVar j)) [j]) tNil))) (hK : c.K = X.K := by rfl) : PE X e (rdL c (xUn dS1 (xVls i j))) := (pe_or (pe_lock h) h).wk fun σ H Q ⟨ε, M, re, x, hm, q⟩ => by
  obtain ⟨y, hm1, hm2⟩ := R.bind_ok hm
  unfold xVls at hm1
  split at hm1
  · rename_i es g
    split at hm1
    · rename_i zs hz
      split at hm1
      · rename_i hc
        cases hm1
        obtain ⟨hij, hj, _⟩ := hc
        have hm3 : (match intsOf (zs.map PyData.int) with | some ns => if (isrt1 ns).length < 64 ∧ ns.length < 1000 then R.ok (PyData.list ((isrt1 ns).map PyData.int)) else .bad | none => .bad) = R.ok x := hm2
        rw [intsOf_map] at hm3
        dsimp only at hm3
        split at hm3
        · rename_i hl
          cases hm3
          obtain ⟨d, kvs, g1, g2, g3⟩ := rel_dT re g
          obtain ⟨l1, l2⟩ := vls_at g3 g3 hz
          have jl : j < σ.length := by rw [re.len]; exact hj
          rcases g2 with g2 | ⟨od, g2⟩
          · refine .inl ⟨d, .dT kvs, g2, True.intro, fun od => ?_⟩
            refine svl_core hij jl g1 upd_same l1 hl.1 hl.2 l2 fun D H2 nD e2 eD => ?_
            have dD : D ≠ d := fun z => by
              rw [z, upd_same] at nD
              cases nD
            have nD0 : H D = none := by rwa [upd_ne dD] at nD
            refine ⟨e2 d _ upd_same, ?_⟩
            have ex : Ex H (L2.upd H2 d (.dT kvs)) := fun a o ha => by
              by_cases z : a = d
              · rw [z, upd_same, ← g2, ← z]
                exact ha
              · rw [upd_ne z]
                exact e2 a o (by rw [upd_ne z]; exact ha)
            exact q D _ _ nD0 ex (by rw [upd_ne dD]; exact eD) (.inl ⟨_, _, rfl, rfl, ints_at _⟩)
          · refine .inr (svl_core hij jl g1 g2 l1 hl.1 hl.2 l2 fun D H2 nD e2 eD => ?_)
            exact q D _ H2 nD e2 eD (.inl ⟨_, _, rfl, rfl, ints_at _⟩)
        · cases hm3
      · cases hm1
    · cases hm1
  · cases hm1
end
end Tw
set_option Elab.async false
set_option linter.all false
set_option maxRecDepth 100000
set_option maxHeartbeats 4000000
/-! Tw36: a comprehension whose items are new lists; two names, one own and one with new lists; a loop over the keys of a dict -/
namespace Tw
open PySem PySem.Spec PyProof.Rows L2
/-- each item that is a list is new -/
def FrL (K : PySem.W.Frag) (H0 H : Hp) (es : List D) (xs : List V) : Prop := ∀ (i : Nat) e x, es[i]? = some e → xs[i]? = some x → FreshT K H0 H e x
theorem FrL.nil {K : PySem.W.Frag} {H0 H : Hp} {xs : List V} : FrL K H0 H [] xs := fun i e x h => by cases h
theorem FrL.mono {K : PySem.W.Frag} {H0 H H' : Hp} {es : List D} {xs : List V} (e : Ex H H') (h : FrL K H0 H es xs) : FrL K H0 H' es xs := fun i d x h1 h2 => FreshT.mono (Evl.Ex.refl _) e (h i d x h1 h2)
theorem FrL.app {K : PySem.W.Frag} {H0 H : Hp} {es : List D} {xs : List V} {d : D} {v : V} (h : FrL K H0 H es xs) (hl : xs.length = es.length) (hv : FreshT K H0 H d v) : FrL K H0 H (es ++ [d]) (xs ++ [v]) := fun i e x h1 h2 => by
  rcases Nat.lt_or_ge i es.length with q | q
  · rw [List.getElem?_append_left q] at h1
    rw [List.getElem?_append_left (by omega)] at h2
    exact h i e x h1 h2
  · rw [List.getElem?_append_right q] at h1
    rw [List.getElem?_append_right (by omega), hl] at h2
    generalize i - es.length = j at h1 h2
    cases j with
    | zero =>
      cases h1
      cases h2
      exact hv
    | succ j => cases h1
section
variable {X : Cx} {c : Cf} {W : WX}
theorem tLc2_nw {g g1 : TG} {b b1 : D → Nv → R Nv} {js js1 vs vs1 : List Nat} {mi mi1 : Nv → R (List D)} {t t1 : Nv → R Bool} {e : Nv → R D} (hg : GOk c g b js) (hj : ∀ j, j ∈ js → j ∈ vs) (hg1 : GOk c g1 b1 js1) (hj1 : ∀ j, j ∈ js1 → j ∈ vs1) :
    ∀ σ H Q, rdP c .each (xLc2 vs vs1 mi b t mi1 b1 t1 e) σ H Q → tLc2 (rdI c mi) g (rdT c t) (rdI c mi1) g1 (rdT c t1) (rdP c .top e) vs vs1 σ H Q := fun σ H Q ⟨ε, M, re, d, hm, q⟩ => by
  obtain ⟨ds, h1, h2⟩ := R.bind_ok hm
  obtain ⟨ys, h3, h4⟩ := R.bind_ok h2
  split at h4
  · rename_i hz
    cases h4
    refine ⟨ε, M, re, ds, h1, fun J H1 e1 wk D nD => ?_⟩
    have nD0 : H D = none := Evl.fresh_back e1 nD
    have nM : D ∉ M := Trk.no re.trk nD0
    have n0 : c.H0 D = none := Evl.fresh_back re.ext nD0
    refine ⟨fun i m H2 => m = ds.length - i ∧ i ≤ ds.length ∧ ∃ acc rest vs0, lcG2 b t mi1 b1 t1 e vs1 (wipeE ε vs) (ds.drop i) = .ok rest ∧ acc ++ rest = ys ∧ H2 D = some (.lst vs0) ∧ AtL c.K (hid (D :: M) H2) acc vs0 ∧ FrL c.K c.H0 (hid (D :: M) H2) acc vs0 ∧ Rel c (wipe σ vs) H2 (wipeE ε vs) (D :: M) ∧ Ex H1 H2,
      ⟨ds.length, by omega, Nat.zero_le _, [], ys, [], h3, rfl, upd_same, rfl, FrL.nil, ((re.ex e1).wipe vs).add nD (Evl.Ex.new nD) upd_same, Evl.Ex.new nD⟩, ?_⟩
    rintro i m H2 ⟨rfl, hi, acc, rest, vs0, hl, ha, hD, hA, hF, hR, hE⟩
    have hB : Ex (hid M H1) (hid (D :: M) H2) := hid_new hE nD
    have wi := wk i H2 (Evl.Ex.trans hB hid_le)
    by_cases hlt : i < ds.length
    · refine .inr ⟨wi.1 hlt, fun H' => ∃ acc rest vs0, lcG2 b t mi1 b1 t1 e vs1 (wipeE ε vs) (ds.drop (i + 1)) = .ok rest ∧ acc ++ rest = ys ∧ H' D = some (.lst vs0) ∧ AtL c.K (hid (D :: M) H') acc vs0 ∧ FrL c.K c.H0 (hid (D :: M) H') acc vs0 ∧ Rel c (wipe σ vs) H' (wipeE ε vs) (D :: M) ∧ Ex H1 H', fun H' p => ⟨_, by omega, rfl, hlt, p⟩, fun x H' y => ?_⟩
      obtain ⟨ex, item⟩ := wi.2.2 x H' y
      have hx := item ds[i] (List.getElem?_eq_getElem hlt) (D :: M) hR.trk hB
      rw [List.drop_eq_getElem_cons hlt] at hl
      obtain ⟨ε1, l1, l2⟩ := R.bind_ok hl
      obtain ⟨k, l3, l4⟩ := R.bind_ok l2
      refine hg x (wipe σ vs) H' _ _ (D :: M) ds[i] ε1 (hR.ex ex) hx l1 fun σ2 r2 w2 k2 => ⟨by rw [w2 vs hj, wipe_wipe], ε1, D :: M, r2, k, l3, fun H3 e3 => ?_⟩
      have exx := Evl.Ex.trans ex e3
      cases k with
      | false =>
        exact ⟨acc, rest, vs0, l4, ha, exx D _ hD, AtL.mono (hid_ex exx) _ _ hA, hF.mono (hid_ex exx), hR.ex exx, Evl.Ex.trans hE exx⟩
      | true =>
        obtain ⟨es, l5, l6⟩ := R.bind_ok l4
        obtain ⟨zs, l7, l8⟩ := R.bind_ok l6
        obtain ⟨ys', l9, l10⟩ := R.bind_ok l8
        cases l10
        refine ⟨ε1, D :: M, r2.ex e3, es, l5, fun J1 H4 e4 wk1 => ?_⟩
        have exy := Evl.Ex.trans exx e4
        have r4 := (r2.ex e3).ex e4
        have hm : D ∈ D :: M := List.mem_cons_self
        refine ⟨fun j k H5 => k = es.length - j ∧ j ≤ es.length ∧ ∃ acc1 rest1 vs1', lcG b1 t1 e (wipeE ε1 vs1) (es.drop j) = .ok rest1 ∧ acc ++ (acc1 ++ (rest1 ++ ys')) = ys ∧ H5 D = some (.lst vs1') ∧ AtL c.K (hid (D :: M) H5) (acc ++ acc1) vs1' ∧ FrL c.K c.H0 (hid (D :: M) H5) (acc ++ acc1) vs1' ∧ Rel c (wipe σ vs) H5 (wipeE ε vs) (D :: M) ∧ Rel c (wipe σ2 vs1) H5 (wipeE ε1 vs1) (D :: M) ∧ Ex H1 H5 ∧ Ex (hid (D :: M) H4) (hid (D :: M) H5),
          ⟨es.length, by omega, Nat.zero_le _, [], zs, vs0, l7, by rw [← ha, List.nil_append], exy D _ hD, by rw [List.append_nil]; exact AtL.mono (hid_ex exy) _ _ hA, by rw [List.append_nil]; exact hF.mono (hid_ex exy), hR.ex exy, r4.wipe vs1, Evl.Ex.trans hE exy, Evl.Ex.refl _⟩, ?_⟩
        rintro j k H5 ⟨rfl, hj', acc1, rest1, vs5, hl1, ha1, hD1, hA1, hN1, hR1, hR2, hE1, hF1⟩
        have wj := wk1 j H5 (Evl.Ex.trans hF1 hid_le)
        by_cases hlt1 : j < es.length
        · refine .inr ⟨wj.1 hlt1, fun H' => ∃ acc1 rest1 vs1', lcG b1 t1 e (wipeE ε1 vs1) (es.drop (j + 1)) = .ok rest1 ∧ acc ++ (acc1 ++ (rest1 ++ ys')) = ys ∧ H' D = some (.lst vs1') ∧ AtL c.K (hid (D :: M) H') (acc ++ acc1) vs1' ∧ FrL c.K c.H0 (hid (D :: M) H') (acc ++ acc1) vs1' ∧ Rel c (wipe σ vs) H' (wipeE ε vs) (D :: M) ∧ Rel c (wipe σ2 vs1) H' (wipeE ε1 vs1) (D :: M) ∧ Ex H1 H' ∧ Ex (hid (D :: M) H4) (hid (D :: M) H'), fun H' p => ⟨_, by omega, rfl, hlt1, p⟩, fun x1 H6 y1 => ?_⟩
          obtain ⟨ex1, item1⟩ := wj.2.2 x1 H6 y1
          have hx1 := item1 es[j] (List.getElem?_eq_getElem hlt1) (D :: M) hR2.trk hF1
          rw [List.drop_eq_getElem_cons hlt1] at hl1
          obtain ⟨ε2, m1, m2⟩ := R.bind_ok hl1
          obtain ⟨k1, m3, m4⟩ := R.bind_ok m2
          refine hg1 x1 (wipe σ2 vs1) H6 _ _ (D :: M) es[j] ε2 (hR2.ex ex1) hx1 m1 fun σ3 r3 w3 _ => ⟨by rw [w3 vs1 hj1, wipe_wipe], ε2, D :: M, r3, k1, m3, fun H7 e7 => ?_⟩
          have ex7 := Evl.Ex.trans ex1 e7
          cases k1 with
          | false =>
            exact ⟨acc1, rest1, vs5, m4, ha1, ex7 D _ hD1, AtL.mono (hid_ex ex7) _ _ hA1, hN1.mono (hid_ex ex7), hR1.ex ex7, hR2.ex ex7, Evl.Ex.trans hE1 ex7, Evl.Ex.trans hF1 (hid_ex ex7)⟩
          | true =>
            obtain ⟨y2, m5, m6⟩ := R.bind_ok m4
            obtain ⟨ys2, m7, m8⟩ := R.bind_ok m6
            cases m8
            refine ⟨ε2, D :: M, r3.ex e7, y2, m5, fun v H8 e8 hv hnw => ⟨vs5, e8 D _ (ex7 D _ hD1), ?_, ?_⟩⟩
            · rw [atL_len hA1]
              refine lim_lt (Nat.le_trans ?_ hz)
              rw [← ha1]
              simp only [List.length_append, List.length_cons]
              omega
            · have ex8 := Evl.Ex.trans ex7 e8
              refine ⟨acc1 ++ [y2], ys2, vs5 ++ [v], m7, by rw [← ha1, List.append_assoc]; rfl, upd_same, ?_, ?_, ?_, ?_, ?_, ?_⟩
              · rw [hid_upd hm, ← List.append_assoc]
                exact AtL.app (AtL.mono (hid_ex ex8) _ _ hA1) ⟨v, [], rfl, hv, rfl⟩
              · rw [hid_upd hm, ← List.append_assoc]
                exact (hN1.mono (hid_ex ex8)).app (by rw [atL_len hA1]) hnw
              · refine (hR1.ex ex8).updD hm n0 fun j f hj z => ?_
                obtain ⟨w', o', z1, z2, _⟩ := (re.wipe vs).mu j f hj
                rw [z] at z1
                cases z1
                exact nM z2
              · refine (hR2.ex ex8).updD hm n0 fun j f hj z => ?_
                obtain ⟨z1, z2⟩ := muK_wipe σ2 ε1 vs1 j f hj
                obtain ⟨z3, z4⟩ := k2 j f z1
                obtain ⟨w', o', z5, z6, _⟩ := (re.wipe vs).mu j f z3
                rw [z2, z4] at z
                rw [z] at z5
                cases z5
                exact nM z6
              · exact Evl.Ex.mut (Evl.Ex.trans hE1 ex8) nD
              · rw [hid_upd hm]
                exact Evl.Ex.trans hF1 (hid_ex ex8)
        · have ej : j = es.length := by omega
          subst ej
          refine .inl ⟨wj.2.1 rfl, ?_⟩
          rw [List.drop_length] at hl1
          cases hl1
          exact ⟨acc ++ acc1, ys', vs5, l9, by rw [← ha1, List.append_assoc]; rfl, hD1, hA1, hN1, hR1, hE1⟩
    · have ei : i = ds.length := by omega
      subst ei
      refine .inl ⟨wi.2.1 rfl, ?_⟩
      rw [List.drop_length] at hl
      cases hl
      rw [List.append_nil] at ha
      subst ha
      have sub : Ex (hid (D :: M) H2) (hid M H2) := hid_sub fun a ha => List.mem_cons_of_mem _ ha
      have hA2 := AtL.mono sub _ _ hA
      have sL : SqL c.K (hid M H2) D vs0 := SqL.of (hid_of hD nM)
      exact q (.ref D) H2 (Evl.Ex.trans e1 hE) ⟨D, vs0, rfl, sL, hA2⟩ ⟨D, vs0, rfl, sL, hA2, hF.mono sub⟩
  · cases h4

theorem pe_co2E {elt tg iter tg1 iter1 : Expr} {ifs ifs1 : List Expr} {scope : Scope} {own : List (Str × Nat)} {pos : Pos} {g g1 : TG} {b b1 : D → Nv → R Nv} {js js1 : List Nat} {mi mi1 : Nv → R (List D)} {t t1 : Nv → R Bool} {me : Nv → R D}
    (vs1 : List Nat) (hc : X.calm = true) (hN : X.N.Nodup) (hi : PI X tg iter (rdI c mi)) (ok : BlkOk X.N X.env.scope scope own) (gk : GOk c g b js) (hj : ∀ j, j ∈ js → j ∈ own.map (·.2)) (gk1 : GOk c g1 b1 js1) (hj1 : ∀ j, j ∈ js1 → j ∈ vs1) (hv : ∀ i ∈ vs1, i ∈ own.map (·.2))
    (hg : ∀ (s : Shared) (H : Hp) (C : Addr) (cl : List (Str × Addr)) (fp : List Addr), PG (X.blk s H scope (compEnvC scope cl C X.env) fp) tg g) (ht : ∀ (s : Shared) (H : Hp) (C : Addr) (cl : List (Str × Addr)) (fp : List Addr), PTs (X.blk s H scope (compEnvC scope cl C X.env) fp) ifs (rdT c t))
    (hi1 : ∀ (s : Shared) (H : Hp) (C : Addr) (cl : List (Str × Addr)) (fp : List Addr), PI (X.blk s H scope (compEnvC scope cl C X.env) fp) tg1 iter1 (rdI c mi1))
    (hg1 : ∀ (s : Shared) (H : Hp) (C : Addr) (cl : List (Str × Addr)) (fp : List Addr), PG (X.blk s H scope (compEnvC scope cl C X.env) fp) tg1 g1) (ht1 : ∀ (s : Shared) (H : Hp) (C : Addr) (cl : List (Str × Addr)) (fp : List Addr), PTs (X.blk s H scope (compEnvC scope cl C X.env) fp) ifs1 (rdT c t1))
    (he : ∀ (s : Shared) (H : Hp) (C : Addr) (cl : List (Str × Addr)) (fp : List Addr), PE (X.blk s H scope (compEnvC scope cl C X.env) fp) elt (rdP c .top me)) (hs : ∀ x, foldedSetIterable iter X.env x = pure x := by intro _; rfl) (hs1 : ∀ env x, foldedSetIterable iter1 env x = pure x := by intro _ _; rfl) :
    PE X (.ListComp elt [⟨tg, iter, ifs, 0⟩, ⟨tg1, iter1, ifs1, 0⟩] scope pos) (rdP c .each (xLc2 (own.map (·.2)) vs1 mi b t mi1 b1 t1 me)) := (pe_lc2 hc hN hi ok hv hg ht hi1 hg1 ht1 he hs hs1).wk (tLc2_nw gk hj gk1 hj1)
/-- two names at once, the first one own, the second one with new lists -/
theorem ps_pmP {i j : Nat} {p : FP} {ma mb : Nv → R D} {x y : Str} {a b : Expr} {px py pt pos : Pos} {kt k2 pt2} (hc : X.calm = true) (hN : X.N.Nodup) (ha : PE X a (rdL c ma)) (hb : PE X b (rdP c p mb)) (hi : X.N[i]? = some x := by rfl) (hj : X.N[j]? = some y := by rfl) (hij : i ≠ j := by decide)
    (hx : X.env.scope.names.lookup x = some .local := by rfl) (hy : X.env.scope.names.lookup y = some .local := by rfl)
    (hw : swappedStores [.Tuple [.Name x px, .Name y py] kt pt] (.Tuple [a, b] k2 pt2) X.env = pure (some [x, y]) := by rfl) (hs : swapsWithSole [.Tuple [.Name x px, .Name y py] kt pt] (.Tuple [a, b] k2 pt2) pos.line X.env = pure false := by rfl)
    (st1 : starEach [a, b] X.env = (false, eval a X.env) :: starEach [b] X.env := by rfl) (st2 : starEach [b] X.env = (false, eval b X.env) :: starEach [] X.env := by rfl) (hq : c.op i = true := by rfl) (hq2 : c.pn j = false := by rfl) (hq3 : c.fs j = some p := by rfl) :
    PS X (.Assign [.Tuple [.Name x px, .Name y py] kt pt] (.Tuple [a, b] k2 pt2) pos) (rdS c W (sPm i true j false ma mb)) := (ps_par hc hN hi hj hij hx hy (pa_cons ha (pa_cons hb pa_nil st2) st1) hw hs).wk fun E σ H h => by
  obtain ⟨ε, M, x, y, re, h1, h2, _, f⟩ := pm_fin h
  refine ⟨ε, M, re, x, h1, fun q o H1 n e1 hp ho => ?_⟩
  have r1 := re.setMu (i := i) n e1 hp ho hq
  have r0 := re.add n e1 hp
  refine ⟨ε, q :: M, r0, y, h2, fun w H2 e2 hw hf => ⟨.ref q, w, rfl, ?_⟩⟩
  exact f _ H2 _ ((r1.ex e2).setF hw hq2 fun p' hp' => by
    rw [hq3] at hp'
    cases hp'
    exact hf) (Evl.Ex.trans (hid_new e1 n) (hid_ex e2))
/-! ### for one, two in d: if ..: return False -/
def lfD : D → Bool
  | .list ds => ds.all flat
  | d => flat d
def rsS (i : Nat) (L : List Nat) (k : Nat) (s : SV) : SV := match s with
  | .im d => if k = i ∨ (L.contains k = true ∧ lfD d = true) then .im d else .no
  | _ => .no
def kG (a1 b1 : Nat) (t : Nv → R Bool) : List (D × D) → Nv → Nv → R Fl
  | [], ε, _ => .ok (.nx ε)
  | (.tuple [.int x, .int y], _) :: es, ε, ρ => match t (st (st ρ a1 (.im (.int x))) b1 (.im (.int y))) with
    | .ok true => .ok (.rt (.bool false))
    | .ok false => kG a1 b1 t es (st (st ε a1 (.im (.int x))) b1 (.im (.int y))) (st (st ρ a1 (.im (.int x))) b1 (.im (.int y)))
    | _ => .bad
  | _ :: _, _, _ => .bad
def sFk (i a1 b1 : Nat) (L : List Nat) (t : Nv → R Bool) : Nv → R Fl := fun ε => match gt ε i with
  | .im (.dict ((.bool false, _) :: es)) => if (a1 ≠ i ∧ b1 ≠ i) ∧ es.all (fun p => flat p.2) = true then kG a1 b1 t es ε (ixE (rsS i L) 0 ε) else .bad
  | _ => .bad
def Cf.nar (K : PySem.W.Frag) (cl : Nat → Option Addr) (H0 : Hp) (M0 : List Addr) : Cf := ⟨K, H0, M0, false, cl, fun _ => false, fun _ => none, none⟩
theorem rs_no (i : Nat) (L : List Nat) (k : Nat) : rsS i L k .no = .no := rfl
theorem flat_at {K : PySem.W.Frag} {H H' : Hp} {d : D} {v : V} (hd : flat d = true) (h : At K H d v) : At K H' d v := by
  cases d with
  | none => exact h
  | bool b => exact h
  | int i => exact h
  | str s => exact h
  | _ => cases hd
theorem flat_atL {K : PySem.W.Frag} {H H' : Hp} : ∀ {ds : List D} {xs : List V}, ds.all flat = true → AtL K H ds xs → AtL K H' ds xs
  | [], _, _, h => h
  | d :: ds, _, hd, ⟨v, r, e1, h3, h4⟩ => by
    rw [List.all_cons, Bool.and_eq_true] at hd
    exact ⟨v, r, e1, flat_at hd.1 h3, flat_atL hd.2 h4⟩
theorem flat_atU {K : PySem.W.Frag} {H H' : Hp} : ∀ {es : List (D × D)} {kvs : List (List Key × V)}, es.all (fun p => flat p.2) = true → AtU K H es kvs → AtU K H' es kvs
  | [], _, _, h => h
  | (k, d) :: es, _, hd, ⟨c, v, r, e1, e2, h3, h4⟩ => by
    rw [List.all_cons, Bool.and_eq_true] at hd
    exact ⟨c, v, r, e1, e2, flat_at hd.1 h3, flat_atU hd.2 h4⟩
theorem lf_at {K : PySem.W.Frag} {H H' : Hp} {d : D} {v : V} (hd : lfD d = true) (e : ∀ a xs, SqL K H a xs → SqL K H' a xs) (h : At K H d v) : At K H' d v := by
  cases d with
  | list ds =>
    obtain ⟨a, xs, ev, h1, h2⟩ := h
    exact ⟨a, xs, ev, e _ _ h1, flat_atL hd h2⟩
  | none => exact h
  | bool b => exact h
  | int i => exact h
  | str s => exact h
  | tuple _ => cases hd
  | dict _ => cases hd
theorem at_dT2 {K : PySem.W.Frag} {H : Hp} {x : D} {es : List (D × D)} {v : V} (h : At K H (.dict ((.bool false, x) :: es)) v) : ∃ a kvs, v = .ref a ∧ Rd H a (.dT kvs) ∧ AtU K H es kvs ∧ x = .none := by
  obtain ⟨a, ev, q⟩ := h
  rcases q with ⟨kvs, r, c, w, r', e1, e2, _⟩ | ⟨kvs, r, ⟨_, z, q⟩, _⟩ | ⟨S, n, xs, r, q, _⟩ | ⟨o, kvs, r, e1, e2, _⟩ | ⟨lo, hi, r, q⟩
  · cases c <;> cases e2
  · exact ⟨a, kvs, ev, r, q, z⟩
  · cases q
  · cases e1
  · cases q
/-- the relation of the names that are read, the dict at d being locked (K1: the heap so) -/
theorem rel_nar {σ : L2.St} {H K1 : Hp} {ε : Nv} {M : List Addr} {i : Nat} {L : List Nat} {cl : Nat → Option Addr} {d : Addr} {od : PySem.Obj} {kvs : List (List Key × V)} {x : D} {es : List (D × D)} (re : Rel c σ H ε M) (g : gt ε i = .im (.dict ((.bool false, x) :: es))) (hσ : σ[i]? = some (some (.ref d)))
    (hr : Rd H d (.dT kvs)) (hd : K1 d = some (.frz od (.dT kvs))) (hK : ∀ a, a ≠ d → K1 a = H a)
    (nM : d ∉ M) (hk : AtU c.K (hid M H) es kvs) (hfl : es.all (fun p => flat p.2) = true) (hx : x = .none) : Rel (Cf.nar c.K cl K1 M) σ K1 (ixE (rsS i L) 0 ε) M := by
  have gi : ∀ {j s}, gt (ixE (rsS i L) 0 ε) j = s → s ≠ .no → ∃ d, s = .im d ∧ gt ε j = .im d ∧ (j = i ∨ lfD d = true) := fun {j s} h n => by
    rw [gt_ix (rs_no i L), Nat.zero_add] at h
    unfold rsS at h
    split at h
    · rename_i d e
      split at h
      · rename_i z
        exact ⟨d, h.symm, e, z.elim .inl fun z => .inr z.2⟩
      · exact absurd h.symm n
    · exact absurd h.symm n
  have sq : ∀ a xs, SqL c.K (hid M H) a xs → SqL c.K (hid M K1) a xs := fun a xs h => by
    rcases h with h | h
    · have ne : a ≠ d := fun z => by
        subst z
        rcases h with h | ⟨o, h⟩ <;> rcases hr with hr | ⟨o2, hr⟩ <;> rw [(of_hid h).1] at hr <;> cases hr
      rcases h with h | ⟨o, h⟩
      · obtain ⟨z1, z2⟩ := of_hid h
        exact .inl (.inl (hid_of (by rw [hK a ne]; exact z1) z2))
      · obtain ⟨z1, z2⟩ := of_hid h
        exact .inl (.inr ⟨o, hid_of (by rw [hK a ne]; exact z1) z2⟩)
    · exact .inr h
  have trk : ∀ a, a ∈ M → ∃ o, K1 a = some o := fun a h => by
    obtain ⟨o', q⟩ := re.trk a h
    have ne : a ≠ d := fun z => by
      rw [z] at h
      exact nM h
    exact ⟨o', by rw [hK a ne]; exact q⟩
  refine ⟨Evl.Ex.refl _, by rw [ixE_len]; exact re.len, fun a h => h, trk, fun a h => ?_, fun j d' h => ?_, fun j d' h => ?_, fun j k d' e' a b hjk h1 => ?_, fun a h => .inl h, fun j d' hj => ?_, fun j p d' hj => ?_, fun j d' h => ?_⟩
  · obtain ⟨o', q⟩ := trk a h
    show K1 a ≠ none
    rw [q]
    intro z
    cases z
  · obtain ⟨d2, e1, e2, e3⟩ := gi h (by intro z; cases z)
    cases e1
    obtain ⟨v, q1, q2⟩ := re.im j d' e2
    refine ⟨v, q1, ?_⟩
    rcases e3 with e3 | e3
    · subst e3
      rw [g] at e2
      cases e2
      rw [hσ] at q1
      cases q1
      subst hx
      exact ⟨d, rfl, .inr (.inl ⟨kvs, .inr ⟨od, hid_of hd nM⟩, ⟨rfl, rfl, flat_atU hfl hk⟩, fun z => by cases z⟩)⟩
    · exact lf_at e3 sq q2
  · obtain ⟨d2, e1, _⟩ := gi h (by intro z; cases z)
    cases e1
  · obtain ⟨d2, e1, _⟩ := gi h1 (by intro z; cases z)
    cases e1
  · cases hj
  · cases hj
  · obtain ⟨d2, e1, _⟩ := gi h (by intro z; cases z)
    cases e1
theorem atU_key {K : PySem.W.Frag} {H : Hp} : ∀ {es : List (D × D)} {kvs : List (List Key × V)} {n : Nat} {k : List Key} {v : V} {p : D × D}, AtU K H es kvs → kvs[n]? = some (k, v) → es[n]? = some p → p.1 = .tuple (k.map keyD)
  | [], _, _, _, _, _, _, _, h => by cases h
  | (kd, d) :: es, _, n, k, v, p, ⟨c, w, r, e, ek, _, h2⟩, h3, h4 => by
    subst e ek
    cases n with
    | zero =>
      cases h3
      cases h4
      rfl
    | succ n => exact atU_key h2 h3 h4
/-- the walk while the dict is locked; P: what the names are to the heap that comes back -/
theorem fk_core {i a1 b1 : Nat} {t : Nv → R Bool} {σ : L2.St} {K1 : Hp} {M : List Addr} {d : Addr} {od : PySem.Obj} {kvs : List (List Key × V)} {es : List (D × D)} {ε ρ : Nv} {fl : Fl} {E : Ends} {KK : PySem.W.Frag} {cl : Nat → Option Addr} {KA : PySem.W.Frag} {HA : Hp} (P : L2.St → Nv → Prop) (ha : a1 ≠ i) (hb : b1 ≠ i) (hd : K1 d = some (.frz od (.dT kvs))) (hσ : σ[i]? = some (some (.ref d))) (hk : AtU KA HA es kvs)
    (hr : Rel (Cf.nar KK cl K1 M) σ K1 ρ M) (hP : P σ ε) (stp : ∀ σ ε (x y : Int), P σ ε → P ((σ.set a1 (some (.int x))).set b1 (some (.int y))) (st (st ε a1 (.im (.int x))) b1 (.im (.int y))))
    (hf : kG a1 b1 t es ε ρ = .ok fl) (nx : ∀ σ2 ε2 H2, Ex K1 H2 → P σ2 ε2 → fl = .nx ε2 → E.nx σ2 H2) (rt : ∀ H2, Ex K1 H2 → fl = .rt (.bool false) → E.rt (.bl false) H2) :
    tFor (iKeys (tVar i)) (gTup KK 2 (gCons (gName a1) (gCons (gName b1) gNil))) (tIfS (rdT (Cf.nar KK cl K1 M) t) (tRet (rdE (Cf.nar KK cl K1 M) (xC (.bool false)))) tNext) E σ K1 := by
  refine ⟨.ref d, hσ, d, od, rfl, .inr ⟨kvs, hd, ?_⟩⟩
  have len := atU_len hk
  refine ⟨fun n m σ2 H2 => m = es.length - n ∧ n ≤ es.length ∧ ∃ ε2 ρ2, σ2[i]? = some (some (.ref d)) ∧ P σ2 ε2 ∧ Rel (Cf.nar KK cl K1 M) σ2 H2 ρ2 M ∧ kG a1 b1 t (es.drop n) ε2 ρ2 = .ok fl, ⟨es.length, by omega, Nat.zero_le _, ε, ρ, hσ, hP, hr, hf⟩, ?_⟩
  rintro n m σ2 H2 ⟨rfl, hn, ε2, ρ2, h1, h2, h3, h4⟩
  have hE : Ex K1 H2 := h3.ext
  by_cases hlt : n < es.length
  · refine .inr ⟨⟨hE d _ hd, by omega⟩, fun σ' H' => ∃ ε2 ρ2, σ'[i]? = some (some (.ref d)) ∧ P σ' ε2 ∧ Rel (Cf.nar KK cl K1 M) σ' H' ρ2 M ∧ kG a1 b1 t (es.drop (n + 1)) ε2 ρ2 = .ok fl, fun σ' H' p => ⟨_, by omega, rfl, hlt, p⟩, fun x H' y => ?_⟩
    obtain ⟨eH, k, v, a, e1, e2, e3⟩ := y
    subst eH e2
    rw [List.drop_eq_getElem_cons hlt] at h4
    have hp := atU_key hk e1 (List.getElem?_eq_getElem hlt)
    generalize es[n] = p at h4 hp
    obtain ⟨kd, dv⟩ := p
    have hp : kd = .tuple (k.map keyD) := hp
    subst hp
    have hk2 : ∃ x y, k = [.inl x, .inl y] := by
      match k, h4 with
      | [], h4 => cases h4
      | [.inl _], h4 => cases h4
      | [.inr _], h4 => cases h4
      | .inr _ :: _ :: _, h4 => cases h4
      | [.inl _, .inr _], h4 => cases h4
      | [.inl x, .inl y], _ => exact ⟨x, y, rfl⟩
      | .inl _ :: .inl _ :: _ :: _, h4 => cases h4
      | .inl _ :: .inr _ :: _ :: _, h4 => cases h4
    obtain ⟨x, y, rfl⟩ := hk2
    have r3 : Rel (Cf.nar KK cl K1 M) ((σ2.set a1 (some (.int x))).set b1 (some (.int y))) H' (st (st ρ2 a1 (.im (.int x))) b1 (.im (.int y))) M := (h3.set (d := .int x) (v := .int x) rfl rfl).set (d := .int y) (v := .int y) rfl rfl
    have h4 : (match t (st (st ρ2 a1 (.im (.int x))) b1 (.im (.int y))) with
      | .ok true => R.ok (Fl.rt (.bool false))
      | .ok false => kG a1 b1 t (es.drop (n + 1)) (st (st ε2 a1 (.im (.int x))) b1 (.im (.int y))) (st (st ρ2 a1 (.im (.int x))) b1 (.im (.int y)))
      | _ => .bad) = .ok fl := h4
    refine ⟨a, [.int x, .int y], rfl, SqT.of e3, rfl, .int x, [.int y], rfl, .int y, [], rfl, rfl, ?_⟩
    cases q : t (st (st ρ2 a1 (.im (.int x))) b1 (.im (.int y))) with
    | bad =>
      rw [q] at h4
      cases h4
    | ex u w =>
      rw [q] at h4
      cases h4
    | ok bb =>
      rw [q] at h4
      refine ⟨_, M, r3, bb, q, fun H3 e3' => ?_⟩
      cases bb with
      | true =>
        cases h4
        refine ⟨_, M, r3.ex e3', _, rfl, fun v H4 e4 hv => ?_⟩
        have hv : v = .bl false := hv
        subst hv
        exact rt H4 (hE.trans (e3'.trans e4)) rfl
      | false => exact ⟨_, _, by rw [List.getElem?_set_ne hb, List.getElem?_set_ne ha]; exact h1, stp _ _ x y h2, r3.ex e3', h4⟩
  · have en : n = es.length := by omega
    subst en
    rw [List.drop_length] at h4
    cases h4
    exact .inl ⟨⟨hE d _ hd, by omega⟩, nx _ _ _ hE h2 rfl⟩
theorem ps_fk {s : Stmt} {i a1 b1 : Nat} (L : List Nat) {t : Nv → R Bool} (h : ∀ (cl : Nat → Option Addr) (H0 : Hp) (M0 : List Addr), PS X s (tFor (iKeys (tVar i)) (gTup X.K 2 (gCons (gName a1) (gCons (gName b1) gNil))) (tIfS (rdT (Cf.nar X.K cl H0 M0) t) (tRet (rdE (Cf.nar X.K cl H0 M0) (xC (.bool false)))) tNext)))
    (ha : c.op a1 = true := by rfl) (hb : c.op b1 = true := by rfl) (hfr : c.fr = false := by rfl) (hK : c.K = X.K := by rfl) : PS X s (rdS c W (sFk i a1 b1 L t)) := by
  have h1 : PS X s (fun E σ H => ∃ H0 M0, tFor (iKeys (tVar i)) (gTup X.K 2 (gCons (gName a1) (gCons (gName b1) gNil))) (tIfS (rdT (Cf.nar X.K c.cl H0 M0) t) (tRet (rdE (Cf.nar X.K c.cl H0 M0) (xC (.bool false)))) tNext) E σ H) := ⟨fun pins s σ H E I ⟨H0, M0, q⟩ => (h c.cl H0 M0).run pins s σ H E I q⟩
  have h2 := ps_lock h1
  refine (⟨fun pins s σ H E I q => q.elim (h2.run pins s σ H E I) (h1.run pins s σ H E I)⟩ : PS X s (fun E σ H => tLock _ E σ H ∨ _)).wk fun E σ H ⟨ε, M, re, f⟩ => ?_
  unfold sFk at f
  split at f
  · rename_i x es g
    split at f
    · rename_i hz
      obtain ⟨⟨z1, z2⟩, hfl⟩ := hz
      obtain ⟨v, hσ, hv⟩ := re.im i _ g
      obtain ⟨d, kvs, ev, hr, hk, hx⟩ := at_dT2 hv
      subst ev
      have nM : d ∉ M := by
        rcases hr with hr | ⟨o, hr⟩
        · exact (of_hid hr).2
        · exact (of_hid hr).2
      have hrd : Rd H d (.dT kvs) := by
        rcases hr with hr | ⟨o, hr⟩
        · exact .inl (of_hid hr).1
        · exact .inr ⟨o, (of_hid hr).1⟩
      have stp : ∀ (σ : L2.St) (ε : Nv) (x y : Int), (∀ Hu, Ex H Hu → Rel c σ Hu ε M) → ∀ Hu, Ex H Hu → Rel c ((σ.set a1 (some (.int x))).set b1 (some (.int y))) Hu (st (st ε a1 (.im (.int x))) b1 (.im (.int y))) M := fun σ ε x y hp Hu e => ((hp Hu e).set (d := .int x) (v := .int x) rfl ha).set (d := .int y) (v := .int y) rfl hb
      cases q : kG a1 b1 t es ε (ixE (rsS i L) 0 ε) with
      | bad =>
        rw [q] at f
        exact f.elim
      | ex u w =>
        rw [q] at f
        exact f.elim
      | ok fl =>
        rw [q] at f
        have ret : fl = .rt (.bool false) → ∀ H3, Ex H H3 → E.rt (.bl false) H3 := fun z H3 e => by
          subst z
          have f' : RtOk c E.rt (.bool false) := f
          unfold RtOk at f'
          rw [hfr] at f'
          exact f' _ H3 (re.ext.trans e) rfl fun p _ => fresh_flat rfl
        rcases id hrd with hrd' | ⟨od, hrd'⟩
        · refine .inl ⟨d, .dT kvs, hrd', True.intro, fun od => ⟨L2.upd H d (.frz od (.dT kvs)), M, ?_⟩⟩
          have back : ∀ H2, Ex (L2.upd H d (.frz od (.dT kvs))) H2 → Ex H (L2.upd H2 d (.dT kvs)) := fun H2 e a o ha => by
            by_cases z : a = d
            · rw [z, upd_same, ← hrd', ← z]
              exact ha
            · rw [upd_ne z]
              exact e a o (by rw [upd_ne z]; exact ha)
          refine hK ▸ fk_core (P := fun σ ε => ∀ Hu, Ex H Hu → Rel c σ Hu ε M) z1 z2 upd_same hσ hk (rel_nar re g hσ hrd upd_same (fun a ne => upd_ne ne) nM hk hfl hx) (fun Hu e => re.ex e) stp q (fun σ2 ε2 H2 e hp z => ?_) (fun H2 e z => ?_)
          · subst z
            exact ⟨e d _ upd_same, f σ2 _ M (hp _ (back H2 e)) (hid_ex (back H2 e))⟩
          · exact ⟨e d _ upd_same, ret z _ (back H2 e)⟩
        · refine .inr ⟨H, M, ?_⟩
          refine hK ▸ fk_core (P := fun σ ε => ∀ Hu, Ex H Hu → Rel c σ Hu ε M) z1 z2 hrd' hσ hk (rel_nar re g hσ hrd hrd' (fun a ne => rfl) nM hk hfl hx) (fun Hu e => re.ex e) stp q (fun σ2 ε2 H2 e hp z => ?_) (fun H2 e z => ?_)
          · subst z
            exact f σ2 H2 M (hp H2 e) (hid_ex e)
          · exact ret z H2 e
    · exact f.elim
  · exact f.elim
end
end Tw
set_option Elab.async false
set_option linter.all false
set_option maxRecDepth 100000
set_option maxHeartbeats 4000000
set_option exponentiation.threshold 1000000
/-! Pl1: the programs over data, in plain Lean -/
namespace Tw
open PySem
/-! ### environments -/
theorem gt_z {s : SV} {r : Nv} : gt (s :: r) 0 = s := rfl
theorem gt_s {s : SV} {r : Nv} {i : Nat} : gt (s :: r) (i + 1) = gt r i := rfl
theorem st_z {s x : SV} {r : Nv} : st (s :: r) 0 x = x :: r := rfl
theorem st_s {s x : SV} {r : Nv} {i : Nat} : st (s :: r) (i + 1) x = s :: st r i x := rfl
theorem bind_ok {α β : Type} {a : α} {f : α → R β} : (R.ok a).bind f = f a := rfl
/-! ### small facts of data -/
theorem okd_int (i : Int) : okd (.int i) = true := rfl
theorem okd_bool (b : Bool) : okd (.bool b) = true := rfl
theorem okd_none : okd (.none) = true := rfl
theorem okd_str (x : Str) : okd (.str x) = true := rfl
theorem plain_ints : ∀ l : List Int, PyData.plainAll (l.map PyData.int) = true
  | [] => rfl
  | _ :: r => by
    show (true && PyData.plainAll (r.map PyData.int)) = true
    rw [plain_ints r]
    rfl
theorem okd_of {d : D} (h1 : d.plain = true) (h2 : d.depth ≤ 60) : okd d = true := by
  unfold okd
  rw [h1, decide_eq_true h2]
  rfl
theorem okd_ints (l : List Int) : okd (.list (l.map PyData.int)) = true := okd_of (by simp only [PyData.plain]; exact plain_ints l) (by simp only [PyData.depth, PySem.W.depth_ints]; decide)
theorem eqv_int (i j : Int) : PyData.eqv (.int i) (.int j) = decide (i = j) := by
  rw [PyData.eqv, Bool.beq_eq_decide_eq]
theorem eqv_str (x y : Str) : PyData.eqv (.str x) (.str y) = decide (x = y) := by
  rw [PyData.eqv]
  by_cases h : x = y
  · subst h
    simp
  · rw [decide_eq_false h]
    exact beq_eq_false_iff_ne.mpr h
theorem dEq_int (i j : Int) : dEq (.int i) (.int j) = .ok (.bool (decide (i = j))) := by
  unfold dEq
  rw [okd_int, okd_int, eqv_int]
  rfl
theorem dNe_int (i j : Int) : dNe (.int i) (.int j) = .ok (.bool (!decide (i = j))) := by
  unfold dNe
  rw [okd_int, okd_int, eqv_int]
  rfl
theorem dNe_str (i j : Str) : dNe (.str i) (.str j) = .ok (.bool (!decide (i = j))) := by
  unfold dNe
  rw [okd_str, okd_str, eqv_str]
  rfl
theorem dNe_same {d : D} (h : okd d = true) : dNe d d = .ok (.bool false) := by
  unfold dNe
  rw [h, SeqAt.eqv_refl_plain d (okd_iff h).1]
  rfl
theorem dEq_same {d : D} (h : okd d = true) : dEq d d = .ok (.bool true) := by
  unfold dEq
  rw [h, SeqAt.eqv_refl_plain d (okd_iff h).1]
  rfl
/-! ### loops -/
/-- a loop that is gone through -/
theorem forG_inv {g : D → Nv → R Nv} {b : Nv → R Fl} (P : Nat → Nv → Prop) : ∀ (ds : List D) (k : Nat) (ε : Nv), P k ε →
    (∀ i d ε, ds[i]? = some d → P (k + i) ε → ∃ ε1, g d ε = .ok ε1 ∧ ∃ ε2, (b ε1 = .ok (.nx ε2) ∨ b ε1 = .ok (.ct ε2)) ∧ P (k + i + 1) ε2) → ∃ ε', forG g b ds ε = .ok (.nx ε') ∧ P (k + ds.length) ε'
  | [], k, ε, h0, _ => ⟨ε, rfl, h0⟩
  | d :: ds, k, ε, h0, hs => by
    obtain ⟨ε1, h1, ε2, h2, h3⟩ := hs 0 d ε rfl h0
    obtain ⟨ε', h4, h5⟩ := forG_inv P ds (k + 1) ε2 h3 fun i e η hi hp => by
      have e1 : k + 1 + i = k + (i + 1) := by omega
      rw [e1] at hp ⊢
      exact hs (i + 1) e η (by simpa using hi) hp
    refine ⟨ε', ?_, ?_⟩
    · unfold forG
      rw [h1, bind_ok]
      rcases h2 with h2 | h2
      · rw [h2]
        exact h4
      · rw [h2]
        exact h4
    · rw [List.length_cons]
      have e1 : k + (ds.length + 1) = k + 1 + ds.length := by omega
      rw [e1]
      exact h5
/-- a loop that may end by return: by what holds of the answer -/
theorem forG_ret {g : D → Nv → R Nv} {b : Nv → R Fl} (P : Nat → Nv → Prop) (Q : D → Prop) : ∀ (ds : List D) (k : Nat) (ε : Nv), P k ε →
    (∀ i d ε, ds[i]? = some d → P (k + i) ε → ∃ ε1, g d ε = .ok ε1 ∧ ((∃ ε2, (b ε1 = .ok (.nx ε2) ∨ b ε1 = .ok (.ct ε2)) ∧ P (k + i + 1) ε2) ∨ ∃ a, b ε1 = .ok (.rt a) ∧ Q a)) →
    (∃ ε', forG g b ds ε = .ok (.nx ε') ∧ P (k + ds.length) ε') ∨ ∃ a, forG g b ds ε = .ok (.rt a) ∧ Q a
  | [], k, ε, h0, _ => .inl ⟨ε, rfl, h0⟩
  | d :: ds, k, ε, h0, hs => by
    obtain ⟨ε1, h1, h2⟩ := hs 0 d ε rfl h0
    rcases h2 with ⟨ε2, h2, h3⟩ | ⟨a, h2, h3⟩
    · have := forG_ret P Q ds (k + 1) ε2 h3 fun i e η hi hp => by
        have e1 : k + 1 + i = k + (i + 1) := by omega
        rw [e1] at hp ⊢
        exact hs (i + 1) e η (by simpa using hi) hp
      have e2 : forG g b (d :: ds) ε = forG g b ds ε2 := by
        show (g d ε).bind _ = _
        rw [h1, bind_ok]
        rcases h2 with h2 | h2
        · rw [h2]
        · rw [h2]
      rw [e2, List.length_cons]
      have e1 : k + (ds.length + 1) = k + 1 + ds.length := by omega
      rw [e1]
      exact this
    · refine .inr ⟨a, ?_, h3⟩
      show (g d ε).bind _ = _
      rw [h1, bind_ok, h2]
/-- a comprehension -/
theorem lcG_map {g : D → Nv → R Nv} {t : Nv → R Bool} {e : Nv → R D} {ε : Nv} (p : D → Bool) (v : D → D) : ∀ (ds : List D),
    (∀ d, d ∈ ds → ∃ ε1, g d ε = .ok ε1 ∧ t ε1 = .ok (p d) ∧ (p d = true → e ε1 = .ok (v d))) → lcG g t e ε ds = .ok ((ds.filter p).map v)
  | [], _ => rfl
  | d :: ds, h => by
    obtain ⟨ε1, h1, h2, h3⟩ := h d List.mem_cons_self
    have ih := lcG_map p v ds fun x hx => h x (List.mem_cons_of_mem _ hx)
    unfold lcG
    rw [h1, bind_ok, h2, bind_ok]
    cases hp : p d with
    | true =>
      rw [if_pos rfl, h3 hp, bind_ok, ih, bind_ok, List.filter_cons, hp, if_pos rfl]
      rfl
    | false =>
      rw [if_neg Bool.false_ne_true, ih, List.filter_cons, hp, if_neg Bool.false_ne_true]
/-- one over typed items, no test -/
theorem lcG_all {α : Type} {g : D → Nv → R Nv} {e : Nv → R D} {ε : Nv} (enc : α → D) (v : α → D) : ∀ (xs : List α), (∀ x, x ∈ xs → ∃ ε1, g (enc x) ε = .ok ε1 ∧ e ε1 = .ok (v x)) → lcG g tYe e ε (xs.map enc) = .ok (xs.map v)
  | [], _ => rfl
  | x :: xs, h => by
    obtain ⟨ε1, h1, h2⟩ := h x List.mem_cons_self
    have ih := lcG_all enc v xs fun y hy => h y (List.mem_cons_of_mem _ hy)
    show (g (enc x) ε).bind _ = _
    rw [h1, bind_ok]
    show (e ε1).bind _ = _
    rw [h2, bind_ok, ih, bind_ok]
    rfl
/-- .. with a test -/
theorem lcG_if {α : Type} {g : D → Nv → R Nv} {t : Nv → R Bool} {e : Nv → R D} {ε : Nv} (enc : α → D) (p : α → Bool) (v : α → D) : ∀ (xs : List α), (∀ x, x ∈ xs → ∃ ε1, g (enc x) ε = .ok ε1 ∧ t ε1 = .ok (p x) ∧ (p x = true → e ε1 = .ok (v x))) → lcG g t e ε (xs.map enc) = .ok ((xs.filter p).map v)
  | [], _ => rfl
  | x :: xs, h => by
    obtain ⟨ε1, h1, h2, h3⟩ := h x List.mem_cons_self
    have ih := lcG_if enc p v xs fun y hy => h y (List.mem_cons_of_mem _ hy)
    show (g (enc x) ε).bind _ = _
    rw [h1, bind_ok, h2, bind_ok]
    cases hp : p x with
    | true =>
      rw [if_pos rfl, h3 hp, bind_ok, ih, bind_ok, List.filter_cons, hp, if_pos rfl]
      rfl
    | false =>
      rw [if_neg Bool.false_ne_true, ih, List.filter_cons, hp, if_neg Bool.false_ne_true]
/-- a while: by a measure -/
theorem whG_inv {t : Nv → R Bool} {b : Nv → R Fl} (P : Nat → Nv → Prop) (Q : Nv → Prop) : ∀ (n : Nat) (ε : Nv), P n ε →
    (∀ n ε, P n ε → (t ε = .ok false ∧ Q ε) ∨ (t ε = .ok true ∧ ∃ ε2 n', n' < n ∧ (b ε = .ok (.nx ε2) ∨ b ε = .ok (.ct ε2)) ∧ P n' ε2)) → ∀ m, n < m → ∃ ε', whG t b m ε = .ok (.nx ε') ∧ Q ε' := by
  intro n
  induction n using Nat.strongRecOn with
  | _ n ih =>
    intro ε h hs m hm
    cases m with
    | zero => exact absurd hm (Nat.not_lt_zero _)
    | succ m =>
      rcases hs n ε h with ⟨h1, h2⟩ | ⟨h1, ε2, n', hn, h2, h3⟩
      · refine ⟨ε, ?_, h2⟩
        unfold whG
        rw [h1]
        rfl
      · obtain ⟨ε', h4, h5⟩ := ih n' hn ε2 h3 hs m (by omega)
        refine ⟨ε', ?_, h5⟩
        unfold whG
        rw [h1, bind_ok, if_pos rfl]
        rcases h2 with h2 | h2
        · rw [h2]
          exact h4
        · rw [h2]
          exact h4
/-! ### ranges, items -/
theorem rangeD_get {lo : Int} {n i : Nat} {d : D} (h : (rangeD lo n)[i]? = some d) : i < n ∧ d = .int (lo + (i : Int)) := by
  unfold rangeD at h
  rw [List.getElem?_map] at h
  by_cases hi : i < n
  · rw [List.getElem?_range hi] at h
    exact ⟨hi, (Option.some.inj h).symm⟩
  · rw [List.getElem?_eq_none_iff.mpr (by rw [List.length_range]; omega)] at h
    cases h
theorem rangeD_len (lo : Int) (n : Nat) : (rangeD lo n).length = n := by
  unfold rangeD
  rw [List.length_map, List.length_range]
theorem atI_map {α β : Type} (f : α → β) (xs : List α) (i : Int) : L2.atI (xs.map f) i = (L2.atI xs i).map f := by
  unfold L2.atI
  rw [List.length_map]
  cases L2.ixN xs.length i with
  | none => rfl
  | some j =>
    show (xs.map f)[j]? = (xs[j]?).map f
    rw [List.getElem?_map]
theorem atI_of {α : Type} {xs : List α} {i : Int} (h0 : 0 ≤ i) (h : i < xs.length) : ∃ x, xs[i.toNat]? = some x ∧ L2.atI xs i = some x := by
  have hi : i.toNat < xs.length := by omega
  refine ⟨xs[i.toNat], List.getElem?_eq_getElem hi, ?_⟩
  have := L2.atI_nat (xs := xs) (j := i.toNat) (List.getElem?_eq_getElem hi)
  rwa [Int.toNat_of_nonneg h0] at this
theorem dIx_list {xs : List D} {i : Int} {x : D} (h : L2.atI xs i = some x) : dIx (.list xs) (.int i) = .ok x := by
  show (match L2.atI xs i with | some d => R.ok d | none => R.bad) = _
  rw [h]
theorem dIx_tuple {xs : List D} {i : Int} {x : D} (h : L2.atI xs i = some x) : dIx (.tuple xs) (.int i) = .ok x := by
  show (match L2.atI xs i with | some d => R.ok d | none => R.bad) = _
  rw [h]
/-- an item of a list of ints -/
theorem dIx_ints {l : List Int} {i : Int} (h0 : 0 ≤ i) (h : i < l.length) : dIx (.list (l.map PyData.int)) (.int i) = .ok (.int (l.getD i.toNat 0)) := by
  obtain ⟨x, h1, h2⟩ := atI_of (xs := l) h0 h
  refine dIx_list ?_
  rw [atI_map, h2, List.getD_eq_getElem?_getD, h1]
  rfl
theorem ixN_of {n : Nat} {i : Int} (h0 : 0 ≤ i) (h : i < n) : L2.ixN n i = some i.toNat := by
  unfold L2.ixN
  rw [if_pos h0, if_pos h]
/-! ### arithmetic -/
theorem log2_lt {n k : Nat} (h : n < 2 ^ k) (hk : 0 < k) : n.log2 < k := PySem.Flt.log2_lt_of hk h
theorem dMul_ok {i j : Int} (hi : i.natAbs < 2 ^ 400000) (hj : j.natAbs < 2 ^ 400000) : dMul (.int i) (.int j) = .ok (.int (i * j)) := by
  have h1 := log2_lt hi (by decide)
  have h2 := log2_lt hj (by decide)
  show (if i.natAbs.log2 + j.natAbs.log2 < 1000000 then R.ok (PyData.int (i * j)) else R.bad) = _
  rw [if_pos (by omega)]
theorem lt_pow {n k m : Nat} (h : n < 2 ^ k) (hk : k ≤ m) : n < 2 ^ m := Nat.lt_of_lt_of_le h (Nat.pow_le_pow_right (by decide) hk)
theorem dMul_small {i j : Int} (hi : i.natAbs < 2 ^ 64) (hj : j.natAbs < 2 ^ 64) : dMul (.int i) (.int j) = .ok (.int (i * j)) := dMul_ok (lt_pow hi (by decide)) (lt_pow hj (by decide))
theorem dDiv_ok {i j : Int} (h0 : 0 < j) (hj : j.natAbs < 2 ^ 8999) : dDiv (.int i) (.int j) = .ok (.int (i / j)) := by
  have h2 := log2_lt hj (by decide)
  show (if 0 < j ∧ j.natAbs.log2 < 9000 then R.ok (PyData.int (i / j)) else R.bad) = _
  rw [if_pos ⟨h0, by omega⟩]
theorem dDiv_small {i j : Int} (h0 : 0 < j) (hj : j.natAbs < 2 ^ 64) : dDiv (.int i) (.int j) = .ok (.int (i / j)) := dDiv_ok h0 (lt_pow hj (by decide))
theorem dMod_ok {i j : Int} (h0 : 0 < j) : dMod (.int i) (.int j) = .ok (.int (i % j)) := by
  show (if 0 < j then R.ok (PyData.int (i % j)) else R.bad) = _
  rw [if_pos h0]
theorem cRepr_ok {d : D} (h1 : okd d = true) (h2 : d.showable = true) (h3 : d.shown.length ≤ lim) : cRepr [d] = .ok (.str d.shown) := by
  show (if okd d && d.showable && decide (d.shown.length ≤ lim) then R.ok (PyData.str d.shown) else R.bad) = _
  rw [h1, h2, decide_eq_true h3]
  rfl
/-! ### how long texts of data are -/
mutual
/-- an upper bound of a datum's text: ints below 10 ^ 12 -/
def tw : D → Nat
  | .none => 13
  | .bool _ => 13
  | .int _ => 13
  | .str x => (reprText x).length
  | .list xs => twAll xs + 3
  | .tuple xs => twAll xs + 3
  | .dict _ => 0
def twAll : List D → Nat
  | [] => 0
  | x :: xs => tw x + 2 + twAll xs
end
mutual
def smI : D → Bool
  | .int i => decide (i.natAbs < 10 ^ 12)
  | .list xs => smIAll xs
  | .tuple xs => smIAll xs
  | .dict _ => false
  | _ => true
def smIAll : List D → Bool
  | [] => true
  | x :: xs => smI x && smIAll xs
end
mutual
theorem shown_tw : ∀ d : D, smI d = true → d.shown.length ≤ tw d ∧ d.showable = true
  | .none, _ => by
    refine ⟨?_, rfl⟩
    simp only [PyData.shown, tw]
    decide
  | .bool b, _ => by
    refine ⟨?_, rfl⟩
    cases b <;> simp only [PyData.shown, tw] <;> decide
  | .int i, h => by
    simp only [smI] at h
    have h' := of_decide_eq_true h
    refine ⟨by simp only [tw]; exact PyData.shown_int_le h', ?_⟩
    simp only [PyData.showable]
    refine decide_eq_true ?_
    have := log2_lt (n := i.natAbs) (k := 64) (by omega) (by decide)
    omega
  | .str x, _ => by
    refine ⟨?_, rfl⟩
    simp only [PyData.shown, tw]
    exact Nat.le_refl _
  | .list xs, h => by
    simp only [smI] at h
    obtain ⟨h1, h2⟩ := shown_twAll xs h
    simp only [PyData.shown, tw, PyData.showable]
    refine ⟨?_, h2⟩
    have := listText_len_le (PyData.shownAll xs)
    rw [PyData.shownAll_length] at this
    omega
  | .tuple xs, h => by
    simp only [smI] at h
    obtain ⟨h1, h2⟩ := shown_twAll xs h
    simp only [PyData.shown, tw, PyData.showable]
    refine ⟨?_, h2⟩
    have := tupleText_len_le (PyData.shownAll xs)
    rw [PyData.shownAll_length] at this
    omega
  | .dict _, h => by simp only [smI] at h; cases h
theorem shown_twAll : ∀ xs : List D, smIAll xs = true → ((PyData.shownAll xs).map (·.length)).sum + 2 * xs.length ≤ twAll xs ∧ PyData.showableAll xs = true
  | [], _ => ⟨by simp [PyData.shownAll, twAll], by simp [PyData.showableAll]⟩
  | x :: xs, h => by
    simp only [smIAll, Bool.and_eq_true] at h
    obtain ⟨h1, h2⟩ := shown_tw x h.1
    obtain ⟨h3, h4⟩ := shown_twAll xs h.2
    simp only [PyData.shownAll, twAll, PyData.showableAll, h2, h4, List.map_cons, List.sum_cons, List.length_cons, Bool.and_self]
    refine ⟨?_, trivial⟩
    omega
end
theorem cRepr_tw {d : D} (h1 : okd d = true) (h2 : smI d = true) (h3 : tw d ≤ lim) : cRepr [d] = .ok (.str d.shown) :=
  cRepr_ok h1 (shown_tw d h2).2 (Nat.le_trans (shown_tw d h2).1 h3)
theorem tw_ints : ∀ l : List Int, twAll (l.map PyData.int) = 15 * l.length
  | [] => rfl
  | i :: r => by
    show 13 + 2 + twAll (r.map PyData.int) = _
    rw [tw_ints r, List.length_cons]
    omega
theorem smI_ints : ∀ l : List Int, (∀ i, i ∈ l → i.natAbs < 10 ^ 12) → smIAll (l.map PyData.int) = true
  | [], _ => rfl
  | i :: r, h => by
    show (decide (i.natAbs < 10 ^ 12) && smIAll (r.map PyData.int)) = true
    rw [decide_eq_true (h i List.mem_cons_self), smI_ints r fun j hj => h j (List.mem_cons_of_mem _ hj)]
    rfl
theorem cRepr_int {i : Int} (h : i.natAbs < 10 ^ 12) : cRepr [.int i] = .ok (.str (PyData.int i).shown) := cRepr_tw rfl (by simp only [smI]; exact decide_eq_true h) (by show 13 ≤ 1000000; decide)
theorem cRepr_ints {l : List Int} (h : ∀ i, i ∈ l → i.natAbs < 10 ^ 12) (hl : l.length ≤ 60000) : cRepr [.list (l.map PyData.int)] = .ok (.str (PyData.list (l.map PyData.int)).shown) :=
  cRepr_tw (okd_ints l) (by simp only [smI]; exact smI_ints l h) (by simp only [tw, tw_ints]; have : lim = 1000000 := rfl; omega)
end Tw
namespace Tw
open PySem
/-! ### runs of statements -/
def Runs (m : Nv → R Fl) (ε : Nv) (post : Fl → Prop) : Prop := ∃ fl, m ε = .ok fl ∧ post fl
theorem Runs.mono {m : Nv → R Fl} {ε : Nv} {p q : Fl → Prop} (h : Runs m ε p) (i : ∀ fl, p fl → q fl) : Runs m ε q := let ⟨fl, h1, h2⟩ := h; ⟨fl, h1, i fl h2⟩
theorem runs_eq {m : Nv → R Fl} {ε : Nv} {post : Fl → Prop} {fl : Fl} (h : m ε = .ok fl) (q : post fl) : Runs m ε post := ⟨fl, h, q⟩
/-- m, then n -/
theorem runs_seq {m n : Nv → R Fl} {ε : Nv} {post : Fl → Prop} (h : Runs m ε fun fl => match fl with | .nx ε' => Runs n ε' post | fl => post fl) : Runs (sSeq m n) ε post := by
  obtain ⟨fl, h1, h2⟩ := h
  have e : sSeq m n ε = match m ε with | .ok (.nx ε') => n ε' | r => r := rfl
  rw [h1] at e
  cases fl with
  | nx ε' =>
    obtain ⟨fl, h3, h4⟩ := h2
    exact ⟨fl, e.trans h3, h4⟩
  | rt d => exact ⟨_, e, h2⟩
  | bk ε' => exact ⟨_, e, h2⟩
  | ct ε' => exact ⟨_, e, h2⟩
  | xx ε' k a => exact ⟨_, e, h2⟩
/-- m goes through, then n -/
theorem runs_sn {m n : Nv → R Fl} {ε ε' : Nv} {post : Fl → Prop} (h : m ε = .ok (.nx ε')) (q : Runs n ε' post) : Runs (sSeq m n) ε post := runs_seq ⟨_, h, q⟩
theorem sAs_ok {i : Nat} {me : Nv → R D} {ε : Nv} {d : D} (h : me ε = .ok d) : sAs i me ε = .ok (.nx (st ε i (.im d))) := by
  unfold sAs
  rw [h, bind_ok]
theorem sAsM_ok {i : Nat} {me : Nv → R D} {ε : Nv} {d : D} (h : me ε = .ok d) : sAsM i me ε = .ok (.nx (st ε i (.mu d))) := by
  unfold sAsM
  rw [h, bind_ok]
theorem sDr_ok {me : Nv → R D} {ε : Nv} {d : D} (h : me ε = .ok d) : sDr me ε = .ok (.nx ε) := by
  unfold sDr
  rw [h, bind_ok]
theorem sRt_ok {me : Nv → R D} {ε : Nv} {d : D} (h : me ε = .ok d) : sRt me ε = .ok (.rt d) := by
  unfold sRt
  rw [h, bind_ok]
theorem sIf_t {t : Nv → R Bool} {m n : Nv → R Fl} {ε : Nv} (h : t ε = .ok true) : sIf t m n ε = m ε := by
  unfold sIf
  rw [h, bind_ok, if_pos rfl]
theorem sIf_f {t : Nv → R Bool} {m n : Nv → R Fl} {ε : Nv} (h : t ε = .ok false) : sIf t m n ε = n ε := by
  unfold sIf
  rw [h, bind_ok, if_neg Bool.false_ne_true]
theorem runs_if {t : Nv → R Bool} {m n : Nv → R Fl} {ε : Nv} {post : Fl → Prop} {b : Bool} (h : t ε = .ok b) (h1 : b = true → Runs m ε post) (h2 : b = false → Runs n ε post) : Runs (sIf t m n) ε post := by
  cases b with
  | true =>
    unfold Runs
    rw [sIf_t h]
    exact h1 rfl
  | false =>
    unfold Runs
    rw [sIf_f h]
    exact h2 rfl
/-- how a turn of a loop ends: the next turn's invariant, or what is wanted of the loop's end -/
def Turn (P : Nv → Prop) (post : Fl → Prop) : Fl → Prop
  | .nx ε => P ε
  | .ct ε => P ε
  | .bk ε => post (.nx ε)
  | .rt d => post (.rt d)
  | .xx ε k a => post (.xx ε k a)
theorem forG_gen {g : D → Nv → R Nv} {b : Nv → R Fl} (P : Nat → Nv → Prop) (post : Fl → Prop) : ∀ (ds : List D) (k : Nat) (ε : Nv), P k ε →
    (∀ i d ε, ds[i]? = some d → P (k + i) ε → ∃ ε1, g d ε = .ok ε1 ∧ ∃ fl, b ε1 = .ok fl ∧ Turn (P (k + i + 1)) post fl) →
    (∃ ε', forG g b ds ε = .ok (.nx ε') ∧ P (k + ds.length) ε') ∨ ∃ fl, forG g b ds ε = .ok fl ∧ post fl
  | [], k, ε, h0, _ => .inl ⟨ε, rfl, h0⟩
  | d :: ds, k, ε, h0, hs => by
    obtain ⟨ε1, h1, fl, h2, h3⟩ := hs 0 d ε rfl h0
    have e0 : forG g b (d :: ds) ε = (match b ε1 with | .ok (.nx ε2) => forG g b ds ε2 | .ok (.ct ε2) => forG g b ds ε2 | .ok (.bk ε2) => .ok (.nx ε2) | r => r) := by
      show (g d ε).bind _ = _
      rw [h1, bind_ok]
      all_goals (cases b ε1 with
        | ok fl => cases fl <;> rfl
        | ex c a => rfl
        | bad => rfl)
    rw [h2] at e0
    have more : ∀ ε2, P (k + 0 + 1) ε2 → forG g b (d :: ds) ε = forG g b ds ε2 → (∃ ε', forG g b (d :: ds) ε = .ok (.nx ε') ∧ P (k + (d :: ds).length) ε') ∨ ∃ fl, forG g b (d :: ds) ε = .ok fl ∧ post fl := fun ε2 h3 e => by
      have := forG_gen P post ds (k + 1) ε2 h3 fun i e η hi hp => by
        have e1 : k + 1 + i = k + (i + 1) := by omega
        rw [e1] at hp ⊢
        exact hs (i + 1) e η (by simpa using hi) hp
      rw [e, List.length_cons]
      have e1 : k + (ds.length + 1) = k + 1 + ds.length := by omega
      rw [e1]
      exact this
    cases fl with
    | nx ε2 => exact more ε2 h3 e0
    | ct ε2 => exact more ε2 h3 e0
    | bk ε2 => exact .inr ⟨_, e0, h3⟩
    | rt d => exact .inr ⟨_, e0, h3⟩
    | xx ε2 c a => exact .inr ⟨_, e0, h3⟩
/-- a loop by an invariant; other ends by what is wanted -/
theorem runs_for {mi : Nv → R (List D)} {g : D → Nv → R Nv} {b : Nv → R Fl} {ε : Nv} {post : Fl → Prop} {ds : List D} (P : Nat → Nv → Prop) (h : mi ε = .ok ds) (h0 : P 0 ε)
    (hs : ∀ i d ε, ds[i]? = some d → P i ε → ∃ ε1, g d ε = .ok ε1 ∧ Runs b ε1 (Turn (P (i + 1)) post)) (hd : ∀ ε', P ds.length ε' → post (.nx ε')) : Runs (sFor mi g b) ε post := by
  unfold Runs sFor
  rw [h, bind_ok]
  rcases forG_gen (g := g) (b := b) P post ds 0 ε h0 (fun i d η hi hp => by
    rw [Nat.zero_add] at hp ⊢
    exact hs i d η hi hp) with ⟨ε', h1, h2⟩ | ⟨fl, h1, h2⟩
  · rw [Nat.zero_add] at h2
    exact ⟨_, h1, hd ε' h2⟩
  · exact ⟨_, h1, h2⟩
theorem whG_gen {t : Nv → R Bool} {b : Nv → R Fl} (P : Nat → Nv → Prop) (post : Fl → Prop) : ∀ (n : Nat) (ε : Nv), P n ε →
    (∀ n ε, P n ε → (t ε = .ok false ∧ post (.nx ε)) ∨ (t ε = .ok true ∧ Runs b ε (Turn (fun ε2 => ∃ n', n' < n ∧ P n' ε2) post))) → ∀ m, n < m → ∃ fl, whG t b m ε = .ok fl ∧ post fl := by
  intro n
  induction n using Nat.strongRecOn with
  | _ n ih =>
    intro ε h hs m hm
    cases m with
    | zero => exact absurd hm (Nat.not_lt_zero _)
    | succ m =>
      rcases hs n ε h with ⟨h1, h2⟩ | ⟨h1, fl, h2, h3⟩
      · refine ⟨.nx ε, ?_, h2⟩
        unfold whG
        rw [h1]
        rfl
      · have e0 : whG t b (m + 1) ε = (match b ε with | .ok (.nx ε2) => whG t b m ε2 | .ok (.ct ε2) => whG t b m ε2 | .ok (.bk ε2) => .ok (.nx ε2) | r => r) := by
          show (t ε).bind _ = _
          rw [h1, bind_ok, if_pos rfl]
          all_goals (cases b ε with
            | ok fl => cases fl <;> rfl
            | ex c a => rfl
            | bad => rfl)
        rw [h2] at e0
        cases fl with
        | nx ε2 =>
          obtain ⟨n', hn, h3⟩ := h3
          rw [e0]
          exact ih n' hn ε2 h3 hs m (by omega)
        | ct ε2 =>
          obtain ⟨n', hn, h3⟩ := h3
          rw [e0]
          exact ih n' hn ε2 h3 hs m (by omega)
        | bk ε2 => exact ⟨_, e0, h3⟩
        | rt d => exact ⟨_, e0, h3⟩
        | xx ε2 c a => exact ⟨_, e0, h3⟩
theorem runs_wh {t : Nv → R Bool} {b : Nv → R Fl} {ε : Nv} {post : Fl → Prop} {m : Nat} (P : Nat → Nv → Prop) (n : Nat) (h0 : P n ε) (hm : n < m)
    (hs : ∀ n ε, P n ε → (t ε = .ok false ∧ post (.nx ε)) ∨ (t ε = .ok true ∧ Runs b ε (Turn (fun ε2 => ∃ n', n' < n ∧ P n' ε2) post))) : Runs (sWh m t b) ε post := whG_gen P post n ε h0 hs m hm
/-- the def's answer -/
theorem runF_rt {n N : Nat} {m : Nv → R Fl} {ds : List D} {d : D} (hn : ds.length = n) (h : Runs m (ds.map SV.im ++ List.replicate (N - n) SV.no) fun fl => fl = .rt d) : runF n N m ds = .ok d := by
  obtain ⟨fl, h1, h2⟩ := h
  unfold runF
  rw [if_pos hn, h1, h2]
theorem runF_some {n N : Nat} {m : Nv → R Fl} {ds : List D} {Q : D → Prop} (hn : ds.length = n) (h : Runs m (ds.map SV.im ++ List.replicate (N - n) SV.no) fun fl => ∃ d, fl = .rt d ∧ Q d) : ∃ d, runF n N m ds = .ok d ∧ Q d := by
  obtain ⟨fl, h1, d, h2, h3⟩ := h
  refine ⟨d, ?_, h3⟩
  unfold runF
  rw [if_pos hn, h1, h2]
theorem runF_nx {n N : Nat} {m : Nv → R Fl} {ds : List D} (hn : ds.length = n) (h : Runs m (ds.map SV.im ++ List.replicate (N - n) SV.no) fun fl => ∃ ε, fl = .nx ε) : runF n N m ds = .ok .none := by
  obtain ⟨fl, h1, ε, h2⟩ := h
  unfold runF
  rw [if_pos hn, h1, h2]
/-! ### operators at ints -/
theorem dAdd_i {i j : Int} : dAdd (.int i) (.int j) = .ok (.int (i + j)) := rfl
theorem dSub_i {i j : Int} : dSub (.int i) (.int j) = .ok (.int (i - j)) := rfl
theorem dNeg_i {i : Int} : dNeg (.int i) = .ok (.int (-i)) := rfl
theorem dLt_i {i j : Int} : dLt (.int i) (.int j) = .ok (.bool (decide (i < j))) := rfl
theorem dLe_i {i j : Int} : dLe (.int i) (.int j) = .ok (.bool (decide (i ≤ j))) := rfl
theorem dGt_i {i j : Int} : dGt (.int i) (.int j) = .ok (.bool (decide (j < i))) := rfl
theorem dGe_i {i j : Int} : dGe (.int i) (.int j) = .ok (.bool (decide (j ≤ i))) := rfl
theorem cLen_l {xs : List D} : cLen [.list xs] = .ok (.int xs.length) := rfl
theorem cLen_t {xs : List D} : cLen [.tuple xs] = .ok (.int xs.length) := rfl
theorem cInt_i {i : Int} : cInt [.int i] = .ok (.int i) := rfl
theorem cInt_b {b : Bool} : cInt [.bool b] = .ok (.int (if b then 1 else 0)) := rfl
theorem cAbs_i {i : Int} : cAbs [.int i] = .ok (.int (if i < 0 then -i else i)) := rfl
theorem kMax_i {i j : Int} : kMax [.int i, .int j] = .ok (.int (if j > i then j else i)) := rfl
theorem kMin_i {i j : Int} : kMin [.int i, .int j] = .ok (.int (if j < i then j else i)) := rfl
theorem cSum_ints (l : List Int) : cSum [.list (l.map PyData.int)] = .ok (.int l.sum) := by
  show (match intsOf (l.map PyData.int) with | some l => R.ok (PyData.int l.sum) | none => R.bad) = _
  rw [intsOf_map]
theorem cAll_bools (l : List Bool) : cAll [.list (l.map PyData.bool)] = .ok (.bool (l.all id)) := by
  show (match boolsOf (l.map PyData.bool) with | some l => R.ok (PyData.bool (l.all id)) | none => R.bad) = _
  rw [boolsOf_map]
theorem cAny_bools (l : List Bool) : cAny [.list (l.map PyData.bool)] = .ok (.bool (l.any id)) := by
  show (match boolsOf (l.map PyData.bool) with | some l => R.ok (PyData.bool (l.any id)) | none => R.bad) = _
  rw [boolsOf_map]
theorem dPow_i {i j : Int} (h0 : 0 ≤ j) (h1 : j ≤ 1000000) (hi : i.natAbs < 2 ^ 64) : dPow (.int i) (.int j) = .ok (.int (i ^ j.toNat)) := by
  show (if 0 ≤ j ∧ j ≤ 1000000 ∧ i.natAbs < 2 ^ 64 then R.ok (PyData.int (i ^ j.toNat)) else R.bad) = _
  rw [if_pos ⟨h0, h1, hi⟩]
theorem iRange1_ok {ms : Nv → R (List D)} {ε : Nv} {j : Int} (h : ms ε = .ok [.int j]) (h0 : -(2 ^ 62) ≤ j) (h1 : j < 2 ^ 62) : iRange1 ms ε = .ok (rangeD 0 j.toNat) := by
  unfold iRange1
  rw [h, bind_ok]
  show (if rlim j then R.ok (rangeD 0 j.toNat) else R.bad) = _
  have : rlim j = true := by
    unfold rlim
    rw [decide_eq_true h0, decide_eq_true h1]
    rfl
  rw [if_pos this]
theorem iRange2_ok {ms : Nv → R (List D)} {ε : Nv} {i j : Int} (h : ms ε = .ok [.int i, .int j]) (h0 : -(2 ^ 62) ≤ i) (h1 : i < 2 ^ 62) (h2 : -(2 ^ 62) ≤ j) (h3 : j < 2 ^ 62) : iRange2 ms ε = .ok (rangeD i (j - i).toNat) := by
  unfold iRange2
  rw [h, bind_ok]
  show (if rlim i && rlim j then R.ok (rangeD i (j - i).toNat) else R.bad) = _
  have a : rlim i = true := by
    unfold rlim
    rw [decide_eq_true h0, decide_eq_true h1]
    rfl
  have b : rlim j = true := by
    unfold rlim
    rw [decide_eq_true h2, decide_eq_true h3]
    rfl
  rw [a, b]
  rfl
theorem sAp_ok {i : Nat} {me : Nv → R D} {ε : Nv} {d : D} {ds : List D} (h : me ε = .ok d) (g : gt ε i = .mu (.list ds)) (hl : ds.length < lim) : sAp i me ε = .ok (.nx (st ε i (.mu (.list (ds ++ [d]))))) := by
  unfold sAp
  rw [h, bind_ok, g]
  show (if ds.length < lim then R.ok (Fl.nx (st ε i (.mu (.list (ds ++ [d]))))) else R.bad) = _
  rw [if_pos hl]
end Tw
namespace Tw
open PySem
theorem xLc_ok {vs : List Nat} {mi : Nv → R (List D)} {g : D → Nv → R Nv} {t : Nv → R Bool} {e : Nv → R D} {ε : Nv} {ds ys : List D} (hi : mi ε = .ok ds) (hm : lcG g t e (wipeE ε vs) ds = .ok ys) (hlen : ys.length ≤ lim) : xLc vs mi g t e ε = .ok (.list ys) := by
  unfold xLc
  rw [hi, bind_ok, hm, bind_ok, if_pos hlen]
end Tw
set_option Elab.async false
set_option linter.all false
set_option maxRecDepth 100000
set_option maxHeartbeats 4000000
set_option exponentiation.threshold 1000000
/-! Pl2: a program's value step by step, by unification -/
namespace Tw
open PySem
theorem xV_0 {d : D} {r : Nv} : xV 0 (.im d :: r) = .ok d := rfl
theorem xV_n {i : Nat} {x : SV} {r : Nv} {d : D} (h : xV i r = .ok d) : xV (i + 1) (x :: r) = .ok d := h
theorem xC_o {d : D} {ε : Nv} : xC d ε = .ok d := rfl
theorem xBin_o {f : D → D → R D} {ma mb : Nv → R D} {ε : Nv} {a b d : D} (h1 : ma ε = .ok a) (h2 : mb ε = .ok b) (h3 : f a b = .ok d) : xBin f ma mb ε = .ok d := by
  unfold xBin
  rw [h1, bind_ok, h2, bind_ok, h3]
theorem xUn_o {f : D → R D} {ma : Nv → R D} {ε : Nv} {a d : D} (h1 : ma ε = .ok a) (h3 : f a = .ok d) : xUn f ma ε = .ok d := by
  unfold xUn
  rw [h1, bind_ok, h3]
theorem xCall_o {f : List D → R D} {ms : Nv → R (List D)} {ε : Nv} {ds : List D} {d : D} (h1 : ms ε = .ok ds) (h3 : f ds = .ok d) : xCall f ms ε = .ok d := by
  unfold xCall
  rw [h1, bind_ok, h3]
theorem xNil_o {ε : Nv} : xNil ε = .ok [] := rfl
theorem xCons_o {m : Nv → R D} {ms : Nv → R (List D)} {ε : Nv} {d : D} {ds : List D} (h1 : m ε = .ok d) (h2 : ms ε = .ok ds) : xCons m ms ε = .ok (d :: ds) := by
  unfold xCons
  rw [h1, bind_ok, h2, bind_ok]
theorem xTup_o {ms : Nv → R (List D)} {ε : Nv} {ds : List D} (h : ms ε = .ok ds) : xTup ms ε = .ok (.tuple ds) := by
  unfold xTup
  rw [h, bind_ok]
theorem xLst_o {ms : Nv → R (List D)} {ε : Nv} {ds : List D} (h : ms ε = .ok ds) : xLst ms ε = .ok (.list ds) := by
  unfold xLst
  rw [h, bind_ok]
theorem xIf_t {t : Nv → R Bool} {ma mb : Nv → R D} {ε : Nv} {d : D} (h : t ε = .ok true) (h1 : ma ε = .ok d) : xIf t ma mb ε = .ok d := by
  unfold xIf
  rw [h, bind_ok, if_pos rfl, h1]
theorem xIf_f {t : Nv → R Bool} {ma mb : Nv → R D} {ε : Nv} {d : D} (h : t ε = .ok false) (h1 : mb ε = .ok d) : xIf t ma mb ε = .ok d := by
  unfold xIf
  rw [h, bind_ok, if_neg Bool.false_ne_true, h1]
theorem tC_o {m : Nv → R D} {ε : Nv} {b : Bool} (h : m ε = .ok (.bool b)) : tC' m ε = .ok b := by
  unfold tC'
  rw [h, bind_ok]
  rfl
theorem tNo_o {m : Nv → R Bool} {ε : Nv} {b : Bool} (h : m ε = .ok b) : tNo m ε = .ok (!b) := by
  unfold tNo
  rw [h, bind_ok]
theorem tOrr_o {m n : Nv → R Bool} {ε : Nv} (h1 : m ε = .ok false) (h2 : n ε = .ok false) : tOrr m n ε = .ok false := by
  unfold tOrr
  rw [h1, bind_ok, if_neg Bool.false_ne_true, h2]
theorem tOrr_t {m n : Nv → R Bool} {ε : Nv} (h1 : m ε = .ok true) : tOrr m n ε = .ok true := by
  unfold tOrr
  rw [h1, bind_ok, if_pos rfl]
theorem tOrr_2 {m n : Nv → R Bool} {ε : Nv} {b : Bool} (h1 : m ε = .ok false) (h2 : n ε = .ok b) : tOrr m n ε = .ok b := by
  unfold tOrr
  rw [h1, bind_ok, if_neg Bool.false_ne_true, h2]
theorem tAn_f {m n : Nv → R Bool} {ε : Nv} (h1 : m ε = .ok false) : tAn m n ε = .ok false := by
  unfold tAn
  rw [h1, bind_ok, if_neg Bool.false_ne_true]
theorem tAn_2 {m n : Nv → R Bool} {ε : Nv} {b : Bool} (h1 : m ε = .ok true) (h2 : n ε = .ok b) : tAn m n ε = .ok b := by
  unfold tAn
  rw [h1, bind_ok, if_pos rfl, h2]
theorem xTh_o {m : Nv → R D} {ε : Nv} {d : D} (h : m (th ε) = .ok d) (hf : flat d = true) : xTh m ε = .ok d := by
  unfold xTh
  rw [h, bind_ok, if_pos hf]
theorem tTh_o {m : Nv → R Bool} {ε : Nv} {b : Bool} (h : m (th ε) = .ok b) : tTh m ε = .ok b := h
theorem tYe_o {ε : Nv} : tYe ε = .ok true := rfl
/-- two that are the same -/
theorem ne_o {ma mb : Nv → R D} {ε : Nv} {d : D} (h1 : ma ε = .ok d) (h2 : mb ε = .ok d) (hd : okd d = true) : tC' (xBin dNe ma mb) ε = .ok false := tC_o (xBin_o h1 h2 (dNe_same hd))
theorem iSeq_o {m : Nv → R D} {ε : Nv} {xs : List D} (h : m ε = .ok (.list xs)) : iSeq m ε = .ok xs := by
  unfold iSeq
  rw [h, bind_ok]
theorem xIm_o {i : Nat} {m : Nv → R D} {ε : Nv} {ds : List D} {z : Int} {d : D} (g : gt ε i = .mu (.list ds)) (h : m ε = .ok (.int z)) (hd : dIx (.list ds) (.int z) = .ok d) : xIm i m ε = .ok d := by
  unfold xIm
  rw [h, bind_ok, g]
  exact hd
theorem dCat_o {xs ys : List D} (h : xs.length + ys.length ≤ lim) : dCat (.list xs) (.list ys) = .ok (.list (xs ++ ys)) := by
  show (if xs.length + ys.length ≤ lim then R.ok (PyData.list (xs ++ ys)) else R.bad) = _
  rw [if_pos h]
theorem dAdd_t {xs ys : List D} (h : xs.length + ys.length ≤ lim) : dAdd (.tuple xs) (.tuple ys) = .ok (.tuple (xs ++ ys)) := by
  show (if xs.length + ys.length ≤ lim then R.ok (PyData.tuple (xs ++ ys)) else R.bad) = _
  rw [if_pos h]
theorem sPr_o {i j : Nat} {ms : Nv → R (List D)} {ε : Nv} {a b : D} (h : ms ε = .ok [a, b]) : sPr i j ms ε = .ok (.nx (st (st ε i (.im a)) j (.im b))) := by
  unfold sPr
  rw [h, bind_ok]
theorem sUn_o {me : Nv → R D} {g : D → Nv → R Nv} {ε ε' : Nv} {d : D} (h : me ε = .ok d) (h2 : g d ε = .ok ε') : sUn me g ε = .ok (.nx ε') := by
  unfold sUn
  rw [h, bind_ok, h2, bind_ok]
theorem bL_2 {i j : Nat} {a b : D} {ε : Nv} : bL 2 (bsC (bN i) (bsC (bN j) bs0)) (.list [a, b]) ε = .ok (st (st ε i (.im a)) j (.im b)) := rfl
theorem bT_2 {i j : Nat} {a b : D} {ε : Nv} : bT 2 (bsC (bN i) (bsC (bN j) bs0)) (.tuple [a, b]) ε = .ok (st (st ε i (.im a)) j (.im b)) := rfl
theorem cGcd_o {a b : Int} : cGcd [.int a, .int b] = .ok (.int ((Nat.gcd a.natAbs b.natAbs : Nat) : Int)) := rfl
theorem dIx_t0 {a : D} {r : List D} : dIx (.tuple (a :: r)) (.int 0) = .ok a := by
  refine dIx_tuple ?_
  exact L2.atI_nat (xs := a :: r) (j := 0) rfl
theorem dIx_t1 {a b : D} {r : List D} : dIx (.tuple (a :: b :: r)) (.int 1) = .ok b := by
  refine dIx_tuple ?_
  exact L2.atI_nat (xs := a :: b :: r) (j := 1) rfl
/-! ### how large integers are -/
def sz (k : Nat) (i : Int) : Prop := i.natAbs < 2 ^ k
theorem sz.mono {k m : Nat} {i : Int} (h : sz k i) (hk : k ≤ m) : sz m i := lt_pow h hk
theorem sz.mul {k m : Nat} {i j : Int} (h : sz k i) (g : sz m j) : sz (k + m) (i * j) := by
  unfold sz at *
  rw [Int.natAbs_mul, Nat.pow_add]
  exact Nat.mul_lt_mul'' h g
theorem sz.add {k : Nat} {i j : Int} (h : sz k i) (g : sz k j) : sz (k + 1) (i + j) := by
  unfold sz at *
  have := Int.natAbs_add_le i j
  rw [Nat.pow_succ]
  omega
theorem sz.neg {k : Nat} {i : Int} (h : sz k i) : sz k (-i) := by
  unfold sz at *
  rwa [Int.natAbs_neg]
theorem sz.sub {k : Nat} {i j : Int} (h : sz k i) (g : sz k j) : sz (k + 1) (i - j) := by
  rw [Int.sub_eq_add_neg]
  exact h.add g.neg
theorem dMul_z {k m : Nat} {i j : Int} (h : sz k i) (g : sz m j) (hk : k ≤ 400000) (hm : m ≤ 400000) : dMul (.int i) (.int j) = .ok (.int (i * j)) := dMul_ok (lt_pow h hk) (lt_pow g hm)
theorem dDiv_z {k : Nat} {i j : Int} (h0 : 0 < j) (g : sz k j) (hk : k ≤ 8999) : dDiv (.int i) (.int j) = .ok (.int (i / j)) := dDiv_ok h0 (lt_pow g hk)
end Tw
set_option Elab.async false
set_option linter.all false
set_option maxRecDepth 100000
set_option maxHeartbeats 4000000
/-! PlFin: a mirror's value at closed data, by evaluation -/
namespace Tw
open PySem
mutual
def eqD : D → D → Bool
  | .none, .none => true
  | .bool a, .bool b => a == b
  | .int a, .int b => decide (a = b)
  | .str a, .str b => decide (a = b)
  | .list a, .list b => eqDs a b
  | .tuple a, .tuple b => eqDs a b
  | _, _ => false
def eqDs : List D → List D → Bool
  | [], [] => true
  | a :: r, b :: s => eqD a b && eqDs r s
  | _, _ => false
end
mutual
theorem eqD_eq : ∀ (a b : D), eqD a b = true → a = b
  | .none, b, h => by cases b <;> simp [eqD] at h <;> rfl
  | .bool a, b, h => by cases b <;> simp [eqD] at h <;> rw [h]
  | .int a, b, h => by cases b <;> simp [eqD] at h <;> rw [h]
  | .str a, b, h => by cases b <;> simp [eqD] at h <;> rw [h]
  | .dict a, b, h => by cases b <;> simp [eqD] at h
  | .list a, b, h => by
    cases b with
    | list b => rw [eqDs_eq a b (by simpa [eqD] using h)]
    | _ => simp [eqD] at h
  | .tuple a, b, h => by
    cases b with
    | tuple b => rw [eqDs_eq a b (by simpa [eqD] using h)]
    | _ => simp [eqD] at h
theorem eqDs_eq : ∀ (a b : List D), eqDs a b = true → a = b
  | [], b, h => by cases b <;> simp [eqDs] at h <;> rfl
  | a :: r, b, h => by
    cases b with
    | nil => simp [eqDs] at h
    | cons b s =>
      simp only [eqDs, Bool.and_eq_true] at h
      rw [eqD_eq a b h.1, eqDs_eq r s h.2]
end
def isR (r : R D) (d : D) : Bool := match r with
  | .ok e => eqD e d
  | _ => false
theorem isR_eq {r : R D} {d : D} (h : isR r d = true) : r = .ok d := by
  cases r with
  | ok e => rw [eqD_eq e d h]
  | ex a b => cases h
  | bad => cases h
end Tw
set_option Elab.async false
set_option linter.all false
set_option maxRecDepth 100000
set_option maxHeartbeats 4000000
set_option exponentiation.threshold 1000000
/-! PlFr: fractions as data -/
namespace Tw
open PySem
def fr (q : Rat) : D := .tuple [.int q.num, .int (q.den : Int)]
theorem dIx_f0 {q : Rat} : dIx (fr q) (.int 0) = .ok (.int q.num) := dIx_t0
theorem dIx_f1 {q : Rat} : dIx (fr q) (.int 1) = .ok (.int (q.den : Int)) := dIx_t1
theorem divInt_pos {n d : Int} (hd : 0 < d) : Rat.divInt n d = Rat.normalize n d.toNat (by omega) := by
  obtain ⟨k, rfl⟩ : ∃ k : Nat, d = (k : Int) := ⟨d.toNat, by omega⟩
  have : k ≠ 0 := by omega
  rw [Rat.normalize_eq_mkRat, Rat.divInt_ofNat]
  rfl
/-- the two numbers that the text makes are the fraction's own -/
theorem fr_low {n d : Int} (hd : 0 < d) : PyData.tuple [.int (n / ((Nat.gcd n.natAbs d.natAbs : Nat) : Int)), .int (d / ((Nat.gcd n.natAbs d.natAbs : Nat) : Int))] = fr (Rat.divInt n d) := by
  have hk : d.toNat ≠ 0 := by omega
  have e : (d.toNat : Int) = d := by omega
  have e2 : d.natAbs = d.toNat := by omega
  have h1 : (Rat.divInt n d).num = n / ((Nat.gcd n.natAbs d.natAbs : Nat) : Int) := by rw [divInt_pos hd, Rat.normalize_eq, e2]
  have h2 : (Rat.divInt n d).den = d.toNat / Nat.gcd n.natAbs d.natAbs := by rw [divInt_pos hd, Rat.normalize_eq, e2]
  unfold fr
  rw [h1, h2, Int.natCast_ediv, e]
theorem divInt_nn (n d : Int) : Rat.divInt (-n) (-d) = Rat.divInt n d := Rat.neg_divInt_neg n d
theorem fr_add (p q : Rat) : Rat.divInt (p.num * q.den + q.num * p.den) ((p.den : Int) * q.den) = p + q := by
  rw [← Rat.divInt_add_divInt _ _ (by have := p.den_nz; omega) (by have := q.den_nz; omega), Rat.num_divInt_den, Rat.num_divInt_den]
theorem fr_sub (p q : Rat) : Rat.divInt (p.num * q.den - q.num * p.den) ((p.den : Int) * q.den) = p - q := by
  rw [← Rat.divInt_sub_divInt _ _ (by have := p.den_nz; omega) (by have := q.den_nz; omega), Rat.num_divInt_den, Rat.num_divInt_den]
theorem fr_mul (p q : Rat) : Rat.divInt (p.num * q.num) ((p.den : Int) * q.den) = p * q := by
  rw [← Rat.divInt_mul_divInt, Rat.num_divInt_den, Rat.num_divInt_den]
theorem fr_div (p q : Rat) : Rat.divInt (p.num * q.den) ((p.den : Int) * q.num) = p / q := by
  rw [Rat.div_def, Rat.inv_def, ← Rat.divInt_mul_divInt, Rat.num_divInt_den]
theorem den_pos (q : Rat) : 0 < (q.den : Int) := by
  have := q.den_nz
  omega
/-! ### how large -/
structure Sm (k : Nat) (q : Rat) : Prop where
  n : sz k q.num
  d : sz k (q.den : Int)
theorem Sm.mono {k m : Nat} {q : Rat} (h : Sm k q) (hk : k ≤ m) : Sm m q := ⟨h.n.mono hk, h.d.mono hk⟩
/-- denominators that divide L, at most N -/
structure Bd (L N : Nat) (q : Rat) : Prop where
  ex : ∃ a : Int, q * (L : Rat) = (a : Rat)
  le : q ≤ (N : Rat)
  ge : -(N : Rat) ≤ q
theorem Bd.add {L N M : Nat} {p q : Rat} (h : Bd L N p) (g : Bd L M q) : Bd L (N + M) (p + q) := by
  obtain ⟨a, ha⟩ := h.ex
  obtain ⟨b, hb⟩ := g.ex
  have h1 := h.le
  have h2 := g.le
  have h3 := h.ge
  have h4 := g.ge
  refine ⟨⟨a + b, ?_⟩, ?_, ?_⟩
  · rw [Rat.intCast_add]
    grind
  · rw [Rat.natCast_add]
    grind
  · rw [Rat.natCast_add]
    grind
theorem Bd.neg {L N : Nat} {p : Rat} (h : Bd L N p) : Bd L N (-p) := by
  obtain ⟨a, ha⟩ := h.ex
  have h1 := h.le
  have h3 := h.ge
  refine ⟨⟨-a, ?_⟩, ?_, ?_⟩
  · rw [Rat.intCast_neg]
    grind
  · grind
  · grind
theorem Bd.sub {L N M : Nat} {p q : Rat} (h : Bd L N p) (g : Bd L M q) : Bd L (N + M) (p - q) := by
  have := h.add g.neg
  rwa [← Rat.sub_eq_add_neg] at this
theorem Bd.mono {L N M : Nat} {p : Rat} (h : Bd L N p) (hm : N ≤ M) : Bd L M p := by
  have h1 := h.le
  have h3 := h.ge
  have e : (N : Rat) ≤ (M : Rat) := Rat.natCast_le_natCast.mpr hm
  exact ⟨h.ex, by grind, by grind⟩
theorem Bd.mul {L L' N M : Nat} {p q : Rat} (h : Bd L N p) (g : Bd L' M q) : Bd (L * L') (N * M) (p * q) := by
  obtain ⟨a, ha⟩ := h.ex
  obtain ⟨b, hb⟩ := g.ex
  have h1 := h.le
  have h2 := g.le
  have h3 := h.ge
  have h4 := g.ge
  refine ⟨⟨a * b, ?_⟩, ?_, ?_⟩
  · rw [Rat.intCast_mul, Rat.natCast_mul, ← ha, ← hb]
    grind
  · rw [Rat.natCast_mul]
    have x1 : 0 ≤ ((N : Rat) - p) * ((M : Rat) + q) := Rat.mul_nonneg (by grind) (by grind)
    have x2 : 0 ≤ ((N : Rat) + p) * ((M : Rat) - q) := Rat.mul_nonneg (by grind) (by grind)
    grind
  · rw [Rat.natCast_mul]
    have x1 : 0 ≤ ((N : Rat) - p) * ((M : Rat) - q) := Rat.mul_nonneg (by grind) (by grind)
    have x2 : 0 ≤ ((N : Rat) + p) * ((M : Rat) + q) := Rat.mul_nonneg (by grind) (by grind)
    grind
theorem num_den (q : Rat) : (q.num : Rat) = q * ((q.den : Int) : Rat) := by
  have h : (q.num : Rat) / ((q.den : Int) : Rat) = q := by
    rw [← Rat.divInt_eq_div, Rat.num_divInt_den]
  have h2 : ((q.den : Int) : Rat) ≠ 0 := fun z => by
    have := Rat.intCast_inj.mp (z.trans Rat.intCast_zero.symm)
    have := q.den_nz
    omega
  grind
theorem Bd.den {L N : Nat} {q : Rat} (h : Bd L N q) : q.den ∣ L := by
  obtain ⟨a, ha⟩ := h.ex
  have e : q.num * (L : Int) = a * (q.den : Int) := by
    apply Rat.intCast_inj.mp
    rw [Rat.intCast_mul, Rat.intCast_mul, num_den, ← ha, Rat.intCast_natCast L]
    grind
  have d1 : (q.den : Int) ∣ q.num * (L : Int) := ⟨a, by rw [e, Int.mul_comm]⟩
  have d2 : q.den ∣ q.num.natAbs * L := by
    have := Int.natAbs_dvd_natAbs.mpr d1
    rwa [Int.natAbs_mul, Int.natAbs_natCast, Int.natAbs_natCast] at this
  exact (Nat.Coprime.symm q.reduced).dvd_of_dvd_mul_left d2
theorem Bd.num {L N : Nat} {q : Rat} (h : Bd L N q) : q.num.natAbs ≤ N * q.den := by
  have h1 := h.le
  have h2 := h.ge
  have e := num_den q
  have p : (0 : Rat) ≤ ((q.den : Int) : Rat) := by
    have := Rat.intCast_le_intCast.mpr (show (0 : Int) ≤ (q.den : Int) by omega)
    rwa [Rat.intCast_zero] at this
  have a1 : 0 ≤ ((N : Rat) - q) * ((q.den : Int) : Rat) := Rat.mul_nonneg (by grind) p
  have a2 : 0 ≤ ((N : Rat) + q) * ((q.den : Int) : Rat) := Rat.mul_nonneg (by grind) p
  have eN : ((N : Int) : Rat) = (N : Rat) := Rat.intCast_natCast N
  have b1 : (q.num : Rat) ≤ (((N : Int) * (q.den : Int) : Int) : Rat) := by
    rw [Rat.intCast_mul, eN, e]
    grind
  have b2 : ((-((N : Int) * (q.den : Int)) : Int) : Rat) ≤ (q.num : Rat) := by
    rw [Rat.intCast_neg, Rat.intCast_mul, eN, e]
    grind
  have c1 := Rat.intCast_le_intCast.mp b1
  have c2 := Rat.intCast_le_intCast.mp b2
  have e3 : ((N * q.den : Nat) : Int) = (N : Int) * (q.den : Int) := Int.natCast_mul _ _
  omega
theorem Bd.sm {L N k : Nat} {q : Rat} (h : Bd L N q) (hL : 0 < L) (h1 : L < 2 ^ k) (h2 : N * L < 2 ^ k) : Sm k q := by
  have hd := Nat.le_of_dvd hL h.den
  have hn := h.num
  have := Nat.mul_le_mul_left N hd
  refine ⟨?_, ?_⟩
  · unfold sz
    omega
  · unfold sz
    rw [Int.natAbs_natCast]
    omega
theorem Bd.int (L : Nat) {N : Nat} {i : Int} (h : i.natAbs ≤ N) : Bd L N (i : Rat) := by
  have h1 := Rat.intCast_le_intCast.mpr (show i ≤ (N : Int) by omega)
  have h2 := Rat.intCast_le_intCast.mpr (show -(N : Int) ≤ i by omega)
  rw [Rat.intCast_natCast] at h1
  rw [Rat.intCast_neg, Rat.intCast_natCast] at h2
  exact ⟨⟨i * L, by rw [Rat.intCast_mul, Rat.intCast_natCast]⟩, h1, h2⟩
theorem fr_int (i : Int) : fr (i : Rat) = .tuple [.int i, .int 1] := rfl
/-! ### Euclid -/
/-- two numbers that are divided in turn -/
theorem low_wh (fuel : Nat) (x y : SV) (a b : Nat) (hf : (a * b + 1).log2 + 1 < fuel) : whG (tC' (xBin dNe (xV 3) (xC (.int 0)))) (sUn (xLst (xCons (xV 3) (xCons (xBin dMod (xCall cInt (xCons (xV 2) xNil)) (xV 3)) xNil))) (bL 2 (bsC (bN 2) (bsC (bN 3) bs0)))) fuel
    [x, y, .im (.int (a : Int)), .im (.int (b : Int))] = .ok (.nx [x, y, .im (.int ((Nat.gcd a b : Nat) : Int)), .im (.int 0)]) := by
  obtain ⟨ε', h1, h2⟩ := whG_inv (t := tC' (xBin dNe (xV 3) (xC (.int 0)))) (b := sUn (xLst (xCons (xV 3) (xCons (xBin dMod (xCall cInt (xCons (xV 2) xNil)) (xV 3)) xNil))) (bL 2 (bsC (bN 2) (bsC (bN 3) bs0))))
    (fun n ε => ∃ c d : Nat, ε = [x, y, .im (.int (c : Int)), .im (.int (d : Int))] ∧ Nat.gcd c d = Nat.gcd a b ∧ n = (c * d + 1).log2 + (if c < d then 1 else 0))
    (fun ε => ε = [x, y, .im (.int ((Nat.gcd a b : Nat) : Int)), .im (.int 0)]) _ _ ⟨a, b, rfl, rfl, rfl⟩ (by
      rintro n ε ⟨c, d, rfl, hg, rfl⟩
      by_cases hd : d = 0
      · subst hd
        left
        refine ⟨tC_o (xBin_o (xV_n (xV_n (xV_n xV_0))) xC_o (dNe_int _ _)), ?_⟩
        rw [← hg, Nat.gcd_zero_right]
        rfl
      · right
        refine ⟨?_, [x, y, .im (.int (d : Int)), .im (.int ((c % d : Nat) : Int))], (d * (c % d) + 1).log2 + (if d < c % d then 1 else 0), ?_, .inl ?_, d, c % d, rfl, ?_, rfl⟩
        · refine (tC_o (xBin_o (xV_n (xV_n (xV_n xV_0))) xC_o (dNe_int _ _))).trans ?_
          rw [decide_eq_false (by omega)]
          rfl
        · have hlt : c % d < d := Nat.mod_lt _ (Nat.pos_of_ne_zero hd)
          rw [if_neg (by omega)]
          by_cases hcd : c < d
          · rw [if_pos hcd, Nat.mod_eq_of_lt hcd, Nat.mul_comm d c]
            omega
          · rw [if_neg hcd]
            have h2 : 2 * (c % d) < c := by
              have := Nat.mod_le c d
              have e := Nat.div_add_mod c d
              have q : 1 ≤ c / d := Nat.div_pos (by omega) (Nat.pos_of_ne_zero hd)
              have := Nat.mul_le_mul_left d q
              omega
            have h3 : 2 * (d * (c % d)) + 1 ≤ c * d := by
              have := Nat.mul_lt_mul_of_pos_right h2 (Nat.pos_of_ne_zero hd)
              rw [Nat.mul_comm d (c % d), ← Nat.mul_assoc]
              omega
            have h4 : (d * (c % d) + 1).log2 + 1 ≤ (c * d + 1).log2 := by
              refine (Nat.le_log2 (by omega)).mpr ?_
              have := Nat.log2_self_le (n := d * (c % d) + 1) (by omega)
              rw [Nat.pow_succ]
              omega
            omega
        · refine sUn_o (xLst_o (xCons_o (xV_n (xV_n (xV_n xV_0))) (xCons_o (xBin_o (xCall_o (xCons_o (xV_n (xV_n xV_0)) xNil_o) cInt_i) (xV_n (xV_n (xV_n xV_0))) (dMod_ok (by omega))) xNil_o))) ?_
          rw [← Int.natCast_emod]
          rfl
        · rw [← hg, Nat.gcd_comm d, ← Nat.gcd_rec, Nat.gcd_comm]) fuel (by split <;> omega)
  rw [h1, h2]
end Tw
set_option Elab.async false
set_option linter.all false
set_option maxRecDepth 100000
set_option maxHeartbeats 4000000
set_option exponentiation.threshold 1000000
/-! Pl3: statements step by step, the environment by unification -/
namespace Tw
open PySem
theorem st_0 {s x : SV} {r : Nv} : st (x :: r) 0 s = s :: r := rfl
theorem st_n {s x : SV} {r r' : Nv} {i : Nat} (h : st r i s = r') : st (x :: r) (i + 1) s = x :: r' := by rw [← h]; rfl
theorem gt_0 {s : SV} {r : Nv} : gt (s :: r) 0 = s := rfl
theorem gt_n {s x : SV} {r : Nv} {i : Nat} (h : gt r i = s) : gt (x :: r) (i + 1) = s := h
section
variable {i j : Nat} {me ma mb mc : Nv → R D} {ms : Nv → R (List D)} {ε ε' ε1 ε2 : Nv} {a b d : D} {t m n : Nv → R Bool}
theorem sAs_o (h : me ε = .ok d) (h2 : st ε i (.im d) = ε') : sAs i me ε = .ok (.nx ε') := by rw [sAs_ok h, h2]
theorem sAsM_o (h : me ε = .ok d) (h2 : st ε i (.mu d) = ε') : sAsM i me ε = .ok (.nx ε') := by rw [sAsM_ok h, h2]
theorem sDr_o (h : me ε = .ok d) : sDr me ε = .ok (.nx ε) := sDr_ok h
theorem sFz_m (h : gt ε i = .mu d) (h2 : st ε i (.im d) = ε') : sFz i ε = .ok (.nx ε') := by
  unfold sFz
  rw [h, ← h2]
theorem sFz_i (h : gt ε i = .im d) : sFz i ε = .ok (.nx ε) := by
  unfold sFz
  rw [h]
theorem sNil_o : sNil ε = .ok (.nx ε) := rfl
theorem sRt_o (h : me ε = .ok d) : sRt me ε = .ok (.rt d) := sRt_ok h
theorem sRtM_o (h : gt ε i = .mu d) : sRtM i ε = .ok (.rt d) := by
  unfold sRtM
  rw [h]
theorem sAp_o {ds : List D} (h : me ε = .ok d) (g : gt ε i = .mu (.list ds)) (hl : ds.length < lim) (h2 : st ε i (.mu (.list (ds ++ [d]))) = ε') : sAp i me ε = .ok (.nx ε') := by rw [sAp_ok h g hl, h2]
theorem sSt_o {ds : List D} {z : Int} {k : Nat} {mi : Nv → R D} (h : me ε = .ok d) (hi : mi ε = .ok (.int z)) (g : gt ε j = .mu (.list ds)) (hz : L2.ixN ds.length z = some k) (h2 : st ε j (.mu (.list (ds.set k d))) = ε') : sSt j mi me ε = .ok (.nx ε') := by
  unfold sSt
  rw [h, bind_ok, hi, bind_ok, g]
  show (match L2.ixN ds.length z with | some n => R.ok (Fl.nx (st ε j (.mu (.list (ds.set n d))))) | none => R.bad) = _
  rw [hz, ← h2]
theorem sPm_mi (ha : ma ε = .ok a) (hb : mb ε = .ok b) (hij : i ≠ j) (h1 : st ε i (.mu a) = ε1) (h2 : st ε1 j (.im b) = ε2) : sPm i true j false ma mb ε = .ok (.nx ε2) := by
  unfold sPm
  rw [ha, bind_ok, hb, bind_ok, if_pos hij, ← h2, ← h1]
  rfl
theorem sPm_im (ha : ma ε = .ok a) (hb : mb ε = .ok b) (hij : i ≠ j) (h1 : st ε i (.im a) = ε1) (h2 : st ε1 j (.mu b) = ε2) : sPm i false j true ma mb ε = .ok (.nx ε2) := by
  unfold sPm
  rw [ha, bind_ok, hb, bind_ok, if_pos hij, ← h2, ← h1]
  rfl
theorem sPm_mm (ha : ma ε = .ok a) (hb : mb ε = .ok b) (hij : i ≠ j) (h1 : st ε i (.mu a) = ε1) (h2 : st ε1 j (.mu b) = ε2) : sPm i true j true ma mb ε = .ok (.nx ε2) := by
  unfold sPm
  rw [ha, bind_ok, hb, bind_ok, if_pos hij, ← h2, ← h1]
  rfl
theorem sPr_g (h : ms ε = .ok [a, b]) (h1 : st ε i (.im a) = ε1) (h2 : st ε1 j (.im b) = ε2) : sPr i j ms ε = .ok (.nx ε2) := by rw [sPr_o h, ← h2, ← h1]
theorem sUn_g {g : D → Nv → R Nv} (h : me ε = .ok d) (h2 : g d ε = .ok ε') : sUn me g ε = .ok (.nx ε') := sUn_o h h2
theorem bN_o (h : st ε i (.im d) = ε') : bN i d ε = .ok ε' := by
  unfold bN
  rw [h]
theorem bs0_o : bs0 [] ε = .ok ε := rfl
theorem bsC_o {f : D → Nv → R Nv} {fs : List D → Nv → R Nv} {r : List D} (h : f d ε = .ok ε1) (h2 : fs r ε1 = .ok ε2) : bsC f fs (d :: r) ε = .ok ε2 := by
  show (f d ε).bind (fun ε1 => fs r ε1) = _
  rw [h, bind_ok, h2]
theorem bT_o {k : Nat} {fs : List D → Nv → R Nv} {r : List D} (hk : r.length = k) (h2 : fs r ε = .ok ε2) : bT k fs (.tuple r) ε = .ok ε2 := by
  show (if r.length = k then fs r ε else .bad) = _
  rw [if_pos hk, h2]
theorem bL_o {k : Nat} {fs : List D → Nv → R Nv} {r : List D} (hk : r.length = k) (h2 : fs r ε = .ok ε2) : bL k fs (.list r) ε = .ok ε2 := by
  show (if r.length = k then fs r ε else .bad) = _
  rw [if_pos hk, h2]
theorem bT_2o {fs : List D → Nv → R Nv} {x y : D} (h2 : fs [x, y] ε = .ok ε2) : bT 2 fs (.tuple [x, y]) ε = .ok ε2 := h2
theorem bT_3o {fs : List D → Nv → R Nv} {x y z : D} (h2 : fs [x, y, z] ε = .ok ε2) : bT 3 fs (.tuple [x, y, z]) ε = .ok ε2 := h2
theorem bT_4o {fs : List D → Nv → R Nv} {x y z w : D} (h2 : fs [x, y, z, w] ε = .ok ε2) : bT 4 fs (.tuple [x, y, z, w]) ε = .ok ε2 := h2
theorem bL_2o {fs : List D → Nv → R Nv} {x y : D} (h2 : fs [x, y] ε = .ok ε2) : bL 2 fs (.list [x, y]) ε = .ok ε2 := h2
theorem sAu_o {f : D → D → R D} (g : gt ε i = .im a) (h : me ε = .ok b) (hf : f a b = .ok d) (h2 : st ε i (.im d) = ε') : sAu f i me ε = .ok (.nx ε') := by
  unfold sAu
  rw [g]
  show ((me ε).bind fun b => (f a b).bind fun d => R.ok (Fl.nx (st ε i (.im d)))) = _
  rw [h, bind_ok, hf, bind_ok, h2]
theorem tV_o (h : me ε = .ok (.bool k)) : tV me ε = .ok k := by
  unfold tV
  rw [h, bind_ok]
  rfl
theorem tOrr_g {x y : Bool} (h1 : m ε = .ok x) (h2 : n ε = .ok y) : tOrr m n ε = .ok (x || y) := by
  unfold tOrr
  rw [h1, bind_ok, h2]
  cases x <;> rfl
theorem tAn_g {x y : Bool} (h1 : m ε = .ok x) (h2 : n ε = .ok y) : tAn m n ε = .ok (x && y) := by
  unfold tAn
  rw [h1, bind_ok, h2]
  cases x <;> rfl
theorem tOrr_c {x y : Bool} (h1 : m ε = .ok x) (h2 : x = false → n ε = .ok y) : tOrr m n ε = .ok (x || y) := by
  unfold tOrr
  rw [h1, bind_ok]
  cases x
  · rw [h2 rfl]; rfl
  · rfl
theorem tAn_c {x y : Bool} (h1 : m ε = .ok x) (h2 : x = true → n ε = .ok y) : tAn m n ε = .ok (x && y) := by
  unfold tAn
  rw [h1, bind_ok]
  cases x
  · rfl
  · rw [h2 rfl]; rfl
theorem xOrr_g {x y : Bool} (h1 : ma ε = .ok (.bool x)) (h2 : mb ε = .ok (.bool y)) : xOrr ma mb ε = .ok (.bool (x || y)) := by
  unfold xOrr
  rw [h1, bind_ok, h2]
  cases x <;> rfl
theorem xAn_g {x y : Bool} (h1 : ma ε = .ok (.bool x)) (h2 : mb ε = .ok (.bool y)) : xAn ma mb ε = .ok (.bool (x && y)) := by
  unfold xAn
  rw [h1, bind_ok, h2]
  cases x <;> rfl
theorem xAn_c {x y : Bool} (h1 : ma ε = .ok (.bool x)) (h2 : x = true → mb ε = .ok (.bool y)) : xAn ma mb ε = .ok (.bool (x && y)) := by
  unfold xAn
  rw [h1, bind_ok]
  cases x
  · rfl
  · show mb ε = _
    rw [h2 rfl]; rfl
theorem xOrr_c {x y : Bool} (h1 : ma ε = .ok (.bool x)) (h2 : x = false → mb ε = .ok (.bool y)) : xOrr ma mb ε = .ok (.bool (x || y)) := by
  unfold xOrr
  rw [h1, bind_ok]
  cases x
  · show mb ε = _
    rw [h2 rfl]; rfl
  · rfl
theorem xNo_g {x : Bool} (h1 : ma ε = .ok (.bool x)) : xNo ma ε = .ok (.bool (!x)) := by
  unfold xNo
  rw [h1, bind_ok]
  rfl
theorem xCh_g {f g : D → D → R D} {x y : Bool} {c : D} (h1 : ma ε = .ok a) (h2 : mb ε = .ok b) (h3 : mc ε = .ok c) (h4 : f a b = .ok (.bool x)) (h5 : g b c = .ok (.bool y)) : xCh f g ma mb mc ε = .ok (.bool (x && y)) := by
  unfold xCh
  rw [h1, bind_ok, h2, bind_ok, h4, bind_ok]
  show (if x then (mc ε).bind fun d => g b d else .ok (.bool false)) = _
  rw [h3, bind_ok, h5]
  cases x <;> rfl
theorem xIf_g {x : Bool} (h : t ε = .ok x) (h1 : ma ε = .ok a) (h2 : mb ε = .ok b) : xIf t ma mb ε = .ok (if x then a else b) := by
  unfold xIf
  rw [h, bind_ok, h1, h2]
  cases x <;> rfl
theorem iSeqT_o {xs : List D} (h : me ε = .ok (.tuple xs)) : iSeq me ε = .ok xs := by
  unfold iSeq
  rw [h, bind_ok]
theorem iEnu_o {xs : List D} (h : ms ε = .ok [.list xs]) : iEnu ms ε = .ok (enumG 0 xs) := by
  unfold iEnu
  rw [h, bind_ok]
theorem iZi_o {xs ys : List D} (h : ms ε = .ok [.list xs, .list ys]) : iZi ms ε = .ok (zipG xs ys) := by
  unfold iZi
  rw [h, bind_ok]
theorem xTupS_o {ds : List D} (h : ms ε = .ok ds) (hl : ds.length ≤ lim) : xTupS ms ε = .ok (.tuple ds) := by
  unfold xTupS
  rw [h, bind_ok, if_pos hl]
theorem xLstS_o {ds : List D} (h : ms ε = .ok ds) (hl : ds.length ≤ lim) : xLstS ms ε = .ok (.list ds) := by
  unfold xLstS
  rw [h, bind_ok, if_pos hl]
theorem xStarL_o {xs ds : List D} (h : me ε = .ok (.list xs)) (h2 : ms ε = .ok ds) : xStar me ms ε = .ok (xs ++ ds) := by
  unfold xStar
  rw [h, bind_ok]
  show ((ms ε).bind fun ds => R.ok (xs ++ ds)) = _
  rw [h2, bind_ok]
theorem xStarT_o {xs ds : List D} (h : me ε = .ok (.tuple xs)) (h2 : ms ε = .ok ds) : xStar me ms ε = .ok (xs ++ ds) := by
  unfold xStar
  rw [h, bind_ok]
  show ((ms ε).bind fun ds => R.ok (xs ++ ds)) = _
  rw [h2, bind_ok]
theorem xRev_o {xs : List D} (h : me ε = .ok (.list xs)) : xRev me ε = .ok (.list xs.reverse) := by
  unfold xRev
  rw [h, bind_ok]
theorem oNone_o : oNone ε = .ok none := rfl
theorem oSome_o {z : Int} (h : me ε = .ok (.int z)) : oSome me ε = .ok (some z) := by
  unfold oSome
  rw [h, bind_ok]
theorem xSl_o {lo hi : Nv → R (Option Int)} {xs : List D} {l u : Option Int} (h : me ε = .ok (.list xs)) (h1 : lo ε = .ok l) (h2 : hi ε = .ok u) : xSl me lo hi ε = .ok (.list (cut xs l u)) := by
  unfold xSl
  rw [h, bind_ok, h1, bind_ok, h2, bind_ok]
/-- comprehensions: the turn's environment and value by unification -/
theorem lcG_a {α : Type} {g : D → Nv → R Nv} {e : Nv → R D} {enc v : α → D} {F : α → Nv} {xs : List α} (hg : ∀ x, x ∈ xs → g (enc x) ε = .ok (F x)) (he : ∀ x, x ∈ xs → e (F x) = .ok (v x)) : lcG g tYe e ε (xs.map enc) = .ok (xs.map v) :=
  lcG_all enc v xs fun x hx => ⟨F x, hg x hx, he x hx⟩
theorem lcG_i {α : Type} {g : D → Nv → R Nv} {t : Nv → R Bool} {e : Nv → R D} {enc v : α → D} {p : α → Bool} {F : α → Nv} {xs : List α} (hg : ∀ x, x ∈ xs → g (enc x) ε = .ok (F x)) (ht : ∀ x, x ∈ xs → t (F x) = .ok (p x)) (he : ∀ x, x ∈ xs → p x = true → e (F x) = .ok (v x)) : lcG g t e ε (xs.map enc) = .ok ((xs.filter p).map v) :=
  lcG_if enc p v xs fun x hx => ⟨F x, hg x hx, ht x hx, he x hx⟩
theorem wipe_0 : wipeE ε [] = ε := rfl
theorem wipe_n {v : Nat} {vs : List Nat} (h : wipeE ε vs = ε1) (h2 : st ε1 v .no = ε2) : wipeE ε (v :: vs) = ε2 := by
  rw [← h2, ← h]
  rfl
theorem xLc_a {α : Type} {vs : List Nat} {mi : Nv → R (List D)} {g : D → Nv → R Nv} {e : Nv → R D} {ε0 : Nv} {enc v : α → D} {F : α → Nv} {xs : List α} (hi : mi ε = .ok (xs.map enc)) (hw : wipeE ε vs = ε0)
    (hg : ∀ x, x ∈ xs → g (enc x) ε0 = .ok (F x)) (he : ∀ x, x ∈ xs → e (F x) = .ok (v x)) (hl : xs.length ≤ lim) : xLc vs mi g tYe e ε = .ok (.list (xs.map v)) :=
  xLc_ok hi (by rw [hw]; exact lcG_a hg he) (by rw [List.length_map]; exact hl)
theorem xLc_f {α : Type} {vs : List Nat} {mi : Nv → R (List D)} {g : D → Nv → R Nv} {t : Nv → R Bool} {e : Nv → R D} {ε0 : Nv} {enc v : α → D} {p : α → Bool} {F : α → Nv} {xs : List α} (hi : mi ε = .ok (xs.map enc)) (hw : wipeE ε vs = ε0)
    (hg : ∀ x, x ∈ xs → g (enc x) ε0 = .ok (F x)) (ht : ∀ x, x ∈ xs → t (F x) = .ok (p x)) (he : ∀ x, x ∈ xs → p x = true → e (F x) = .ok (v x)) (hl : xs.length ≤ lim) : xLc vs mi g t e ε = .ok (.list ((xs.filter p).map v)) :=
  xLc_ok hi (by rw [hw]; exact lcG_i hg ht he) (by rw [List.length_map]; exact Nat.le_trans (List.length_filter_le _ _) hl)
end
/-- what is run and then goes on or not: kinds of ends -/
theorem runs_rt {me : Nv → R D} {ε : Nv} {d : D} {post : Fl → Prop} (h : me ε = .ok d) (q : post (.rt d)) : Runs (sRt me) ε post := ⟨_, sRt_ok h, q⟩
theorem runs_rtM {i : Nat} {ε : Nv} {d : D} {post : Fl → Prop} (h : gt ε i = .mu d) (q : post (.rt d)) : Runs (sRtM i) ε post := ⟨_, sRtM_o h, q⟩
theorem runs_nx {m : Nv → R Fl} {ε ε' : Nv} {post : Fl → Prop} (h : m ε = .ok (.nx ε')) (q : post (.nx ε')) : Runs m ε post := ⟨_, h, q⟩
theorem runs_nil {ε : Nv} {post : Fl → Prop} (q : post (.nx ε)) : Runs sNil ε post := ⟨_, rfl, q⟩
/-- if: test false, nothing else: go on -/
theorem runs_no {t : Nv → R Bool} {m n : Nv → R Fl} {ε : Nv} {post : Fl → Prop} {b : Bool} (h : t ε = .ok b) (hb : b = false) (q : Runs n ε post) : Runs (sSeq (sIf t m sNil) n) ε post := by
  subst hb
  exact runs_sn (by rw [sIf_f h]; rfl) q
theorem runF_g {n N : Nat} {m : Nv → R Fl} {ds : List D} {d : D} (hn : ds.length = n) (h : Runs m (ds.map SV.im ++ List.replicate (N - n) SV.no) fun fl => (∃ ε, fl = .nx ε ∧ d = .none) ∨ fl = .rt d) : runF n N m ds = .ok d := by
  obtain ⟨fl, h1, h2⟩ := h
  unfold runF
  rw [if_pos hn, h1]
  rcases h2 with ⟨ε, rfl, rfl⟩ | rfl
  · rfl
  · rfl
/-! ### own objects read as data -/
def thS : SV → SV
  | .mu d => .im d
  | s => s
theorem th_0 : th [] = [] := rfl
theorem th_i {d : D} {r r' : Nv} (h : th r = r') : th (.im d :: r) = .im d :: r' := by rw [← h]; rfl
theorem th_m {d : D} {r r' : Nv} (h : th r = r') : th (.mu d :: r) = .im d :: r' := by rw [← h]; rfl
theorem th_n {r r' : Nv} (h : th r = r') : th (.no :: r) = .no :: r' := by rw [← h]; rfl
theorem th_x {a : SV} {r r' : Nv} (h : th r = r') : th (a :: r) = thS a :: r' := by rw [← h]; cases a <;> rfl
theorem tTh_g {m : Nv → R Bool} {ε ε' : Nv} {b : Bool} (h : th ε = ε') (h2 : m ε' = .ok b) : tTh m ε = .ok b := by
  show m (th ε) = _
  rw [h, h2]
theorem xTh_g {m : Nv → R D} {ε ε' : Nv} {d : D} (h : th ε = ε') (h2 : m ε' = .ok d) (hf : flat d = true) : xTh m ε = .ok d := xTh_o (by rw [h, h2]) hf
/-! ### equality with nothing -/
theorem dEq_nil {xs : List D} (h : okd (.list xs) = true) : dEq (.list xs) (.list []) = .ok (.bool xs.isEmpty) := by
  unfold dEq
  rw [h, show okd (.list []) = true from rfl]
  cases xs with
  | nil => rfl
  | cons x r =>
    show R.ok (PyData.bool (PyData.eqv (.list (x :: r)) (.list []))) = _
    rw [PyData.eqv]
    rfl
theorem dNe_nil {xs : List D} (h : okd (.list xs) = true) : dNe (.list xs) (.list []) = .ok (.bool (!xs.isEmpty)) := by
  unfold dNe
  rw [h, show okd (.list []) = true from rfl]
  cases xs with
  | nil => rfl
  | cons x r =>
    show R.ok (PyData.bool (!PyData.eqv (.list (x :: r)) (.list []))) = _
    rw [PyData.eqv]
    rfl
theorem rlim_t {i : Int} (h0 : -(2 ^ 62) ≤ i) (h1 : i < 2 ^ 62) : rlim i = true := by
  unfold rlim
  rw [decide_eq_true h0, decide_eq_true h1]
  rfl
theorem xRg_o {ma mb : Nv → R D} {ε : Nv} {i j : Int} {k : Nat} (h1 : ma ε = .ok (.int i)) (h2 : mb ε = .ok (.int j)) (b0 : -(2 ^ 62) ≤ i) (b1 : i < 2 ^ 62) (b2 : -(2 ^ 62) ≤ j) (b3 : j < 2 ^ 62) (hk : (j - i).toNat = k) (hl : k ≤ lim) : xRg ma mb ε = .ok (.list (rangeD i k)) := by
  unfold xRg
  rw [h1, bind_ok, h2, bind_ok]
  have a := rlim_t b0 b1
  have b := rlim_t b2 b3
  simp only [a, b, hk, Bool.and_self, Bool.true_and, decide_eq_true hl, if_true]
end Tw
set_option Elab.async false
set_option linter.all false
set_option maxRecDepth 100000
set_option maxHeartbeats 4000000
set_option exponentiation.threshold 1000000
/-! PlFr2: fractions, further: Euclid with two slots, sums -/
namespace Tw
open PySem
/-- one, two = [two, one % two] while two != 0 -/
def gcdB : Nv → R Fl := sUn (xLst (xCons (xV 1) (xCons (xBin dMod (xCall cInt (xCons (xV 0) xNil)) (xV 1)) xNil))) (bL 2 (bsC (bN 0) (bsC (bN 1) bs0)))
def gcdT : Nv → R Bool := tC' (xBin dNe (xV 1) (xC (.int 0)))
theorem gcdT_o (a b : Int) : gcdT [.im (.int a), .im (.int b)] = .ok (!decide (b = 0)) := tC_o (xBin_o (xV_n xV_0) xC_o (dNe_int _ _))
theorem gcdB_o {a b : Int} (hb : 0 < b) : gcdB [.im (.int a), .im (.int b)] = .ok (.nx [.im (.int b), .im (.int (a % b))]) :=
  sUn_o (xLst_o (xCons_o (xV_n xV_0) (xCons_o (xBin_o (xCall_o (xCons_o xV_0 xNil_o) cInt_i) (xV_n xV_0) (dMod_ok hb)) xNil_o))) rfl
theorem gcd_nat (a b : Nat) : ∀ m, (a * b + 1).log2 + 1 < m → whG gcdT gcdB m [.im (.int (a : Int)), .im (.int (b : Int))] = .ok (.nx [.im (.int ((Nat.gcd a b : Nat) : Int)), .im (.int 0)]) := fun m hm => by
  obtain ⟨fl, h1, h2⟩ := whG_gen (t := gcdT) (b := gcdB) (fun n ε => ∃ c d : Nat, ε = [.im (.int (c : Int)), .im (.int (d : Int))] ∧ Nat.gcd c d = Nat.gcd a b ∧ n = (c * d + 1).log2 + (if c < d then 1 else 0))
    (fun fl => fl = .nx [.im (.int ((Nat.gcd a b : Nat) : Int)), .im (.int 0)]) _ _ ⟨a, b, rfl, rfl, rfl⟩ (by
      rintro n ε ⟨c, d, rfl, hg, rfl⟩
      by_cases hd : d = 0
      · subst hd
        left
        refine ⟨gcdT_o _ _, ?_⟩
        rw [← hg, Nat.gcd_zero_right]
        rfl
      · right
        refine ⟨by rw [gcdT_o, decide_eq_false (by omega)]; rfl, _, gcdB_o (by omega), (d * (c % d) + 1).log2 + (if d < c % d then 1 else 0), ?_, d, c % d, ?_, ?_, rfl⟩
        · have hlt : c % d < d := Nat.mod_lt _ (Nat.pos_of_ne_zero hd)
          rw [if_neg (show ¬ d < c % d by omega)]
          by_cases hcd : c < d
          · rw [if_pos hcd, Nat.mod_eq_of_lt hcd, Nat.mul_comm d c]
            omega
          · rw [if_neg hcd]
            have h2 : 2 * (c % d) < c := by
              have := Nat.mod_le c d
              have e := Nat.div_add_mod c d
              have q : 1 ≤ c / d := Nat.div_pos (by omega) (Nat.pos_of_ne_zero hd)
              have := Nat.mul_le_mul_left d q
              omega
            have h3 : 2 * (d * (c % d)) + 1 ≤ c * d := by
              have := Nat.mul_lt_mul_of_pos_right h2 (Nat.pos_of_ne_zero hd)
              rw [Nat.mul_comm d (c % d), ← Nat.mul_assoc]
              omega
            have h4 : (d * (c % d) + 1).log2 + 1 ≤ (c * d + 1).log2 := by
              refine (Nat.le_log2 (by omega)).mpr ?_
              have := Nat.log2_self_le (n := d * (c % d) + 1) (by omega)
              rw [Nat.pow_succ]
              omega
            omega
        · rw [← Int.natCast_emod]
        · rw [← hg, Nat.gcd_comm d, ← Nat.gcd_rec, Nat.gcd_comm]) m (by split <;> omega)
  rw [h1, h2]
theorem log_of {a b k : Nat} (h : a * b < 2 ^ k) : (a * b + 1).log2 ≤ k := by
  have h1 : a * b + 1 < 2 ^ (k + 1) := by
    rw [Nat.pow_succ]
    have : 0 < 2 ^ k := Nat.pow_pos (by decide)
    omega
  have := log2_lt h1 (by omega)
  omega
/-- the second number from 0 on, both below 2 ^ 8000 -/
theorem gcd_int {n d : Int} (hd : 0 ≤ d) (sn : sz 8000 n) (sd : sz 8000 d) : ∃ e, whG gcdT gcdB 100000 [.im (.int n), .im (.int d)] = .ok (.nx [.im (.int e), .im (.int 0)]) ∧ e.natAbs = Nat.gcd n.natAbs d.natAbs := by
  by_cases h0 : d = 0
  · subst h0
    refine ⟨n, ?_, by simp⟩
    show (gcdT [.im (.int n), .im (.int 0)]).bind _ = _
    rw [gcdT_o]
    rfl
  · have hp : 0 < d := by omega
    have e0 : whG gcdT gcdB 100000 [.im (.int n), .im (.int d)] = whG gcdT gcdB 99999 [.im (.int d), .im (.int (n % d))] := by
      show (gcdT [.im (.int n), .im (.int d)]).bind _ = _
      rw [gcdT_o, bind_ok, decide_eq_false h0, gcdB_o hp]
      rfl
    have h1 := Int.emod_nonneg n h0
    have h2 := Int.emod_lt_of_pos n hp
    have b := gcd_nat d.toNat (n % d).toNat 99999 (by
      have : d.toNat * (n % d).toNat < 2 ^ 16000 := by
        have a1 : d.toNat < 2 ^ 8000 := by
          unfold sz at sd
          generalize 2 ^ 8000 = X at *
          omega
        have a2 : (n % d).toNat < 2 ^ 8000 := by
          generalize 2 ^ 8000 = X at *
          omega
        have := Nat.mul_lt_mul'' a1 a2
        rwa [← Nat.pow_add] at this
      have := log_of this
      omega)
    rw [Int.toNat_of_nonneg hd, Int.toNat_of_nonneg h1] at b
    refine ⟨_, e0.trans b, ?_⟩
    rw [Int.natAbs_natCast]
    have e1 : (n % d).toNat = (n % d).natAbs := by omega
    have e2 : d.toNat = d.natAbs := by omega
    rw [e1, e2]
    have dvd : ∀ k : Nat, k ∣ d.natAbs → (k ∣ (n % d).natAbs ↔ k ∣ n.natAbs) := fun k hk => by
      have cv : ∀ z : Int, (k : Int) ∣ z ↔ k ∣ z.natAbs := fun z => by rw [← Int.natAbs_dvd_natAbs, Int.natAbs_natCast]
      have hk' : (k : Int) ∣ d := (cv d).mpr hk
      rw [← cv, ← cv]
      have e := Int.emod_add_mul_ediv n d
      constructor
      · intro z
        rw [← e]
        exact Int.dvd_add z (Int.dvd_mul_of_dvd_left hk')
      · intro z
        have : n % d = n - d * (n / d) := by omega
        rw [this]
        exact Int.dvd_sub z (Int.dvd_mul_of_dvd_left hk')
    refine Nat.dvd_antisymm (Nat.dvd_gcd ?_ (Nat.gcd_dvd_left _ _)) (Nat.dvd_gcd (Nat.gcd_dvd_right _ _) ?_)
    · exact (dvd _ (Nat.gcd_dvd_left _ _)).mp (Nat.gcd_dvd_right _ _)
    · exact (dvd _ (Nat.gcd_dvd_right _ _)).mpr (Nat.gcd_dvd_left _ _)
/-! ### sums -/
def sumR (l : List Rat) : Rat := l.foldl (· + ·) 0
theorem foldl_addR : ∀ (l : List Rat) (a : Rat), l.foldl (· + ·) a = a + sumR l
  | [], a => (Rat.add_zero a).symm
  | x :: r, a => by
    show r.foldl (· + ·) (a + x) = a + r.foldl (· + ·) (0 + x)
    rw [foldl_addR r (a + x), foldl_addR r (0 + x)]
    grind
theorem sumR_nil : sumR [] = 0 := rfl
theorem sumR_cons (x : Rat) (r : List Rat) : sumR (x :: r) = x + sumR r := by
  show r.foldl (· + ·) (0 + x) = _
  rw [foldl_addR]
  grind
theorem sumR_app (l m : List Rat) : sumR (l ++ m) = sumR l + sumR m := by
  show (l ++ m).foldl (· + ·) 0 = _
  rw [List.foldl_append, foldl_addR]
  rfl
theorem Bd.zero (L N : Nat) : Bd L N 0 := by
  have := Bd.int L (N := N) (i := 0) (by simp)
  rwa [Rat.intCast_zero] at this
theorem Bd.sum {L N : Nat} : ∀ (l : List Rat), (∀ x, x ∈ l → Bd L N x) → Bd L (l.length * N) (sumR l)
  | [], _ => by
    rw [sumR_nil]
    exact Bd.zero _ _
  | x :: r, h => by
    rw [sumR_cons, List.length_cons, Nat.add_mul, Nat.one_mul, Nat.add_comm]
    exact (h x List.mem_cons_self).add (Bd.sum r fun y hy => h y (List.mem_cons_of_mem _ hy))
/-- a quotient of two integers, by its bounds -/
theorem Bd.quo {n : Int} {d N : Nat} (hd : 0 < d) (h : n.natAbs ≤ N * d) : Bd d N (Rat.divInt n (d : Int)) := by
  have hd' : ((d : Int) : Rat) ≠ 0 := fun z => by
    have := Rat.intCast_inj.mp (z.trans Rat.intCast_zero.symm)
    omega
  have p : (0 : Rat) < ((d : Int) : Rat) := by
    have := Rat.intCast_lt_intCast.mpr (show (0 : Int) < (d : Int) by omega)
    rwa [Rat.intCast_zero] at this
  have e : Rat.divInt n (d : Int) * ((d : Int) : Rat) = (n : Rat) := by
    rw [Rat.divInt_eq_div]
    grind
  have e2 : ((d : Nat) : Rat) = ((d : Int) : Rat) := (Rat.intCast_natCast d).symm
  have eN : ((N : Int) : Rat) = (N : Rat) := Rat.intCast_natCast N
  have b1 : (n : Rat) ≤ (N : Rat) * ((d : Int) : Rat) := by
    rw [← eN, ← Rat.intCast_mul]
    exact Rat.intCast_le_intCast.mpr (by rw [← Int.natCast_mul]; omega)
  have b2 : -((N : Rat) * ((d : Int) : Rat)) ≤ (n : Rat) := by
    rw [← eN, ← Rat.intCast_mul, ← Rat.intCast_neg]
    exact Rat.intCast_le_intCast.mpr (by rw [← Int.natCast_mul]; omega)
  generalize Rat.divInt n (d : Int) = q at *
  generalize ((d : Int) : Rat) = D at *
  refine ⟨⟨n, by rw [e2, e]⟩, ?_, ?_⟩
  · refine Rat.not_lt.mp fun z => ?_
    have := Rat.mul_lt_mul_of_pos_right z p
    grind
  · refine Rat.not_lt.mp fun z => ?_
    have := Rat.mul_lt_mul_of_pos_right z p
    grind
theorem lt_iff (p q : Rat) : (p.num * (q.den : Int) < q.num * (p.den : Int)) ↔ p < q := by
  rw [Rat.lt_iff]
theorem fr_zero : fr 0 = .tuple [.int 0, .int 1] := rfl
theorem fr_one : fr 1 = .tuple [.int 1, .int 1] := rfl
theorem okd_fr (q : Rat) : okd (fr q) = true := rfl
theorem eqv_fr (p q : Rat) : PyData.eqv (fr p) (fr q) = decide (p = q) := by
  have h : PyData.eqv (fr p) (fr q) = (decide (p.num = q.num) && (decide ((p.den : Int) = (q.den : Int)) && true)) := by
    unfold fr
    rw [PyData.eqv, PyData.eqvAll, PyData.eqvAll, PyData.eqvAll, eqv_int, eqv_int]
  rw [h]
  by_cases e : p = q
  · subst e
    simp
  · rw [decide_eq_false e]
    by_cases e1 : p.num = q.num
    · by_cases e2 : p.den = q.den
      · exact absurd (Rat.ext e1 e2) e
      · rw [decide_eq_false (show ¬ (p.den : Int) = (q.den : Int) by omega), Bool.false_and, Bool.and_false]
    · rw [decide_eq_false e1, Bool.false_and]
theorem dEq_fr (p q : Rat) : dEq (fr p) (fr q) = .ok (.bool (decide (p = q))) := by
  unfold dEq
  rw [okd_fr, okd_fr, eqv_fr]
  rfl
theorem dNe_fr (p q : Rat) : dNe (fr p) (fr q) = .ok (.bool (!decide (p = q))) := by
  unfold dNe
  rw [okd_fr, okd_fr, eqv_fr]
  rfl
end Tw
set_option Elab.async false
set_option linter.all false
set_option maxRecDepth 100000
set_option maxHeartbeats 4000000
/-! Pl4: dicts with whole-number keys, plainly -/
namespace Tw
open PySem
section
variable {α : Type} (enc : α → D)
def ents (L : List (Int × α)) : List (D × D) := L.map fun e => (.int e.1, enc e.2)
def dicD (L : List (Int × α)) : D := .dict (ents enc L)
/-- standing still -/
def dicS (L : List (Int × α)) : D := .dict ((.bool true, .none) :: ents enc L)
end
section
variable {α : Type} {enc : α → D}
def fnd : List (Int × α) → Int → Option α
  | [], _ => none
  | e :: r, k => if e.1 = k then some e.2 else fnd r k
def put (L : List (Int × α)) (k : Int) (y : α) : List (Int × α) := if L.any (fun e => decide (e.1 = k)) then L.map (fun e => if e.1 = k then (e.1, y) else e) else L ++ [(k, y)]
theorem okKs_ents : ∀ L : List (Int × α), okKs (ents enc L) = true
  | [] => rfl
  | _ :: r => okKs_ents r
theorem unM_ents : ∀ L : List (Int × α), unM (ents enc L) = ents enc L
  | [] => rfl
  | _ :: _ => rfl
theorem eqKy_int (i j : Int) : eqKy (.int i) (.int j) = decide (i = j) := rfl
theorem lkD_ents (k : Int) : ∀ L : List (Int × α), lkD (ents enc L) (.int k) = (fnd L k).map enc
  | [] => rfl
  | e :: r => by
    show (if eqKy (.int e.1) (.int k) = true then some (enc e.2) else lkD (ents enc r) (.int k)) = (if e.1 = k then some e.2 else fnd r k).map enc
    rw [eqKy_int, lkD_ents k r]
    by_cases h : e.1 = k
    · rw [if_pos (decide_eq_true h), if_pos h]
      rfl
    · rw [if_neg (by rw [decide_eq_true_eq]; exact h), if_neg h]
theorem ptD_ents (L : List (Int × α)) (k : Int) (y : α) : ptD (ents enc L) (.int k) (enc y) = ents enc (put L k y) := by
  have a : (ents enc L).any (fun p => eqKy p.1 (.int k)) = L.any fun e => decide (e.1 = k) := by
    unfold ents
    rw [List.any_map]
    rfl
  unfold ptD put
  rw [a]
  split
  · unfold ents
    rw [List.map_map, List.map_map]
    refine List.map_congr_left fun e _ => ?_
    show (if eqKy (.int e.1) (.int k) = true then (PyData.int e.1, enc y) else (PyData.int e.1, enc e.2)) = (PyData.int (if e.1 = k then (e.1, y) else e).1, enc (if e.1 = k then (e.1, y) else e).2)
    rw [eqKy_int]
    by_cases h : e.1 = k
    · rw [if_pos (decide_eq_true h), if_pos h]
    · rw [if_neg (by rw [decide_eq_true_eq]; exact h), if_neg h]
  · unfold ents
    rw [List.map_append]
    rfl
theorem intKs_ents : ∀ L : List (Int × α), intKs (ents enc L) = some (L.map fun e => (e.1, enc e.2))
  | [] => rfl
  | e :: r => by
    show (match intKs (ents enc r) with | some l => some ((e.1, enc e.2) :: l) | none => none) = _
    rw [intKs_ents r]
    rfl
theorem dOf_im {ε : Nv} {i : Nat} {L : List (Int × α)} (g : gt ε i = .im (dicD enc L)) : dOf ε i = some (ents enc L) := by
  unfold dOf
  rw [g]
  show (if okKs (unM (ents enc L)) = true then some (unM (ents enc L)) else none) = _
  rw [unM_ents, if_pos (okKs_ents L)]
theorem dOf_st {ε : Nv} {i : Nat} {L : List (Int × α)} (g : gt ε i = .im (dicS enc L)) : dOf ε i = some (ents enc L) := by
  unfold dOf
  rw [g]
  show (if okKs (ents enc L) = true then some (ents enc L) else none) = _
  rw [if_pos (okKs_ents L)]
theorem dOf_mu {ε : Nv} {i : Nat} {L : List (Int × α)} (g : gt ε i = .mu (dicD enc L)) : dOf ε i = some (ents enc L) := by
  unfold dOf
  rw [g]
  show (if okKs (ents enc L) = true then some (ents enc L) else none) = _
  rw [if_pos (okKs_ents L)]
theorem xGet_o {mk md : Nv → R D} {ε : Nv} {i : Nat} {L : List (Int × α)} {k : Int} {d : D} (g : dOf ε i = some (ents enc L)) (h : mk ε = .ok (.int k)) (h2 : md ε = .ok d) : xGet i mk md ε = .ok (((fnd L k).map enc).getD d) := by
  unfold xGet
  rw [g]
  show ((mk ε).bind fun k => (md ε).bind fun d => if isKy k then .ok ((lkD (ents enc L) k).getD d) else .bad) = _
  rw [h, bind_ok, h2, bind_ok, lkD_ents]
  rfl
theorem xGet_e {mk md : Nv → R D} {ε : Nv} {i : Nat} {L : List (Int × α)} {k : Int} {x : α} (g : dOf ε i = some (ents enc L)) (h : mk ε = .ok (.int k)) (h2 : md ε = .ok (enc x)) : xGet i mk md ε = .ok (enc ((fnd L k).getD x)) := by
  rw [xGet_o g h h2]
  cases fnd L k <;> rfl
theorem xDi_o {mk : Nv → R D} {ε : Nv} {i : Nat} {L : List (Int × α)} {k : Int} {x : α} (g : dOf ε i = some (ents enc L)) (h : mk ε = .ok (.int k)) (hx : fnd L k = some x) : xDi i mk ε = .ok (enc x) := by
  unfold xDi
  rw [g]
  show ((mk ε).bind fun k => if isKy k then (match lkD (ents enc L) k with | some d => .ok d | none => .bad) else .bad) = _
  rw [h, bind_ok, lkD_ents, hx]
  rfl
theorem xSi_o {ε : Nv} {i : Nat} {L : List (Int × α)} (g : dOf ε i = some (ents enc L)) (h : L.length < 64) : xSi i ε = .ok (.list ((srtK L).map fun e => .tuple [.int e.1, enc e.2])) := by
  unfold xSi
  rw [g]
  show (match intKs (ents enc L) with | some l => if l.length < 64 then R.ok (PyData.list ((srtK l).map fun (p : Int × D) => PyData.tuple [.int p.1, p.2])) else .bad | none => .bad) = _
  rw [intKs_ents]
  show (if (L.map fun e => (e.1, enc e.2)).length < 64 then R.ok (PyData.list ((srtK (L.map fun e => (e.1, enc e.2))).map fun (p : Int × D) => PyData.tuple [.int p.1, p.2])) else .bad) = _
  rw [if_pos (by rw [List.length_map]; exact h), ← srtK_map, List.map_map]
  rfl
theorem sDp_o {mi me : Nv → R D} {ε ε' : Nv} {j : Nat} {L : List (Int × α)} {k : Int} {y : α} (g : gt ε j = .mu (dicD enc L)) (h : mi ε = .ok (.int k)) (h2 : me ε = .ok (enc y)) (hl : L.length < lim) (h3 : st ε j (.mu (dicD enc (put L k y))) = ε') : sDp j mi me ε = .ok (.nx ε') := by
  unfold sDp
  rw [h2, bind_ok, h, bind_ok, g]
  show (if okKs (ents enc L) && isKy (.int k) && decide ((ents enc L).length < lim) then R.ok (Fl.nx (st ε j (.mu (.dict (ptD (ents enc L) (.int k) (enc y)))))) else .bad) = _
  have e : (ents enc L).length = L.length := List.length_map _
  rw [okKs_ents, e, decide_eq_true hl, ptD_ents]
  show R.ok (Fl.nx (st ε j (.mu (dicD enc (put L k y))))) = _
  rw [h3]
theorem sFd_o {ε ε' : Nv} {i : Nat} {L : List (Int × α)} (g : gt ε i = .mu (dicD enc L)) (h : st ε i (.im (dicS enc L)) = ε') : sFd i ε = .ok (.nx ε') := by
  unfold sFd
  rw [g]
  show (if okKs (ents enc L) then R.ok (Fl.nx (st ε i (.im (.dict ((.bool true, .none) :: ents enc L))))) else .bad) = _
  rw [okKs_ents, ← h]
  rfl
theorem iIt_o {ε : Nv} {i : Nat} {L : List (Int × α)} (g : gt ε i = .im (dicS enc L)) : iIt i ε = .ok (L.map fun e => .tuple [.int e.1, enc e.2]) := by
  unfold iIt
  rw [g]
  show R.ok ((ents enc L).map fun p => PyData.tuple [p.1, p.2]) = _
  unfold ents
  rw [List.map_map]
  rfl
/-! ### keys -/
theorem put_keys (L : List (Int × α)) (k : Int) (y : α) : (put L k y).map (·.1) = if k ∈ L.map (·.1) then L.map (·.1) else L.map (·.1) ++ [k] := by
  have a : L.any (fun e => decide (e.1 = k)) = decide (k ∈ L.map (·.1)) := by
    rw [Bool.eq_iff_iff, List.any_eq_true, decide_eq_true_eq, List.mem_map]
    constructor
    · rintro ⟨e, h1, h2⟩
      exact ⟨e, h1, of_decide_eq_true h2⟩
    · rintro ⟨e, h1, h2⟩
      exact ⟨e, h1, decide_eq_true h2⟩
  unfold put
  rw [a]
  by_cases h : k ∈ L.map (·.1)
  · rw [if_pos (decide_eq_true h), if_pos h, List.map_map]
    refine List.map_congr_left fun e _ => ?_
    show (if e.1 = k then (e.1, y) else e).1 = e.1
    split <;> rfl
  · rw [if_neg (by rw [decide_eq_true_eq]; exact h), if_neg h, List.map_append]
    rfl
theorem put_nd {L : List (Int × α)} (h : (L.map (·.1)).Nodup) (k : Int) (y : α) : ((put L k y).map (·.1)).Nodup := by
  rw [put_keys]
  split
  · exact h
  · rename_i n
    exact List.nodup_append.mpr ⟨h, by simp, fun a ha b hb e => n (by rw [List.mem_singleton.mp hb] at e; exact e ▸ ha)⟩
theorem put_mem {L : List (Int × α)} {k : Int} {y : α} {e : Int × α} (h : e ∈ put L k y) : e = (k, y) ∨ e ∈ L := by
  unfold put at h
  split at h
  · obtain ⟨e', h1, h2⟩ := List.mem_map.mp h
    by_cases q : e'.1 = k
    · rw [if_pos q, q] at h2
      exact .inl h2.symm
    · rw [if_neg q] at h2
      exact .inr (h2 ▸ h1)
  · rcases List.mem_append.mp h with q | q
    · exact .inr q
    · exact .inl (List.mem_singleton.mp q)
theorem fnd_mem : ∀ {L : List (Int × α)} {k : Int} {x : α}, fnd L k = some x → (k, x) ∈ L
  | [], _, _, h => by cases h
  | e :: r, k, x, h => by
    have h' : (if e.1 = k then some e.2 else fnd r k) = some x := h
    by_cases q : e.1 = k
    · rw [if_pos q] at h'
      cases h'
      rw [← q]
      exact List.mem_cons_self
    · rw [if_neg q] at h'
      exact List.mem_cons_of_mem _ (fnd_mem h')
theorem fnd_none : ∀ {L : List (Int × α)} {k : Int}, k ∉ L.map (·.1) → fnd L k = none
  | [], _, _ => rfl
  | e :: r, k, h => by
    rw [List.map_cons, List.mem_cons, not_or] at h
    show (if e.1 = k then some e.2 else fnd r k) = none
    rw [if_neg (fun z => h.1 z.symm), fnd_none h.2]
/-- different numbers below k are at most k -/
theorem nd_len : ∀ (k : Nat) (l : List Int), l.Nodup → (∀ x, x ∈ l → 0 ≤ x ∧ x < (k : Int)) → l.length ≤ k
  | 0, l, _, h => by
    cases l with
    | nil => exact Nat.le_refl _
    | cons x r =>
      have := h x List.mem_cons_self
      omega
  | k + 1, l, nd, h => by
    by_cases m : (k : Int) ∈ l
    · have a := nd_len k (l.erase (k : Int)) (nd.erase _) fun x hx => by
        have hx' := (List.Nodup.mem_erase_iff nd).mp hx
        have := h x hx'.2
        have := hx'.1
        omega
      rw [List.length_erase_of_mem m] at a
      omega
    · have a := nd_len k l nd fun x hx => by
        have := h x hx
        have : x ≠ (k : Int) := fun z => m (z ▸ hx)
        omega
      omega
end
/-! ### sums over a dict of fractions -/
def sumE (L : List (Int × Rat)) (g : Int → Rat) : Rat := sumR (L.map fun e => e.2 * g e.1)
theorem sumE_cons (e : Int × Rat) (r : List (Int × Rat)) (g : Int → Rat) : sumE (e :: r) g = e.2 * g e.1 + sumE r g := by
  unfold sumE
  rw [List.map_cons, sumR_cons]
theorem sumE_app (a b : List (Int × Rat)) (g : Int → Rat) : sumE (a ++ b) g = sumE a g + sumE b g := by
  unfold sumE
  rw [List.map_append, sumR_app]
theorem sumE_perm {a b : List (Int × Rat)} (h : a.Perm b) (g : Int → Rat) : sumE a g = sumE b g := by
  induction h with
  | nil => rfl
  | cons x _ ih => rw [sumE_cons, sumE_cons, ih]
  | swap x y l =>
    rw [sumE_cons, sumE_cons, sumE_cons, sumE_cons]
    grind
  | trans _ _ i1 i2 => rw [i1, i2]
theorem rep_none {k : Int} {y : Rat} : ∀ {L : List (Int × Rat)}, k ∉ L.map (·.1) → (L.map fun e => if e.1 = k then (e.1, y) else e) = L
  | [], _ => rfl
  | e :: r, h => by
    rw [List.map_cons, List.mem_cons, not_or] at h
    rw [List.map_cons, if_neg (fun z => h.1 z.symm), rep_none h.2]
theorem sum_rep {g : Int → Rat} {k : Int} {v : Rat} : ∀ {L : List (Int × Rat)}, (L.map (·.1)).Nodup → k ∈ L.map (·.1) → sumE (L.map fun e => if e.1 = k then (e.1, (fnd L k).getD 0 + v) else e) g = sumE L g + v * g k
  | [], _, h => absurd h List.not_mem_nil
  | e :: r, nd, h => by
    rw [List.map_cons] at nd h
    obtain ⟨n1, n2⟩ := List.nodup_cons.mp nd
    have ef : fnd (e :: r) k = if e.1 = k then some e.2 else fnd r k := rfl
    rw [List.map_cons, sumE_cons, sumE_cons]
    by_cases q : e.1 = k
    · rw [ef, if_pos q, if_pos q, rep_none (by rw [← q]; exact n1), ← q]
      show (e.2 + v) * g e.1 + _ = _
      grind
    · have m : k ∈ r.map (·.1) := by
        rcases List.mem_cons.mp h with z | z
        · exact absurd z.symm q
        · exact z
      rw [ef, if_neg q, if_neg q, sum_rep n2 m]
      grind
theorem sum_put {L : List (Int × Rat)} (nd : (L.map (·.1)).Nodup) (g : Int → Rat) (k : Int) (v : Rat) : sumE (put L k ((fnd L k).getD 0 + v)) g = sumE L g + v * g k := by
  have a : L.any (fun e => decide (e.1 = k)) = decide (k ∈ L.map (·.1)) := by
    rw [Bool.eq_iff_iff, List.any_eq_true, decide_eq_true_eq, List.mem_map]
    constructor
    · rintro ⟨e, h1, h2⟩
      exact ⟨e, h1, of_decide_eq_true h2⟩
    · rintro ⟨e, h1, h2⟩
      exact ⟨e, h1, decide_eq_true h2⟩
  unfold put
  rw [a]
  by_cases h : k ∈ L.map (·.1)
  · rw [if_pos (decide_eq_true h)]
    exact sum_rep nd h
  · rw [if_neg (by rw [decide_eq_true_eq]; exact h), fnd_none h, sumE_app, sumE_cons]
    show sumE L g + ((0 + v) * g k + sumR []) = _
    rw [sumR_nil]
    grind
end Tw
set_option Elab.async false
set_option linter.all false
set_option maxRecDepth 100000
set_option maxHeartbeats 4000000
/-! Pl5: dict comprehensions over a dict, plainly -/
namespace Tw
open PySem
section
variable {α : Type} {enc : α → D}
theorem put_new {L : List (Int × α)} {k : Int} (h : k ∉ L.map (·.1)) (y : α) : put L k y = L ++ [(k, y)] := by
  unfold put
  have : L.any (fun e => decide (e.1 = k)) = false := by
    rw [Bool.eq_false_iff]
    intro z
    rw [List.any_eq_true] at z
    obtain ⟨e, h1, h2⟩ := z
    exact h (List.mem_map.mpr ⟨e, h1, of_decide_eq_true h2⟩)
  rw [this]
  rfl
theorem fold_ents : ∀ (M A : List (Int × α)), ((A ++ M).map (·.1)).Nodup → (ents enc M).foldl (fun a p => ptD a p.1 p.2) (ents enc A) = ents enc (A ++ M)
  | [], A, _ => by rw [List.append_nil]; rfl
  | e :: M, A, h => by
    have n : e.1 ∉ A.map (·.1) := fun z => by
      rw [List.map_append, List.map_cons] at h
      exact (List.nodup_append.mp h).2.2 _ z _ List.mem_cons_self rfl
    show (ents enc M).foldl (fun a p => ptD a p.1 p.2) (ptD (ents enc A) (.int e.1) (enc e.2)) = _
    rw [ptD_ents, put_new n]
    have h' : ((A ++ [(e.1, e.2)] ++ M).map (·.1)).Nodup := by
      rw [List.append_assoc]
      exact h
    rw [fold_ents M (A ++ [(e.1, e.2)]) h', List.append_assoc]
    rfl
theorem lcP_f {g : D → Nv → R Nv} {t : Nv → R Bool} {ek ev : Nv → R D} {ε0 : Nv} {F : Int × α → Nv} {p : Int × α → Bool} : ∀ {L : List (Int × α)}, (∀ e, e ∈ L → g (.tuple [.int e.1, enc e.2]) ε0 = .ok (F e)) → (∀ e, e ∈ L → t (F e) = .ok (p e)) → (∀ e, e ∈ L → p e = true → ek (F e) = .ok (.int e.1)) → (∀ e, e ∈ L → p e = true → ev (F e) = .ok (enc e.2)) →
    lcP g t ek ev ε0 (L.map fun e => .tuple [.int e.1, enc e.2]) = .ok (ents enc (L.filter p))
  | [], _, _, _, _ => rfl
  | e :: r, hg, ht, hk, hv => by
    have ih := lcP_f (L := r) (fun x hx => hg x (List.mem_cons_of_mem _ hx)) (fun x hx => ht x (List.mem_cons_of_mem _ hx)) (fun x hx => hk x (List.mem_cons_of_mem _ hx)) (fun x hx => hv x (List.mem_cons_of_mem _ hx))
    have m : e ∈ e :: r := List.mem_cons_self
    show (g (.tuple [.int e.1, enc e.2]) ε0).bind (fun ε1 => (t ε1).bind fun k => if k then (ek ε1).bind fun y => (ev ε1).bind fun z => (lcP g t ek ev ε0 (r.map fun e => .tuple [.int e.1, enc e.2])).bind fun ys => .ok ((y, z) :: ys) else lcP g t ek ev ε0 (r.map fun e => .tuple [.int e.1, enc e.2])) = _
    rw [hg e m, bind_ok, ht e m, bind_ok, ih]
    by_cases q : p e = true
    · rw [q, if_pos rfl, hk e m q, bind_ok, hv e m q, bind_ok, bind_ok, List.filter_cons_of_pos q]
      rfl
    · rw [if_neg q, List.filter_cons_of_neg q]
theorem xDcm_f {vs : List Nat} {mi : Nv → R (List D)} {g : D → Nv → R Nv} {t : Nv → R Bool} {ek ev : Nv → R D} {ε ε0 : Nv} {F : Int × α → Nv} {p : Int × α → Bool} {L : List (Int × α)} (hi : mi ε = .ok (L.map fun e => .tuple [.int e.1, enc e.2])) (hw : wipeE ε vs = ε0) (hg : ∀ e, e ∈ L → g (.tuple [.int e.1, enc e.2]) ε0 = .ok (F e)) (ht : ∀ e, e ∈ L → t (F e) = .ok (p e)) (hk : ∀ e, e ∈ L → p e = true → ek (F e) = .ok (.int e.1)) (hv : ∀ e, e ∈ L → p e = true → ev (F e) = .ok (enc e.2)) (nd : (L.map (·.1)).Nodup) (hl : L.length ≤ lim) :
    xDcm vs mi g t ek ev ε = .ok (dicD enc (L.filter p)) := by
  unfold xDcm
  rw [hi, bind_ok, hw, lcP_f hg ht hk hv, bind_ok]
  have e : (ents enc (L.filter p)).length ≤ lim := by
    unfold ents
    rw [List.length_map]
    exact Nat.le_trans (List.length_filter_le _ _) hl
  have nd' : ((L.filter p).map (·.1)).Nodup := List.Pairwise.sublist (List.Sublist.map _ List.filter_sublist) nd
  rw [okKs_ents, decide_eq_true e]
  have f := fold_ents (enc := enc) (L.filter p) [] (by rw [List.nil_append]; exact nd')
  rw [List.nil_append] at f
  show R.ok (PyData.dict ((ents enc (L.filter p)).foldl (fun a p => ptD a p.1 p.2) (ents enc []))) = _
  rw [f]
  rfl
end
end Tw
set_option Elab.async false
set_option linter.all false
set_option maxRecDepth 100000
set_option maxHeartbeats 4000000
/-! Pl6: dicts whose keys are pairs of whole numbers -/
namespace Tw
open PySem
def kk (s j : Int) : List D := [.int s, .int j]
theorem hit_is {s j : Int} {d : D} (h : hitT (kk s j) d = true) : d = .tuple (kk s j) := by
  unfold hitT kk at h
  split at h
  · rename_i k'
    match k', h with
    | [.int a, .int b], h =>
      have h' : (decide (a = s) && (decide (b = j) && true)) = true := h
      simp only [Bool.and_true, Bool.and_eq_true, decide_eq_true_eq] at h'
      rw [h'.1, h'.2]
      rfl
    | [], h => cases h
    | [.int a], h =>
      have h' : (decide (a = s) && false) = true := h
      simp at h'
    | [.int a, .int b, c], h =>
      have h' : (decide (a = s) && (decide (b = j) && false)) = true := h
      simp at h'
    | .int a :: .int b :: c :: e :: r, h =>
      have h' : (decide (a = s) && (decide (b = j) && false)) = true := h
      simp at h'
    | .none :: _, h => cases h
    | .bool _ :: _, h => cases h
    | .str _ :: _, h => cases h
    | .list _ :: _, h => cases h
    | .tuple _ :: _, h => cases h
    | .dict _ :: _, h => cases h
    | .int a :: .none :: _, h => have h' : (decide (a = s) && false) = true := h; simp at h'
    | .int a :: .bool _ :: _, h => have h' : (decide (a = s) && false) = true := h; simp at h'
    | .int a :: .str _ :: _, h => have h' : (decide (a = s) && false) = true := h; simp at h'
    | .int a :: .list _ :: _, h => have h' : (decide (a = s) && false) = true := h; simp at h'
    | .int a :: .tuple _ :: _, h => have h' : (decide (a = s) && false) = true := h; simp at h'
    | .int a :: .dict _ :: _, h => have h' : (decide (a = s) && false) = true := h; simp at h'
  · cases h
theorem hit_at (s j s' j' : Int) : hitT (kk s j) (.tuple (kk s' j')) = decide (s' = s ∧ j' = j) := by
  show (decide (s' = s) && (decide (j' = j) && true)) = _
  rw [Bool.and_true, Bool.eq_iff_iff, Bool.and_eq_true, decide_eq_true_eq, decide_eq_true_eq, decide_eq_true_eq]
theorem lkT_map {s j s' j' : Int} (d : D) : ∀ es : List (D × D), lkT (es.map fun p => if hitT (kk s j) p.1 then (p.1, d) else p) (kk s' j') = if s' = s ∧ j' = j ∧ es.any (fun p => hitT (kk s j) p.1) = true then some d else lkT es (kk s' j')
  | [] => by
    rw [if_neg (fun z => by cases z.2.2)]
    rfl
  | (k, v) :: es => by
    have ih := lkT_map (s := s) (j := j) (s' := s') (j' := j') d es
    rw [List.map_cons, List.any_cons]
    by_cases h : hitT (kk s j) k = true
    · rw [if_pos h, h]
      have e := hit_is h
      subst e
      show (if hitT (kk s' j') (.tuple (kk s j)) = true then some d else _) = if _ then _ else (if hitT (kk s' j') (.tuple (kk s j)) = true then some v else lkT es (kk s' j'))
      rw [hit_at]
      by_cases q : s' = s ∧ j' = j
      · rw [if_pos (decide_eq_true ⟨q.1.symm, q.2.symm⟩), if_pos ⟨q.1, q.2, rfl⟩]
      · have nq : ¬ (s = s' ∧ j = j') := fun z => q ⟨z.1.symm, z.2.symm⟩
        rw [if_neg (by rw [decide_eq_true_eq]; exact nq), ih, if_neg (fun z => q ⟨z.1, z.2.1⟩), if_neg (fun z => q ⟨z.1, z.2.1⟩), if_neg (by rw [decide_eq_true_eq]; exact nq)]
    · rw [if_neg h, Bool.eq_false_iff.mpr h, Bool.false_or]
      show (if hitT (kk s' j') k = true then some v else lkT _ _) = if _ then _ else (if hitT (kk s' j') k = true then some v else lkT es (kk s' j'))
      by_cases q : hitT (kk s' j') k = true
      · rw [if_pos q, if_pos q, if_neg (fun z => ?_)]
        refine h ?_
        rw [hit_is q, hit_at]
        exact decide_eq_true ⟨z.1, z.2.1⟩
      · rw [if_neg q, if_neg q, ih]
theorem lkT_none {s j : Int} : ∀ {es : List (D × D)}, es.any (fun p => hitT (kk s j) p.1) = false → lkT es (kk s j) = none
  | [], _ => rfl
  | (k, v) :: es, h => by
    rw [List.any_cons, Bool.or_eq_false_iff] at h
    show (if hitT (kk s j) k = true then some v else _) = _
    rw [if_neg (by rw [h.1]; decide), lkT_none h.2]
theorem lkT_app {s j : Int} (k d : D) : ∀ es : List (D × D), lkT (es ++ [(k, d)]) (kk s j) = match lkT es (kk s j) with
    | some v => some v
    | none => if hitT (kk s j) k = true then some d else none
  | [] => rfl
  | (k', v) :: es => by
    show (if hitT (kk s j) k' = true then some v else lkT (es ++ [(k, d)]) (kk s j)) = match (if hitT (kk s j) k' = true then some v else lkT es (kk s j)) with
      | some v => some v
      | none => _
    split
    · rfl
    · exact lkT_app k d es
/-- what is found behind a store -/
theorem lkT_pt (es : List (D × D)) (s j s' j' : Int) (d : D) : lkT (ptT es (kk s j) d) (kk s' j') = if s' = s ∧ j' = j then some d else lkT es (kk s' j') := by
  unfold ptT
  split
  · rename_i h
    rw [lkT_map]
    by_cases q : s' = s ∧ j' = j
    · rw [if_pos ⟨q.1, q.2, h⟩, if_pos q]
    · rw [if_neg (fun z => q ⟨z.1, z.2.1⟩), if_neg q]
  · rename_i h
    have h := Bool.eq_false_iff.mpr h
    rw [lkT_app]
    by_cases q : s' = s ∧ j' = j
    · obtain ⟨rfl, rfl⟩ := q
      rw [lkT_none h]
      show (if hitT (kk s' j') (.tuple (kk s' j')) = true then some d else none) = if s' = s' ∧ j' = j' then some d else none
      rw [hit_at, if_pos (decide_eq_true ⟨rfl, rfl⟩), if_pos ⟨rfl, rfl⟩]
    · rw [if_neg q]
      cases lkT es (kk s' j') with
      | some v => rfl
      | none =>
        show (if hitT (kk s' j') (.tuple (kk s j)) = true then some d else none) = none
        rw [hit_at, if_neg (by rw [decide_eq_true_eq]; exact fun z => q ⟨z.1.symm, z.2.symm⟩)]
theorem ptT_len (es : List (D × D)) (k : List D) (d : D) : (ptT es k d).length ≤ es.length + 1 := by
  unfold ptT
  split
  · rw [List.length_map]
    omega
  · rw [List.length_append, List.length_singleton]
    exact Nat.le_refl _
theorem sDpT_o {j : Nat} {ms : Nv → R (List D)} {me : Nv → R D} {ε ε' : Nv} {es : List (D × D)} {s t : Int} {d : D} (g : gt ε j = .mu (dT1 es)) (h : ms ε = .ok (kk s t)) (h2 : me ε = .ok d) (hl : es.length < lim) (h3 : st ε j (.mu (dT1 (ptT es (kk s t) d))) = ε') : sDpT j ms me ε = .ok (.nx ε') := by
  have hlim : lim = 1000000 := rfl
  unfold sDpT
  rw [h2, bind_ok, h, bind_ok, g, ← h3]
  show (if isKL (kk s t) && decide (es.length < lim) && decide ((kk s t).length < lim) then _ else R.bad) = _
  rw [if_pos]
  rw [decide_eq_true hl, decide_eq_true (show (kk s t).length < lim by show 2 < lim; omega)]
  rfl
theorem xGetT_o {i : Nat} {ms : Nv → R (List D)} {md : Nv → R D} {ε : Nv} {es : List (D × D)} {s t : Int} {d : D} (g : dTOf ε i = some es) (h : ms ε = .ok (kk s t)) (h2 : md ε = .ok d) : xGetT i ms md ε = .ok ((lkT es (kk s t)).getD d) := by
  have hlim : lim = 1000000 := rfl
  unfold xGetT
  rw [g]
  show (ms ε).bind _ = _
  rw [h, bind_ok, h2, bind_ok, if_pos]
  rw [decide_eq_true (show (kk s t).length < lim by show 2 < lim; omega)]
  rfl
theorem xDiT_o {i : Nat} {ms : Nv → R (List D)} {ε : Nv} {es : List (D × D)} {s t : Int} {d : D} (g : dTOf ε i = some es) (h : ms ε = .ok (kk s t)) (h2 : lkT es (kk s t) = some d) : xDiT i ms ε = .ok d := by
  have hlim : lim = 1000000 := rfl
  unfold xDiT
  rw [g]
  show (ms ε).bind _ = _
  rw [h, bind_ok, if_pos, h2]
  rw [decide_eq_true (show (kk s t).length < lim by show 2 < lim; omega)]
  rfl
end Tw
set_option Elab.async false
set_option linter.all false
set_option maxRecDepth 100000
/-! Pl7: blocks with lists that are new: plain -/
namespace Tw
open PySem
theorem runs_bar {L : List Nat} {F : List (Nat × FP)} {m : Nv → R Fl} {ε ε' : Nv} {post : Fl → Prop} (h : L.all (fun j => nmu (gt ε j)) = true) (e : ixE (killS F) 0 ε = ε') (q : Runs m ε' post) : Runs (sBar L F m) ε post := by
  obtain ⟨fl, h1, h2⟩ := q
  refine ⟨fl, ?_, h2⟩
  unfold sBar
  rw [if_pos h, e]
  exact h1
theorem sMt_o {j : Nat} {L : List Nat} {F : List (Nat × FP)} {me : Nv → R D} {ε ε' : Nv} {x : D} {ds : List D} (h : me ε = .ok x) (g : gt ε j = .im (.list ds)) (hl : ds.length < lim) (h1 : ltL ds = true) (h2 : lt x = true) (e : st (ixE (keepS L F) 0 ε) j (.mu (.list (ds ++ [x]))) = ε') : sMt j L F me ε = .ok (.nx ε') := by
  unfold sMt
  rw [h, ← e]
  show (match gt ε j with | .im (.list ds) => _ | _ => _) = _
  rw [g]
  show (if ds.length < lim then _ else _) = _
  rw [if_pos hl, h1, h2]
  rfl
theorem sMt_h {j : Nat} {L : List Nat} {F : List (Nat × FP)} {me : Nv → R D} {ε ε' : Nv} {x : D} {ds : List D} (h : me ε = .ok x) (g : gt ε j = .im (.list ds)) (hl : ds.length < lim) (h1 : (ltL ds && lt x) = false) (e : ixE (keepS L F) 0 ε = ε') : sMt j L F me ε = .ok (.nx ε') := by
  unfold sMt
  rw [h, ← e]
  show (match gt ε j with | .im (.list ds) => _ | _ => _) = _
  rw [g]
  show (if ds.length < lim then _ else _) = _
  rw [if_pos hl, h1]
  rfl
theorem sMtI_o {j i : Nat} {L : List Nat} {F : List (Nat × FP)} {me : Nv → R D} {ε ε' : Nv} {x d : D} {ds : List D} (h : me ε = .ok x) (g : gt ε j = .im d) (hd : itemL j F i d = some ds) (hl : ds.length < lim) (e : ixE (keepS L F) 0 ε = ε') : sMtI j i L F me ε = .ok (.nx ε') := by
  unfold sMtI
  rw [h, ← e]
  show (match gt ε j with | .im d => _ | _ => _) = _
  rw [g]
  show (match itemL j F i d with | some ds => _ | none => _) = _
  rw [hd]
  show (if ds.length < lim then _ else _) = _
  rw [if_pos hl]
theorem ltL_map {α : Type} {enc : α → D} (h : ∀ a, lt (enc a) = true) : ∀ l : List α, ltL (l.map enc) = true
  | [] => rfl
  | a :: l => by
    rw [List.map_cons]
    unfold ltL
    rw [h a, ltL_map h l]
    rfl
end Tw
set_option Elab.async false
set_option linter.all false
set_option maxRecDepth 100000
set_option maxHeartbeats 4000000
/-! the programs over data of each def -/
namespace My
open PySem PySem.Spec PyProof.Rows L2 Tw
def fuel : Nat := 100000
/-- check_kinds (kinds): 0 kinds -/
def m_check_kinds : Nv → R Fl :=
  (sIf (tNo (tC' (xCh dLe dLe (xC (.int 2)) (xV 0) (xC (.int 12)))))
  sNo
  sNil)
def f_check_kinds : List D → R D := runF 1 1 m_check_kinds
/-- check_lists (kinds, lists): 0 kinds 1 lists 2 i 3 told 4 kind 5 one 6 two -/
def m_check_lists : Nv → R Fl :=
  (sFor (iEnu (xCons (xV 1) xNil)) (bT 2 (bsC (bN 2) (bsC (bN 3) bs0)))
  (sSeq (sIf (tOrr (tC' (xBin dEq (xCall cLen (xCons (xV 3) xNil)) (xC (.int 0)))) (tNo (tV (xCall cAll (xCons (xLc [4] (iSeq (xV 3)) (bN 4) tYe (xCh dLe dLt (xC (.int 0)) (xV 4) (xV 0))) xNil)))))
    sNo
    sNil)
    (sIf (tNo (tV (xCall cAll (xCons (xLc [5, 6] (iZi (xCons (xV 3) (xCons (xSl (xV 3) (oSome (xC (.int 1))) oNone) xNil))) (bT 2 (bsC (bN 5) (bsC (bN 6) bs0))) tYe (xBin dLt (xV 5) (xV 6))) xNil))))
    sNo
    sNil)))
def f_check_lists : List D → R D := runF 2 7 m_check_lists
/-- check_blocks (kinds, blocks): 0 kinds 1 blocks -/
def m_check_blocks : Nv → R Fl :=
  (sSeq (sDr (xCall f_check_kinds (xCons (xV 0) xNil)))
  (sSeq (sIf (tNo (tC' (xCh dLe dLe (xC (.int 1)) (xCall cLen (xCons (xV 1) xNil)) (xC (.int 60)))))
  sNo
  sNil)
  (sDr (xCall f_check_lists (xCons (xV 0) (xCons (xV 1) xNil))))))
def f_check_blocks : List D → R D := runF 2 2 m_check_blocks
/-- count_of (blocks, told): 0 blocks 1 told 2 block 3 kind -/
def m_count_of : Nv → R Fl :=
  (sRt (xCall cLen (xCons (xLc [2] (iSeq (xV 0)) (bN 2) (tV (xCall cAll (xCons (xLc [3] (iSeq (xV 1)) (bN 3) tYe (xBin dIn (xV 3) (xV 2))) xNil))) (xV 2)) xNil)))
def f_count_of : List D → R D := runF 2 4 m_count_of
/-- pairs_by (kinds, blocks): 0 kinds 1 blocks 2 found 3 one 4 two -/
def m_pairs_by : Nv → R Fl :=
  (sSeq (sAsM 2 xD0T)
  (sSeq (sFor (iRange1 (xCons (xV 0) xNil)) (bN 3)
  (sFor (iRange2 (xCons (xBin dAdd (xV 3) (xC (.int 1))) (xCons (xV 0) xNil))) (bN 4)
    (sDpT 2 (xCons (xV 3) (xCons (xV 4) xNil)) (xCall f_count_of (xCons (xV 1) (xCons (xTup (xCons (xV 3) (xCons (xV 4) xNil))) xNil))))))
  (sRtM 2)))
def f_pairs_by : List D → R D := runF 2 5 m_pairs_by
/-- pair_counts (kinds, blocks): 0 kinds 1 blocks -/
def m_pair_counts : Nv → R Fl :=
  (sSeq (sDr (xCall f_check_blocks (xCons (xV 0) (xCons (xV 1) xNil))))
  (sRt (xCall f_pairs_by (xCons (xV 0) (xCons (xV 1) xNil)))))
def f_pair_counts : List D → R D := runF 2 2 m_pair_counts
/-- balance (kinds, blocks): 0 kinds 1 blocks 2 sizes 3 found 4 counts 5 block 6 pair -/
def m_balance : Nv → R Fl :=
  (sSeq (sDr (xCall f_check_blocks (xCons (xV 0) (xCons (xV 1) xNil))))
  (sSeq (sAs 2 (xUn dS1 (xLc [5] (iSeq (xV 1)) (bN 5) tYe (xCall cLen (xCons (xV 5) xNil)))))
  (sSeq (sAs 3 (xCall f_pairs_by (xCons (xV 0) (xCons (xV 1) xNil))))
  (sSeq (sAs 4 (xUn dS1 (xVls 3 6)))
  (sSeq (sIf (tOrr (tC' (xBin dGt (xCall cLen (xCons (xV 2) xNil)) (xC (.int 1)))) (tOrr (tNo (tC' (xCh dLe dLt (xC (.int 2)) (xCall cLen (xCons (xBin dIx (xV 1) (xC (.int 0))) xNil)) (xV 0)))) (tOrr (tC' (xBin dGt (xCall cLen (xCons (xV 4) xNil)) (xC (.int 1)))) (tC' (xBin dIn (xC (.int 0)) (xV 4))))))
  (sRt (xC .none))
  sNil)
  (sRt (xTup (xCons (xCall f_count_of (xCons (xV 1) (xCons (xTup (xCons (xC (.int 0)) xNil)) xNil))) (xCons (xDiT 3 (xCons (xC (.int 0)) (xCons (xC (.int 1)) xNil))) xNil)))))))))
def f_balance : List D → R D := runF 2 7 m_balance
/-- check_base (kinds, base): 0 kinds 1 base -/
def m_check_base : Nv → R Fl :=
  (sSeq (sDr (xCall f_check_kinds (xCons (xV 0) xNil)))
  (sSeq (sIf (tNo (tC' (xCh dLe dLe (xC (.int 1)) (xCall cLen (xCons (xV 1) xNil)) (xC (.int 5)))))
  sNo
  sNil)
  (sDr (xCall f_check_lists (xCons (xV 0) (xCons (xV 1) xNil))))))
def f_check_base : List D → R D := runF 2 2 m_check_base
/-- differences (kinds, base): 0 kinds 1 base 2 found 3 told 4 one 5 two -/
def m_differences : Nv → R Fl :=
  (sSeq (sDr (xCall f_check_base (xCons (xV 0) (xCons (xV 1) xNil))))
  (sSeq (sAsM 2 (xBin dRep (xLst (xCons (xC (.int 0)) xNil)) (xBin dSub (xV 0) (xC (.int 1)))))
  (sSeq (sFor (iSeq (xV 1)) (bN 3)
  (sFor (iSeq (xV 3)) (bN 4)
    (sFor (iSeq (xV 3)) (bN 5)
      (sIf (tC' (xBin dNe (xV 4) (xV 5)))
        (sSt 2 (xBin dSub (xBin dMod (xBin dSub (xV 5) (xV 4)) (xV 0)) (xC (.int 1))) (xBin dAdd (xIm 2 (xBin dSub (xBin dMod (xBin dSub (xV 5) (xV 4)) (xV 0)) (xC (.int 1)))) (xC (.int 1))))
        sNil))))
  (sRtM 2))))
def f_differences : List D → R D := runF 2 6 m_differences
/-- developed (kinds, base): 0 kinds 1 base 2 told 3 step 4 kind -/
def m_developed : Nv → R Fl :=
  (sSeq (sDr (xCall f_check_base (xCons (xV 0) (xCons (xV 1) xNil))))
  (sRt (xLc2 [2, 3] [3] (iSeq (xV 1)) (bN 2) tYe (iRange1 (xCons (xV 0) xNil)) (bN 3) tYe (xCall kSort (xCons (xLc [4] (iSeq (xV 2)) (bN 4) tYe (xBin dMod (xBin dAdd (xV 4) (xV 3)) (xV 0))) xNil)))))
def f_developed : List D → R D := runF 2 5 m_developed
/-- _law_draws (script): 0 script 1 draws 2 k 3 rest 4 turn 5 mixed -/
def m__law_draws : Nv → R Fl :=
  (sSeq (sAsM 1 (xLst xNil))
  (sSeq (sFor (iRange1 (xCons (xCall kMin (xCons (xC (.int 63)) (xCons (xCall cLen (xCons (xV 0) xNil)) xNil))) xNil)) (bN 2)
  (sSeq (sAs 3 (xCall cAbs (xCons (xBin dIx (xV 0) (xV 2)) xNil)))
    (sIf (tC' (xBin dGe (xV 3) (xBin dPow (xC (.int 10)) (xC (.int 18)))))
    (sFor (iRange1 (xCons (xC (.int 60)) xNil)) (bN 4)
      (sIf (tC' (xBin dGt (xV 3) (xC (.int 0))))
        (sSeq (sAp 1 (xBin dMod (xCall cInt (xCons (xV 3) xNil)) (xC (.int 65536))))
          (sAs 3 (xBin dDiv (xV 3) (xC (.int 65536)))))
        sNil))
    (sSeq (sAs 5 (xBin dMod (xCall cInt (xCons (xBin dAdd (xBin dMul (xV 3) (xC (.int 48271))) (xBin dMul (xBin dAdd (xV 2) (xC (.int 1))) (xC (.int 69621)))) xNil)) (xC (.int 2147483647))))
      (sSeq (sAs 5 (xBin dMod (xCall cInt (xCons (xBin dAdd (xBin dAdd (xBin dMul (xV 5) (xC (.int 16807))) (xBin dMul (xC (.int 11)) (xV 2))) (xC (.int 5))) xNil)) (xC (.int 2147483629))))
      (sSeq (sAp 1 (xBin dMod (xCall cInt (xCons (xV 5) xNil)) (xC (.int 65536))))
      (sAp 1 (xBin dMod (xCall cInt (xCons (xBin dDiv (xV 5) (xC (.int 65536))) xNil)) (xC (.int 32768))))))))))
  (sRtM 1)))
def f__law_draws : List D → R D := runF 1 6 m__law_draws
/-- _law_mix (draws, k, many): 0 draws 1 k 2 many 3 value -/
def m__law_mix : Nv → R Fl :=
  (sSeq (sAs 3 (xC (.int 0)))
  (sSeq (sIf (tC' (xBin dGt (xCall cLen (xCons (xV 0) xNil)) (xC (.int 0))))
  (sAs 3 (xBin dIx (xV 0) (xBin dMod (xCall cInt (xCons (xV 1) xNil)) (xCall cLen (xCons (xV 0) xNil)))))
  sNil)
  (sSeq (sIf (tC' (xBin dLt (xV 1) (xCall cLen (xCons (xV 0) xNil))))
  (sRt (xBin dMod (xCall cInt (xCons (xV 3) xNil)) (xV 2)))
  sNil)
  (sRt (xBin dMod (xCall cInt (xCons (xBin dDiv (xCall cInt (xCons (xBin dAdd (xBin dMul (xV 3) (xC (.int 7919))) (xBin dMul (xV 1) (xC (.int 104729)))) xNil)) (xC (.int 3))) xNil)) (xV 2))))))
def f__law_mix : List D → R D := runF 3 4 m__law_mix
/-- _law_base (draws, k, kinds): 0 draws 1 k 2 kinds 3 found 4 size 5 t 6 told 7 j -/
def m__law_base : Nv → R Fl :=
  (sSeq (sAsM 3 (xLst xNil))
  (sSeq (sAs 4 (xBin dAdd (xC (.int 1)) (xCall f__law_mix (xCons (xV 0) (xCons (xBin dAdd (xV 1) (xC (.int 1))) (xCons (xC (.int 5)) xNil))))))
  (sSeq (sFor (iRange1 (xCons (xBin dAdd (xC (.int 1)) (xCall f__law_mix (xCons (xV 0) (xCons (xV 1) (xCons (xC (.int 3)) xNil))))) xNil)) (bN 5)
  (sSeq (sAs 6 (xUn dS2 (xLc [7] (iRange1 (xCons (xV 4) xNil)) (bN 7) tYe (xCall f__law_mix (xCons (xV 0) (xCons (xBin dAdd (xBin dAdd (xBin dAdd (xV 1) (xC (.int 4))) (xBin dMul (xC (.int 6)) (xV 5))) (xV 7)) (xCons (xV 2) xNil)))))))
    (sAp 3 (xV 6))))
  (sRtM 3))))
def f__law_base : List D → R D := runF 3 8 m__law_base
/-- law (script): 0 script 1 draws 2 turn 3 kinds 4 base 5 kept 6 due 7 told 8 blocks 9 pairs 10 even 11 one 12 step 13 found 14 made 15 two 16 gap 17 kind -/
def m_law : Nv → R Fl :=
  (sSeq (sAs 1 (xCall f__law_draws (xCons (xV 0) xNil)))
  (sSeq (sFor (iRange1 (xCons (xC (.int 3)) xNil)) (bN 2)
  (sSeq (sAs 3 (xBin dAdd (xC (.int 2)) (xCall f__law_mix (xCons (xV 1) (xCons (xV 2) (xCons (xC (.int 11)) xNil))))))
    (sSeq (sAs 4 (xCall f__law_base (xCons (xV 1) (xCons (xBin dAdd (xC (.int 10)) (xBin dMul (xC (.int 30)) (xV 2))) (xCons (xV 3) xNil)))))
    (sSeq (sIf (tC' (xBin dEq (xCall f__law_mix (xCons (xV 1) (xCons (xBin dAdd (xC (.int 3)) (xV 2)) (xCons (xC (.int 3)) xNil)))) (xC (.int 0))))
    (sUn (xBin dIx (xLst (xCons (xTup (xCons (xC (.int 7)) (xCons (xLst (xCons (xLst (xCons (xC (.int 1)) (xCons (xC (.int 2)) (xCons (xC (.int 4)) xNil)))) xNil)) xNil))) (xCons (xTup (xCons (xC (.int 11)) (xCons (xLst (xCons (xLst (xCons (xC (.int 1)) (xCons (xC (.int 3)) (xCons (xC (.int 4)) (xCons (xC (.int 5)) (xCons (xC (.int 9)) xNil)))))) xNil)) xNil))) (xCons (xTup (xCons (xC (.int 7)) (xCons (xLst (xCons (xLst (xCons (xC (.int 0)) (xCons (xC (.int 1)) (xCons (xC (.int 3)) xNil)))) (xCons (xLst (xCons (xC (.int 0)) (xCons (xC (.int 2)) (xCons (xC (.int 3)) xNil)))) xNil))) xNil))) (xCons (xTup (xCons (xC (.int 4)) (xCons (xLst (xCons (xLst (xCons (xC (.int 0)) (xCons (xC (.int 1)) (xCons (xC (.int 2)) xNil)))) xNil)) xNil))) (xCons (xTup (xCons (xC (.int 5)) (xCons (xLst (xCons (xLst (xCons (xC (.int 0)) (xCons (xC (.int 1)) xNil))) (xCons (xLst (xCons (xC (.int 0)) (xCons (xC (.int 2)) xNil))) xNil))) xNil))) (xCons (xTup (xCons (xC (.int 3)) (xCons (xLst (xCons (xLst (xCons (xC (.int 0)) (xCons (xC (.int 1)) xNil))) xNil)) xNil))) xNil))))))) (xCall f__law_mix (xCons (xV 1) (xCons (xBin dAdd (xC (.int 6)) (xV 2)) (xCons (xC (.int 6)) xNil))))) (bT 2 (bsC (bN 3) (bsC (bN 4) bs0))))
    sNil)
    (sSeq (sAs 5 (xCall cRepr (xCons (xV 4) xNil)))
    (sSeq (sAsM 6 (xBin dRep (xLst (xCons (xC (.int 0)) xNil)) (xBin dSub (xV 3) (xC (.int 1)))))
    (sSeq (sFor (iSeq (xV 4)) (bN 7)
    (sFor (iSeq (xV 7)) (bN 11)
      (sFor (iSeq (xV 7)) (bN 15)
        (sIf (tC' (xBin dNe (xV 11) (xV 15)))
          (sSeq (sAs 16 (xBin dMod (xCall cInt (xCons (xBin dSub (xV 15) (xV 11)) xNil)) (xV 3)))
            (sSt 6 (xBin dSub (xV 16) (xC (.int 1))) (xBin dAdd (xIm 6 (xBin dSub (xV 16) (xC (.int 1)))) (xC (.int 1)))))
          sNil))))
    (sSeq (sFz 6) (sSeq (sAsM 8 (xLst xNil))
    (sSeq (sFor (iSeq (xV 4)) (bN 7)
    (sFor (iRange1 (xCons (xV 3) xNil)) (bN 12)
      (sAp 8 (xCall kSort (xCons (xLc [17] (iSeq (xV 7)) (bN 17) tYe (xBin dMod (xCall cInt (xCons (xBin dAdd (xV 17) (xV 12)) xNil)) (xV 3))) xNil)))))
    (sSeq (sFz 8) (sBar [1, 2, 3, 4, 5, 6, 8] [(14, .each)]
    (sSeq (sPm 13 true 14 false (xCall f_differences (xCons (xV 3) (xCons (xV 4) xNil))) (xCall f_developed (xCons (xV 3) (xCons (xV 4) xNil))))
    (sSeq (sIf (tOrr (tTh (tC' (xBin dNe (xCall cRepr (xCons (xV 13) xNil)) (xCall cRepr (xCons (xV 6) xNil))))) (tC' (xBin dNe (xCall cRepr (xCons (xV 14) xNil)) (xCall cRepr (xCons (xV 8) xNil)))))
    (sRt (xC (.bool false)))
    sNil)
    (sSeq (sAs 9 (xCall f_pair_counts (xCons (xV 3) (xCons (xV 8) xNil))))
    (sSeq (sFk 9 11 15 [3, 6, 11, 15] (tOrr (tC' (xBin dNe (xDiT 9 (xCons (xV 11) (xCons (xV 15) xNil))) (xBin dIx (xV 6) (xBin dSub (xBin dSub (xV 15) (xV 11)) (xC (.int 1)))))) (tC' (xBin dNe (xBin dIx (xV 6) (xBin dSub (xBin dSub (xV 15) (xV 11)) (xC (.int 1)))) (xBin dIx (xV 6) (xBin dSub (xBin dSub (xV 3) (xBin dSub (xV 15) (xV 11))) (xC (.int 1))))))))
    (sSeq (sAs 10 (xAn (xBin dEq (xUn dLs (xV 6)) (xC (.int 1))) (xAn (xBin dGt (xBin dIx (xV 6) (xC (.int 0))) (xC (.int 0))) (xAn (xBin dEq (xUn dLs (xLc [7] (iSeq (xV 4)) (bN 7) tYe (xCall cLen (xCons (xV 7) xNil)))) (xC (.int 1))) (xCh dLe dLt (xC (.int 2)) (xCall cLen (xCons (xBin dIx (xV 4) (xC (.int 0))) xNil)) (xV 3))))))
    (sSeq (sIf (tC' (xBin dNe (xBin dIsNot (xCall f_balance (xCons (xV 3) (xCons (xV 8) xNil))) (xC .none)) (xV 10)))
    (sRt (xC (.bool false)))
    sNil)
    (sSeq (sIf (tAn (tV (xV 10)) (tC' (xBin dNe (xCall f_balance (xCons (xV 3) (xCons (xV 8) xNil))) (xTup (xCons (xBin dMul (xCall cLen (xCons (xV 4) xNil)) (xCall cLen (xCons (xBin dIx (xV 4) (xC (.int 0))) xNil))) (xCons (xBin dIx (xV 6) (xC (.int 0))) xNil))))))
    (sRt (xC (.bool false)))
    sNil)
    (sSeq (sMtI 14 0 [1, 2, 3, 4, 5, 6, 8] [(14, .each)] (xC (.int 99)))
    (sSeq (sAp 13 (xC (.int 0)))
    (sIf (tOrr (tC' (xBin dNe (xCall cRepr (xCons (xCall f_developed (xCons (xV 3) (xCons (xV 4) xNil))) xNil)) (xCall cRepr (xCons (xV 8) xNil)))) (tC' (xBin dNe (xCall cRepr (xCons (xV 4) xNil)) (xV 5))))
    (sRt (xC (.bool false)))
    sNil))))))))))))))))))))))
  (sSeq (sIf (tOrr (tC' (xBin dNe (xCall f_balance (xCons (xC (.int 7)) (xCons (xCall f_developed (xCons (xC (.int 7)) (xCons (xLst (xCons (xLst (xCons (xC (.int 1)) (xCons (xC (.int 2)) (xCons (xC (.int 4)) xNil)))) xNil)) xNil))) xNil))) (xTup (xCons (xC (.int 3)) (xCons (xC (.int 1)) xNil))))) (tC' (xBin dNe (xCall f_balance (xCons (xC (.int 11)) (xCons (xCall f_developed (xCons (xC (.int 11)) (xCons (xLst (xCons (xLst (xCons (xC (.int 1)) (xCons (xC (.int 3)) (xCons (xC (.int 4)) (xCons (xC (.int 5)) (xCons (xC (.int 9)) xNil)))))) xNil)) xNil))) xNil))) (xTup (xCons (xC (.int 5)) (xCons (xC (.int 2)) xNil))))))
  (sRt (xC (.bool false)))
  sNil)
  (sRt (xBin dIs (xCall f_balance (xCons (xC (.int 12)) (xCons (xCall f_developed (xCons (xC (.int 11)) (xCons (xLst (xCons (xLst (xCons (xC (.int 1)) (xCons (xC (.int 3)) (xCons (xC (.int 4)) (xCons (xC (.int 5)) (xCons (xC (.int 9)) xNil)))))) xNil)) xNil))) xNil))) (xC .none))))))
def f_law : List D → R D := runF 1 18 m_law
end My
set_option Elab.async false
set_option linter.all false
set_option maxRecDepth 100000
set_option maxHeartbeats 4000000
/-! PlDraws: the draws and their mixing, the same in every law -/
namespace My
open PySem Tw
local macro_rules | `(tactic| walk_at "ev") => `(tactic| simp only [xCall, xCons, xNil, xBin, xUn, xV, xC, xTup, xLst, xIm, gt, st, bind_ok, R.bind, bN, bT, bsC, bs0, tC', tV, tNo, tAn, tOrr, boD, truD, iSeq, dAdd_i, dSub_i, dNeg_i, dLt_i, dLe_i, dGt_i, dGe_i, dEq_int, dNe_int, cLen_l, cLen_t, cInt_i, cInt_b, cAbs_i, kMax_i, kMin_i, List.length_map, List.length_cons, List.length_nil])
def il (l : List Int) : D := .list (l.map PyData.int)
/-- what _law_draws gives: ints from 0 on, below 65536, at most 3780 -/
structure DrawsOk (ds : List Int) : Prop where
  len : ds.length ≤ 3780
  mem : ∀ d, d ∈ ds → 0 ≤ d ∧ d < 65536
theorem below_app {ds : List Int} {d : Int} (h1 : ∀ d, d ∈ ds → 0 ≤ d ∧ d < 65536) (h : 0 ≤ d ∧ d < 65536) : ∀ e, e ∈ ds ++ [d] → 0 ≤ e ∧ e < 65536 := fun e he => by
  rcases List.mem_append.mp he with z | z
  · exact h1 e z
  · rw [List.mem_singleton] at z
    rw [z]
    exact h
theorem il_app (ds : List Int) (d : Int) : (ds.map PyData.int) ++ [PyData.int d] = (ds ++ [d]).map PyData.int := by rw [List.map_append]; rfl
theorem lim_eq : lim = 1000000 := rfl
theorem mod_in (x : Int) {n : Int} (h : 0 < n) : 0 ≤ x % n ∧ x % n < n := ⟨Int.emod_nonneg _ (by omega), Int.emod_lt_of_pos _ h⟩
theorem draws_ok {ns : List Int} (hn : ns.length ≤ 63) : ∃ ds, f__law_draws [il ns] = .ok (il ds) ∧ DrawsOk ds := by
  have hlim := lim_eq
  have main : ∃ d, f__law_draws [il ns] = .ok d ∧ ∃ ds, d = il ds ∧ DrawsOk ds := by
    unfold f__law_draws
    refine runF_some rfl ?_
    unfold m__law_draws
    refine runs_sn (ε' := [.im (il ns), .mu (.list []), .no, .no, .no, .no]) (by rw [sAsM_ok (d := .list []) (by walk_at "ev")]; rfl) ?_
    refine runs_seq (runs_for (ds := rangeD 0 ns.length) (fun i ε => ∃ ds a b c d, ε = [.im (il ns), .mu (il ds), a, b, c, d] ∧ ds.length ≤ 60 * i ∧ ∀ d, d ∈ ds → 0 ≤ d ∧ d < 65536) ?_ ⟨[], _, _, _, _, rfl, by simp, by simp⟩ ?_ ?_)
    · rw [iRange1_ok (j := (ns.length : Int)) ?_ (by omega) (by omega)]
      · rfl
      · simp only [il]
        walk_at "ev"
        rw [show (if (ns.length : Int) < 63 then (ns.length : Int) else 63) = ns.length by split <;> omega]
    · rintro i d ε hd ⟨ds, a, b, c, e, rfl, hl, hm⟩
      obtain ⟨hi, rfl⟩ := rangeD_get hd
      have hidx := dIx_ints (l := ns) (i := (i : Int)) (by omega) (by omega)
      refine ⟨[.im (il ns), .mu (il ds), .im (.int (i : Int)), b, c, e], by simp only [bN, st, Int.zero_add], ?_⟩
      obtain ⟨r, hr⟩ : ∃ r, r = (if ns.getD (i : Int).toNat 0 < 0 then -(ns.getD (i : Int).toNat 0) else ns.getD (i : Int).toNat 0) := ⟨_, rfl⟩
      have hr0 : 0 ≤ r := by rw [hr]; split <;> omega
      refine runs_sn (ε' := [.im (il ns), .mu (il ds), .im (.int (i : Int)), .im (.int r), c, e]) ?_ ?_
      · rw [sAs_ok (d := .int r) ?_]
        · rfl
        · simp only [il]
          walk_at "ev"
          rw [hidx]
          walk_at "ev"
          rw [hr]
      · have h18 : dPow (.int 10) (.int 18) = .ok (.int 1000000000000000000) := dPow_i (by decide) (by decide) (by decide)
        refine runs_if (b := decide ((1000000000000000000 : Int) ≤ r)) ?_ (fun hb => ?_) (fun hb => ?_)
        · walk_at "ev"
          rw [h18]
          walk_at "ev"
        · -- a long cell: its digits
          refine runs_for (ds := rangeD 0 60) (fun j ε => ∃ ds r c, ε = [.im (il ns), .mu (il ds), .im (.int (i : Int)), .im (.int r), c, e] ∧ 0 ≤ r ∧ ds.length ≤ 60 * i + j ∧ ∀ d, d ∈ ds → 0 ≤ d ∧ d < 65536) ?_ ⟨ds, r, c, rfl, hr0, by omega, hm⟩ ?_ ?_
          · rw [iRange1_ok (j := 60) (by walk_at "ev") (by decide) (by decide)]
            rfl
          · rintro j d ε hd ⟨ds, r, c, rfl, hr0, hl, hm⟩
            obtain ⟨hj, rfl⟩ := rangeD_get hd
            refine ⟨[.im (il ns), .mu (il ds), .im (.int (i : Int)), .im (.int r), .im (.int ((j : Nat) : Int)), e], by simp only [bN, st, Int.zero_add], ?_⟩
            refine runs_if (b := decide (0 < r)) (by walk_at "ev") (fun hb => ?_) (fun hb => ?_)
            · refine runs_sn (ε' := [.im (il ns), .mu (il (ds ++ [r % 65536])), .im (.int (i : Int)), .im (.int r), .im (.int ((j : Nat) : Int)), e]) ?_ ?_
              · rw [sAp_ok (d := .int (r % 65536)) (ds := ds.map PyData.int) ?_ rfl (by rw [List.length_map]; omega)]
                · rw [il_app]
                  rfl
                · walk_at "ev"
                  rw [dMod_ok (by decide)]
              · refine runs_eq (sAs_ok (d := .int (r / 65536)) ?_) ⟨ds ++ [r % 65536], r / 65536, _, rfl, by omega, ?_, below_app hm (mod_in r (by decide))⟩
                · walk_at "ev"
                  rw [dDiv_small (by decide) (by decide)]
                · rw [List.length_append, List.length_singleton]
                  omega
            · exact runs_eq rfl ⟨ds, r, _, rfl, hr0, by omega, hm⟩
          · rintro ε' ⟨ds, r, c, rfl, hr0, hl, hm⟩
            rw [rangeD_len] at hl
            exact ⟨ds, _, _, _, _, rfl, by omega, hm⟩
        · -- a short one: two mixed numbers
          have hb' : r < 1000000000000000000 := by
            have := of_decide_eq_false hb
            omega
          obtain ⟨m1, e1⟩ : ∃ m1 : Int, m1 = (r * 48271 + ((i : Int) + 1) * 69621) % 2147483647 := ⟨_, rfl⟩
          have b1 : 0 ≤ m1 ∧ m1 < 2147483647 := by rw [e1]; exact mod_in _ (by decide)
          obtain ⟨m2, e2⟩ : ∃ m2 : Int, m2 = (m1 * 16807 + 11 * (i : Int) + 5) % 2147483629 := ⟨_, rfl⟩
          have b2 : 0 ≤ m2 ∧ m2 < 2147483629 := by rw [e2]; exact mod_in _ (by decide)
          refine runs_sn (ε' := [.im (il ns), .mu (il ds), .im (.int (i : Int)), .im (.int r), c, .im (.int m1)]) ?_ ?_
          · rw [sAs_ok (d := .int m1) ?_]
            · rfl
            · walk_at "ev"
              rw [dMul_small (by omega) (by decide), dMul_small (by omega) (by decide)]
              walk_at "ev"
              rw [dMod_ok (by decide), e1]
          refine runs_sn (ε' := [.im (il ns), .mu (il ds), .im (.int (i : Int)), .im (.int r), c, .im (.int m2)]) ?_ ?_
          · rw [sAs_ok (d := .int m2) ?_]
            · rfl
            · walk_at "ev"
              rw [dMul_small (by omega) (by decide), dMul_small (by decide) (by omega)]
              walk_at "ev"
              rw [dMod_ok (by decide), e2]
          refine runs_sn (ε' := [.im (il ns), .mu (il (ds ++ [m2 % 65536])), .im (.int (i : Int)), .im (.int r), c, .im (.int m2)]) ?_ ?_
          · rw [sAp_ok (d := .int (m2 % 65536)) (ds := ds.map PyData.int) ?_ rfl (by rw [List.length_map]; omega)]
            · rw [il_app]
              rfl
            · walk_at "ev"
              rw [dMod_ok (by decide)]
          refine runs_eq (sAp_ok (d := .int (m2 / 65536 % 32768)) (ds := (ds ++ [m2 % 65536]).map PyData.int) ?_ rfl (by rw [List.length_map, List.length_append, List.length_singleton]; omega)) ?_
          · walk_at "ev"
            rw [dDiv_small (by decide) (by decide)]
            walk_at "ev"
            rw [dMod_ok (by decide)]
          · refine ⟨ds ++ [m2 % 65536] ++ [m2 / 65536 % 32768], _, _, _, _, by rw [il_app]; rfl, ?_, below_app (below_app hm (mod_in _ (by decide))) ?_⟩
            · rw [List.length_append, List.length_append, List.length_singleton, List.length_singleton]
              omega
            · have := mod_in (m2 / 65536) (n := 32768) (by decide)
              omega
    · rintro ε' ⟨ds, a, b, c, d, rfl, hl, hm⟩
      rw [rangeD_len] at hl
      exact runs_eq rfl ⟨_, rfl, ds, rfl, by omega, hm⟩
  obtain ⟨d, h1, ds, rfl, h2⟩ := main
  exact ⟨ds, h1, h2⟩
theorem mix_ok {ds : List Int} (h : DrawsOk ds) {k many : Int} (h0 : 0 ≤ k) (hk : k < 2 ^ 40) (h1 : 0 < many) : ∃ r, f__law_mix [il ds, .int k, .int many] = .ok (.int r) ∧ 0 ≤ r ∧ r < many := by
  have main : ∃ d, f__law_mix [il ds, .int k, .int many] = .ok d ∧ ∃ r, d = .int r ∧ 0 ≤ r ∧ r < many := by
    unfold f__law_mix
    refine runF_some rfl ?_
    unfold m__law_mix
    refine runs_sn (ε' := [.im (il ds), .im (.int k), .im (.int many), .im (.int 0)]) (by rw [sAs_ok (d := .int 0) (by walk_at "ev")]; rfl) ?_
    refine runs_seq (Runs.mono (p := fun fl => ∃ v : Int, 0 ≤ v ∧ v < 65536 ∧ fl = .nx [.im (il ds), .im (.int k), .im (.int many), .im (.int v)]) ?_ ?_)
    · refine runs_if (b := decide (0 < (ds.length : Int))) ?_ (fun hb => ?_) (fun hb => ?_)
      · simp only [il]
        walk_at "ev"
      · have hl : 0 < (ds.length : Int) := of_decide_eq_true hb
        have hm := mod_in k hl
        have hidx := dIx_ints (l := ds) (i := k % ds.length) hm.1 hm.2
        have hin : ds.getD (k % ds.length).toNat 0 ∈ ds := by
          rw [List.getD_eq_getElem?_getD, List.getElem?_eq_getElem (by omega)]
          exact List.getElem_mem _
        refine runs_eq (sAs_ok (d := .int (ds.getD (k % ds.length).toNat 0)) ?_) ⟨_, (h.mem _ hin).1, (h.mem _ hin).2, rfl⟩
        simp only [il]
        walk_at "ev"
        rw [dMod_ok hl]
        walk_at "ev"
        rw [hidx]
      · exact runs_eq rfl ⟨0, by decide, by decide, rfl⟩
    · rintro fl ⟨v, v0, v1, rfl⟩
      show Runs _ _ _
      refine runs_seq ?_
      refine runs_if (b := decide (k < (ds.length : Int))) ?_ (fun hb => ?_) (fun hb => ?_)
      · simp only [il]
        walk_at "ev"
      · refine runs_eq (sRt_ok (d := .int (v % many)) ?_) ⟨_, rfl, _, rfl, mod_in _ h1⟩
        walk_at "ev"
        rw [dMod_ok h1]
      · refine runs_eq rfl ?_
        show Runs _ _ _
        refine runs_eq (sRt_ok (d := .int ((v * 7919 + k * 104729) / 3 % many)) ?_) ⟨_, rfl, _, rfl, mod_in _ h1⟩
        walk_at "ev"
        rw [dMul_small (by omega) (by decide), dMul_small (by omega) (by decide)]
        walk_at "ev"
        rw [dDiv_small (by decide) (by decide)]
        walk_at "ev"
        rw [dMod_ok h1]
  obtain ⟨d, h1, r, rfl, h2⟩ := main
  exact ⟨r, h1, h2⟩
end My
set_option Elab.async false
set_option linter.all false
set_option maxRecDepth 100000
set_option maxHeartbeats 4000000
set_option exponentiation.threshold 1000000
namespace My
open PySem Tw
local macro_rules | `(tactic| walk_at "go") => `(tactic| repeat' (with_reducible first | exact xV_0 | exact xC_o | exact xNil_o | exact st_0 | exact gt_0 | exact sNil_o | exact wipe_0 | apply wipe_n | exact bs0_o | apply xV_n | apply st_n | apply gt_n | apply sAs_o | apply sAsM_o | apply sDr_o | apply sPr_g | apply sUn_g | apply bN_o | apply bsC_o | apply bT_2o | apply bT_3o | apply bT_4o | apply bL_2o | apply xBin_o | apply xUn_o | apply xTup_o | apply xLst_o | apply xCall_o | apply xCons_o | apply tC_o | apply tV_o | apply tNo_o | apply tTh_g | exact th_0 | apply th_i | apply th_m | apply th_n | apply th_x | apply tOrr_g | apply tAn_g | apply xNo_g | apply xOrr_g | apply xAn_g | apply xCh_g | apply iSeq_o | assumption | exact dAdd_i | exact dSub_i | exact dNeg_i | exact dIx_t0 | exact dIx_t1 | exact cInt_i | exact cAbs_i | exact cLen_l | exact cLen_t | exact dLt_i | exact dGt_i | exact dLe_i | exact dGe_i | exact dEq_int _ _ | exact dNe_int _ _ | exact kMin_i | exact kMax_i | exact rfl))
def natD (v : Nat) : D := .int (v : Int)
theorem dIx_m {α : Type} (enc : α → D) {l : List α} {i : Nat} {x : α} (h : l[i]? = some x) : dIx (.list (l.map enc)) (.int (i : Int)) = .ok (enc x) := by
  obtain ⟨h1, h2⟩ := List.getElem?_eq_some_iff.mp h
  refine dIx_list ?_
  unfold L2.atI
  rw [ixN_of (by omega) (by rw [List.length_map]; omega), Int.toNat_natCast]
  show (l.map enc)[i]? = _
  rw [List.getElem?_map, h]
  rfl
theorem zip_map {α β : Type} (f : α → D) (g : β → D) : ∀ (a : List α) (b : List β), zipG (a.map f) (b.map g) = (List.zip a b).map fun p => PyData.tuple [f p.1, g p.2]
  | [], _ => rfl
  | _ :: _, [] => rfl
  | x :: r, y :: s => by
    show PyData.tuple [f x, g y] :: zipG (r.map f) (s.map g) = _
    rw [zip_map f g r s]
    rfl
theorem rangeD_from (k n : Nat) : rangeD (k : Int) n = (List.range' k n).map natD := by
  apply List.ext_getElem?
  intro i
  rw [List.getElem?_map]
  by_cases h : i < n
  · have : i < (rangeD (k : Int) n).length := by rw [rangeD_len]; exact h
    have e := List.getElem?_eq_getElem this
    obtain ⟨_, q⟩ := rangeD_get e
    rw [e, q, List.getElem?_range' (by omega)]
    show some (PyData.int ((k : Int) + (i : Int))) = some (natD (k + 1 * i))
    unfold natD
    rw [Nat.one_mul, Int.natCast_add]
  · rw [List.getElem?_eq_none (by rw [rangeD_len]; omega), List.getElem?_eq_none (by rw [List.length_range']; omega)]
    rfl
theorem rangeD_nat (n : Nat) : rangeD 0 n = (List.range n).map natD := by
  rw [List.range_eq_range']
  exact rangeD_from 0 n
theorem range_o {n : Nat} (hn : n ≤ 100000) {ms : Nv → R (List D)} {ε : Nv} (h : ms ε = .ok [.int (n : Int)]) : iRange1 ms ε = .ok ((List.range n).map natD) := by
  rw [iRange1_ok h (by omega) (by omega), show ((n : Int)).toNat = n by omega, rangeD_nat]
theorem range_get {n i : Nat} {d : D} (h : ((List.range n).map natD)[i]? = some d) : i < n ∧ d = natD i := by
  rw [List.getElem?_map] at h
  obtain ⟨n', hn, rfl⟩ := Option.map_eq_some_iff.mp h
  obtain ⟨h1, h2⟩ := List.getElem?_eq_some_iff.mp hn
  rw [List.length_range] at h1
  rw [List.getElem_range] at h2
  exact ⟨h1, by rw [h2]⟩
theorem cut_to {l : List D} {k : Nat} (h : k ≤ l.length) : cut l none (some (k : Int)) = l.take k := by
  unfold cut
  rw [HT.sIx_nat, HT.sIx_none, List.drop_zero, Nat.sub_zero, Nat.min_eq_left h]
theorem cut_from (l : List D) {i : Int} (k : Nat) (h : i = (k : Int)) : cut l (some i) none = l.drop k := by
  subst h
  unfold cut
  have e1 : HT.sIx l.length 0 (some (k : Int)) = min k l.length := HT.sIx_nat l.length 0 k
  rw [e1, HT.sIx_none]
  by_cases hk : k ≤ l.length
  · rw [Nat.min_eq_left hk, List.take_of_length_le (by rw [List.length_drop]; omega)]
  · rw [Nat.min_eq_right (by omega), List.drop_eq_nil_of_le (by omega), List.drop_eq_nil_of_le (by omega), List.take_nil]
theorem all_t {α : Type} (xs : List α) : cAll [.list (xs.map fun _ => PyData.bool true)] = .ok (.bool true) := by
  have := cAll_bools (xs.map fun _ => true)
  rw [List.map_map] at this
  refine this.trans ?_
  rw [List.all_eq_true.mpr fun x hx => by
    obtain ⟨_, _, rfl⟩ := List.mem_map.mp hx
    rfl]
theorem enum_map {α : Type} (enc : α → D) : ∀ (l : List α) (k : Nat), enumG k (l.map enc) = (l.zipIdx k).map fun p => PyData.tuple [.int (p.2 : Int), enc p.1]
  | [], _ => rfl
  | a :: r, k => by
    show PyData.tuple [.int (k : Int), enc a] :: enumG (k + 1) (r.map enc) = _
    rw [enum_map enc r (k + 1)]
    rfl
theorem okd_nats (G : List Nat) : okd (.list (G.map natD)) = true := by
  have := okd_ints (G.map fun v : Nat => (v : Int))
  rw [List.map_map] at this
  exact this
theorem any_nat (b : Nat) (G : List Nat) : ((G.map natD).any fun y => PyData.eqv y (.int (b : Int))) = decide (b ∈ G) := by
  induction G with
  | nil => rfl
  | cons a r ih =>
    rw [List.map_cons, List.any_cons, ih]
    show (PyData.eqv (.int (a : Int)) (.int (b : Int)) || _) = _
    rw [eqv_int]
    by_cases h : a = b
    · subst h
      simp
    · rw [decide_eq_false (by omega), Bool.false_or, Bool.eq_iff_iff, decide_eq_true_eq, decide_eq_true_eq, List.mem_cons]
      constructor
      · exact .inr
      · rintro (z | z)
        · exact absurd z.symm h
        · exact z
theorem dNotIn_nat (b : Nat) (G : List Nat) : dNotIn (.int (b : Int)) (.list (G.map natD)) = .ok (.bool (!decide (b ∈ G))) := by
  show (if okd (.int (b : Int)) && okd (.list (G.map natD)) then R.ok (PyData.bool (!((G.map natD).any fun y => PyData.eqv y (.int (b : Int))))) else R.bad) = _
  rw [okd_nats, okd_int, Bool.and_self, if_pos rfl, any_nat]
theorem dIn_nat (b : Nat) (G : List Nat) : dIn (.int (b : Int)) (.list (G.map natD)) = .ok (.bool (decide (b ∈ G))) := by
  show (if okd (.int (b : Int)) && okd (.list (G.map natD)) then R.ok (PyData.bool ((G.map natD).any fun y => PyData.eqv y (.int (b : Int)))) else R.bad) = _
  rw [okd_nats, okd_int, Bool.and_self, if_pos rfl, any_nat]
abbrev Bks := List (List Nat)
def nlD (b : List Nat) : D := .list (b.map natD)
def bsD (bs : Bks) : D := .list (bs.map nlD)
def bA (bs : Bks) (i : Nat) : List Nat := bs.getD i []
def nA (b : List Nat) (t : Nat) : Nat := b.getD t 0
structure Bk (K : Nat) (bs : Bks) : Prop where
  k2 : 2 ≤ K
  k6 : K ≤ 12
  n1 : 1 ≤ bs.length
  n7 : bs.length ≤ 60
  ne : ∀ b, b ∈ bs → b ≠ []
  inc : ∀ b, b ∈ bs → b.Pairwise (· < ·)
  lt : ∀ b, b ∈ bs → ∀ k, k ∈ b → k < K
theorem bA_get {bs : Bks} {i : Nat} (h : i < bs.length) : bs[i]? = some (bA bs i) := by
  unfold bA
  rw [List.getD_eq_getElem?_getD, List.getElem?_eq_getElem h]
  rfl
theorem bA_mem {bs : Bks} {i : Nat} (h : i < bs.length) : bA bs i ∈ bs := List.mem_of_getElem? (bA_get h)
theorem nA_get {b : List Nat} {t : Nat} (h : t < b.length) : b[t]? = some (nA b t) := by
  unfold nA
  rw [List.getD_eq_getElem?_getD, List.getElem?_eq_getElem h]
  rfl
theorem nA_mem {b : List Nat} {t : Nat} (h : t < b.length) : nA b t ∈ b := List.mem_of_getElem? (nA_get h)
theorem dIx_bs {bs : Bks} {i : Nat} (h : i < bs.length) : dIx (bsD bs) (.int (i : Int)) = .ok (nlD (bA bs i)) := dIx_m nlD (bA_get h)
theorem dIx_nl {b : List Nat} {t : Nat} (h : t < b.length) : dIx (nlD b) (.int (t : Int)) = .ok (natD (nA b t)) := dIx_m natD (nA_get h)
theorem cLen_bs (bs : Bks) : cLen [bsD bs] = .ok (.int (bs.length : Int)) := by
  unfold bsD
  rw [cLen_l, List.length_map]
theorem cLen_nl (b : List Nat) : cLen [nlD b] = .ok (.int (b.length : Int)) := by
  unfold nlD
  rw [cLen_l, List.length_map]
theorem asc_len {st : List Nat} {j : Nat} (h : st.Pairwise (· < ·)) (hj : ∀ s, s ∈ st → s < j) : st.length ≤ j := by
  have key : ∀ (st : List Nat), st.Pairwise (· < ·) → ∀ b : Nat, (∀ x, x ∈ st → b ≤ x) → ∀ j, (∀ x, x ∈ st → x < j) → b ≤ j → b + st.length ≤ j := by
    intro st
    induction st with
    | nil => exact fun _ b _ j _ hb => by simpa using hb
    | cons a r ih =>
      intro hp b hb j hj hbj
      obtain ⟨h1, h2⟩ := List.pairwise_cons.mp hp
      have := ih h2 (a + 1) (fun x hx => h1 x hx) j (fun x hx => hj x (List.mem_cons_of_mem _ hx)) (hj a List.mem_cons_self)
      have := hb a List.mem_cons_self
      rw [List.length_cons]
      omega
  have := key st h 0 (fun _ _ => Nat.zero_le _) j hj (Nat.zero_le _)
  omega
theorem inc_len {K : Nat} : ∀ {b : List Nat}, b.Pairwise (· < ·) → (∀ k, k ∈ b → k < K) → b.length ≤ K := fun h g => asc_len h g
theorem Bk.len {K : Nat} {bs : Bks} (h : Bk K bs) {b : List Nat} (hb : b ∈ bs) : b.length ≤ K := inc_len (h.inc b hb) (h.lt b hb)
theorem zip_lt : ∀ {l : List Nat}, l.Pairwise (· < ·) → ∀ p, p ∈ List.zip l (l.drop 1) → p.1 < p.2
  | [], _, p, hp => by cases hp
  | [a], _, p, hp => by cases hp
  | a :: b :: r, h, p, hp => by
    obtain ⟨h1, h2⟩ := List.pairwise_cons.mp h
    rcases List.mem_cons.mp hp with rfl | hp
    · exact h1 b List.mem_cons_self
    · exact zip_lt h2 p hp
theorem enum_get {α : Type} (enc : α → D) {l : List α} {i : Nat} {d : D} (h : (enumG 0 (l.map enc))[i]? = some d) : ∃ x, l[i]? = some x ∧ d = .tuple [.int (i : Int), enc x] := by
  rw [enum_map, List.getElem?_map, List.getElem?_zipIdx] at h
  cases e : l[i]? with
  | none =>
    rw [e] at h
    cases h
  | some x =>
    rw [e] at h
    refine ⟨x, rfl, ?_⟩
    have := Option.some.inj h
    rw [← this, Nat.zero_add]
theorem check_blocks_ok {K : Nat} {bs : Bks} (h : Bk K bs) : f_check_blocks [natD K, bsD bs] = .ok .none := by
  have hlim := lim_eq
  have k2 := h.k2
  have k6 := h.k6
  have n1 := h.n1
  have n7 := h.n7
  have c1 : f_check_kinds [natD K] = .ok .none := by
    unfold f_check_kinds
    refine runF_nx rfl ?_
    unfold m_check_kinds
    change Runs _ [.im (natD K)] _
    exact runs_if (b := !(decide ((2 : Int) ≤ (K : Int)) && decide ((K : Int) ≤ 12))) (by unfold natD; walk_at "go") (fun z => by rw [decide_eq_true (by omega), decide_eq_true (by omega)] at z; cases z) (fun _ => runs_nil ⟨_, rfl⟩)
  have c2 : f_check_lists [natD K, bsD bs] = .ok .none := by
    unfold f_check_lists
    refine runF_nx rfl ?_
    unfold m_check_lists
    change Runs _ [.im (natD K), .im (bsD bs), .no, .no, .no, .no, .no] _
    refine runs_for (ds := enumG 0 (bs.map nlD)) (fun i ε => ∃ a2 a3 a4 a5 a6, ε = [.im (natD K), .im (bsD bs), a2, a3, a4, a5, a6]) (iEnu_o (xCons_o rfl xNil_o)) ⟨_, _, _, _, _, rfl⟩ ?_ ?_
    · rintro i d ε hx ⟨a2, a3, a4, a5, a6, rfl⟩
      obtain ⟨b, hb, rfl⟩ := enum_get nlD hx
      have bm := List.mem_of_getElem? hb
      have bl := h.len bm
      have bne : b.length ≠ 0 := fun z => h.ne b bm (List.length_eq_zero_iff.mp z)
      have cl := cLen_nl b
      refine ⟨[.im (natD K), .im (bsD bs), .im (natD i), .im (nlD b), a4, a5, a6], rfl, ?_⟩
      have l1 : xLc [4] (iSeq (xV 3)) (bN 4) tYe (xCh dLe dLt (xC (.int 0)) (xV 4) (xV 0)) [.im (natD K), .im (bsD bs), .im (natD i), .im (nlD b), a4, a5, a6] = .ok (.list (b.map fun _ => PyData.bool true)) :=
        xLc_a (enc := natD) (xs := b) (F := fun k => [.im (natD K), .im (bsD bs), .im (natD i), .im (nlD b), .im (natD k), a5, a6]) (iSeq_o rfl) rfl (fun k _ => rfl) (fun k hk => by
          have kl := h.lt b bm k hk
          refine (xCh_g xC_o rfl rfl dLe_i dLt_i).trans ?_
          rw [decide_eq_true (by omega), decide_eq_true (by omega)]
          rfl) (by omega)
      have l2 : xLc [5, 6] (iZi (xCons (xV 3) (xCons (xSl (xV 3) (oSome (xC (.int 1))) oNone) xNil))) (bT 2 (bsC (bN 5) (bsC (bN 6) bs0))) tYe (xBin dLt (xV 5) (xV 6)) [.im (natD K), .im (bsD bs), .im (natD i), .im (nlD b), a4, a5, a6] = .ok (.list ((List.zip b (b.drop 1)).map fun _ => PyData.bool true)) := by
        refine xLc_a (enc := fun p : Nat × Nat => PyData.tuple [natD p.1, natD p.2]) (xs := List.zip b (b.drop 1)) (F := fun p => [.im (natD K), .im (bsD bs), .im (natD i), .im (nlD b), a4, .im (natD p.1), .im (natD p.2)]) ?_ rfl (fun p _ => rfl) (fun p hp => ?_) (by rw [List.length_zip]; omega)
        · refine (iZi_o (xs := b.map natD) (ys := (b.drop 1).map natD) (xCons_o rfl (xCons_o ((xSl_o rfl rfl rfl).trans ?_) xNil_o))).trans (by rw [zip_map])
          rw [cut_from (b.map natD) (i := 1) 1 rfl, List.map_drop]
        · refine (xBin_o rfl rfl dLt_i).trans ?_
          rw [decide_eq_true (by have := zip_lt (h.inc b bm) p hp; omega)]
      have q1 := all_t b
      have q2 := all_t (List.zip b (b.drop 1))
      refine runs_no (b := decide ((b.length : Int) = 0) || !true) (tOrr_g (tC_o (xBin_o (xCall_o (xCons_o rfl xNil_o) cl) xC_o (dEq_int _ _))) (tNo_o (tV_o (xCall_o (xCons_o l1 xNil_o) q1)))) (by rw [decide_eq_false (by omega)]; rfl) ?_
      refine runs_if (b := false) ((tNo_o (tV_o (xCall_o (xCons_o l2 xNil_o) q2))).trans rfl) (fun z => by cases z) (fun _ => runs_nil ⟨_, _, _, _, _, rfl⟩)
    · rintro ε' ⟨a2, a3, a4, a5, a6, rfl⟩
      exact ⟨_, rfl⟩
  have cl := cLen_bs bs
  unfold f_check_blocks
  refine runF_nx rfl ?_
  unfold m_check_blocks
  change Runs _ [.im (natD K), .im (bsD bs)] _
  refine runs_sn (sDr_o (xCall_o (xCons_o rfl xNil_o) c1)) ?_
  refine runs_no (b := !(decide ((1 : Int) ≤ (bs.length : Int)) && decide ((bs.length : Int) ≤ 60))) (by walk_at "go") (by rw [decide_eq_true (by omega), decide_eq_true (by omega)]; rfl) ?_
  exact runs_nx (sDr_o (xCall_o (xCons_o rfl (xCons_o rfl xNil_o)) c2)) ⟨_, rfl⟩
theorem lcG2_t {α β : Type} {g : D → Nv → R Nv} {t : Nv → R Bool} {mi1 : Nv → R (List D)} {g1 : D → Nv → R Nv} {e : Nv → R D} {vs1 : List Nat} {ε : Nv} (enc : α → D) (p : α → Bool) (F : α → List β) (v : β → D) : ∀ (xs : List α), (∀ x, x ∈ xs → ∃ ε1, g (enc x) ε = .ok ε1 ∧ t ε1 = .ok (p x) ∧ (p x = true → ∃ es, mi1 ε1 = .ok es ∧ lcG g1 tYe e (wipeE ε1 vs1) es = .ok ((F x).map v))) →
    lcG2 g t mi1 g1 tYe e vs1 ε (xs.map enc) = .ok ((xs.flatMap fun x => if p x then F x else []).map v)
  | [], _ => rfl
  | x :: xs, h => by
    obtain ⟨ε1, h1, h2, h3⟩ := h x List.mem_cons_self
    have ih := lcG2_t enc p F v xs fun y hy => h y (List.mem_cons_of_mem _ hy)
    show (g (enc x) ε).bind _ = _
    rw [h1, bind_ok]
    show (t ε1).bind _ = _
    rw [h2, bind_ok, List.flatMap_cons]
    cases hp : p x with
    | true =>
      obtain ⟨es, h4, h5⟩ := h3 hp
      rw [if_pos rfl, h4, bind_ok, h5, bind_ok, ih, bind_ok, if_pos rfl, List.map_append]
    | false =>
      rw [if_neg (by decide), ih, if_neg (by decide), List.nil_append]
def nins (x : Nat) : List Nat → List Nat
  | [] => [x]
  | y :: r => if x < y then x :: y :: r else if x = y then y :: r else y :: nins x r
def nsrt : List Nat → List Nat
  | [] => []
  | x :: r => nins x (nsrt r)
def cI (l : List Nat) : List Int := l.map fun (v : Nat) => (v : Int)
theorem iins_nat (x : Nat) : ∀ l : List Nat, iins (x : Int) (cI l) = cI (nins x l)
  | [] => rfl
  | y :: r => by
    show iins (x : Int) ((y : Int) :: cI r) = _
    unfold iins nins
    by_cases h : x < y
    · rw [if_pos (by omega), if_pos h]
      rfl
    · rw [if_neg (by omega), if_neg h]
      by_cases e : x = y
      · rw [if_pos (by omega), if_pos e]
        rfl
      · rw [if_neg (by omega), if_neg e, iins_nat x r]
        rfl
theorem isrt1_nat : ∀ l : List Nat, isrt1 (cI l) = cI (nsrt l)
  | [] => rfl
  | x :: r => by
    show iins (x : Int) (isrt1 (cI r)) = _
    rw [isrt1_nat r, iins_nat]
    rfl
theorem cI_mem {l : List Nat} {x : Nat} : (x : Int) ∈ cI l ↔ x ∈ l := by
  unfold cI
  rw [List.mem_map]
  constructor
  · rintro ⟨y, hy, e⟩
    rwa [show x = y by omega]
  · exact fun h => ⟨x, h, rfl⟩
theorem nsrt_mem (l : List Nat) (x : Nat) : x ∈ nsrt l ↔ x ∈ l := by
  rw [← cI_mem, ← isrt1_nat, (isrt1_ok _).1, cI_mem]
theorem cI_lt {l : List Nat} : (cI l).Pairwise (· < ·) ↔ l.Pairwise (· < ·) := by
  unfold cI
  rw [List.pairwise_map]
  exact ⟨fun h => h.imp fun z => by omega, fun h => h.imp fun z => by omega⟩
theorem nsrt_lt (l : List Nat) : (nsrt l).Pairwise (· < ·) := by
  rw [← cI_lt, ← isrt1_nat]
  exact (isrt1_ok _).2
theorem ltN_uni {l m : List Nat} (hl : l.Pairwise (· < ·)) (hm : m.Pairwise (· < ·)) (h : ∀ z, z ∈ m ↔ z ∈ l) : m = l := by
  have := lt_uni (cI_lt.mpr hl) (cI_lt.mpr hm) fun z => by
    unfold cI
    rw [List.mem_map, List.mem_map]
    constructor
    · rintro ⟨y, hy, e⟩
      exact ⟨y, (h y).mp hy, e⟩
    · rintro ⟨y, hy, e⟩
      exact ⟨y, (h y).mpr hy, e⟩
  exact List.map_inj_right (f := fun v : Nat => (v : Int)) (fun x y e => by omega) |>.mp this
theorem nl_cI (l : List Nat) : l.map natD = (cI l).map PyData.int := by
  unfold cI
  rw [List.map_map]
  rfl
theorem dS2_nat {l : List Nat} (h : l.length < 64) : dS2 (nlD l) = .ok (nlD (nsrt l)) := by
  unfold dS2 nlD
  rw [nl_cI]
  show (match intsOf ((cI l).map PyData.int) with | some ns => if ns.length < 64 then R.ok (PyData.list ((isrt1 ns).map PyData.int)) else .bad | none => dSS _) = _
  rw [intsOf_map]
  show (if (cI l).length < 64 then _ else _) = _
  rw [if_pos (by unfold cI; rw [List.length_map]; exact h), isrt1_nat, nl_cI]
def cntP (bs : Bks) (i j : Nat) : Nat := (bs.filter fun b => decide (i ∈ b) && decide (j ∈ b)).length
def esP (bs : Bks) (l : List (Nat × Nat)) : List (D × D) := l.map fun p => (.tuple (kk (p.1 : Int) (p.2 : Int)), .int (cntP bs p.1 p.2 : Int))
theorem lk_esP (bs : Bks) {p : Nat × Nat} : ∀ {l : List (Nat × Nat)}, p ∈ l → lkT (esP bs l) (kk (p.1 : Int) (p.2 : Int)) = some (.int (cntP bs p.1 p.2 : Int))
  | [], h => by cases h
  | q :: l, h => by
    show (if hitT (kk (p.1 : Int) (p.2 : Int)) (.tuple (kk (q.1 : Int) (q.2 : Int))) = true then some (.int (cntP bs q.1 q.2 : Int)) else lkT (esP bs l) _) = _
    rw [hit_at]
    by_cases e : (q.1 : Int) = (p.1 : Int) ∧ (q.2 : Int) = (p.2 : Int)
    · rw [if_pos (decide_eq_true e), show q.1 = p.1 by omega, show q.2 = p.2 by omega]
    · rw [if_neg (by rw [decide_eq_true_eq]; exact e)]
      refine lk_esP bs ?_
      rcases List.mem_cons.mp h with rfl | h
      · exact absurd ⟨rfl, rfl⟩ e
      · exact h
theorem vls_esP (bs : Bks) {l0 : List (Nat × Nat)} : ∀ {l : List (Nat × Nat)}, (∀ p, p ∈ l → p ∈ l0) → vlsT (esP bs l0) (esP bs l) = some (l.map fun p => (cntP bs p.1 p.2 : Int))
  | [], _ => rfl
  | p :: l, h => by
    have ih := vls_esP bs (l := l) fun q hq => h q (List.mem_cons_of_mem _ hq)
    have e := lk_esP bs (h p List.mem_cons_self)
    show (match lkT (esP bs l0) (kk (p.1 : Int) (p.2 : Int)), vlsT (esP bs l0) (esP bs l) with | some (.int z), some zs => some (z :: zs) | _, _ => none) = _
    rw [e, ih]
    rfl
theorem pt_esP (bs : Bks) (l : List (Nat × Nat)) (i j : Nat) : ptT (esP bs l) (kk (i : Int) (j : Int)) (.int (cntP bs i j : Int)) = esP bs (if (i, j) ∈ l then l else l ++ [(i, j)]) := by
  have an : ((esP bs l).any fun p => hitT (kk (i : Int) (j : Int)) p.1) = decide ((i, j) ∈ l) := by
    unfold esP
    rw [List.any_map, Bool.eq_iff_iff, List.any_eq_true, decide_eq_true_eq]
    constructor
    · rintro ⟨p, hp, e⟩
      have e' : hitT (kk (i : Int) (j : Int)) (.tuple (kk (p.1 : Int) (p.2 : Int))) = true := e
      rw [hit_at, decide_eq_true_eq] at e'
      rw [show (i, j) = p from Prod.ext (by show i = p.1; omega) (by show j = p.2; omega)]
      exact hp
    · intro h
      refine ⟨(i, j), h, ?_⟩
      show hitT (kk (i : Int) (j : Int)) (.tuple (kk (i : Int) (j : Int))) = true
      rw [hit_at]
      exact decide_eq_true ⟨rfl, rfl⟩
  unfold ptT
  rw [an]
  by_cases h : (i, j) ∈ l
  · rw [if_pos (decide_eq_true h), if_pos h]
    unfold esP
    rw [List.map_map]
    refine List.map_congr_left fun p _ => ?_
    show (if hitT (kk (i : Int) (j : Int)) (.tuple (kk (p.1 : Int) (p.2 : Int))) = true then _ else _) = _
    rw [hit_at]
    by_cases e : (p.1 : Int) = (i : Int) ∧ (p.2 : Int) = (j : Int)
    · rw [if_pos (decide_eq_true e), show i = p.1 by omega, show j = p.2 by omega]
    · rw [if_neg (by rw [decide_eq_true_eq]; exact e)]
  · rw [if_neg (by rw [decide_eq_true_eq]; exact h), if_neg h]
    unfold esP
    rw [List.map_append]
    rfl
structure Prs (K : Nat) (l : List (Nat × Nat)) : Prop where
  ok : ∀ p, p ∈ l → p.1 < p.2 ∧ p.2 < K
  all : ∀ i j, i < j → j < K → (i, j) ∈ l
  len : l.length ≤ 144
def leN (a b : Nat) : Bool := decide (a ≤ b)
theorem leN_ok : (∀ a b c : Nat, leN a b = true → leN b c = true → leN a c = true) ∧ ∀ a b : Nat, (leN a b || leN b a) = true := by
  unfold leN
  refine ⟨fun a b c h1 h2 => ?_, fun a b => ?_⟩
  · have := of_decide_eq_true h1
    have := of_decide_eq_true h2
    exact decide_eq_true (by omega)
  · rcases Nat.le_total a b with h | h
    · rw [decide_eq_true h]
      rfl
    · rw [decide_eq_true h, Bool.or_true]
theorem sortB_nat (G : List Nat) : sortB (G.map natD) = true := by
  unfold sortB
  rw [Bool.and_eq_true, Bool.or_eq_true]
  refine ⟨List.all_eq_true.mpr fun x hx => List.all_eq_true.mpr fun y hy => ?_, .inr (List.all_eq_true.mpr fun x hx => ?_)⟩
  · obtain ⟨a, _, rfl⟩ := List.mem_map.mp hx
    obtain ⟨b, _, rfl⟩ := List.mem_map.mp hy
    simp [natD, PySem.W.alike]
  · obtain ⟨a, _, rfl⟩ := List.mem_map.mp hx
    rfl
theorem sort_nat {G : List Nat} (hl : G.length ≤ 1000) : kSort [.list (G.map natD)] = .ok (.list ((isrt leN G).map natD)) := by
  have hlim := lim_eq
  show (if okd (.list (G.map natD)) && sortB (G.map natD) && decide ((G.map natD).length ≤ lim) then R.ok (PyData.list (srtD (G.map natD))) else R.bad) = _
  rw [okd_nats, sortB_nat, decide_eq_true (by rw [List.length_map]; omega)]
  show R.ok (PyData.list (srtD (G.map natD))) = _
  have e : G.map natD = (G.map fun v : Nat => (v : Int)).map PyData.int := by
    rw [List.map_map]
    rfl
  have e2 : isrt leI (G.map fun v : Nat => (v : Int)) = (isrt leN G).map fun v : Nat => (v : Int) := by
    rw [← isrt_eq leI leI_ok.1 leI_ok.2, ← isrt_eq leN leN_ok.1 leN_ok.2, List.map_mergeSort (s := leI)]
    intro a _ b _
    unfold leN leI
    rw [Bool.eq_iff_iff, decide_eq_true_eq, decide_eq_true_eq]
    omega
  rw [e, srtD_ints, e2, List.map_map]
  rfl
/-! ### counts and pairs of the program -/
section
variable {K : Nat} {bs : Bks}
theorem cAll_b {α : Type} (f : α → Bool) (xs : List α) : cAll [.list (xs.map fun x => PyData.bool (f x))] = .ok (.bool (xs.all f)) := by
  have := cAll_bools (xs.map f)
  rw [List.map_map] at this
  refine this.trans ?_
  rw [List.all_map]
  rfl
theorem count_ok {bs : Bks} (hl : bs.length ≤ 60) (ks : List Nat) (hk : ks.length ≤ 10) : f_count_of [bsD bs, .tuple (ks.map natD)] = .ok (natD (bs.filter fun b => ks.all fun k => decide (k ∈ b)).length) := by
  have hlim := lim_eq
  unfold f_count_of
  refine runF_rt rfl ?_
  unfold m_count_of
  change Runs _ [.im (bsD bs), .im (.tuple (ks.map natD)), .no, .no] _
  have l1 : xLc [2] (iSeq (xV 0)) (bN 2) (tV (xCall cAll (xCons (xLc [3] (iSeq (xV 1)) (bN 3) tYe (xBin dIn (xV 3) (xV 2))) xNil))) (xV 2) [.im (bsD bs), .im (.tuple (ks.map natD)), .no, .no] = .ok (bsD (bs.filter fun b => ks.all fun k => decide (k ∈ b))) :=
    xLc_f (enc := nlD) (p := fun b => ks.all fun k => decide (k ∈ b)) (v := nlD) (xs := bs) (F := fun b => [.im (bsD bs), .im (.tuple (ks.map natD)), .im (nlD b), .no]) (iSeq_o rfl) rfl (fun b _ => rfl) (fun b _ => by
      have l2 : xLc [3] (iSeq (xV 1)) (bN 3) tYe (xBin dIn (xV 3) (xV 2)) [.im (bsD bs), .im (.tuple (ks.map natD)), .im (nlD b), .no] = .ok (.list (ks.map fun k => PyData.bool (decide (k ∈ b)))) :=
        xLc_a (enc := natD) (xs := ks) (F := fun k => [.im (bsD bs), .im (.tuple (ks.map natD)), .im (nlD b), .im (natD k)]) (iSeqT_o rfl) rfl (fun k _ => rfl) (fun k _ => xBin_o rfl rfl (dIn_nat k b)) (by omega)
      exact tV_o (xCall_o (xCons_o l2 xNil_o) (cAll_b (fun k => decide (k ∈ b)) ks))) (fun b _ _ => rfl) (by omega)
  exact runs_rt (xCall_o (xCons_o l1 xNil_o) (cLen_bs _)) rfl
/-- 0 kinds 1 blocks 2 found 3 one 4 two -/
theorem pairs_by_ok (hb : Bk K bs) : ∃ l, f_pairs_by [natD K, bsD bs] = .ok (dT1 (esP bs l)) ∧ Prs K l := by
  have hlim := lim_eq
  have k6 := hb.k6
  have n7 := hb.n7
  suffices Runs m_pairs_by [.im (natD K), .im (bsD bs), .no, .no, .no] (fun fl => ∃ l, fl = .rt (dT1 (esP bs l)) ∧ Prs K l) by
    obtain ⟨fl, h1, l, h2, h3⟩ := this
    exact ⟨l, runF_rt rfl ⟨fl, h1, h2⟩, h3⟩
  unfold m_pairs_by
  refine runs_sn (ε' := [.im (natD K), .im (bsD bs), .mu (dT1 (esP bs [])), .no, .no]) (sAsM_o rfl rfl) ?_
  refine runs_seq (runs_for (ds := (List.range K).map natD) (fun i ε => i ≤ K ∧ ∃ l a3 a4, ε = [.im (natD K), .im (bsD bs), .mu (dT1 (esP bs l)), a3, a4] ∧ l.length ≤ i * K ∧ (∀ p, p ∈ l → p.1 < p.2 ∧ p.2 < K) ∧ ∀ i' j', i' < i → i' < j' → j' < K → (i', j') ∈ l) (range_o (n := K) (by omega) rfl) ⟨Nat.zero_le _, [], _, _, rfl, Nat.zero_le _, fun p hp => (by cases hp), fun i' j' h => absurd h (Nat.not_lt_zero _)⟩ ?_ ?_)
  · rintro i d ε hx ⟨_, l, a3, a4, rfl, ll, lo, la⟩
    obtain ⟨iK, rfl⟩ := range_get hx
    refine ⟨[.im (natD K), .im (bsD bs), .mu (dT1 (esP bs l)), .im (natD i), a4], rfl, ?_⟩
    have hi1 : (((i : Nat) : Int) + 1) = ((i + 1 : Nat) : Int) := by omega
    refine runs_for (ds := (List.range' (i + 1) (K - (i + 1))).map natD) (fun t ε => t ≤ K - (i + 1) ∧ ∃ l a4, ε = [.im (natD K), .im (bsD bs), .mu (dT1 (esP bs l)), .im (natD i), a4] ∧ l.length ≤ i * K + t ∧ (∀ p, p ∈ l → p.1 < p.2 ∧ p.2 < K) ∧ (∀ i' j', i' < i → i' < j' → j' < K → (i', j') ∈ l) ∧ ∀ j', i < j' → j' < i + 1 + t → (i, j') ∈ l) ?_ ⟨Nat.zero_le _, l, _, rfl, ll, lo, la, fun j' h1 h2 => by omega⟩ ?_ ?_
    · refine (iRange2_ok (i := ((i + 1 : Nat) : Int)) (j := (K : Int)) (xCons_o ((xBin_o rfl xC_o dAdd_i).trans (by rw [hi1])) (xCons_o rfl xNil_o)) (by omega) (by omega) (by omega) (by omega)).trans ?_
      rw [show ((K : Int) - ((i + 1 : Nat) : Int)).toNat = K - (i + 1) by omega, rangeD_from]
    · rintro t d ε hx ⟨_, l, a4, rfl, ll, lo, la, lb⟩
      rw [List.getElem?_map] at hx
      obtain ⟨j, hj, rfl⟩ := Option.map_eq_some_iff.mp hx
      have ht := (List.getElem?_eq_some_iff.mp hj).1
      rw [List.length_range'] at ht
      rw [List.getElem?_range' ht] at hj
      obtain rfl : i + 1 + 1 * t = j := Option.some.inj hj
      rw [Nat.one_mul]
      refine ⟨[.im (natD K), .im (bsD bs), .mu (dT1 (esP bs l)), .im (natD i), .im (natD (i + 1 + t))], rfl, ?_⟩
      have c1 := count_ok (bs := bs) n7 [i, i + 1 + t] (by show 2 ≤ 10; decide)
      have e1 : (bs.filter fun b => [i, i + 1 + t].all fun k => decide (k ∈ b)).length = cntP bs i (i + 1 + t) := by
        unfold cntP
        refine congrArg List.length (List.filter_congr fun b _ => ?_)
        simp
      rw [e1] at c1
      have iK2 : i * K ≤ 11 * 12 := Nat.mul_le_mul (by omega) k6
      refine runs_nx (ε' := [.im (natD K), .im (bsD bs), .mu (dT1 (esP bs (if (i, i + 1 + t) ∈ l then l else l ++ [(i, i + 1 + t)]))), .im (natD i), .im (natD (i + 1 + t))]) (sDpT_o (es := esP bs l) (s := (i : Int)) (t := ((i + 1 + t : Nat) : Int)) (d := .int (cntP bs i (i + 1 + t) : Int)) rfl rfl (xCall_o (xCons_o rfl (xCons_o (xTup_o (xCons_o rfl (xCons_o rfl xNil_o))) xNil_o)) c1) (by unfold esP; rw [List.length_map]; omega) (by rw [pt_esP]; rfl)) ⟨ht, _, _, rfl, ?_, ?_, ?_, ?_⟩
      · split
        · omega
        · rw [List.length_append, List.length_singleton]
          omega
      · intro p hp
        split at hp
        · exact lo p hp
        · rcases List.mem_append.mp hp with z | z
          · exact lo p z
          · rw [List.mem_singleton.mp z]
            exact ⟨by show i < i + 1 + t; omega, by show i + 1 + t < K; omega⟩
      · intro i' j' h1 h2 h3
        split
        · exact la i' j' h1 h2 h3
        · exact List.mem_append_left _ (la i' j' h1 h2 h3)
      · intro j' h1 h2
        by_cases e : j' = i + 1 + t
        · subst e
          split
          · assumption
          · exact List.mem_append_right _ (List.mem_singleton.mpr rfl)
        · split
          · exact lb j' h1 (by omega)
          · exact List.mem_append_left _ (lb j' h1 (by omega))
    · rintro ε' ⟨_, l, a4, rfl, ll, lo, la, lb⟩
      rw [List.length_map, List.length_range'] at ll lb
      refine ⟨iK, l, _, _, rfl, ?_, lo, fun i' j' h1 h2 h3 => ?_⟩
      · rw [Nat.succ_mul]
        omega
      · by_cases e : i' = i
        · rw [e]
          exact lb j' (by omega) (by omega)
        · exact la i' j' (by omega) h2 h3
  · rintro ε' ⟨_, l, a3, a4, rfl, ll, lo, la⟩
    rw [List.length_map, List.length_range] at la ll
    have kk36 : K * K ≤ 12 * 12 := Nat.mul_le_mul k6 k6
    show Runs _ _ _
    exact runs_rtM rfl ⟨l, rfl, lo, fun i j h1 h2 => la i j (by omega) h1 h2, by omega⟩
theorem pair_counts_ok (hb : Bk K bs) : ∃ l, f_pair_counts [natD K, bsD bs] = .ok (dT1 (esP bs l)) ∧ Prs K l := by
  obtain ⟨l, h1, h2⟩ := pairs_by_ok hb
  refine ⟨l, ?_, h2⟩
  have c1 := check_blocks_ok hb
  unfold f_pair_counts
  refine runF_rt rfl ?_
  unfold m_pair_counts
  change Runs _ [.im (natD K), .im (bsD bs)] _
  exact runs_sn (sDr_o (xCall_o (xCons_o rfl (xCons_o rfl xNil_o)) c1)) (runs_rt (xCall_o (xCons_o rfl (xCons_o rfl xNil_o)) h1) rfl)
end
end My
set_option Elab.async false
set_option linter.all false
set_option maxRecDepth 100000
set_option maxHeartbeats 4000000
set_option exponentiation.threshold 1000000
namespace My
open PySem Tw
local macro_rules | `(tactic| walk_at "go") => `(tactic| repeat' (with_reducible first | exact xV_0 | exact xC_o | exact xNil_o | exact st_0 | exact gt_0 | exact sNil_o | exact wipe_0 | apply wipe_n | exact bs0_o | apply xV_n | apply st_n | apply gt_n | apply sAs_o | apply sAsM_o | apply sDr_o | apply sPr_g | apply sUn_g | apply bN_o | apply bsC_o | apply bT_2o | apply bT_3o | apply bT_4o | apply bL_2o | apply xBin_o | apply xUn_o | apply xTup_o | apply xLst_o | apply xCall_o | apply xCons_o | apply tC_o | apply tV_o | apply tNo_o | apply tTh_g | exact th_0 | apply th_i | apply th_m | apply th_n | apply th_x | apply tOrr_g | apply tAn_g | apply xNo_g | apply xOrr_g | apply xAn_g | apply xCh_g | apply iSeq_o | assumption | exact dAdd_i | exact dSub_i | exact dNeg_i | exact dIx_t0 | exact dIx_t1 | exact cInt_i | exact cAbs_i | exact cLen_l | exact cLen_t | exact dLt_i | exact dGt_i | exact dLe_i | exact dGe_i | exact dEq_int _ _ | exact dNe_int _ _ | exact kMin_i | exact kMax_i | exact rfl))
theorem xLc2_ok {vs vs1 : List Nat} {mi mi1 : Nv → R (List D)} {g g1 : D → Nv → R Nv} {t t1 : Nv → R Bool} {e : Nv → R D} {ε : Nv} {ds ys : List D} (h : mi ε = .ok ds) (h2 : lcG2 g t mi1 g1 t1 e vs1 (wipeE ε vs) ds = .ok ys) (hl : ys.length ≤ lim) : xLc2 vs vs1 mi g t mi1 g1 t1 e ε = .ok (.list ys) := by
  unfold xLc2
  rw [h, bind_ok, h2, bind_ok, if_pos hl]
theorem dRep_one {d : D} {n : Nat} (h : n ≤ 100000) : dRep (.list [d]) (.int (n : Int)) = .ok (.list (List.replicate n d)) := by
  have := lim_eq
  have fl : ∀ m, (List.replicate m [d]).flatten = List.replicate m d := by
    intro m
    induction m with
    | zero => rfl
    | succ m ih =>
      rw [List.replicate_succ, List.flatten_cons, ih]
      rfl
  show (if (n : Int) ≤ 1000000 ∧ -1000000 ≤ (n : Int) ∧ [d].length * (n : Int).toNat ≤ lim then R.ok (PyData.list (List.replicate (n : Int).toNat [d]).flatten) else R.bad) = _
  rw [if_pos ⟨by omega, by omega, by rw [Int.toNat_natCast, List.length_singleton]; omega⟩, Int.toNat_natCast, fl]
theorem check_kinds_ok {K : Nat} {bs : Bks} (h : Bk K bs) : f_check_kinds [natD K] = .ok .none := by
  have k2 := h.k2
  have k6 := h.k6
  unfold f_check_kinds
  refine runF_nx rfl ?_
  unfold m_check_kinds
  change Runs _ [.im (natD K)] _
  exact runs_if (b := !(decide ((2 : Int) ≤ (K : Int)) && decide ((K : Int) ≤ 12))) (by unfold natD; walk_at "go") (fun z => by rw [decide_eq_true (by omega), decide_eq_true (by omega)] at z; cases z) (fun _ => runs_nil ⟨_, rfl⟩)
theorem check_lists_ok {K : Nat} {bs : Bks} (h : Bk K bs) : f_check_lists [natD K, bsD bs] = .ok .none := by
  have hlim := lim_eq
  have k6 := h.k6
  have n7 := h.n7
  unfold f_check_lists
  refine runF_nx rfl ?_
  unfold m_check_lists
  change Runs _ [.im (natD K), .im (bsD bs), .no, .no, .no, .no, .no] _
  refine runs_for (ds := enumG 0 (bs.map nlD)) (fun i ε => ∃ a2 a3 a4 a5 a6, ε = [.im (natD K), .im (bsD bs), a2, a3, a4, a5, a6]) (iEnu_o (xCons_o rfl xNil_o)) ⟨_, _, _, _, _, rfl⟩ ?_ ?_
  · rintro i d ε hx ⟨a2, a3, a4, a5, a6, rfl⟩
    obtain ⟨b, hb, rfl⟩ := enum_get nlD hx
    have bm := List.mem_of_getElem? hb
    have bl := h.len bm
    have bne : b.length ≠ 0 := fun z => h.ne b bm (List.length_eq_zero_iff.mp z)
    have cl := cLen_nl b
    refine ⟨[.im (natD K), .im (bsD bs), .im (natD i), .im (nlD b), a4, a5, a6], rfl, ?_⟩
    have l1 : xLc [4] (iSeq (xV 3)) (bN 4) tYe (xCh dLe dLt (xC (.int 0)) (xV 4) (xV 0)) [.im (natD K), .im (bsD bs), .im (natD i), .im (nlD b), a4, a5, a6] = .ok (.list (b.map fun _ => PyData.bool true)) :=
      xLc_a (enc := natD) (xs := b) (F := fun k => [.im (natD K), .im (bsD bs), .im (natD i), .im (nlD b), .im (natD k), a5, a6]) (iSeq_o rfl) rfl (fun k _ => rfl) (fun k hk => by
        have kl := h.lt b bm k hk
        refine (xCh_g xC_o rfl rfl dLe_i dLt_i).trans ?_
        rw [decide_eq_true (by omega), decide_eq_true (by omega)]
        rfl) (by omega)
    have l2 : xLc [5, 6] (iZi (xCons (xV 3) (xCons (xSl (xV 3) (oSome (xC (.int 1))) oNone) xNil))) (bT 2 (bsC (bN 5) (bsC (bN 6) bs0))) tYe (xBin dLt (xV 5) (xV 6)) [.im (natD K), .im (bsD bs), .im (natD i), .im (nlD b), a4, a5, a6] = .ok (.list ((List.zip b (b.drop 1)).map fun _ => PyData.bool true)) := by
      refine xLc_a (enc := fun p : Nat × Nat => PyData.tuple [natD p.1, natD p.2]) (xs := List.zip b (b.drop 1)) (F := fun p => [.im (natD K), .im (bsD bs), .im (natD i), .im (nlD b), a4, .im (natD p.1), .im (natD p.2)]) ?_ rfl (fun p _ => rfl) (fun p hp => ?_) (by rw [List.length_zip]; omega)
      · refine (iZi_o (xs := b.map natD) (ys := (b.drop 1).map natD) (xCons_o rfl (xCons_o ((xSl_o rfl rfl rfl).trans ?_) xNil_o))).trans (by rw [zip_map])
        rw [cut_from (b.map natD) (i := 1) 1 rfl, List.map_drop]
      · refine (xBin_o rfl rfl dLt_i).trans ?_
        rw [decide_eq_true (by have := zip_lt (h.inc b bm) p hp; omega)]
    have q1 := all_t b
    have q2 := all_t (List.zip b (b.drop 1))
    refine runs_no (b := decide ((b.length : Int) = 0) || !true) (tOrr_g (tC_o (xBin_o (xCall_o (xCons_o rfl xNil_o) cl) xC_o (dEq_int _ _))) (tNo_o (tV_o (xCall_o (xCons_o l1 xNil_o) q1)))) (by rw [decide_eq_false (by omega)]; rfl) ?_
    refine runs_if (b := false) ((tNo_o (tV_o (xCall_o (xCons_o l2 xNil_o) q2))).trans rfl) (fun z => by cases z) (fun _ => runs_nil ⟨_, _, _, _, _, rfl⟩)
  · rintro ε' ⟨a2, a3, a4, a5, a6, rfl⟩
    exact ⟨_, rfl⟩
theorem check_base_ok {K : Nat} {bs : Bks} (h : Bk K bs) (h5 : bs.length ≤ 5) : f_check_base [natD K, bsD bs] = .ok .none := by
  have c1 := check_kinds_ok h
  have c2 := check_lists_ok h
  have cl := cLen_bs bs
  have n1 := h.n1
  unfold f_check_base
  refine runF_nx rfl ?_
  unfold m_check_base
  change Runs _ [.im (natD K), .im (bsD bs)] _
  refine runs_sn (sDr_o (xCall_o (xCons_o rfl xNil_o) c1)) ?_
  refine runs_no (b := !(decide ((1 : Int) ≤ (bs.length : Int)) && decide ((bs.length : Int) ≤ 5))) (by walk_at "go") (by rw [decide_eq_true (by omega), decide_eq_true (by omega)]; rfl) ?_
  exact runs_nx (sDr_o (xCall_o (xCons_o rfl (xCons_o rfl xNil_o)) c2)) ⟨_, rfl⟩
/-! ### loops as folds -/
theorem runs_fold {α β : Type} {mi : Nv → R (List D)} {g : D → Nv → R Nv} {b : Nv → R Fl} {ε : Nv} {post : Fl → Prop} (enc : α → D) (xs : List α) (f : β → α → β) (I : β → Nv → Prop) (s0 : β) (h : mi ε = .ok (xs.map enc)) (h0 : I s0 ε)
    (hs : ∀ (done : List α) (x : α) (s : β) η, done <+: xs → s = done.foldl f s0 → x ∈ xs → I s η → ∃ ε1, g (enc x) η = .ok ε1 ∧ Runs b ε1 (fun fl => ∃ η', fl = .nx η' ∧ I (f s x) η'))
    (hd : ∀ η, I (xs.foldl f s0) η → post (.nx η)) : Runs (sFor mi g b) ε post := by
  refine runs_for (fun i η => I ((xs.take i).foldl f s0) η) h h0 ?_ ?_
  · rintro i d η hx hI
    rw [List.getElem?_map] at hx
    obtain ⟨x, hx', rfl⟩ := Option.map_eq_some_iff.mp hx
    clear hx
    have hx := hx'
    obtain ⟨ε1, e1, fl, e2, η', rfl, e3⟩ := hs (xs.take i) x _ η (List.take_prefix i xs) rfl (List.mem_of_getElem? hx) hI
    refine ⟨ε1, e1, .nx η', e2, ?_⟩
    show I ((xs.take (i + 1)).foldl f s0) η'
    rw [List.take_succ, hx, List.foldl_append]
    exact e3
  · intro η hI
    rw [List.length_map, List.take_length] at hI
    exact hd η hI
/-! ### blocks by steps -/
def blk (K : Nat) (told : List Nat) (s : Nat) : List Nat := nsrt (told.map fun k => (k + s) % K)
def devL (K : Nat) (told : List Nat) : Bks := (List.range K).map (blk K told)
def dev (K : Nat) (base : Bks) : Bks := base.flatMap (devL K)
theorem mod2 {K x : Nat} (h : x < 2 * K) : x % K = if x < K then x else x - K := by
  split
  · rename_i q
    exact Nat.mod_eq_of_lt q
  · rename_i q
    rw [Nat.mod_eq_sub_mod (by omega), Nat.mod_eq_of_lt (by omega)]
theorem shift_nd {K s : Nat} {l : List Nat} (hl : l.Pairwise (· < ·)) (hk : ∀ k, k ∈ l → k < K) (hs : s < K) : (l.map fun k => (k + s) % K).Nodup := by
  refine List.pairwise_map.mpr (List.Pairwise.imp_of_mem (fun {a b} ha hb hab => ?_) hl)
  have h1 := hk a ha
  have h2 := hk b hb
  rw [mod2 (by omega), mod2 (by omega)]
  intro e
  split at e <;> split at e <;> omega
theorem isrt_nsrt {l : List Nat} (h : l.Nodup) : isrt leN l = nsrt l := by
  have e := isrt_eq leN leN_ok.1 leN_ok.2 l
  have pm : (isrt leN l).Perm l := by
    rw [← e]
    exact List.mergeSort_perm l leN
  have sd : (isrt leN l).Pairwise (fun a b => leN a b = true) := by
    rw [← e]
    exact List.pairwise_mergeSort leN_ok.1 leN_ok.2 l
  have lt : (isrt leN l).Pairwise (· < ·) := by
    have nd : (isrt leN l).Nodup := pm.nodup_iff.mpr h
    refine (sd.and nd).imp fun {a b} hab => ?_
    have h1 : a ≤ b := of_decide_eq_true hab.1
    have h2 : a ≠ b := hab.2
    omega
  exact ltN_uni (nsrt_lt l) lt fun z => by rw [pm.mem_iff, nsrt_mem]

theorem devL_lcG {K : Nat} {told : List Nat} {s : Nat} (hl : told.Pairwise (· < ·)) (hk : ∀ k, k ∈ told → k < K) (hs : s < K) (k12 : K ≤ 12) : kSort [nlD (told.map fun k => (k + s) % K)] = .ok (nlD (blk K told s)) := by
  have len := asc_len hl hk
  have := sort_nat (G := told.map fun k => (k + s) % K) (by rw [List.length_map]; omega)
  unfold nlD
  rw [this, isrt_nsrt (shift_nd hl hk hs)]
  rfl
theorem nat_mod {a s K : Nat} (h : 0 < K) : dMod (.int ((a : Int) + (s : Int))) (.int (K : Int)) = .ok (natD ((a + s) % K)) := by
  rw [dMod_ok (by omega)]
  rfl
theorem dev_len (K : Nat) : ∀ base : Bks, (dev K base).length = base.length * K
  | [] => by
    rw [List.length_nil, Nat.zero_mul]
    rfl
  | t :: base => by
    have ih := dev_len K base
    show (devL K t ++ dev K base).length = _
    rw [List.length_append, ih, List.length_cons, Nat.succ_mul]
    unfold devL
    rw [List.length_map, List.length_range]
    omega
theorem developed_ok {K : Nat} {base : Bks} (h : Bk K base) (h5 : base.length ≤ 3) : f_developed [natD K, bsD base] = .ok (bsD (dev K base)) := by
  have hlim := lim_eq
  have k2 := h.k2
  have k6 := h.k6
  have c1 := check_base_ok h (by omega)
  unfold f_developed
  refine runF_rt rfl ?_
  unfold m_developed
  change Runs _ [.im (natD K), .im (bsD base), .no, .no, .no] _
  refine runs_sn (sDr_o (xCall_o (xCons_o rfl (xCons_o rfl xNil_o)) c1)) ?_
  have key := lcG2_t (g := bN 2) (t := tYe) (mi1 := iRange1 (xCons (xV 0) xNil)) (g1 := bN 3) (e := xCall kSort (xCons (xLc [4] (iSeq (xV 2)) (bN 4) tYe (xBin dMod (xBin dAdd (xV 4) (xV 3)) (xV 0))) xNil)) (vs1 := [3]) (ε := [.im (natD K), .im (bsD base), .no, .no, .no]) nlD (fun _ => true) (devL K) nlD base (fun told ht => by
    refine ⟨[.im (natD K), .im (bsD base), .im (nlD told), .no, .no], rfl, rfl, fun _ => ⟨_, range_o (n := K) (by omega) rfl, ?_⟩⟩
    have e : (devL K told).map nlD = (List.range K).map fun s => nlD (blk K told s) := by
      unfold devL
      rw [List.map_map]
      rfl
    rw [e]
    refine lcG_a (enc := natD) (v := fun s => nlD (blk K told s)) (F := fun s => [.im (natD K), .im (bsD base), .im (nlD told), .im (natD s), .no]) (fun s _ => rfl) (fun s hs => ?_)
    have hs := List.mem_range.mp hs
    have l1 : xLc [4] (iSeq (xV 2)) (bN 4) tYe (xBin dMod (xBin dAdd (xV 4) (xV 3)) (xV 0)) [.im (natD K), .im (bsD base), .im (nlD told), .im (natD s), .no] = .ok (.list (told.map fun k => natD ((k + s) % K))) :=
      xLc_a (enc := natD) (xs := told) (F := fun k => [.im (natD K), .im (bsD base), .im (nlD told), .im (natD s), .im (natD k)]) (iSeq_o rfl) rfl (fun k _ => rfl) (fun k _ => xBin_o (xBin_o rfl rfl dAdd_i) rfl (nat_mod (by omega))) (by have := h.len ht; omega)
    have l2 := devL_lcG (h.inc told ht) (h.lt told ht) hs k6
    have e2 : nlD (told.map fun k => (k + s) % K) = .list (told.map fun k => natD ((k + s) % K)) := by
      unfold nlD
      rw [List.map_map]
      rfl
    rw [e2] at l2
    exact xCall_o (xCons_o l1 xNil_o) l2)
  have e3 : (base.flatMap fun x => if true = true then devL K x else []) = dev K base := rfl
  rw [e3] at key
  have dl : (dev K base).length ≤ 60 := by
    rw [dev_len]
    have := Nat.mul_le_mul h5 k6
    omega
  exact runs_rt (xLc2_ok (iSeq_o rfl) key (by rw [List.length_map]; omega)) rfl
end My
set_option Elab.async false
set_option linter.all false
set_option maxRecDepth 100000
set_option maxHeartbeats 4000000
set_option exponentiation.threshold 1000000
namespace My
open PySem Tw
local macro_rules | `(tactic| walk_at "go") => `(tactic| repeat' (with_reducible first | exact xV_0 | exact xC_o | exact xNil_o | exact st_0 | exact gt_0 | exact sNil_o | exact wipe_0 | apply wipe_n | exact bs0_o | apply xV_n | apply st_n | apply gt_n | apply sAs_o | apply sAsM_o | apply sDr_o | apply sPr_g | apply sUn_g | apply bN_o | apply bsC_o | apply bT_2o | apply bT_3o | apply bT_4o | apply bL_2o | apply xBin_o | apply xUn_o | apply xTup_o | apply xLst_o | apply xCall_o | apply xCons_o | apply tC_o | apply tV_o | apply tNo_o | apply tTh_g | exact th_0 | apply th_i | apply th_m | apply th_n | apply th_x | apply tOrr_g | apply tAn_g | apply xNo_g | apply xOrr_g | apply xAn_g | apply xCh_g | apply iSeq_o | assumption | exact dAdd_i | exact dSub_i | exact dNeg_i | exact dIx_t0 | exact dIx_t1 | exact cInt_i | exact cAbs_i | exact cLen_l | exact cLen_t | exact dLt_i | exact dGt_i | exact dLe_i | exact dGe_i | exact dEq_int _ _ | exact dNe_int _ _ | exact kMin_i | exact kMax_i | exact rfl))
/-! ### differences -/
def gap (K a b : Nat) : Nat := (b + K - a) % K
theorem gap_is {K a b : Nat} (ha : a < K) (hb : b < K) : gap K a b = if a ≤ b then b - a else b + K - a := by
  unfold gap
  rw [mod2 (by omega)]
  split <;> split <;> omega
theorem gap_b {K a b : Nat} (ha : a < K) (hb : b < K) (h : a ≠ b) : 1 ≤ gap K a b ∧ gap K a b < K := by
  rw [gap_is ha hb]
  split <;> omega
theorem gap_mod {K a b : Nat} (ha : a < K) (hb : b < K) : dMod (.int ((b : Int) - (a : Int))) (.int (K : Int)) = .ok (natD (gap K a b)) := by
  rw [dMod_ok (by omega)]
  unfold gap natD
  refine congrArg (fun z => R.ok (PyData.int z)) ?_
  rw [Int.natCast_emod, show ((b + K - a : Nat) : Int) = (b : Int) - (a : Int) + (K : Int) by omega, Int.add_emod_right]
def stp (K : Nat) (s : List Nat) (a b : Nat) : List Nat := if a = b then s else s.set (gap K a b - 1) (nA s (gap K a b - 1) + 1)
def row2 (K : Nat) (told : List Nat) (s : List Nat) (a : Nat) : List Nat := told.foldl (fun s b => stp K s a b) s
def row1 (K : Nat) (s : List Nat) (told : List Nat) : List Nat := told.foldl (row2 K told) s
def due (K : Nat) (base : Bks) : List Nat := base.foldl (row1 K) (List.replicate (K - 1) 0)
theorem set_nat {s : List Nat} {i v : Nat} : (s.map natD).set i (natD v) = (s.set i v).map natD := by
  rw [List.map_set]
theorem rep0 (n : Nat) : (List.replicate n (PyData.int 0)) = (List.replicate n 0).map natD := by
  rw [List.map_replicate]
  rfl
theorem differences_ok {K : Nat} {base : Bks} (h : Bk K base) (h5 : base.length ≤ 3) : f_differences [natD K, bsD base] = .ok (nlD (due K base)) := by
  have hlim := lim_eq
  have k2 := h.k2
  have k6 := h.k6
  have c1 := check_base_ok h (by omega)
  unfold f_differences
  refine runF_rt rfl ?_
  unfold m_differences
  change Runs _ [.im (natD K), .im (bsD base), .no, .no, .no, .no] _
  refine runs_sn (sDr_o (xCall_o (xCons_o rfl (xCons_o rfl xNil_o)) c1)) ?_
  have rp := dRep_one (d := .int 0) (n := K - 1) (by omega)
  rw [rep0] at rp
  have k1 : ((K : Int) - 1) = ((K - 1 : Nat) : Int) := by omega
  refine runs_sn (ε' := [.im (natD K), .im (bsD base), .mu (nlD (List.replicate (K - 1) 0)), .no, .no, .no]) (sAsM_o (xBin_o (xLst_o (xCons_o xC_o xNil_o)) ((xBin_o rfl xC_o dSub_i).trans (by rw [k1])) rp) rfl) ?_
  refine runs_seq (runs_fold nlD base (row1 K) (fun s ε => ∃ a3 a4 a5, ε = [.im (natD K), .im (bsD base), .mu (nlD s), a3, a4, a5] ∧ s.length = K - 1) (List.replicate (K - 1) 0) (iSeq_o rfl) ⟨_, _, _, rfl, List.length_replicate⟩ ?_ ?_)
  · rintro _ told s η _ _ ht ⟨a3, a4, a5, rfl, hl⟩
    have hk := h.lt told ht
    refine ⟨[.im (natD K), .im (bsD base), .mu (nlD s), .im (nlD told), a4, a5], rfl, ?_⟩
    refine runs_fold natD told (row2 K told) (fun s ε => ∃ a4 a5, ε = [.im (natD K), .im (bsD base), .mu (nlD s), .im (nlD told), a4, a5] ∧ s.length = K - 1) s (iSeq_o rfl) ⟨_, _, rfl, hl⟩ ?_ ?_
    · rintro _ a s η _ _ ha ⟨a4, a5, rfl, hl⟩
      refine ⟨[.im (natD K), .im (bsD base), .mu (nlD s), .im (nlD told), .im (natD a), a5], rfl, ?_⟩
      refine runs_fold natD told (fun s b => stp K s a b) (fun s ε => ∃ a5, ε = [.im (natD K), .im (bsD base), .mu (nlD s), .im (nlD told), .im (natD a), a5] ∧ s.length = K - 1) s (iSeq_o rfl) ⟨_, rfl, hl⟩ ?_ ?_
      · rintro _ b s η _ _ hb ⟨a5, rfl, hl⟩
        refine ⟨[.im (natD K), .im (bsD base), .mu (nlD s), .im (nlD told), .im (natD a), .im (natD b)], rfl, ?_⟩
        refine runs_if (b := !decide ((a : Int) = (b : Int))) (tC_o (xBin_o rfl rfl (dNe_int _ _))) (fun hq => ?_) (fun hq => ?_)
        · have ne : a ≠ b := fun z => by
            rw [z] at hq
            simp at hq
          obtain ⟨g1, g2⟩ := gap_b (hk a ha) (hk b hb) ne
          have gm := gap_mod (hk a ha) (hk b hb)
          have e1 : ((gap K a b : Nat) : Int) - 1 = ((gap K a b - 1 : Nat) : Int) := by omega
          have ix : (xBin dSub (xBin dMod (xBin dSub (xV 5) (xV 4)) (xV 0)) (xC (.int 1))) [.im (natD K), .im (bsD base), .mu (nlD s), .im (nlD told), .im (natD a), .im (natD b)] = .ok (.int ((gap K a b - 1 : Nat) : Int)) := (xBin_o (xBin_o (xBin_o rfl rfl dSub_i) rfl gm) xC_o dSub_i).trans (by rw [e1])
          refine runs_nx (ε' := [.im (natD K), .im (bsD base), .mu (nlD (stp K s a b)), .im (nlD told), .im (natD a), .im (natD b)]) (sSt_o (ds := s.map natD) (k := gap K a b - 1) (d := natD (nA s (gap K a b - 1) + 1)) (xBin_o (xIm_o rfl ix (dIx_nl (b := s) (by omega))) xC_o dAdd_i) ix rfl (ixN_of (n := (s.map natD).length) (by omega) (by rw [List.length_map]; omega)) ?_) ⟨_, rfl, _, rfl, ?_⟩
          · unfold stp
            rw [if_neg ne, set_nat]
            rfl
          · unfold stp
            rw [if_neg ne, List.length_set, hl]
        · have e : a = b := by
            simp at hq
            omega
          refine runs_nil ⟨_, rfl, _, by unfold stp; rw [if_pos e], ?_⟩
          unfold stp
          rw [if_pos e, hl]
      · rintro η ⟨a5, rfl, hl⟩
        exact ⟨_, rfl, _, _, rfl, hl⟩
    · rintro η ⟨a4, a5, rfl, hl⟩
      exact ⟨_, rfl, _, _, _, rfl, hl⟩
  · rintro η ⟨a3, a4, a5, rfl, hl⟩
    exact runs_rtM rfl rfl
end My
set_option Elab.async false
set_option linter.all false
set_option maxRecDepth 100000
set_option maxHeartbeats 4000000
set_option exponentiation.threshold 1000000
namespace My
open PySem Tw
local macro_rules | `(tactic| walk_at "go") => `(tactic| repeat' (with_reducible first | exact xV_0 | exact xC_o | exact xNil_o | exact st_0 | exact gt_0 | exact sNil_o | exact wipe_0 | apply wipe_n | exact bs0_o | apply xV_n | apply st_n | apply gt_n | apply sAs_o | apply sAsM_o | apply sDr_o | apply sPr_g | apply sUn_g | apply bN_o | apply bsC_o | apply bT_2o | apply bT_3o | apply bT_4o | apply bL_2o | apply xBin_o | apply xUn_o | apply xTup_o | apply xLst_o | apply xCall_o | apply xCons_o | apply tC_o | apply tV_o | apply tNo_o | apply tTh_g | exact th_0 | apply th_i | apply th_m | apply th_n | apply th_x | apply tOrr_g | apply tAn_g | apply xNo_g | apply xOrr_g | apply xAn_g | apply xCh_g | apply iSeq_o | assumption | exact dAdd_i | exact dSub_i | exact dNeg_i | exact dIx_t0 | exact dIx_t1 | exact cInt_i | exact cAbs_i | exact cLen_l | exact cLen_t | exact dLt_i | exact dGt_i | exact dLe_i | exact dGe_i | exact dEq_int _ _ | exact dNe_int _ _ | exact kMin_i | exact kMax_i | exact rfl))
def dueM : Nv → R Fl := (sFor (iSeq (xV 4)) (bN 7)
    (sFor (iSeq (xV 7)) (bN 11)
      (sFor (iSeq (xV 7)) (bN 15)
        (sIf (tC' (xBin dNe (xV 11) (xV 15)))
          (sSeq (sAs 16 (xBin dMod (xCall cInt (xCons (xBin dSub (xV 15) (xV 11)) xNil)) (xV 3)))
            (sSt 6 (xBin dSub (xV 16) (xC (.int 1))) (xBin dAdd (xIm 6 (xBin dSub (xV 16) (xC (.int 1)))) (xC (.int 1)))))
          sNil))))
def blkM : Nv → R Fl := (sFor (iSeq (xV 4)) (bN 7)
    (sFor (iRange1 (xCons (xV 3) xNil)) (bN 12)
      (sAp 8 (xCall kSort (xCons (xLc [17] (iSeq (xV 7)) (bN 17) tYe (xBin dMod (xCall cInt (xCons (xBin dAdd (xV 17) (xV 12)) xNil)) (xV 3))) xNil)))))
def barM : Nv → R Fl := (sBar [1, 2, 3, 4, 5, 6, 8] [(14, .each)]
    (sSeq (sPm 13 true 14 false (xCall f_differences (xCons (xV 3) (xCons (xV 4) xNil))) (xCall f_developed (xCons (xV 3) (xCons (xV 4) xNil))))
    (sSeq (sIf (tOrr (tTh (tC' (xBin dNe (xCall cRepr (xCons (xV 13) xNil)) (xCall cRepr (xCons (xV 6) xNil))))) (tC' (xBin dNe (xCall cRepr (xCons (xV 14) xNil)) (xCall cRepr (xCons (xV 8) xNil)))))
    (sRt (xC (.bool false)))
    sNil)
    (sSeq (sAs 9 (xCall f_pair_counts (xCons (xV 3) (xCons (xV 8) xNil))))
    (sSeq (sFk 9 11 15 [3, 6, 11, 15] (tOrr (tC' (xBin dNe (xDiT 9 (xCons (xV 11) (xCons (xV 15) xNil))) (xBin dIx (xV 6) (xBin dSub (xBin dSub (xV 15) (xV 11)) (xC (.int 1)))))) (tC' (xBin dNe (xBin dIx (xV 6) (xBin dSub (xBin dSub (xV 15) (xV 11)) (xC (.int 1)))) (xBin dIx (xV 6) (xBin dSub (xBin dSub (xV 3) (xBin dSub (xV 15) (xV 11))) (xC (.int 1))))))))
    (sSeq (sAs 10 (xAn (xBin dEq (xUn dLs (xV 6)) (xC (.int 1))) (xAn (xBin dGt (xBin dIx (xV 6) (xC (.int 0))) (xC (.int 0))) (xAn (xBin dEq (xUn dLs (xLc [7] (iSeq (xV 4)) (bN 7) tYe (xCall cLen (xCons (xV 7) xNil)))) (xC (.int 1))) (xCh dLe dLt (xC (.int 2)) (xCall cLen (xCons (xBin dIx (xV 4) (xC (.int 0))) xNil)) (xV 3))))))
    (sSeq (sIf (tC' (xBin dNe (xBin dIsNot (xCall f_balance (xCons (xV 3) (xCons (xV 8) xNil))) (xC .none)) (xV 10)))
    (sRt (xC (.bool false)))
    sNil)
    (sSeq (sIf (tAn (tV (xV 10)) (tC' (xBin dNe (xCall f_balance (xCons (xV 3) (xCons (xV 8) xNil))) (xTup (xCons (xBin dMul (xCall cLen (xCons (xV 4) xNil)) (xCall cLen (xCons (xBin dIx (xV 4) (xC (.int 0))) xNil))) (xCons (xBin dIx (xV 6) (xC (.int 0))) xNil))))))
    (sRt (xC (.bool false)))
    sNil)
    (sSeq (sMtI 14 0 [1, 2, 3, 4, 5, 6, 8] [(14, .each)] (xC (.int 99)))
    (sSeq (sAp 13 (xC (.int 0)))
    (sIf (tOrr (tC' (xBin dNe (xCall cRepr (xCons (xCall f_developed (xCons (xV 3) (xCons (xV 4) xNil))) xNil)) (xCall cRepr (xCons (xV 8) xNil)))) (tC' (xBin dNe (xCall cRepr (xCons (xV 4) xNil)) (xV 5))))
    (sRt (xC (.bool false)))
    sNil)))))))))))
def lE (a0 a1 a2 a3 a4 a5 a6 a7 a8 a9 a10 a11 a12 a13 a14 a15 a16 a17 : SV) : Nv := [a0, a1, a2, a3, a4, a5, a6, a7, a8, a9, a10, a11, a12, a13, a14, a15, a16, a17]
section
variable {K : Nat} {base : Bks} {a0 a1 a2 a5 a7 a8 a9 a10 a11 a12 a13 a14 a15 a16 a17 : SV}
theorem due_ok (h : Bk K base) : Runs dueM (lE a0 a1 a2 (.im (natD K)) (.im (bsD base)) a5 (.mu (nlD (List.replicate (K - 1) 0))) a7 a8 a9 a10 a11 a12 a13 a14 a15 a16 a17) (fun fl => ∃ b7 b11 b15 b16, fl = .nx (lE a0 a1 a2 (.im (natD K)) (.im (bsD base)) a5 (.mu (nlD (due K base))) b7 a8 a9 a10 b11 a12 a13 a14 b15 b16 a17)) := by
  have k2 := h.k2
  have k6 := h.k6
  unfold dueM
  refine runs_fold nlD base (row1 K) (fun s ε => ∃ b7 b11 b15 b16, ε = lE a0 a1 a2 (.im (natD K)) (.im (bsD base)) a5 (.mu (nlD s)) b7 a8 a9 a10 b11 a12 a13 a14 b15 b16 a17 ∧ s.length = K - 1) (List.replicate (K - 1) 0) (iSeq_o rfl) ⟨_, _, _, _, rfl, List.length_replicate⟩ ?_ ?_
  · rintro _ told s η _ _ ht ⟨b7, b11, b15, b16, rfl, hl⟩
    have hk := h.lt told ht
    refine ⟨lE a0 a1 a2 (.im (natD K)) (.im (bsD base)) a5 (.mu (nlD s)) (.im (nlD told)) a8 a9 a10 b11 a12 a13 a14 b15 b16 a17, rfl, ?_⟩
    refine runs_fold natD told (row2 K told) (fun s ε => ∃ b11 b15 b16, ε = lE a0 a1 a2 (.im (natD K)) (.im (bsD base)) a5 (.mu (nlD s)) (.im (nlD told)) a8 a9 a10 b11 a12 a13 a14 b15 b16 a17 ∧ s.length = K - 1) s (iSeq_o rfl) ⟨_, _, _, rfl, hl⟩ ?_ ?_
    · rintro _ a s η _ _ ha ⟨b11, b15, b16, rfl, hl⟩
      refine ⟨lE a0 a1 a2 (.im (natD K)) (.im (bsD base)) a5 (.mu (nlD s)) (.im (nlD told)) a8 a9 a10 (.im (natD a)) a12 a13 a14 b15 b16 a17, rfl, ?_⟩
      refine runs_fold natD told (fun s b => stp K s a b) (fun s ε => ∃ b15 b16, ε = lE a0 a1 a2 (.im (natD K)) (.im (bsD base)) a5 (.mu (nlD s)) (.im (nlD told)) a8 a9 a10 (.im (natD a)) a12 a13 a14 b15 b16 a17 ∧ s.length = K - 1) s (iSeq_o rfl) ⟨_, _, rfl, hl⟩ ?_ ?_
      · rintro _ b s η _ _ hb ⟨b15, b16, rfl, hl⟩
        refine ⟨lE a0 a1 a2 (.im (natD K)) (.im (bsD base)) a5 (.mu (nlD s)) (.im (nlD told)) a8 a9 a10 (.im (natD a)) a12 a13 a14 (.im (natD b)) b16 a17, rfl, ?_⟩
        refine runs_if (b := !decide ((a : Int) = (b : Int))) (tC_o (xBin_o rfl rfl (dNe_int _ _))) (fun hq => ?_) (fun hq => ?_)
        · have ne : a ≠ b := fun z => by
            rw [z] at hq
            simp at hq
          obtain ⟨g1, g2⟩ := gap_b (hk a ha) (hk b hb) ne
          have gm := gap_mod (hk a ha) (hk b hb)
          have e1 : ((gap K a b : Nat) : Int) - 1 = ((gap K a b - 1 : Nat) : Int) := by omega
          refine runs_sn (ε' := lE a0 a1 a2 (.im (natD K)) (.im (bsD base)) a5 (.mu (nlD s)) (.im (nlD told)) a8 a9 a10 (.im (natD a)) a12 a13 a14 (.im (natD b)) (.im (natD (gap K a b))) a17) (sAs_o (xBin_o (xCall_o (xCons_o (xBin_o rfl rfl dSub_i) xNil_o) cInt_i) rfl gm) rfl) ?_
          have ix : (xBin dSub (xV 16) (xC (.int 1))) (lE a0 a1 a2 (.im (natD K)) (.im (bsD base)) a5 (.mu (nlD s)) (.im (nlD told)) a8 a9 a10 (.im (natD a)) a12 a13 a14 (.im (natD b)) (.im (natD (gap K a b))) a17) = .ok (.int ((gap K a b - 1 : Nat) : Int)) := (xBin_o rfl xC_o dSub_i).trans (by rw [e1])
          refine runs_nx (ε' := lE a0 a1 a2 (.im (natD K)) (.im (bsD base)) a5 (.mu (nlD (stp K s a b))) (.im (nlD told)) a8 a9 a10 (.im (natD a)) a12 a13 a14 (.im (natD b)) (.im (natD (gap K a b))) a17) (sSt_o (ds := s.map natD) (k := gap K a b - 1) (d := natD (nA s (gap K a b - 1) + 1)) (xBin_o (xIm_o rfl ix (dIx_nl (b := s) (by omega))) xC_o dAdd_i) ix rfl (ixN_of (n := (s.map natD).length) (by omega) (by rw [List.length_map]; omega)) ?_) ⟨_, rfl, _, _, rfl, ?_⟩
          · unfold stp
            rw [if_neg ne, set_nat]
            rfl
          · unfold stp
            rw [if_neg ne, List.length_set, hl]
        · have e : a = b := by
            simp at hq
            omega
          refine runs_nil ⟨_, rfl, _, _, by unfold stp; rw [if_pos e], ?_⟩
          unfold stp
          rw [if_pos e, hl]
      · rintro η ⟨b15, b16, rfl, hl⟩
        exact ⟨_, rfl, _, _, _, rfl, hl⟩
    · rintro η ⟨b11, b15, b16, rfl, hl⟩
      exact ⟨_, rfl, _, _, _, _, rfl, hl⟩
  · rintro η ⟨b7, b11, b15, b16, rfl, hl⟩
    exact ⟨_, _, _, _, rfl⟩
theorem fold_app {α β : Type} (f : α → List β) : ∀ (xs : List α) (s : List β), xs.foldl (fun s x => s ++ f x) s = s ++ xs.flatMap f
  | [], s => by rw [List.foldl_nil, List.flatMap_nil, List.append_nil]
  | x :: xs, s => by rw [List.foldl_cons, fold_app f xs, List.flatMap_cons, List.append_assoc]
theorem fold_one {α β : Type} (f : α → β) (xs : List α) (s : List β) : xs.foldl (fun s x => s ++ [f x]) s = s ++ xs.map f := by
  rw [fold_app (fun x => [f x])]
  congr 1
  induction xs with
  | nil => rfl
  | cons x xs ih => rw [List.flatMap_cons, ih]; rfl
theorem blocks_ok (h : Bk K base) (h5 : base.length ≤ 3) {a6 : SV} : Runs blkM (lE a0 a1 a2 (.im (natD K)) (.im (bsD base)) a5 a6 a7 (.mu (.list [])) a9 a10 a11 a12 a13 a14 a15 a16 a17) (fun fl => ∃ b7 b12 b17, fl = .nx (lE a0 a1 a2 (.im (natD K)) (.im (bsD base)) a5 a6 b7 (.mu (bsD (dev K base))) a9 a10 a11 b12 a13 a14 a15 a16 b17)) := by
  have hlim := lim_eq
  have k2 := h.k2
  have k6 := h.k6
  unfold blkM
  refine runs_fold nlD base (fun s told => s ++ devL K told) (fun s ε => ∃ b7 b12 b17, ε = lE a0 a1 a2 (.im (natD K)) (.im (bsD base)) a5 a6 b7 (.mu (bsD s)) a9 a10 a11 b12 a13 a14 a15 a16 b17) [] (iSeq_o rfl) ⟨_, _, _, rfl⟩ ?_ ?_
  · rintro done told s η hpre hsd ht ⟨b7, b12, b17, rfl⟩
    have hs : s.length ≤ 36 := by
      rw [hsd, fold_app (devL K), List.nil_append]
      have := dev_len K done
      have l1 := hpre.length_le
      have := Nat.mul_le_mul (show done.length ≤ 3 by omega) k6
      show (dev K done).length ≤ 36
      omega
    refine ⟨lE a0 a1 a2 (.im (natD K)) (.im (bsD base)) a5 a6 (.im (nlD told)) (.mu (bsD s)) a9 a10 a11 b12 a13 a14 a15 a16 b17, rfl, ?_⟩
    refine runs_fold natD (List.range K) (fun s x => s ++ [blk K told x]) (fun s ε => ∃ b12 b17, ε = lE a0 a1 a2 (.im (natD K)) (.im (bsD base)) a5 a6 (.im (nlD told)) (.mu (bsD s)) a9 a10 a11 b12 a13 a14 a15 a16 b17) s (range_o (n := K) (by omega) rfl) ⟨_, _, rfl⟩ ?_ ?_
    · rintro done x s' η hpre hsd' hx ⟨b12, b17, rfl⟩
      have hx := List.mem_range.mp hx
      have hs' : s'.length ≤ 60 := by
        rw [hsd', fold_one, List.length_append, List.length_map]
        have l1 := hpre.length_le
        rw [List.length_range] at l1
        omega
      refine ⟨lE a0 a1 a2 (.im (natD K)) (.im (bsD base)) a5 a6 (.im (nlD told)) (.mu (bsD s')) a9 a10 a11 (.im (natD x)) a13 a14 a15 a16 b17, rfl, ?_⟩
      have l1 : xLc [17] (iSeq (xV 7)) (bN 17) tYe (xBin dMod (xCall cInt (xCons (xBin dAdd (xV 17) (xV 12)) xNil)) (xV 3)) (lE a0 a1 a2 (.im (natD K)) (.im (bsD base)) a5 a6 (.im (nlD told)) (.mu (bsD s')) a9 a10 a11 (.im (natD x)) a13 a14 a15 a16 b17) = .ok (.list (told.map fun k => natD ((k + x) % K))) :=
        xLc_a (enc := natD) (xs := told) (F := fun k => lE a0 a1 a2 (.im (natD K)) (.im (bsD base)) a5 a6 (.im (nlD told)) (.mu (bsD s')) a9 a10 a11 (.im (natD x)) a13 a14 a15 a16 (.im (natD k))) (iSeq_o rfl) rfl (fun k _ => rfl) (fun k _ => xBin_o (xCall_o (xCons_o (xBin_o rfl rfl dAdd_i) xNil_o) cInt_i) rfl (nat_mod (by omega))) (by have := h.len ht; omega)
      have l2 := devL_lcG (h.inc told ht) (h.lt told ht) hx k6
      have e2 : nlD (told.map fun k => (k + x) % K) = .list (told.map fun k => natD ((k + x) % K)) := by
        unfold nlD
        rw [List.map_map]
        rfl
      rw [e2] at l2
      exact runs_nx (sAp_o (ds := s'.map nlD) (xCall_o (xCons_o l1 xNil_o) l2) rfl (by rw [List.length_map]; omega) rfl) ⟨_, rfl, _, _, by unfold bsD; rw [List.map_append]; rfl⟩
    · rintro η ⟨b12, b17, rfl⟩
      rw [fold_one]
      exact ⟨_, rfl, _, _, _, rfl⟩
  · rintro η ⟨b7, b12, b17, rfl⟩
    rw [fold_app (devL K), List.nil_append]
    exact ⟨_, _, _, rfl⟩
end
end My
set_option Elab.async false
set_option linter.all false
set_option maxRecDepth 100000
set_option maxHeartbeats 4000000
set_option exponentiation.threshold 1000000
namespace My
open PySem Tw
local macro_rules | `(tactic| walk_at "go") => `(tactic| repeat' (with_reducible first | exact xV_0 | exact xC_o | exact xNil_o | exact st_0 | exact gt_0 | exact sNil_o | exact wipe_0 | apply wipe_n | exact bs0_o | apply xV_n | apply st_n | apply gt_n | apply sAs_o | apply sAsM_o | apply sDr_o | apply sPr_g | apply sUn_g | apply bN_o | apply bsC_o | apply bT_2o | apply bT_3o | apply bT_4o | apply bL_2o | apply xBin_o | apply xUn_o | apply xTup_o | apply xLst_o | apply xCall_o | apply xCons_o | apply tC_o | apply tV_o | apply tNo_o | apply tTh_g | exact th_0 | apply th_i | apply th_m | apply th_n | apply th_x | apply tOrr_g | apply tAn_g | apply xNo_g | apply xOrr_g | apply xAn_g | apply xCh_g | apply iSeq_o | assumption | exact dAdd_i | exact dSub_i | exact dNeg_i | exact dIx_t0 | exact dIx_t1 | exact cInt_i | exact cAbs_i | exact cLen_l | exact cLen_t | exact dLt_i | exact dGt_i | exact dLe_i | exact dGe_i | exact dEq_int _ _ | exact dNe_int _ _ | exact kMin_i | exact kMax_i | exact rfl))
/-! ### counting -/
def ind (p : Prop) [Decidable p] : Nat := if p then 1 else 0
def sm {α : Type} (l : List α) (f : α → Nat) : Nat := (l.map f).sum
section
variable {α β : Type}
theorem sm_nil (f : α → Nat) : sm [] f = 0 := rfl
theorem sm_cons (x : α) (l : List α) (f : α → Nat) : sm (x :: l) f = f x + sm l f := by
  unfold sm
  rw [List.map_cons, List.sum_cons]
theorem sm_congr {l : List α} {f g : α → Nat} (h : ∀ x, x ∈ l → f x = g x) : sm l f = sm l g := by
  unfold sm
  rw [List.map_congr_left h]
theorem sm_app (a b : List α) (f : α → Nat) : sm (a ++ b) f = sm a f + sm b f := by
  unfold sm
  rw [List.map_append, List.sum_append]
theorem sm_map (g : β → α) (l : List β) (f : α → Nat) : sm (l.map g) f = sm l fun x => f (g x) := by
  unfold sm
  rw [List.map_map]
  rfl
theorem sm_flat (g : β → List α) (f : α → Nat) : ∀ l : List β, sm (l.flatMap g) f = sm l fun x => sm (g x) f
  | [] => rfl
  | x :: l => by rw [List.flatMap_cons, sm_app, sm_flat g f l, sm_cons]
theorem sm_add (f g : α → Nat) : ∀ l : List α, (sm l fun x => f x + g x) = sm l f + sm l g
  | [] => rfl
  | x :: l => by rw [sm_cons, sm_cons, sm_cons, sm_add f g l]; omega
theorem sm_zero : ∀ l : List α, (sm l fun _ => 0) = 0
  | [] => rfl
  | x :: l => by rw [sm_cons, sm_zero l]
theorem sm_swap (f : α → β → Nat) (m : List β) : ∀ l : List α, (sm l fun x => sm m fun y => f x y) = sm m fun y => sm l fun x => f x y
  | [] => by
    rw [sm_nil]
    exact (sm_zero m).symm
  | x :: l => by
    rw [sm_cons, sm_swap f m l, ← sm_add]
    exact sm_congr fun y _ => (sm_cons x l fun x => f x y).symm
theorem sm_mulR (f : α → Nat) (c : Nat) : ∀ l : List α, sm l f * c = sm l fun x => f x * c
  | [] => by rw [sm_nil, Nat.zero_mul, sm_nil]
  | x :: l => by rw [sm_cons, Nat.add_mul, sm_mulR f c l, sm_cons]
theorem sm_mulL (f : α → Nat) (c : Nat) (l : List α) : c * sm l f = sm l fun x => c * f x := by
  rw [Nat.mul_comm, sm_mulR]
  exact sm_congr fun x _ => Nat.mul_comm _ _
theorem sm_le {f : α → Nat} {c : Nat} : ∀ {l : List α}, (∀ x, x ∈ l → f x ≤ c) → sm l f ≤ l.length * c
  | [], _ => by rw [sm_nil]; exact Nat.zero_le _
  | x :: l, h => by
    rw [sm_cons, List.length_cons, Nat.succ_mul]
    have := h x List.mem_cons_self
    have := sm_le (l := l) fun y hy => h y (List.mem_cons_of_mem _ hy)
    omega
theorem sm_one : ∀ l : List α, (sm l fun _ => 1) = l.length
  | [] => rfl
  | x :: l => by rw [sm_cons, sm_one l, List.length_cons]; omega
theorem len_filter (p : α → Bool) : ∀ l : List α, (l.filter p).length = sm l fun x => ind (p x = true)
  | [] => rfl
  | x :: l => by
    rw [sm_cons, List.filter_cons, ← len_filter p l]
    unfold ind
    by_cases h : p x = true
    · rw [if_pos h, if_pos h, List.length_cons]
      omega
    · rw [if_neg h, if_neg h]
      omega
theorem ind_mem {x : Nat} : ∀ {l : List Nat}, l.Nodup → ind (x ∈ l) = sm l fun y => ind (y = x)
  | [], _ => by
    unfold ind
    rw [if_neg (by simp)]
    rfl
  | y :: l, h => by
    obtain ⟨h1, h2⟩ := List.nodup_cons.mp h
    rw [sm_cons, ← ind_mem h2]
    unfold ind
    by_cases e : y = x
    · subst e
      rw [if_pos List.mem_cons_self, if_pos rfl, if_neg h1]
    · rw [if_neg e]
      by_cases m : x ∈ l
      · rw [if_pos m, if_pos (List.mem_cons_of_mem _ m)]
      · rw [if_neg m, if_neg (by simp; exact ⟨fun z => e z.symm, m⟩)]
theorem ind_and (p q : Prop) [Decidable p] [Decidable q] : ind (p ∧ q) = ind p * ind q := by
  unfold ind
  by_cases h1 : p <;> by_cases h2 : q <;> simp [h1, h2]
theorem ind_iff {p q : Prop} [Decidable p] [Decidable q] (h : p ↔ q) : ind p = ind q := by
  unfold ind
  by_cases h1 : p
  · rw [if_pos h1, if_pos (h.mp h1)]
  · rw [if_neg h1, if_neg (fun z => h1 (h.mpr z))]
/-- just one of the range -/
theorem sm_at {n s0 : Nat} (h : s0 < n) (f : Nat → Nat) : (sm (List.range n) fun s => ind (s = s0) * f s) = f s0 := by
  have key : ∀ m, (sm (List.range m) fun s => ind (s = s0) * f s) = if s0 < m then f s0 else 0 := by
    intro m
    induction m with
    | zero => rfl
    | succ m ih =>
      rw [List.range_succ, sm_app, ih, sm_cons, sm_nil]
      unfold ind
      by_cases e : m = s0
      · subst e
        rw [if_neg (Nat.lt_irrefl _), if_pos rfl, if_pos (Nat.lt_succ_self _)]
        omega
      · rw [if_neg e]
        by_cases l : s0 < m
        · rw [if_pos l, if_pos (by omega)]
          omega
        · rw [if_neg l, if_neg (by omega)]
          omega
  rw [key, if_pos h]
/-- a fold that adds up -/
theorem fold_add (f : β → α → β) (v : β → Nat) (P : β → Prop) (g : α → Nat) : ∀ (xs : List α) (s : β), (∀ s x, x ∈ xs → P s → P (f s x) ∧ v (f s x) = v s + g x) → P s → P (xs.foldl f s) ∧ v (xs.foldl f s) = v s + sm xs g
  | [], s, _, p => ⟨p, rfl⟩
  | x :: xs, s, h, p => by
    obtain ⟨p1, e1⟩ := h s x List.mem_cons_self p
    obtain ⟨p2, e2⟩ := fold_add f v P g xs (f s x) (fun s y hy => h s y (List.mem_cons_of_mem _ hy)) p1
    refine ⟨p2, ?_⟩
    rw [List.foldl_cons, e2, e1, sm_cons]
    omega
end
section
variable {K : Nat} {base : Bks}
def pr3 (K d : Nat) (told : List Nat) : Nat := sm told fun a => sm told fun b => ind (gap K a b = d)
theorem nA_set {s : List Nat} {i j v : Nat} (h : i < s.length) : nA (s.set i v) j = if i = j then v else nA s j := by
  unfold nA
  rw [List.getD_eq_getElem?_getD, List.getD_eq_getElem?_getD, List.getElem?_set]
  by_cases e : i = j
  · subst e
    rw [if_pos rfl, if_pos rfl, if_pos h]
    rfl
  · rw [if_neg e, if_neg e]
theorem stp_at {s : List Nat} {a b d : Nat} (hs : s.length = K - 1) (ha : a < K) (hb : b < K) (h1 : 1 ≤ d) (h2 : d < K) : (stp K s a b).length = K - 1 ∧ nA (stp K s a b) (d - 1) = nA s (d - 1) + ind (gap K a b = d) := by
  unfold stp
  by_cases e : a = b
  · rw [if_pos e]
    refine ⟨hs, ?_⟩
    unfold ind
    rw [if_neg (by rw [gap_is ha hb]; split <;> omega)]
    omega
  · obtain ⟨g1, g2⟩ := gap_b ha hb e
    rw [if_neg e]
    refine ⟨by rw [List.length_set, hs], ?_⟩
    rw [nA_set (by omega)]
    unfold ind
    by_cases q : gap K a b = d
    · rw [if_pos (by omega), if_pos q, q]
    · rw [if_neg (by omega), if_neg q]
      omega
theorem due_at (h : Bk K base) {d : Nat} (h1 : 1 ≤ d) (h2 : d < K) : (due K base).length = K - 1 ∧ nA (due K base) (d - 1) = sm base (pr3 K d) := by
  have key := fold_add (row1 K) (fun s => nA s (d - 1)) (fun s => s.length = K - 1) (pr3 K d) base (List.replicate (K - 1) 0) (fun s told ht p => by
    have hk := h.lt told ht
    exact fold_add (row2 K told) (fun s => nA s (d - 1)) (fun s => s.length = K - 1) _ told s (fun s a ha p => by
      exact fold_add (fun s b => stp K s a b) (fun s => nA s (d - 1)) (fun s => s.length = K - 1) _ told s (fun s b hb p => stp_at p (hk a ha) (hk b hb) h1 h2) p) p) List.length_replicate
  refine ⟨key.1, ?_⟩
  have e := key.2
  have z : nA (List.replicate (K - 1) 0) (d - 1) = 0 := by
    unfold nA
    rw [List.getD_eq_getElem?_getD, List.getElem?_replicate]
    split <;> rfl
  show nA (base.foldl (row1 K) _) (d - 1) = _
  omega
theorem due_len (h : Bk K base) : (due K base).length = K - 1 := (due_at h (d := 1) (Nat.le_refl _) (by have := h.k2; omega)).1
theorem mem_blk {told : List Nat} (hi : told.Pairwise (· < ·)) (hk : ∀ k, k ∈ told → k < K) {s x : Nat} (hs : s < K) : ind (x ∈ blk K told s) = sm told fun a => ind ((a + s) % K = x) := by
  rw [← sm_map (fun a => (a + s) % K) told (fun y => ind (y = x)), ← ind_mem (shift_nd hi hk hs)]
  exact ind_iff (nsrt_mem _ x)
theorem one_step {a b i j : Nat} (ha : a < K) (hb : b < K) (hij : i < j) (hj : j < K) : (sm (List.range K) fun s => ind ((a + s) % K = i) * ind ((b + s) % K = j)) = ind (gap K a b = j - i) := by
  obtain ⟨s0, e0⟩ : ∃ s0, s0 = if a ≤ i then i - a else i + K - a := ⟨_, rfl⟩
  have l0 : s0 < K := by
    rw [e0]
    split <;> omega
  rw [sm_congr (g := fun s => ind (s = s0) * ind ((b + s) % K = j)) fun s hs => by
    have hs := List.mem_range.mp hs
    congr 1
    refine ind_iff ?_
    rw [mod2 (by omega), e0]
    split <;> split <;> omega]
  rw [sm_at l0]
  refine ind_iff ?_
  rw [mod2 (by omega), gap_is ha hb, e0]
  split <;> split <;> split <;> omega
theorem one_zero {a i : Nat} (ha : a < K) (hi : i < K) : (sm (List.range K) fun s => ind ((a + s) % K = i)) = 1 := by
  obtain ⟨s0, e0⟩ : ∃ s0, s0 = if a ≤ i then i - a else i + K - a := ⟨_, rfl⟩
  have l0 : s0 < K := by
    rw [e0]
    split <;> omega
  rw [sm_congr (g := fun s => ind (s = s0) * 1) fun s hs => by
    have hs := List.mem_range.mp hs
    rw [Nat.mul_one]
    refine ind_iff ?_
    rw [mod2 (by omega), e0]
    split <;> split <;> omega]
  exact sm_at l0 fun _ => 1
theorem pair_told {told : List Nat} (hi : told.Pairwise (· < ·)) (hk : ∀ k, k ∈ told → k < K) {i j : Nat} (hij : i < j) (hj : j < K) : (sm (List.range K) fun s => ind (i ∈ blk K told s ∧ j ∈ blk K told s)) = pr3 K (j - i) told := by
  rw [sm_congr (g := fun s => sm told fun a => sm told fun b => ind ((a + s) % K = i) * ind ((b + s) % K = j)) fun s hs => by
    have hs := List.mem_range.mp hs
    rw [ind_and, mem_blk hi hk hs, mem_blk hi hk hs, sm_mulR]
    exact sm_congr fun a _ => sm_mulL _ _ _]
  rw [sm_swap]
  refine sm_congr fun a ha => ?_
  rw [sm_swap]
  exact sm_congr fun b hb => one_step (hk a ha) (hk b hb) hij hj
theorem cnt_due (h : Bk K base) {i j : Nat} (hij : i < j) (hj : j < K) : cntP (dev K base) i j = nA (due K base) (j - i - 1) := by
  rw [(due_at h (d := j - i) (by omega) (by omega)).2]
  unfold cntP dev
  rw [len_filter, sm_flat]
  refine sm_congr fun told ht => ?_
  unfold devL
  rw [sm_map, ← pair_told (h.inc told ht) (h.lt told ht) hij hj]
  refine sm_congr fun s _ => ind_iff ?_
  rw [Bool.and_eq_true, decide_eq_true_eq, decide_eq_true_eq]
theorem due_sym (h : Bk K base) {d : Nat} (h1 : 1 ≤ d) (h2 : d < K) : nA (due K base) (d - 1) = nA (due K base) (K - d - 1) := by
  rw [(due_at h h1 h2).2, (due_at h (d := K - d) (by omega) (by omega)).2]
  refine sm_congr fun told ht => ?_
  have hk := h.lt told ht
  unfold pr3
  rw [sm_swap]
  refine sm_congr fun b hb => sm_congr fun a ha => ind_iff ?_
  have := hk a ha
  have := hk b hb
  rw [gap_is (hk a ha) (hk b hb), gap_is (hk b hb) (hk a ha)]
  split <;> split <;> omega
theorem cnt_zero (h : Bk K base) : ((dev K base).filter fun b => [0].all fun k => decide (k ∈ b)).length = sm base fun told => told.length := by
  have k2 := h.k2
  rw [len_filter]
  unfold dev
  rw [sm_flat]
  refine sm_congr fun told ht => ?_
  unfold devL
  rw [sm_map, sm_congr (g := fun s => sm told fun a => ind ((a + s) % K = 0)) fun s hs => by
    rw [← mem_blk (h.inc told ht) (h.lt told ht) (List.mem_range.mp hs)]
    refine ind_iff ?_
    simp]
  rw [sm_swap, sm_congr (g := fun _ => 1) fun a ha => one_zero (h.lt told ht a ha) (by omega), sm_one]
theorem blk_len {told : List Nat} (hi : told.Pairwise (· < ·)) (hk : ∀ k, k ∈ told → k < K) {s : Nat} (hs : s < K) : (blk K told s).length = told.length := by
  have e := isrt_eq leN leN_ok.1 leN_ok.2 (told.map fun k => (k + s) % K)
  unfold blk
  rw [← isrt_nsrt (shift_nd hi hk hs), ← e, (List.mergeSort_perm _ leN).length_eq, List.length_map]
theorem due_bd (h : Bk K base) (h5 : base.length ≤ 3) {x : Nat} (hx : x ∈ due K base) : x ≤ 432 := by
  obtain ⟨t, ht⟩ := List.mem_iff_getElem?.mp hx
  have tl := (List.getElem?_eq_some_iff.mp ht).1
  rw [due_len h] at tl
  have e : nA (due K base) (t + 1 - 1) = x := by
    unfold nA
    rw [List.getD_eq_getElem?_getD, Nat.add_sub_cancel, ht]
    rfl
  rw [← e, (due_at h (d := t + 1) (by omega) (by omega)).2]
  have b1 : sm base (pr3 K (t + 1)) ≤ base.length * (12 * (12 * 1)) := sm_le fun told ht => by
    have hl := h.len ht
    have k6 := h.k6
    refine Nat.le_trans (sm_le (c := 12 * 1) fun a _ => Nat.le_trans (sm_le (c := 1) fun b _ => ?_) (Nat.mul_le_mul_right _ (by omega))) (Nat.mul_le_mul_right _ (by omega))
    unfold ind
    split <;> omega
  have := Nat.mul_le_mul_right (12 * (12 * 1)) h5
  omega
end
end My
set_option Elab.async false
set_option linter.all false
set_option maxRecDepth 100000
set_option maxHeartbeats 4000000
set_option exponentiation.threshold 1000000
namespace My
open PySem Tw
local macro_rules | `(tactic| walk_at "go") => `(tactic| repeat' (with_reducible first | exact xV_0 | exact xC_o | exact xNil_o | exact st_0 | exact gt_0 | exact sNil_o | exact wipe_0 | apply wipe_n | exact bs0_o | apply xV_n | apply st_n | apply gt_n | apply sAs_o | apply sAsM_o | apply sDr_o | apply sPr_g | apply sUn_g | apply bN_o | apply bsC_o | apply bT_2o | apply bT_3o | apply bT_4o | apply bL_2o | apply xBin_o | apply xUn_o | apply xTup_o | apply xLst_o | apply xCall_o | apply xCons_o | apply tC_o | apply tV_o | apply tNo_o | apply tTh_g | exact th_0 | apply th_i | apply th_m | apply th_n | apply th_x | apply tOrr_g | apply tAn_g | apply xNo_g | apply xOrr_g | apply xAn_g | apply xCh_g | apply iSeq_o | assumption | exact dAdd_i | exact dSub_i | exact dNeg_i | exact dIx_t0 | exact dIx_t1 | exact cInt_i | exact cAbs_i | exact cLen_l | exact cLen_t | exact dLt_i | exact dGt_i | exact dLe_i | exact dGe_i | exact dEq_int _ _ | exact dNe_int _ _ | exact kMin_i | exact kMax_i | exact rfl))
/-! ### balance -/
theorem dS1_nat {l : List Nat} (h : l.length < 1000) (h2 : (nsrt l).length < 64) : dS1 (nlD l) = .ok (nlD (nsrt l)) := by
  unfold dS1 nlD
  rw [nl_cI]
  show (match intsOf ((cI l).map PyData.int) with | some ns => if (isrt1 ns).length < 64 ∧ ns.length < 1000 then R.ok (PyData.list ((isrt1 ns).map PyData.int)) else .bad | none => .bad) = _
  rw [intsOf_map]
  show (if (isrt1 (cI l)).length < 64 ∧ (cI l).length < 1000 then _ else _) = _
  rw [isrt1_nat, if_pos ⟨by unfold cI; rw [List.length_map]; exact h2, by unfold cI; rw [List.length_map]; exact h⟩, nl_cI]
theorem dLs_nat {l : List Nat} (h : l.length < 64) : dLs (nlD l) = .ok (natD (nsrt l).length) := by
  unfold dLs nlD
  rw [nl_cI]
  show (match intsOf ((cI l).map PyData.int) with | some ns => if ns.length < 64 then R.ok (PyData.int (isrt1 ns).length) else .bad | none => .bad) = _
  rw [intsOf_map]
  show (if (cI l).length < 64 then _ else _) = _
  rw [isrt1_nat, if_pos (by unfold cI; rw [List.length_map]; exact h)]
  unfold cI natD
  rw [List.length_map]
theorem nsrt_nd (l : List Nat) : (nsrt l).Nodup := (nsrt_lt l).imp fun h e => by omega
theorem nsrt_congr {l m : List Nat} (h : ∀ z, z ∈ l ↔ z ∈ m) : nsrt l = nsrt m := ltN_uni (nsrt_lt m) (nsrt_lt l) fun z => by rw [nsrt_mem, nsrt_mem, h]
theorem nsrt_le {l : List Nat} {N : Nat} (h : ∀ x, x ∈ l → x < N) : (nsrt l).length ≤ N := asc_len (nsrt_lt l) fun x hx => h x ((nsrt_mem l x).mp hx)
section
variable {K : Nat} {bs : Bks}
def cnts (bs : Bks) (l : List (Nat × Nat)) : List Nat := l.map fun p => cntP bs p.1 p.2
theorem cnt_le (bs : Bks) (i j : Nat) : cntP bs i j ≤ bs.length := List.length_filter_le _ _
theorem balance_ok (hb : Bk K bs) (hs : bs.length ≤ 36) : ∃ l, Prs K l ∧ f_balance [natD K, bsD bs] = .ok (if 1 < (nsrt (bs.map List.length)).length ∨ ¬ (2 ≤ (bA bs 0).length ∧ (bA bs 0).length < K) ∨ 1 < (nsrt (cnts bs l)).length ∨ 0 ∈ nsrt (cnts bs l) then .none else
    .tuple [natD (bs.filter fun b => [0].all fun k => decide (k ∈ b)).length, natD (cntP bs 0 1)]) := by
  have hlim := lim_eq
  have k2 := hb.k2
  have k6 := hb.k6
  have n1 := hb.n1
  obtain ⟨l, hl, hp⟩ := pairs_by_ok hb
  refine ⟨l, hp, ?_⟩
  have c1 := check_blocks_ok hb
  unfold f_balance
  refine runF_rt rfl ?_
  unfold m_balance
  change Runs _ [.im (natD K), .im (bsD bs), .no, .no, .no, .no, .no] _
  refine runs_sn (sDr_o (xCall_o (xCons_o rfl (xCons_o rfl xNil_o)) c1)) ?_
  have l1 : xLc [5] (iSeq (xV 1)) (bN 5) tYe (xCall cLen (xCons (xV 5) xNil)) [.im (natD K), .im (bsD bs), .no, .no, .no, .no, .no] = .ok (nlD (bs.map List.length)) := by
    have := xLc_a (vs := [5]) (mi := iSeq (xV 1)) (g := bN 5) (e := xCall cLen (xCons (xV 5) xNil)) (ε := [.im (natD K), .im (bsD bs), .no, .no, .no, .no, .no]) (enc := nlD) (v := fun b => natD b.length) (xs := bs) (F := fun b => [.im (natD K), .im (bsD bs), .no, .no, .no, .im (nlD b), .no]) (iSeq_o rfl) rfl (fun b _ => rfl) (fun b _ => xCall_o (xCons_o rfl xNil_o) (cLen_nl b)) (by omega)
    rw [this]
    unfold nlD
    rw [List.map_map]
    rfl
  have s1 := dS1_nat (l := bs.map List.length) (by rw [List.length_map]; omega) (Nat.lt_of_le_of_lt (nsrt_le (N := 13) fun x hx => by
    obtain ⟨b, hb', rfl⟩ := List.mem_map.mp hx
    have := hb.len hb'
    omega) (by decide))
  refine runs_sn (ε' := [.im (natD K), .im (bsD bs), .im (nlD (nsrt (bs.map List.length))), .no, .no, .no, .no]) (sAs_o (xUn_o l1 s1) rfl) ?_
  refine runs_sn (ε' := [.im (natD K), .im (bsD bs), .im (nlD (nsrt (bs.map List.length))), .im (dT1 (esP bs l)), .no, .no, .no]) (sAs_o (xCall_o (xCons_o rfl (xCons_o rfl xNil_o)) hl) rfl) ?_
  have vl : xVls 3 6 [.im (natD K), .im (bsD bs), .im (nlD (nsrt (bs.map List.length))), .im (dT1 (esP bs l)), .no, .no, .no] = .ok (nlD (cnts bs l)) := by
    unfold xVls
    have g : dTOf [.im (natD K), .im (bsD bs), .im (nlD (nsrt (bs.map List.length))), .im (dT1 (esP bs l)), .no, .no, .no] 3 = some (esP bs l) := rfl
    rw [g]
    show (match vlsT (esP bs l) (esP bs l) with | some zs => if 3 ≠ 6 ∧ 6 < 7 ∧ zs.length < lim then R.ok (PyData.list (zs.map PyData.int)) else .bad | none => .bad) = _
    rw [vls_esP bs fun p h => h]
    show (if _ then _ else _) = _
    rw [if_pos ⟨by decide, by decide, by rw [List.length_map]; have := hp.len; omega⟩]
    unfold nlD cnts
    rw [List.map_map, List.map_map]
    rfl
  have s2 := dS1_nat (l := cnts bs l) (by unfold cnts; rw [List.length_map]; have := hp.len; omega) (Nat.lt_of_le_of_lt (nsrt_le (N := 37) fun x hx => by
    obtain ⟨p, _, rfl⟩ := List.mem_map.mp hx
    have := cnt_le bs p.1 p.2
    omega) (by decide))
  refine runs_sn (ε' := [.im (natD K), .im (bsD bs), .im (nlD (nsrt (bs.map List.length))), .im (dT1 (esP bs l)), .im (nlD (nsrt (cnts bs l))), .no, .no]) (sAs_o (xUn_o vl s2) rfl) ?_
  have c2 := cLen_nl (nsrt (bs.map List.length))
  have c3 := cLen_nl (nsrt (cnts bs l))
  have c4 := cLen_nl (bA bs 0)
  have i0 := dIx_bs (bs := bs) (i := 0) (by omega)
  have in0 := dIn_nat 0 (nsrt (cnts bs l))
  refine runs_seq (runs_if (b := decide ((1 : Int) < ((nsrt (bs.map List.length)).length : Int)) || (!(decide ((2 : Int) ≤ ((bA bs 0).length : Int)) && decide (((bA bs 0).length : Int) < (K : Int))) || (decide ((1 : Int) < ((nsrt (cnts bs l)).length : Int)) || decide (0 ∈ nsrt (cnts bs l))))) ?_ (fun hq => ?_) (fun hq => runs_nil ?_))
  · exact tOrr_g (tC_o (xBin_o (xCall_o (xCons_o rfl xNil_o) c2) xC_o dGt_i)) (tOrr_g (tNo_o (tC_o (xCh_g xC_o (xCall_o (xCons_o (xBin_o rfl xC_o i0) xNil_o) c4) rfl dLe_i dLt_i))) (tOrr_g (tC_o (xBin_o (xCall_o (xCons_o rfl xNil_o) c3) xC_o dGt_i)) (tC_o (xBin_o xC_o rfl in0))))
  · have hq' : 1 < (nsrt (bs.map List.length)).length ∨ ¬ (2 ≤ (bA bs 0).length ∧ (bA bs 0).length < K) ∨ 1 < (nsrt (cnts bs l)).length ∨ 0 ∈ nsrt (cnts bs l) := by
      simp only [Bool.or_eq_true, Bool.not_eq_true', Bool.and_eq_false_iff, decide_eq_true_eq, decide_eq_false_iff_not] at hq
      rcases hq with q | q | q | q
      · exact .inl (by omega)
      · exact .inr (.inl (by rintro ⟨z1, z2⟩; rcases q with q | q <;> omega))
      · exact .inr (.inr (.inl (by omega)))
      · exact .inr (.inr (.inr q))
    rw [if_pos hq']
    exact runs_rt xC_o rfl
  · have hq' : ¬ (1 < (nsrt (bs.map List.length)).length ∨ ¬ (2 ≤ (bA bs 0).length ∧ (bA bs 0).length < K) ∨ 1 < (nsrt (cnts bs l)).length ∨ 0 ∈ nsrt (cnts bs l)) := by
      simp only [Bool.or_eq_false_iff, Bool.not_eq_false', Bool.and_eq_true, decide_eq_true_eq, decide_eq_false_iff_not] at hq
      obtain ⟨q1, ⟨q2, q3⟩, q4, q5⟩ := hq
      rintro (z | z | z | z)
      · omega
      · exact z ⟨by omega, by omega⟩
      · omega
      · exact q5 z
    rw [if_neg hq']
    have ct := count_ok (bs := bs) (by omega) [0] (by decide)
    have dx : xDiT 3 (xCons (xC (.int 0)) (xCons (xC (.int 1)) xNil)) [.im (natD K), .im (bsD bs), .im (nlD (nsrt (bs.map List.length))), .im (dT1 (esP bs l)), .im (nlD (nsrt (cnts bs l))), .no, .no] = .ok (natD (cntP bs 0 1)) :=
      xDiT_o (es := esP bs l) (s := ((0 : Nat) : Int)) (t := ((1 : Nat) : Int)) rfl rfl (lk_esP bs (hp.all 0 1 (by decide) (by omega)))
    exact runs_rt (xTup_o (xCons_o (xCall_o (xCons_o rfl (xCons_o (xTup_o (xCons_o xC_o xNil_o)) xNil_o)) ct) (xCons_o dx xNil_o))) rfl
end
section
variable {K : Nat} {base : Bks}
theorem bk_dev (h : Bk K base) (h5 : base.length ≤ 3) : Bk K (dev K base) := by
  have k2 := h.k2
  have k6 := h.k6
  have n1 := h.n1
  have mem : ∀ b, b ∈ dev K base → ∃ told s, told ∈ base ∧ s < K ∧ b = blk K told s := fun b hb => by
    obtain ⟨told, ht, hb⟩ := List.mem_flatMap.mp hb
    obtain ⟨s, hs, rfl⟩ := List.mem_map.mp hb
    exact ⟨told, s, ht, List.mem_range.mp hs, rfl⟩
  refine ⟨k2, k6, ?_, ?_, fun b hb z => ?_, fun b hb => ?_, fun b hb k hk => ?_⟩
  · rw [dev_len]
    exact Nat.mul_pos (by omega) (by omega)
  · rw [dev_len]
    have := Nat.mul_le_mul h5 k6
    omega
  · obtain ⟨told, s, ht, hs, rfl⟩ := mem b hb
    have := blk_len (h.inc told ht) (h.lt told ht) hs
    rw [z] at this
    exact h.ne told ht (List.length_eq_zero_iff.mp this.symm)
  · obtain ⟨told, s, ht, hs, rfl⟩ := mem b hb
    exact nsrt_lt _
  · obtain ⟨told, s, ht, hs, rfl⟩ := mem b hb
    obtain ⟨a, _, rfl⟩ := List.mem_map.mp ((nsrt_mem _ _).mp hk)
    exact Nat.mod_lt _ (by omega)
theorem dev_sizes (h : Bk K base) : nsrt ((dev K base).map List.length) = nsrt (base.map List.length) := by
  have k2 := h.k2
  refine nsrt_congr fun z => ?_
  rw [List.mem_map, List.mem_map]
  constructor
  · rintro ⟨b, hb, rfl⟩
    obtain ⟨told, ht, hb⟩ := List.mem_flatMap.mp hb
    obtain ⟨s, hs, rfl⟩ := List.mem_map.mp hb
    exact ⟨told, ht, (blk_len (h.inc told ht) (h.lt told ht) (List.mem_range.mp hs)).symm⟩
  · rintro ⟨told, ht, rfl⟩
    exact ⟨blk K told 0, List.mem_flatMap.mpr ⟨told, ht, List.mem_map.mpr ⟨0, List.mem_range.mpr (by omega), rfl⟩⟩, blk_len (h.inc told ht) (h.lt told ht) (by omega)⟩
theorem dev_first (h : Bk K base) : (bA (dev K base) 0).length = (bA base 0).length := by
  have k2 := h.k2
  have n1 := h.n1
  obtain ⟨told, r, rfl⟩ : ∃ told r, base = told :: r := by
    cases base with
    | nil => simp at n1
    | cons told r => exact ⟨told, r, rfl⟩
  obtain ⟨n, rfl⟩ : ∃ n, K = n + 1 := ⟨K - 1, by omega⟩
  have e : bA (dev (n + 1) (told :: r)) 0 = blk (n + 1) told 0 := by
    unfold bA dev devL
    rw [List.flatMap_cons, List.range_succ_eq_map]
    rfl
  rw [e]
  exact blk_len (h.inc told List.mem_cons_self) (h.lt told List.mem_cons_self) (by omega)
theorem dev_counts (h : Bk K base) {l : List (Nat × Nat)} (hp : Prs K l) : nsrt (cnts (dev K base) l) = nsrt (due K base) := by
  have k2 := h.k2
  refine nsrt_congr fun z => ?_
  unfold cnts
  rw [List.mem_map]
  constructor
  · rintro ⟨p, hm, rfl⟩
    obtain ⟨q1, q2⟩ := hp.ok p hm
    rw [cnt_due h q1 q2]
    exact nA_mem (by rw [due_len h]; omega)
  · intro hz
    obtain ⟨t, ht⟩ := List.mem_iff_getElem?.mp hz
    have tl := (List.getElem?_eq_some_iff.mp ht).1
    rw [due_len h] at tl
    refine ⟨(0, t + 1), hp.all 0 (t + 1) (by omega) (by omega), ?_⟩
    show cntP (dev K base) 0 (t + 1) = z
    rw [cnt_due h (by omega) (by omega)]
    unfold nA
    rw [List.getD_eq_getElem?_getD, show t + 1 - 0 - 1 = t by omega, ht]
    rfl
/-- what the law asks of a base -/
def evn (K : Nat) (base : Bks) : Prop := (nsrt (due K base)).length = 1 ∧ 0 < nA (due K base) 0 ∧ (nsrt (base.map List.length)).length = 1 ∧ 2 ≤ (bA base 0).length ∧ (bA base 0).length < K
instance : Decidable (evn K base) := by
  unfold evn
  infer_instance
theorem nsrt_pos {l : List Nat} (h : l ≠ []) : 1 ≤ (nsrt l).length := by
  obtain ⟨x, hx⟩ := List.exists_mem_of_ne_nil l h
  exact List.length_pos_of_mem ((nsrt_mem l x).mpr hx)
theorem one_all {l : List Nat} (h : (nsrt l).length = 1) {x y : Nat} (hx : x ∈ l) (hy : y ∈ l) : x = y := by
  obtain ⟨z, hz⟩ := List.length_eq_one_iff.mp h
  have h1 := (nsrt_mem l x).mpr hx
  have h2 := (nsrt_mem l y).mpr hy
  rw [hz, List.mem_singleton] at h1 h2
  rw [h1, h2]
theorem sm_same {l : Bks} {c : Nat} (h : ∀ t, t ∈ l → t.length = c) : (sm l fun t => t.length) = l.length * c := by
  rw [sm_congr (g := fun _ => 1 * c) fun t ht => by rw [h t ht, Nat.one_mul], ← sm_mulR, sm_one]
theorem dev_balance (h : Bk K base) (h5 : base.length ≤ 3) : f_balance [natD K, bsD (dev K base)] = .ok (if evn K base then .tuple [natD (base.length * (bA base 0).length), natD (nA (due K base) 0)] else .none) := by
  have k2 := h.k2
  have k6 := h.k6
  have n1 := h.n1
  obtain ⟨l, hp, e⟩ := balance_ok (bk_dev h h5) (by rw [dev_len]; exact Nat.mul_le_mul h5 k6)
  rw [e, dev_sizes h, dev_first h, dev_counts h hp, cnt_zero h, cnt_due h (by omega) (by omega)]
  have dl := due_len h
  have dne : due K base ≠ [] := fun z => by
    rw [z] at dl
    simp at dl
    omega
  have p1 := nsrt_pos dne
  have p2 := nsrt_pos (l := base.map List.length) (fun z => by rw [List.map_eq_nil_iff] at z; rw [z] at n1; simp at n1)
  have m0 : nA (due K base) 0 ∈ due K base := nA_mem (by omega)
  by_cases q : evn K base
  · obtain ⟨q1, q2, q3, q4, q5⟩ := id q
    rw [if_neg ?_, if_pos q]
    · rw [sm_same fun t ht => one_all q3 (List.mem_map_of_mem (f := List.length) ht) (List.mem_map_of_mem (f := List.length) (bA_mem (bs := base) (i := 0) (by omega)))]
    · rintro (z | z | z | z)
      · omega
      · exact z ⟨q4, q5⟩
      · omega
      · have := one_all q1 ((nsrt_mem _ _).mp z) m0
        omega
  · rw [if_neg q, if_pos]
    apply Decidable.byContradiction
    intro c
    rw [not_or, not_or, not_or] at c
    obtain ⟨c1, c2, c3, c4⟩ := c
    have c2 := Decidable.not_not.mp c2
    refine q ⟨by omega, ?_, by omega, c2.1, c2.2⟩
    rcases Nat.eq_zero_or_pos (nA (due K base) 0) with z | z
    · rw [z] at m0
      exact absurd ((nsrt_mem _ _).mpr m0) c4
    · exact z
end
end My
set_option Elab.async false
set_option linter.all false
set_option maxRecDepth 100000
set_option maxHeartbeats 4000000
set_option exponentiation.threshold 1000000
namespace My
open PySem Tw
local macro_rules | `(tactic| walk_at "go") => `(tactic| repeat' (with_reducible first | exact xV_0 | exact xC_o | exact xNil_o | exact st_0 | exact gt_0 | exact sNil_o | exact wipe_0 | apply wipe_n | exact bs0_o | apply xV_n | apply st_n | apply gt_n | apply sAs_o | apply sAsM_o | apply sDr_o | apply sPr_g | apply sUn_g | apply bN_o | apply bsC_o | apply bT_2o | apply bT_3o | apply bT_4o | apply bL_2o | apply xBin_o | apply xUn_o | apply xTup_o | apply xLst_o | apply xCall_o | apply xCons_o | apply tC_o | apply tV_o | apply tNo_o | apply tTh_g | exact th_0 | apply th_i | apply th_m | apply th_n | apply th_x | apply tOrr_g | apply tAn_g | apply xNo_g | apply xOrr_g | apply xAn_g | apply xCh_g | apply iSeq_o | assumption | exact dAdd_i | exact dSub_i | exact dNeg_i | exact dIx_t0 | exact dIx_t1 | exact cInt_i | exact cAbs_i | exact cLen_l | exact cLen_t | exact dLt_i | exact dGt_i | exact dLe_i | exact dGe_i | exact dEq_int _ _ | exact dNe_int _ _ | exact kMin_i | exact kMax_i | exact rfl))
theorem mixes {ds : List Int} (hd : DrawsOk ds) {many : Nat} (h0 : 0 < many) (g : Nat → Int) (hg : ∀ j, 0 ≤ g j ∧ g j < 2 ^ 40) : ∃ f : Nat → Nat, ∀ j, f__law_mix [il ds, .int (g j), .int (many : Int)] = .ok (natD (f j)) ∧ f j < many := by
  have : ∀ j, ∃ r : Nat, f__law_mix [il ds, .int (g j), .int (many : Int)] = .ok (natD r) ∧ r < many := fun j => by
    obtain ⟨r, e, r0, r1⟩ := mix_ok hd (k := g j) (many := (many : Int)) (hg j).1 (hg j).2 (by omega)
    refine ⟨r.toNat, ?_, by omega⟩
    rw [e]
    unfold natD
    rw [show ((r.toNat : Nat) : Int) = r by omega]
  exact ⟨fun j => Classical.choose (this j), fun j => Classical.choose_spec (this j)⟩
theorem mixn {ds : List Int} (hd : DrawsOk ds) {k : Int} {many : Nat} (h0 : 0 ≤ k) (hk : k < 2 ^ 40) (hm : 0 < many) : ∃ r : Nat, f__law_mix [il ds, .int k, .int (many : Int)] = .ok (natD r) ∧ r < many := by
  obtain ⟨f, hf⟩ := mixes hd hm (fun _ => k) (fun _ => ⟨h0, hk⟩)
  exact ⟨f 0, hf 0⟩
structure Wr (n w : Nat) (d : D) : Prop where
  pl : d.plain = true
  dp : d.depth ≤ n
  sh : d.showable = true
  ln : d.shown.length ≤ w
theorem Wr.mono {n w m v : Nat} {d : D} (h : Wr n w d) (hn : n ≤ m) (hw : w ≤ v) : Wr m v d := ⟨h.pl, Nat.le_trans h.dp hn, h.sh, Nat.le_trans h.ln hw⟩
theorem Wr.okd {n w : Nat} {d : D} (h : Wr n w d) (hn : n ≤ 60) : Tw.okd d = true := okd_of h.pl (Nat.le_trans h.dp hn)
theorem Wr.repr {n w : Nat} {d : D} (h : Wr n w d) (hn : n ≤ 60) (hw : w ≤ 1000000) : cRepr [d] = .ok (.str d.shown) := cRepr_ok (h.okd hn) h.sh (Nat.le_trans h.ln (by rw [lim_eq]; exact hw))
theorem Wr.int {i : Int} {k : Nat} (h : i.natAbs < 10 ^ k) (h0 : 0 < k) (h2 : sz 1900 i) : Wr 0 (k + 1) (.int i) := by
  refine ⟨by simp only [PyData.plain], by simp only [PyData.depth]; exact Nat.le_refl _, ?_, ?_⟩
  · unfold sz at h2
    simp only [PyData.showable]
    refine decide_eq_true ?_
    have := log2_lt (n := i.natAbs) (k := 1900) h2 (by decide)
    omega
  · have e := int_text_length_le10 h0 h
    show (Str.ofString (toString i)).length ≤ k + 1
    rw [ofString_length]
    exact e
theorem Wr.all {n w : Nat} : ∀ {l : List D}, (∀ d, d ∈ l → Wr n w d) → PyData.plainAll l = true ∧ PyData.depthAll l ≤ n ∧ PyData.showableAll l = true ∧ ((PyData.shownAll l).map (·.length)).sum ≤ l.length * w
  | [], _ => by
    refine ⟨by simp only [PyData.plainAll], by simp only [PyData.depthAll]; exact Nat.zero_le _, by simp only [PyData.showableAll], by simp [PyData.shownAll]⟩
  | d :: l, h => by
    have a := h d List.mem_cons_self
    obtain ⟨h1, h2, h3, h4⟩ := Wr.all (l := l) fun e he => h e (List.mem_cons_of_mem d he)
    refine ⟨?_, ?_, ?_, ?_⟩
    · simp only [PyData.plainAll, a.pl, h1, Bool.and_true]
    · simp only [PyData.depthAll]
      have := a.dp
      omega
    · simp only [PyData.showableAll, a.sh, h3, Bool.and_true]
    · simp only [PyData.shownAll, List.map_cons, List.sum_cons, List.length_cons]
      have := a.ln
      rw [Nat.succ_mul]
      omega
theorem Wr.list {n w : Nat} {l : List D} (h : ∀ d, d ∈ l → Wr n w d) : Wr (n + 1) (l.length * (w + 2) + 3) (.list l) := by
  obtain ⟨h1, h2, h3, h4⟩ := Wr.all h
  refine ⟨by simp only [PyData.plain]; exact h1, by simp only [PyData.depth]; omega, by simp only [PyData.showable]; exact h3, ?_⟩
  have := listText_len_le (PyData.shownAll l)
  rw [PyData.shownAll_length] at this
  simp only [PyData.shown]
  have e : l.length * (w + 2) = l.length * w + l.length * 2 := Nat.mul_add _ _ _
  omega
theorem Wr.tup {n w : Nat} {l : List D} (h : ∀ d, d ∈ l → Wr n w d) : Wr (n + 1) (l.length * (w + 2) + 3) (.tuple l) := by
  obtain ⟨h1, h2, h3, h4⟩ := Wr.all h
  refine ⟨by simp only [PyData.plain]; exact h1, by simp only [PyData.depth]; omega, by simp only [PyData.showable]; exact h3, ?_⟩
  have := tupleText_len_le (PyData.shownAll l)
  rw [PyData.shownAll_length] at this
  simp only [PyData.shown]
  have e : l.length * (w + 2) = l.length * w + l.length * 2 := Nat.mul_add _ _ _
  omega
theorem wr_nat {v : Nat} (h : v < 10 ^ 6) : Wr 0 7 (natD v) := Wr.int (k := 6) (by rw [Int.natAbs_natCast]; exact h) (by decide) (by unfold sz; rw [Int.natAbs_natCast]; exact lt_pow (k := 20) (by omega) (by decide))
theorem wr_nl {b : List Nat} (h : b.length ≤ 60) (hk : ∀ k, k ∈ b → k < 10 ^ 6) : Wr 1 600 (nlD b) := by
  refine (Wr.list (n := 0) (w := 7) (l := b.map natD) fun d hd => ?_).mono (by decide) (by rw [List.length_map]; omega)
  obtain ⟨v, hv, rfl⟩ := List.mem_map.mp hd
  exact wr_nat (hk v hv)
theorem wr_bs {bs : Bks} (hl : bs.length ≤ 60) (h : ∀ b, b ∈ bs → b.length ≤ 60 ∧ ∀ k, k ∈ b → k < 10 ^ 6) : Wr 2 40000 (bsD bs) := by
  refine (Wr.list (n := 1) (w := 600) (l := bs.map nlD) fun d hd => ?_).mono (by decide) (by rw [List.length_map]; omega)
  obtain ⟨b, hb, rfl⟩ := List.mem_map.mp hd
  exact wr_nl (h b hb).1 (h b hb).2
/-! ### draws -/
theorem bN_nat {i n : Nat} : PyData.int ((n : Nat) : Int) = natD n := rfl
theorem base_ok {ds : List Int} (hd : DrawsOk ds) {k : Int} (h0 : 0 ≤ k) (hk : k < 2 ^ 30) {K : Nat} (k2 : 2 ≤ K) (k12 : K ≤ 12) : ∃ base, f__law_base [il ds, .int k, natD K] = .ok (bsD base) ∧ Bk K base ∧ base.length ≤ 3 := by
  have hlim := lim_eq
  suffices Runs m__law_base [.im (il ds), .im (.int k), .im (natD K), .no, .no, .no, .no, .no] (fun fl => ∃ base, fl = .rt (bsD base) ∧ Bk K base ∧ base.length ≤ 3) by
    obtain ⟨fl, h1, base, h2, h3⟩ := this
    exact ⟨base, runF_rt rfl ⟨fl, h1, h2⟩, h3⟩
  unfold m__law_base
  refine runs_sn (ε' := [.im (il ds), .im (.int k), .im (natD K), .mu (bsD []), .no, .no, .no, .no]) (sAsM_o (xLst_o xNil_o) rfl) ?_
  obtain ⟨z, ez, lz⟩ := mixn hd (k := k + 1) (many := 5) (by omega) (by omega) (by decide)
  have hz1 : (1 : Int) + ((z : Nat) : Int) = ((1 + z : Nat) : Int) := by omega
  refine runs_sn (ε' := [.im (il ds), .im (.int k), .im (natD K), .mu (bsD []), .im (natD (1 + z)), .no, .no, .no]) (sAs_o ((xBin_o xC_o (xCall_o (xCons_o rfl (xCons_o (xBin_o rfl xC_o dAdd_i) (xCons_o xC_o xNil_o))) ez) dAdd_i).trans (by rw [hz1]; rfl)) rfl) ?_
  obtain ⟨n, en, ln⟩ := mixn hd (k := k) (many := 3) h0 (by omega) (by decide)
  have hn1 : (1 : Int) + ((n : Nat) : Int) = ((1 + n : Nat) : Int) := by omega
  refine runs_seq (runs_for (ds := (List.range (1 + n)).map natD) (fun i ε => ∃ base a5 a6 a7, ε = [.im (il ds), .im (.int k), .im (natD K), .mu (bsD base), .im (natD (1 + z)), a5, a6, a7] ∧ base.length = i ∧ (∀ b, b ∈ base → b ≠ [] ∧ b.Pairwise (· < ·) ∧ ∀ k, k ∈ b → k < K)) (range_o (n := 1 + n) (by omega) ((xCons_o (xBin_o xC_o (xCall_o (xCons_o rfl (xCons_o rfl (xCons_o xC_o xNil_o))) en) dAdd_i) xNil_o).trans (by rw [hn1]))) ⟨[], _, _, _, rfl, rfl, fun b hb => by cases hb⟩ ?_ ?_)
  · rintro t d η hx ⟨base, a5, a6, a7, rfl, hl, hb⟩
    obtain ⟨ht, rfl⟩ := range_get hx
    refine ⟨[.im (il ds), .im (.int k), .im (natD K), .mu (bsD base), .im (natD (1 + z)), .im (natD t), a6, a7], rfl, ?_⟩
    obtain ⟨f, hf⟩ := mixes hd (many := K) (by omega) (fun j => k + 4 + 6 * (t : Int) + ((j % 1000 : Nat) : Int)) (fun j => ⟨by omega, by omega⟩)
    have m6 : dMul (.int 6) (.int (t : Int)) = .ok (.int (6 * (t : Int))) := dMul_small (by decide) (by omega)
    have l1 : xLc [7] (iRange1 (xCons (xV 4) xNil)) (bN 7) tYe (xCall f__law_mix (xCons (xV 0) (xCons (xBin dAdd (xBin dAdd (xBin dAdd (xV 1) (xC (.int 4))) (xBin dMul (xC (.int 6)) (xV 5))) (xV 7)) (xCons (xV 2) xNil)))) [.im (il ds), .im (.int k), .im (natD K), .mu (bsD base), .im (natD (1 + z)), .im (natD t), a6, a7] = .ok (nlD ((List.range (1 + z)).map f)) := by
      have := xLc_a (vs := [7]) (mi := iRange1 (xCons (xV 4) xNil)) (g := bN 7) (e := xCall f__law_mix (xCons (xV 0) (xCons (xBin dAdd (xBin dAdd (xBin dAdd (xV 1) (xC (.int 4))) (xBin dMul (xC (.int 6)) (xV 5))) (xV 7)) (xCons (xV 2) xNil)))) (ε := [.im (il ds), .im (.int k), .im (natD K), .mu (bsD base), .im (natD (1 + z)), .im (natD t), a6, a7]) (enc := natD) (v := fun j => natD (f j)) (xs := List.range (1 + z)) (F := fun j => [.im (il ds), .im (.int k), .im (natD K), .mu (bsD base), .im (natD (1 + z)), .im (natD t), a6, .im (natD j)]) (range_o (n := 1 + z) (by omega) rfl) rfl (fun j _ => rfl) (fun j hj => by
        have hj := List.mem_range.mp hj
        have e := (hf j).1
        rw [show j % 1000 = j by omega] at e
        exact xCall_o (xCons_o rfl (xCons_o (xBin_o (xBin_o (xBin_o rfl xC_o dAdd_i) (xBin_o xC_o rfl m6) dAdd_i) rfl dAdd_i) (xCons_o rfl xNil_o))) e) (by rw [List.length_range]; omega)
      rw [this]
      unfold nlD
      rw [List.map_map]
      rfl
    have s2 := dS2_nat (l := (List.range (1 + z)).map f) (by rw [List.length_map, List.length_range]; omega)
    refine runs_sn (ε' := [.im (il ds), .im (.int k), .im (natD K), .mu (bsD base), .im (natD (1 + z)), .im (natD t), .im (nlD (nsrt ((List.range (1 + z)).map f))), a7]) (sAs_o (xUn_o l1 s2) rfl) ?_
    refine runs_nx (sAp_o (ds := base.map nlD) rfl rfl (by rw [List.length_map]; omega) rfl) ⟨base ++ [nsrt ((List.range (1 + z)).map f)], _, _, _, by unfold bsD; rw [List.map_append]; rfl, by rw [List.length_append, List.length_singleton, hl], fun b hm => ?_⟩
    rcases List.mem_append.mp hm with q | q
    · exact hb b q
    · rw [List.mem_singleton.mp q]
      refine ⟨fun e => ?_, nsrt_lt _, fun x hx => ?_⟩
      · have : f 0 ∈ nsrt ((List.range (1 + z)).map f) := (nsrt_mem _ _).mpr (List.mem_map_of_mem (List.mem_range.mpr (by omega)))
        rw [e] at this
        cases this
      · obtain ⟨j, _, rfl⟩ := List.mem_map.mp ((nsrt_mem _ _).mp hx)
        exact (hf j).2
  · rintro η ⟨base, a5, a6, a7, rfl, hl, hb⟩
    rw [List.length_map, List.length_range] at hl
    exact runs_rtM rfl ⟨base, rfl, ⟨k2, k12, by omega, by omega, fun b h => (hb b h).1, fun b h => (hb b h).2.1, fun b h => (hb b h).2.2⟩, by omega⟩
end My
set_option Elab.async false
set_option linter.all false
set_option maxRecDepth 100000
set_option maxHeartbeats 4000000
set_option exponentiation.threshold 1000000
namespace My
open PySem Tw
local macro_rules | `(tactic| walk_at "go") => `(tactic| repeat' (with_reducible first | exact xV_0 | exact xC_o | exact xNil_o | exact st_0 | exact gt_0 | exact sNil_o | exact wipe_0 | apply wipe_n | exact bs0_o | apply xV_n | apply st_n | apply gt_n | apply sAs_o | apply sAsM_o | apply sDr_o | apply sPr_g | apply sUn_g | apply bN_o | apply bsC_o | apply bT_2o | apply bT_3o | apply bT_4o | apply bL_2o | apply xBin_o | apply xUn_o | apply xTup_o | apply xLst_o | apply xCall_o | apply xCons_o | apply tC_o | apply tV_o | apply tNo_o | apply tTh_g | exact th_0 | apply th_i | apply th_m | apply th_n | apply th_x | apply tOrr_g | apply tAn_g | apply xNo_g | apply xOrr_g | apply xAn_g | apply xCh_g | apply iSeq_o | assumption | exact dAdd_i | exact dSub_i | exact dNeg_i | exact dIx_t0 | exact dIx_t1 | exact cInt_i | exact cAbs_i | exact cLen_l | exact cLen_t | exact dLt_i | exact dGt_i | exact dLe_i | exact dGe_i | exact dEq_int _ _ | exact dNe_int _ _ | exact kMin_i | exact kMax_i | exact rfl))
/-! ### the block -/
theorem dNe_bool (x y : Bool) : dNe (.bool x) (.bool y) = .ok (.bool (x != y)) := by
  cases x <;> cases y <;> rfl
theorem flat_nats (l : List Nat) : (l.map natD).all flat = true := by
  rw [List.all_map]
  exact List.all_eq_true.mpr fun x _ => rfl
theorem rs_list {i k : Nat} {L : List Nat} (h : L.contains k = true) (l : List Nat) : rsS i L k (.im (nlD l)) = .im (nlD l) := by
  have : lfD (nlD l) = true := flat_nats l
  show (if k = i ∨ (L.contains k = true ∧ lfD (nlD l) = true) then SV.im (nlD l) else .no) = _
  rw [if_pos (.inr ⟨h, this⟩)]
theorem lite_list (L : List Nat) (F : List (Nat × FP)) {k : Nat} (h1 : flk F k = none) (h2 : L.contains k = false) (l : List Nat) : keepS L F k (.mu (nlD l)) = .mu (nlD l) := by
  unfold keepS
  rw [h1]
  show (if L.contains k then _ else liteS (.mu (nlD l))) = _
  rw [if_neg (by rw [h2]; decide)]
  show (if ltL (l.map natD) then _ else _) = _
  rw [ltL_map (fun _ => rfl), if_pos rfl]
  rfl
def tstM : Nv → R Bool := (tOrr (tC' (xBin dNe (xDiT 9 (xCons (xV 11) (xCons (xV 15) xNil))) (xBin dIx (xV 6) (xBin dSub (xBin dSub (xV 15) (xV 11)) (xC (.int 1)))))) (tC' (xBin dNe (xBin dIx (xV 6) (xBin dSub (xBin dSub (xV 15) (xV 11)) (xC (.int 1)))) (xBin dIx (xV 6) (xBin dSub (xBin dSub (xV 3) (xBin dSub (xV 15) (xV 11))) (xC (.int 1)))))))
section
variable {K : Nat} {base : Bks} {c0 c1 c2 c4 c5 c7 c8 c10 c11 c12 c13 c14 c15 c16 c17 : SV}
theorem tst_ok (h : Bk K base) {l : List (Nat × Nat)} (hp : Prs K l) {p : Nat × Nat} (hm : p ∈ l) : tstM (lE c0 c1 c2 (.im (natD K)) c4 c5 (.im (nlD (due K base))) c7 c8 (.im (dT1 (esP (dev K base) l))) c10 (.im (natD p.1)) c12 c13 c14 (.im (natD p.2)) c16 c17) = .ok false := by
  obtain ⟨q1, q2⟩ := hp.ok p hm
  have dl := due_len h
  have cd := cnt_due h q1 q2
  have e1 : ((p.2 : Nat) : Int) - ((p.1 : Nat) : Int) = ((p.2 - p.1 : Nat) : Int) := by omega
  have e2 : ((p.2 - p.1 : Nat) : Int) - 1 = ((p.2 - p.1 - 1 : Nat) : Int) := by omega
  have e3 : (K : Int) - ((p.2 - p.1 : Nat) : Int) - 1 = ((K - (p.2 - p.1) - 1 : Nat) : Int) := by omega
  have i1 := dIx_nl (b := due K base) (t := p.2 - p.1 - 1) (by omega)
  have i2 := dIx_nl (b := due K base) (t := K - (p.2 - p.1) - 1) (by omega)
  have x1 : (xBin dSub (xBin dSub (xV 15) (xV 11)) (xC (.int 1))) (lE c0 c1 c2 (.im (natD K)) c4 c5 (.im (nlD (due K base))) c7 c8 (.im (dT1 (esP (dev K base) l))) c10 (.im (natD p.1)) c12 c13 c14 (.im (natD p.2)) c16 c17) = .ok (.int ((p.2 - p.1 - 1 : Nat) : Int)) := (xBin_o (xBin_o rfl rfl dSub_i) xC_o dSub_i).trans (by rw [e1, e2])
  have x2 : (xBin dSub (xBin dSub (xV 3) (xBin dSub (xV 15) (xV 11))) (xC (.int 1))) (lE c0 c1 c2 (.im (natD K)) c4 c5 (.im (nlD (due K base))) c7 c8 (.im (dT1 (esP (dev K base) l))) c10 (.im (natD p.1)) c12 c13 c14 (.im (natD p.2)) c16 c17) = .ok (.int ((K - (p.2 - p.1) - 1 : Nat) : Int)) := (xBin_o (xBin_o rfl (xBin_o rfl rfl dSub_i) dSub_i) xC_o dSub_i).trans (by rw [e1, e3])
  have dx : xDiT 9 (xCons (xV 11) (xCons (xV 15) xNil)) (lE c0 c1 c2 (.im (natD K)) c4 c5 (.im (nlD (due K base))) c7 c8 (.im (dT1 (esP (dev K base) l))) c10 (.im (natD p.1)) c12 c13 c14 (.im (natD p.2)) c16 c17) = .ok (natD (cntP (dev K base) p.1 p.2)) :=
    xDiT_o (es := esP (dev K base) l) (s := (p.1 : Int)) (t := (p.2 : Int)) rfl rfl (lk_esP (dev K base) hm)
  have n1 := dNe_same (d := natD (nA (due K base) (p.2 - p.1 - 1))) rfl
  rw [cd] at dx
  have sy := due_sym h (d := p.2 - p.1) (by omega) (by omega)
  rw [← sy] at i2
  exact tOrr_g (tC_o (xBin_o dx (xBin_o rfl x1 i1) n1)) (tC_o (xBin_o (xBin_o rfl x1 i1) (xBin_o rfl x2 i2) n1))
theorem kG_ok (h : Bk K base) {l0 : List (Nat × Nat)} (hp : Prs K l0) {a0 a1 a2 a4 a5 a7 a8 a10 a12 a13 a14 a16 a17 : SV} : ∀ (l : List (Nat × Nat)) (u v u' v' : SV), (∀ p, p ∈ l → p ∈ l0) → ∃ u2 v2, kG 11 15 tstM (esP (dev K base) l)
    (lE a0 a1 a2 (.im (natD K)) a4 a5 (.im (nlD (due K base))) a7 a8 (.im (dT1 (esP (dev K base) l0))) a10 u a12 a13 a14 v a16 a17) (lE c0 c1 c2 (.im (natD K)) c4 c5 (.im (nlD (due K base))) c7 c8 (.im (dT1 (esP (dev K base) l0))) c10 u' c12 c13 c14 v' c16 c17) =
    .ok (.nx (lE a0 a1 a2 (.im (natD K)) a4 a5 (.im (nlD (due K base))) a7 a8 (.im (dT1 (esP (dev K base) l0))) a10 u2 a12 a13 a14 v2 a16 a17))
  | [], u, v, _, _, _ => ⟨u, v, rfl⟩
  | p :: l, u, v, u', v', hm => by
    obtain ⟨u2, v2, e⟩ := kG_ok h hp (a0 := a0) (a1 := a1) (a2 := a2) (a4 := a4) (a5 := a5) (a7 := a7) (a8 := a8) (a10 := a10) (a12 := a12) (a13 := a13) (a14 := a14) (a16 := a16) (a17 := a17) l (.im (natD p.1)) (.im (natD p.2)) (.im (natD p.1)) (.im (natD p.2)) fun q hq => hm q (List.mem_cons_of_mem _ hq)
    refine ⟨u2, v2, ?_⟩
    have t := tst_ok (c0 := c0) (c1 := c1) (c2 := c2) (c4 := c4) (c5 := c5) (c7 := c7) (c8 := c8) (c10 := c10) (c12 := c12) (c13 := c13) (c14 := c14) (c16 := c16) (c17 := c17) h hp (hm p List.mem_cons_self)
    show (match tstM (lE c0 c1 c2 (.im (natD K)) c4 c5 (.im (nlD (due K base))) c7 c8 (.im (dT1 (esP (dev K base) l0))) c10 (.im (natD p.1)) c12 c13 c14 (.im (natD p.2)) c16 c17) with
      | .ok true => R.ok (Fl.rt (.bool false))
      | .ok false => kG 11 15 tstM (esP (dev K base) l) (lE a0 a1 a2 (.im (natD K)) a4 a5 (.im (nlD (due K base))) a7 a8 (.im (dT1 (esP (dev K base) l0))) a10 (.im (natD p.1)) a12 a13 a14 (.im (natD p.2)) a16 a17) (lE c0 c1 c2 (.im (natD K)) c4 c5 (.im (nlD (due K base))) c7 c8 (.im (dT1 (esP (dev K base) l0))) c10 (.im (natD p.1)) c12 c13 c14 (.im (natD p.2)) c16 c17)
      | _ => .bad) = _
    rw [t]
    exact e
theorem fk_ok (h : Bk K base) {l : List (Nat × Nat)} (hp : Prs K l) {a0 a1 a2 a4 a5 a7 a8 a10 a11 a12 a13 a14 a15 a16 a17 : SV} : ∃ u2 v2, sFk 9 11 15 [3, 6, 11, 15] tstM (lE a0 a1 a2 (.im (natD K)) a4 a5 (.im (nlD (due K base))) a7 a8 (.im (dT1 (esP (dev K base) l))) a10 a11 a12 a13 a14 a15 a16 a17) =
    .ok (.nx (lE a0 a1 a2 (.im (natD K)) a4 a5 (.im (nlD (due K base))) a7 a8 (.im (dT1 (esP (dev K base) l))) a10 u2 a12 a13 a14 v2 a16 a17)) := by
  have rs := rs_list (i := 9) (k := 6) (L := [3, 6, 11, 15]) rfl (due K base)
  obtain ⟨u2, v2, e⟩ := kG_ok (c0 := rsS 9 [3, 6, 11, 15] 0 a0) (c1 := rsS 9 [3, 6, 11, 15] 1 a1) (c2 := rsS 9 [3, 6, 11, 15] 2 a2) (c4 := rsS 9 [3, 6, 11, 15] 4 a4) (c5 := rsS 9 [3, 6, 11, 15] 5 a5) (c7 := rsS 9 [3, 6, 11, 15] 7 a7) (c8 := rsS 9 [3, 6, 11, 15] 8 a8) (c10 := rsS 9 [3, 6, 11, 15] 10 a10) (c12 := rsS 9 [3, 6, 11, 15] 12 a12) (c13 := rsS 9 [3, 6, 11, 15] 13 a13) (c14 := rsS 9 [3, 6, 11, 15] 14 a14) (c16 := rsS 9 [3, 6, 11, 15] 16 a16) (c17 := rsS 9 [3, 6, 11, 15] 17 a17) h hp (a0 := a0) (a1 := a1) (a2 := a2) (a4 := a4) (a5 := a5) (a7 := a7) (a8 := a8) (a10 := a10) (a12 := a12) (a13 := a13) (a14 := a14) (a16 := a16) (a17 := a17) l a11 a15 (rsS 9 [3, 6, 11, 15] 11 a11) (rsS 9 [3, 6, 11, 15] 15 a15) fun p hp => hp
  refine ⟨u2, v2, ?_⟩
  rw [← e]
  have fl : (esP (dev K base) l).all (fun p => flat p.2) = true := by
    unfold esP
    rw [List.all_map]
    exact List.all_eq_true.mpr fun x _ => rfl
  show (if (11 ≠ 9 ∧ 15 ≠ 9) ∧ (esP (dev K base) l).all (fun p => flat p.2) = true then kG 11 15 tstM (esP (dev K base) l) _ (lE (rsS 9 [3, 6, 11, 15] 0 a0) (rsS 9 [3, 6, 11, 15] 1 a1) (rsS 9 [3, 6, 11, 15] 2 a2) (.im (natD K)) (rsS 9 [3, 6, 11, 15] 4 a4) (rsS 9 [3, 6, 11, 15] 5 a5) (rsS 9 [3, 6, 11, 15] 6 (.im (nlD (due K base)))) (rsS 9 [3, 6, 11, 15] 7 a7) (rsS 9 [3, 6, 11, 15] 8 a8) (.im (dT1 (esP (dev K base) l))) (rsS 9 [3, 6, 11, 15] 10 a10) (rsS 9 [3, 6, 11, 15] 11 a11) (rsS 9 [3, 6, 11, 15] 12 a12) (rsS 9 [3, 6, 11, 15] 13 a13) (rsS 9 [3, 6, 11, 15] 14 a14) (rsS 9 [3, 6, 11, 15] 15 a15) (rsS 9 [3, 6, 11, 15] 16 a16) (rsS 9 [3, 6, 11, 15] 17 a17)) else .bad) = _
  rw [if_pos ⟨⟨by decide, by decide⟩, fl⟩, rs]
end
end My
set_option Elab.async false
set_option linter.all false
set_option maxRecDepth 100000
set_option maxHeartbeats 4000000
set_option exponentiation.threshold 1000000
namespace My
open PySem Tw
local macro_rules | `(tactic| walk_at "go") => `(tactic| repeat' (with_reducible first | exact xV_0 | exact xC_o | exact xNil_o | exact st_0 | exact gt_0 | exact sNil_o | exact wipe_0 | apply wipe_n | exact bs0_o | apply xV_n | apply st_n | apply gt_n | apply sAs_o | apply sAsM_o | apply sDr_o | apply sPr_g | apply sUn_g | apply bN_o | apply bsC_o | apply bT_2o | apply bT_3o | apply bT_4o | apply bL_2o | apply xBin_o | apply xUn_o | apply xTup_o | apply xLst_o | apply xCall_o | apply xCons_o | apply tC_o | apply tV_o | apply tNo_o | apply tTh_g | exact th_0 | apply th_i | apply th_m | apply th_n | apply th_x | apply tOrr_g | apply tAn_g | apply xNo_g | apply xOrr_g | apply xAn_g | apply xCh_g | apply iSeq_o | assumption | exact dAdd_i | exact dSub_i | exact dNeg_i | exact dIx_t0 | exact dIx_t1 | exact cInt_i | exact cAbs_i | exact cLen_l | exact cLen_t | exact dLt_i | exact dGt_i | exact dLe_i | exact dGe_i | exact dEq_int _ _ | exact dNe_int _ _ | exact kMin_i | exact kMax_i | exact rfl))
def evB (K : Nat) (base : Bks) : Bool := decide (((nsrt (due K base)).length : Int) = 1) && (decide ((0 : Int) < (nA (due K base) 0 : Int)) && (decide (((nsrt (base.map List.length)).length : Int) = 1) && (decide ((2 : Int) ≤ ((bA base 0).length : Int)) && decide (((bA base 0).length : Int) < (K : Int)))))
theorem evB_is (K : Nat) (base : Bks) : evB K base = decide (evn K base) := by
  unfold evB
  rw [Bool.eq_iff_iff, decide_eq_true_eq]
  simp only [Bool.and_eq_true, decide_eq_true_eq]
  unfold evn
  constructor
  · rintro ⟨a, b, c, d, e⟩
    exact ⟨by omega, by omega, by omega, by omega, by omega⟩
  · rintro ⟨a, b, c, d, e⟩
    exact ⟨by omega, by omega, by omega, by omega, by omega⟩
section
variable {K : Nat} {base : Bks} {ds : List Int} {kp : D} {a0 a2 a7 a9 a10 a11 a12 a13 a14 a15 a16 a17 : SV}
theorem bar_ok (h : Bk K base) (h5 : base.length ≤ 3) {t : Nat} : Runs barM (lE a0 (.im (il ds)) (.im (natD t)) (.im (natD K)) (.im (bsD base)) (.im (.str (bsD base).shown)) (.im (nlD (due K base))) a7 (.im (bsD (dev K base))) a9 a10 a11 a12 a13 a14 a15 a16 a17)
    (fun fl => ∃ b0 b7 b9 b10 b11 b12 b13 b14 b15 b16 b17, fl = .nx (lE b0 (.im (il ds)) (.im (natD t)) (.im (natD K)) (.im (bsD base)) (.im (.str (bsD base).shown)) (.im (nlD (due K base))) b7 (.im (bsD (dev K base))) b9 b10 b11 b12 b13 b14 b15 b16 b17)) := by
  have hlim := lim_eq
  have k2 := h.k2
  have k6 := h.k6
  have n1 := h.n1
  have bd := bk_dev h h5
  have dl := due_len h
  have ddl := dev_len K base
  have dd36 := Nat.mul_le_mul h5 k6
  have rdue : cRepr [nlD (due K base)] = .ok (.str (nlD (due K base)).shown) := (wr_nl (by omega) fun k hk => Nat.lt_of_le_of_lt (due_bd h h5 hk) (by decide)).repr (by decide) (by decide)
  have rdev : cRepr [bsD (dev K base)] = .ok (.str (bsD (dev K base)).shown) := (wr_bs (by omega) fun b hb => ⟨by have := bd.len hb; omega, fun k hk => by have := bd.lt b hb k hk; omega⟩).repr (by decide) (by decide)
  have rbase : cRepr [bsD base] = .ok (.str (bsD base).shown) := (wr_bs (by omega) fun b hb => ⟨by have := h.len hb; omega, fun k hk => by have := h.lt b hb k hk; omega⟩).repr (by decide) (by decide)
  have dif := differences_ok h h5
  have dvp := developed_ok h h5
  have bal := dev_balance h h5
  unfold barM
  refine runs_bar (ε' := lE a0 (.im (il ds)) (.im (natD t)) (.im (natD K)) (.im (bsD base)) (.im (.str (bsD base).shown)) (.im (nlD (due K base))) a7 (.im (bsD (dev K base))) a9 a10 a11 a12 a13 .no a15 a16 a17) rfl rfl ?_
  refine runs_sn (ε' := lE a0 (.im (il ds)) (.im (natD t)) (.im (natD K)) (.im (bsD base)) (.im (.str (bsD base).shown)) (.im (nlD (due K base))) a7 (.im (bsD (dev K base))) a9 a10 a11 a12 (.mu (nlD (due K base))) (.im (bsD (dev K base))) a15 a16 a17) (sPm_mi (xCall_o (xCons_o rfl (xCons_o rfl xNil_o)) dif) (xCall_o (xCons_o rfl (xCons_o rfl xNil_o)) dvp) (by decide) rfl rfl) ?_
  refine runs_no (b := false) (tOrr_g (tTh_o (tC_o (xBin_o (xCall_o (xCons_o rfl xNil_o) rdue) (xCall_o (xCons_o rfl xNil_o) rdue) (dNe_same rfl)))) (tC_o (xBin_o (xCall_o (xCons_o rfl xNil_o) rdev) (xCall_o (xCons_o rfl xNil_o) rdev) (dNe_same rfl)))) rfl ?_
  obtain ⟨l, pc, hp⟩ := pair_counts_ok bd
  refine runs_sn (ε' := lE a0 (.im (il ds)) (.im (natD t)) (.im (natD K)) (.im (bsD base)) (.im (.str (bsD base).shown)) (.im (nlD (due K base))) a7 (.im (bsD (dev K base))) (.im (dT1 (esP (dev K base) l))) a10 a11 a12 (.mu (nlD (due K base))) (.im (bsD (dev K base))) a15 a16 a17) (sAs_o (xCall_o (xCons_o rfl (xCons_o rfl xNil_o)) pc) rfl) ?_
  obtain ⟨u2, v2, fk⟩ := fk_ok h hp (a0 := a0) (a1 := .im (il ds)) (a2 := .im (natD t)) (a4 := .im (bsD base)) (a5 := .im (.str (bsD base).shown)) (a7 := a7) (a8 := .im (bsD (dev K base))) (a10 := a10) (a11 := a11) (a12 := a12) (a13 := .mu (nlD (due K base))) (a14 := .im (bsD (dev K base))) (a15 := a15) (a16 := a16) (a17 := a17)
  refine runs_sn fk ?_
  have l1 : xLc [7] (iSeq (xV 4)) (bN 7) tYe (xCall cLen (xCons (xV 7) xNil)) (lE a0 (.im (il ds)) (.im (natD t)) (.im (natD K)) (.im (bsD base)) (.im (.str (bsD base).shown)) (.im (nlD (due K base))) a7 (.im (bsD (dev K base))) (.im (dT1 (esP (dev K base) l))) a10 u2 a12 (.mu (nlD (due K base))) (.im (bsD (dev K base))) v2 a16 a17) = .ok (nlD (base.map List.length)) := by
    have := xLc_a (vs := [7]) (mi := iSeq (xV 4)) (g := bN 7) (e := xCall cLen (xCons (xV 7) xNil)) (ε := lE a0 (.im (il ds)) (.im (natD t)) (.im (natD K)) (.im (bsD base)) (.im (.str (bsD base).shown)) (.im (nlD (due K base))) a7 (.im (bsD (dev K base))) (.im (dT1 (esP (dev K base) l))) a10 u2 a12 (.mu (nlD (due K base))) (.im (bsD (dev K base))) v2 a16 a17) (enc := nlD) (v := fun b => natD b.length) (xs := base) (F := fun b => lE a0 (.im (il ds)) (.im (natD t)) (.im (natD K)) (.im (bsD base)) (.im (.str (bsD base).shown)) (.im (nlD (due K base))) (.im (nlD b)) (.im (bsD (dev K base))) (.im (dT1 (esP (dev K base) l))) a10 u2 a12 (.mu (nlD (due K base))) (.im (bsD (dev K base))) v2 a16 a17) (iSeq_o rfl) rfl (fun b _ => rfl) (fun b _ => xCall_o (xCons_o rfl xNil_o) (cLen_nl b)) (by omega)
    rw [this]
    unfold nlD
    rw [List.map_map]
    rfl
  have s1 := dLs_nat (l := due K base) (by omega)
  have s2 := dLs_nat (l := base.map List.length) (by rw [List.length_map]; omega)
  have i0 := dIx_nl (b := due K base) (t := 0) (by omega)
  have j0 := dIx_bs (bs := base) (i := 0) (by omega)
  have c0 := cLen_nl (bA base 0)
  have cb := cLen_bs base
  refine runs_sn (ε' := lE a0 (.im (il ds)) (.im (natD t)) (.im (natD K)) (.im (bsD base)) (.im (.str (bsD base).shown)) (.im (nlD (due K base))) a7 (.im (bsD (dev K base))) (.im (dT1 (esP (dev K base) l))) (.im (.bool (evB K base))) u2 a12 (.mu (nlD (due K base))) (.im (bsD (dev K base))) v2 a16 a17) (sAs_o (xAn_g (xBin_o (xUn_o rfl s1) xC_o (dEq_int _ _)) (xAn_g (xBin_o (xBin_o rfl xC_o i0) xC_o dGt_i) (xAn_g (xBin_o (xUn_o l1 s2) xC_o (dEq_int _ _)) (xCh_g xC_o (xCall_o (xCons_o (xBin_o rfl xC_o j0) xNil_o) c0) rfl dLe_i dLt_i)))) rfl) ?_
  have isn : dIsNot (if evn K base then .tuple [natD (base.length * (bA base 0).length), natD (nA (due K base) 0)] else .none) .none = .ok (.bool (evB K base)) := by
    rw [evB_is]
    by_cases q : evn K base
    · rw [if_pos q, decide_eq_true q]
      rfl
    · rw [if_neg q, decide_eq_false q]
      rfl
  refine runs_no (b := false) ((tC_o (xBin_o (xBin_o (xCall_o (xCons_o rfl (xCons_o rfl xNil_o)) bal) xC_o isn) rfl (dNe_bool _ _))).trans (by rw [bne_self_eq_false])) rfl ?_
  have ml : dMul (.int (base.length : Int)) (.int ((bA base 0).length : Int)) = .ok (natD (base.length * (bA base 0).length)) := by
    have := h.len (bA_mem (bs := base) (i := 0) (by omega))
    rw [dMul_small (by omega) (by omega)]
    unfold natD
    rw [Int.natCast_mul]
  have tp : xTup (xCons (xBin dMul (xCall cLen (xCons (xV 4) xNil)) (xCall cLen (xCons (xBin dIx (xV 4) (xC (.int 0))) xNil))) (xCons (xBin dIx (xV 6) (xC (.int 0))) xNil)) (lE a0 (.im (il ds)) (.im (natD t)) (.im (natD K)) (.im (bsD base)) (.im (.str (bsD base).shown)) (.im (nlD (due K base))) a7 (.im (bsD (dev K base))) (.im (dT1 (esP (dev K base) l))) (.im (.bool (evB K base))) u2 a12 (.mu (nlD (due K base))) (.im (bsD (dev K base))) v2 a16 a17) = .ok (.tuple [natD (base.length * (bA base 0).length), natD (nA (due K base) 0)]) :=
    xTup_o (xCons_o (xBin_o (xCall_o (xCons_o rfl xNil_o) cb) (xCall_o (xCons_o (xBin_o rfl xC_o j0) xNil_o) c0) ml) (xCons_o (xBin_o rfl xC_o i0) xNil_o))
  refine runs_no (b := evB K base && false) (tAn_c (tV_o rfl) fun q => ?_) (by rw [Bool.and_false]) ?_
  · have q' : evn K base := by
      rw [evB_is] at q
      exact of_decide_eq_true q
    rw [if_pos q'] at bal
    exact tC_o (xBin_o (xCall_o (xCons_o rfl (xCons_o rfl xNil_o)) bal) tp (dNe_same rfl))
  have it : itemL 14 [(14, .each)] 0 (bsD (dev K base)) = some ((bA (dev K base) 0).map natD) := by
    have e : ((dev K base).map nlD)[0]? = some (nlD (bA (dev K base) 0)) := by
      rw [List.getElem?_map, bA_get (bs := dev K base) (i := 0) bd.n1]
      rfl
    show (match ((dev K base).map nlD)[0]? with | some (.list ds) => some ds | _ => none) = _
    rw [e]
    rfl
  have ll : ((bA (dev K base) 0).map natD).length < lim := by
    have := bd.len (bA_mem (bs := dev K base) (i := 0) bd.n1)
    rw [List.length_map]
    omega
  have kl := lite_list [1, 2, 3, 4, 5, 6, 8] [(14, .each)] (k := 13) rfl rfl (due K base)
  have ke : ∃ d0 d7 d9 d10 d11 d12 d14 d15 d16 d17, ixE (keepS [1, 2, 3, 4, 5, 6, 8] [(14, .each)]) 0 (lE a0 (.im (il ds)) (.im (natD t)) (.im (natD K)) (.im (bsD base)) (.im (.str (bsD base).shown)) (.im (nlD (due K base))) a7 (.im (bsD (dev K base))) (.im (dT1 (esP (dev K base) l))) (.im (.bool (evB K base))) u2 a12 (.mu (nlD (due K base))) (.im (bsD (dev K base))) v2 a16 a17) =
      lE d0 (.im (il ds)) (.im (natD t)) (.im (natD K)) (.im (bsD base)) (.im (.str (bsD base).shown)) (.im (nlD (due K base))) d7 (.im (bsD (dev K base))) d9 d10 d11 d12 (.mu (nlD (due K base))) d14 d15 d16 d17 := by
    refine ⟨keepS [1, 2, 3, 4, 5, 6, 8] [(14, .each)] 0 a0, keepS [1, 2, 3, 4, 5, 6, 8] [(14, .each)] 7 a7, .no, .im (.bool (evB K base)), keepS [1, 2, 3, 4, 5, 6, 8] [(14, .each)] 11 u2, keepS [1, 2, 3, 4, 5, 6, 8] [(14, .each)] 12 a12, .no, keepS [1, 2, 3, 4, 5, 6, 8] [(14, .each)] 15 v2, keepS [1, 2, 3, 4, 5, 6, 8] [(14, .each)] 16 a16, keepS [1, 2, 3, 4, 5, 6, 8] [(14, .each)] 17 a17, ?_⟩
    show lE (keepS [1, 2, 3, 4, 5, 6, 8] [(14, .each)] 0 a0) _ _ _ _ _ _ (keepS [1, 2, 3, 4, 5, 6, 8] [(14, .each)] 7 a7) _ _ _ _ _ (keepS [1, 2, 3, 4, 5, 6, 8] [(14, .each)] 13 (.mu (nlD (due K base)))) _ _ _ _ = _
    rw [kl]
    rfl
  obtain ⟨d0, d7, d9, d10, d11, d12, d14, d15, d16, d17, ke⟩ := ke
  refine runs_sn (sMtI_o (d := bsD (dev K base)) (ds := (bA (dev K base) 0).map natD) (x := .int 99) xC_o rfl it ll ke) ?_
  refine runs_sn (ε' := lE d0 (.im (il ds)) (.im (natD t)) (.im (natD K)) (.im (bsD base)) (.im (.str (bsD base).shown)) (.im (nlD (due K base))) d7 (.im (bsD (dev K base))) d9 d10 d11 d12 (.mu (.list ((due K base).map natD ++ [.int 0]))) d14 d15 d16 d17) (sAp_o (ds := (due K base).map natD) (d := .int 0) xC_o rfl (by rw [List.length_map]; omega) rfl) ?_
  exact runs_if (b := false) (tOrr_g (tC_o (xBin_o (xCall_o (xCons_o (xCall_o (xCons_o rfl (xCons_o rfl xNil_o)) dvp) xNil_o) rdev) (xCall_o (xCons_o rfl xNil_o) rdev) (dNe_same rfl))) (tC_o (xBin_o (xCall_o (xCons_o rfl xNil_o) rbase) rfl (dNe_same rfl)))) (fun z => by cases z) (fun _ => runs_nil ⟨_, _, _, _, _, _, _, _, _, _, _, rfl⟩)
end
end My
set_option Elab.async false
set_option linter.all false
set_option maxRecDepth 100000
set_option maxHeartbeats 4000000
set_option exponentiation.threshold 1000000
namespace My
open PySem Tw
local macro_rules | `(tactic| walk_at "go") => `(tactic| repeat' (with_reducible first | exact xV_0 | exact xC_o | exact xNil_o | exact st_0 | exact gt_0 | exact sNil_o | exact wipe_0 | apply wipe_n | exact bs0_o | apply xV_n | apply st_n | apply gt_n | apply sAs_o | apply sAsM_o | apply sDr_o | apply sPr_g | apply sUn_g | apply bN_o | apply bsC_o | apply bT_2o | apply bT_3o | apply bT_4o | apply bL_2o | apply xBin_o | apply xUn_o | apply xTup_o | apply xLst_o | apply xCall_o | apply xCons_o | apply tC_o | apply tV_o | apply tNo_o | apply tTh_g | exact th_0 | apply th_i | apply th_m | apply th_n | apply th_x | apply tOrr_g | apply tAn_g | apply xNo_g | apply xOrr_g | apply xAn_g | apply xCh_g | apply iSeq_o | assumption | exact dAdd_i | exact dSub_i | exact dNeg_i | exact dIx_t0 | exact dIx_t1 | exact cInt_i | exact cAbs_i | exact cLen_l | exact cLen_t | exact dLt_i | exact dGt_i | exact dLe_i | exact dGe_i | exact dEq_int _ _ | exact dNe_int _ _ | exact kMin_i | exact kMax_i | exact rfl))
theorem bk_7 : Bk 7 [[1, 2, 4]] := ⟨by decide, by decide, by decide, by decide, by decide, by decide, by decide⟩
theorem bk_11 : Bk 11 [[1, 3, 4, 5, 9]] := ⟨by decide, by decide, by decide, by decide, by decide, by decide, by decide⟩
theorem bk_7' : Bk 7 [[0, 1, 3], [0, 2, 3]] := ⟨by decide, by decide, by decide, by decide, by decide, by decide, by decide⟩
theorem bk_4 : Bk 4 [[0, 1, 2]] := ⟨by decide, by decide, by decide, by decide, by decide, by decide, by decide⟩
theorem bk_5 : Bk 5 [[0, 1], [0, 2]] := ⟨by decide, by decide, by decide, by decide, by decide, by decide, by decide⟩
theorem bk_3 : Bk 3 [[0, 1]] := ⟨by decide, by decide, by decide, by decide, by decide, by decide, by decide⟩
def six : List (Nat × Bks) := [(7, [[1, 2, 4]]), (11, [[1, 3, 4, 5, 9]]), (7, [[0, 1, 3], [0, 2, 3]]), (4, [[0, 1, 2]]), (5, [[0, 1], [0, 2]]), (3, [[0, 1]])]
def sixD (p : Nat × Bks) : D := .tuple [natD p.1, bsD p.2]
theorem six_ok : ∀ p, p ∈ six → Bk p.1 p.2 ∧ p.2.length ≤ 3 := by
  intro p hp
  simp only [six, List.mem_cons, List.not_mem_nil, or_false] at hp
  rcases hp with rfl | rfl | rfl | rfl | rfl | rfl
  · exact ⟨bk_7, by decide⟩
  · exact ⟨bk_11, by decide⟩
  · exact ⟨bk_7', by decide⟩
  · exact ⟨bk_4, by decide⟩
  · exact ⟨bk_5, by decide⟩
  · exact ⟨bk_3, by decide⟩
theorem bk_12 : Bk 12 (dev 11 [[1, 3, 4, 5, 9]]) := by
  have b := bk_dev bk_11 (by decide)
  exact ⟨by decide, by decide, b.n1, b.n7, b.ne, b.inc, fun x hx k hk => by have := b.lt x hx k hk; omega⟩
set_option maxRecDepth 100000 in
theorem facts : (evn 7 [[1, 2, 4]] ∧ nA (due 7 [[1, 2, 4]]) 0 = 1) ∧ (evn 11 [[1, 3, 4, 5, 9]] ∧ nA (due 11 [[1, 3, 4, 5, 9]]) 0 = 2) ∧ cntP (dev 11 [[1, 3, 4, 5, 9]]) 0 11 = 0 := by decide +kernel
theorem bal_7 : f_balance [natD 7, bsD (dev 7 [[1, 2, 4]])] = .ok (.tuple [.int 3, .int 1]) := by
  rw [dev_balance bk_7 (by decide), if_pos facts.1.1, facts.1.2]
  rfl
theorem bal_11 : f_balance [natD 11, bsD (dev 11 [[1, 3, 4, 5, 9]])] = .ok (.tuple [.int 5, .int 2]) := by
  rw [dev_balance bk_11 (by decide), if_pos facts.2.1.1, facts.2.1.2]
  rfl
theorem bal_12 : f_balance [natD 12, bsD (dev 11 [[1, 3, 4, 5, 9]])] = .ok .none := by
  obtain ⟨l, hp, e⟩ := balance_ok bk_12 (by rw [dev_len]; decide)
  rw [e, if_pos]
  refine .inr (.inr (.inr ((nsrt_mem _ _).mpr (List.mem_map.mpr ⟨(0, 11), hp.all 0 11 (by decide) (by decide), facts.2.2⟩))))
theorem law_true (ns : List Int) (hn : ns.length ≤ 63) : f_law [.list (ns.map PyData.int)] = .ok (.bool true) := by
  obtain ⟨ds, hdr, hd⟩ := draws_ok hn
  have hlim := lim_eq
  unfold f_law
  refine runF_rt rfl ?_
  unfold m_law
  change Runs _ (lE (.im (il ns)) .no .no .no .no .no .no .no .no .no .no .no .no .no .no .no .no .no) _
  refine runs_sn (ε' := lE (.im (il ns)) (.im (il ds)) .no .no .no .no .no .no .no .no .no .no .no .no .no .no .no .no) (sAs_o (xCall_o (xCons_o rfl xNil_o) hdr) rfl) ?_
  refine runs_seq (runs_for (ds := (List.range 3).map natD) (fun i ε => ∃ a0 a2 a3 a4 a5 a6 a7 a8 a9 a10 a11 a12 a13 a14 a15 a16 a17, ε = lE a0 (.im (il ds)) a2 a3 a4 a5 a6 a7 a8 a9 a10 a11 a12 a13 a14 a15 a16 a17) (range_o (n := 3) (by decide) (xCons_o xC_o xNil_o)) ⟨_, _, _, _, _, _, _, _, _, _, _, _, _, _, _, _, _, rfl⟩ ?_ ?_)
  · rintro i d ε hx ⟨a0, a2, a3, a4, a5, a6, a7, a8, a9, a10, a11, a12, a13, a14, a15, a16, a17, rfl⟩
    obtain ⟨hi, rfl⟩ := range_get hx
    refine ⟨lE a0 (.im (il ds)) (.im (natD i)) a3 a4 a5 a6 a7 a8 a9 a10 a11 a12 a13 a14 a15 a16 a17, rfl, ?_⟩
    obtain ⟨r, er, lr⟩ := mixn hd (k := (i : Int)) (many := 11) (by omega) (by omega) (by decide)
    have e2 : (2 : Int) + ((r : Nat) : Int) = ((2 + r : Nat) : Int) := by omega
    refine runs_sn (ε' := lE a0 (.im (il ds)) (.im (natD i)) (.im (natD (2 + r))) a4 a5 a6 a7 a8 a9 a10 a11 a12 a13 a14 a15 a16 a17) (sAs_o ((xBin_o xC_o (xCall_o (xCons_o rfl (xCons_o rfl (xCons_o xC_o xNil_o))) er) dAdd_i).trans (by rw [e2]; rfl)) rfl) ?_
    have m30 : dMul (.int 30) (.int (i : Int)) = .ok (.int (30 * (i : Int))) := dMul_small (by decide) (by omega)
    obtain ⟨b0, eb, hb0, lb0⟩ := base_ok hd (k := 10 + 30 * (i : Int)) (by omega) (by omega) (K := 2 + r) (by omega) (by omega)
    refine runs_sn (ε' := lE a0 (.im (il ds)) (.im (natD i)) (.im (natD (2 + r))) (.im (bsD b0)) a5 a6 a7 a8 a9 a10 a11 a12 a13 a14 a15 a16 a17) (sAs_o (xCall_o (xCons_o rfl (xCons_o (xBin_o xC_o (xBin_o xC_o rfl m30) dAdd_i) (xCons_o rfl xNil_o))) eb) rfl) ?_
    obtain ⟨w, ew, lw⟩ := mixn hd (k := 3 + (i : Int)) (many := 3) (by omega) (by omega) (by decide)
    refine runs_seq (Runs.mono (p := fun fl => ∃ K base, fl = .nx (lE a0 (.im (il ds)) (.im (natD i)) (.im (natD K)) (.im (bsD base)) a5 a6 a7 a8 a9 a10 a11 a12 a13 a14 a15 a16 a17) ∧ Bk K base ∧ base.length ≤ 3) ?_ ?_)
    · refine runs_if (b := decide (((w : Nat) : Int) = 0)) (tC_o (xBin_o (xCall_o (xCons_o rfl (xCons_o (xBin_o xC_o rfl dAdd_i) (xCons_o xC_o xNil_o))) ew) xC_o (dEq_int _ _))) (fun _ => ?_) (fun _ => runs_nil ⟨_, _, rfl, hb0, lb0⟩)
      obtain ⟨j, ej, lj⟩ := mixn hd (k := 6 + (i : Int)) (many := 6) (by omega) (by omega) (by decide)
      obtain ⟨p, hp⟩ : ∃ p, six[j]? = some p := ⟨six[j]'(by exact lj), List.getElem?_eq_getElem _⟩
      obtain ⟨h1, h2⟩ := six_ok p (List.mem_of_getElem? hp)
      have ix : dIx (.list (six.map sixD)) (.int (j : Int)) = .ok (sixD p) := dIx_m sixD hp
      exact runs_nx (ε' := lE a0 (.im (il ds)) (.im (natD i)) (.im (natD p.1)) (.im (bsD p.2)) a5 a6 a7 a8 a9 a10 a11 a12 a13 a14 a15 a16 a17) (sUn_g (xBin_o (a := .list (six.map sixD)) rfl (xCall_o (xCons_o rfl (xCons_o (xBin_o xC_o rfl dAdd_i) (xCons_o xC_o xNil_o))) ej) ix) rfl) ⟨_, _, rfl, h1, h2⟩
    rintro _ ⟨K, base, rfl, h, h5⟩
    have k2 := h.k2
    have k6 := h.k6
    have rbase : cRepr [bsD base] = .ok (.str (bsD base).shown) := (wr_bs (by omega) fun b hb => ⟨by have := h.len hb; omega, fun k hk => by have := h.lt b hb k hk; omega⟩).repr (by decide) (by decide)
    refine runs_sn (ε' := lE a0 (.im (il ds)) (.im (natD i)) (.im (natD K)) (.im (bsD base)) (.im (.str (bsD base).shown)) a6 a7 a8 a9 a10 a11 a12 a13 a14 a15 a16 a17) (sAs_o (xCall_o (xCons_o rfl xNil_o) rbase) rfl) ?_
    have rp := dRep_one (d := .int 0) (n := K - 1) (by omega)
    rw [rep0] at rp
    have k1 : ((K : Int) - 1) = ((K - 1 : Nat) : Int) := by omega
    refine runs_sn (ε' := lE a0 (.im (il ds)) (.im (natD i)) (.im (natD K)) (.im (bsD base)) (.im (.str (bsD base).shown)) (.mu (nlD (List.replicate (K - 1) 0))) a7 a8 a9 a10 a11 a12 a13 a14 a15 a16 a17) (sAsM_o (xBin_o (xLst_o (xCons_o xC_o xNil_o)) ((xBin_o rfl xC_o dSub_i).trans (by rw [k1])) rp) rfl) ?_
    refine runs_seq (Runs.mono (due_ok h) ?_)
    rintro _ ⟨b7, b11, b15, b16, rfl⟩
    refine runs_sn (ε' := lE a0 (.im (il ds)) (.im (natD i)) (.im (natD K)) (.im (bsD base)) (.im (.str (bsD base).shown)) (.im (nlD (due K base))) b7 a8 a9 a10 b11 a12 a13 a14 b15 b16 a17) rfl ?_
    refine runs_sn (ε' := lE a0 (.im (il ds)) (.im (natD i)) (.im (natD K)) (.im (bsD base)) (.im (.str (bsD base).shown)) (.im (nlD (due K base))) b7 (.mu (.list [])) a9 a10 b11 a12 a13 a14 b15 b16 a17) (sAsM_o (xLst_o xNil_o) rfl) ?_
    refine runs_seq (Runs.mono (blocks_ok h h5) ?_)
    rintro _ ⟨c7, c12, c17, rfl⟩
    refine runs_sn (ε' := lE a0 (.im (il ds)) (.im (natD i)) (.im (natD K)) (.im (bsD base)) (.im (.str (bsD base).shown)) (.im (nlD (due K base))) c7 (.im (bsD (dev K base))) a9 a10 b11 c12 a13 a14 b15 b16 c17) rfl ?_
    refine Runs.mono (bar_ok h h5) ?_
    rintro _ ⟨d0, d7, d9, d10, d11, d12, d13, d14, d15, d16, d17, rfl⟩
    exact ⟨_, _, _, _, _, _, _, _, _, _, _, _, _, _, _, _, _, rfl⟩
  · rintro ε ⟨a0, a2, a3, a4, a5, a6, a7, a8, a9, a10, a11, a12, a13, a14, a15, a16, a17, rfl⟩
    have v7 := developed_ok bk_7 (by decide)
    have v11 := developed_ok bk_11 (by decide)
    refine runs_no (b := false) (tOrr_g (tC_o (xBin_o (xCall_o (xCons_o (d := natD 7) rfl (xCons_o (xCall_o (xCons_o (d := natD 7) rfl (xCons_o (d := bsD [[1, 2, 4]]) rfl xNil_o)) v7) xNil_o)) bal_7) (d := .bool false) (b := .tuple [.int 3, .int 1]) rfl (dNe_same rfl))) (tC_o (xBin_o (xCall_o (xCons_o (d := natD 11) rfl (xCons_o (xCall_o (xCons_o (d := natD 11) rfl (xCons_o (d := bsD [[1, 3, 4, 5, 9]]) rfl xNil_o)) v11) xNil_o)) bal_11) (d := .bool false) (b := .tuple [.int 5, .int 2]) rfl (dNe_same rfl)))) rfl ?_
    exact runs_rt (xBin_o (xCall_o (xCons_o (d := natD 12) rfl (xCons_o (xCall_o (xCons_o (d := natD 11) rfl (xCons_o (d := bsD [[1, 3, 4, 5, 9]]) rfl xNil_o)) v11) xNil_o)) bal_12) xC_o rfl) rfl
end My
set_option Elab.async false
set_option linter.all false
set_option maxRecDepth 100000
set_option maxHeartbeats 4000000
/-! the text's defs are these programs -/
namespace My
open PySem PySem.Spec PyProof.Rows L2 Tw
def topS (i : Nat) : Stmt := PySem.Challenge.pw_triedwares_k35_whole_blocks_from_differe.main.body.getD i (.Pass ⟨0, 0, 0, 0⟩)
abbrev s_check_kinds : Stmt := topS 9
theorem sc_check_kinds : FnScope ["kinds"] ["kinds"] (defScope s_check_kinds) := ⟨rfl, rfl, rfl, by decide +kernel, rfl, by decide +kernel, by decide +kernel⟩
abbrev s_check_lists : Stmt := topS 10
theorem sc_check_lists : FnScope ["kinds", "lists", "i", "told", "kind", "one", "two"] ["kinds", "lists"] (defScope s_check_lists) := ⟨rfl, rfl, rfl, by decide +kernel, rfl, by decide +kernel, by decide +kernel⟩
abbrev s_check_blocks : Stmt := topS 11
theorem sc_check_blocks : FnScope ["kinds", "blocks"] ["kinds", "blocks"] (defScope s_check_blocks) := ⟨rfl, rfl, rfl, by decide +kernel, rfl, by decide +kernel, by decide +kernel⟩
abbrev s_count_of : Stmt := topS 12
theorem sc_count_of : FnScope ["blocks", "told", "block", "kind"] ["blocks", "told"] (defScope s_count_of) := ⟨rfl, rfl, rfl, by decide +kernel, rfl, by decide +kernel, by decide +kernel⟩
abbrev s_pairs_by : Stmt := topS 13
theorem sc_pairs_by : FnScope ["kinds", "blocks", "found", "one", "two"] ["kinds", "blocks"] (defScope s_pairs_by) := ⟨rfl, rfl, rfl, by decide +kernel, rfl, by decide +kernel, by decide +kernel⟩
abbrev s_pair_counts : Stmt := topS 14
theorem sc_pair_counts : FnScope ["kinds", "blocks"] ["kinds", "blocks"] (defScope s_pair_counts) := ⟨rfl, rfl, rfl, by decide +kernel, rfl, by decide +kernel, by decide +kernel⟩
abbrev s_balance : Stmt := topS 15
theorem sc_balance : FnScope ["kinds", "blocks", "sizes", "found", "counts", "block", "pair"] ["kinds", "blocks"] (defScope s_balance) := ⟨rfl, rfl, rfl, by decide +kernel, rfl, by decide +kernel, by decide +kernel⟩
abbrev s_check_base : Stmt := topS 18
theorem sc_check_base : FnScope ["kinds", "base"] ["kinds", "base"] (defScope s_check_base) := ⟨rfl, rfl, rfl, by decide +kernel, rfl, by decide +kernel, by decide +kernel⟩
abbrev s_differences : Stmt := topS 19
theorem sc_differences : FnScope ["kinds", "base", "found", "told", "one", "two"] ["kinds", "base"] (defScope s_differences) := ⟨rfl, rfl, rfl, by decide +kernel, rfl, by decide +kernel, by decide +kernel⟩
abbrev s_developed : Stmt := topS 20
theorem sc_developed : FnScope ["kinds", "base", "told", "step", "kind"] ["kinds", "base"] (defScope s_developed) := ⟨rfl, rfl, rfl, by decide +kernel, rfl, by decide +kernel, by decide +kernel⟩
abbrev s__law_draws : Stmt := topS 22
theorem sc__law_draws : FnScope ["script", "draws", "k", "rest", "turn", "mixed"] ["script"] (defScope s__law_draws) := ⟨rfl, rfl, rfl, by decide +kernel, rfl, by decide +kernel, by decide +kernel⟩
abbrev s__law_mix : Stmt := topS 23
theorem sc__law_mix : FnScope ["draws", "k", "many", "value"] ["draws", "k", "many"] (defScope s__law_mix) := ⟨rfl, rfl, rfl, by decide +kernel, rfl, by decide +kernel, by decide +kernel⟩
abbrev s__law_base : Stmt := topS 24
theorem sc__law_base : FnScope ["draws", "k", "kinds", "found", "size", "t", "told", "j"] ["draws", "k", "kinds"] (defScope s__law_base) := ⟨rfl, rfl, rfl, by decide +kernel, rfl, by decide +kernel, by decide +kernel⟩
abbrev s_law : Stmt := topS 25
theorem sc_law : FnScope ["script", "draws", "turn", "kinds", "base", "kept", "due", "told", "blocks", "pairs", "even", "one", "step", "found", "made", "two", "gap", "kind"] ["script"] (defScope s_law) := ⟨rfl, rfl, rfl, by decide +kernel, rfl, by decide +kernel, by decide +kernel⟩
/-- what the top has left -/
structure Top (P : Program) (K : PySem.W.Frag) (mg : Str → Option Value) : Type where
  a_check_kinds : Addr
  d_check_kinds : FuncData
  F_check_kinds : Fun K "check_kinds" "check_kinds" s_check_kinds a_check_kinds d_check_kinds
  g_check_kinds : mg "check_kinds" = some (.ref a_check_kinds)
  b_check_kinds : Binds K d_check_kinds ["kinds"] []
  a_check_lists : Addr
  d_check_lists : FuncData
  F_check_lists : Fun K "check_lists" "check_lists" s_check_lists a_check_lists d_check_lists
  g_check_lists : mg "check_lists" = some (.ref a_check_lists)
  b_check_lists : Binds K d_check_lists ["kinds", "lists"] []
  a_check_blocks : Addr
  d_check_blocks : FuncData
  F_check_blocks : Fun K "check_blocks" "check_blocks" s_check_blocks a_check_blocks d_check_blocks
  g_check_blocks : mg "check_blocks" = some (.ref a_check_blocks)
  b_check_blocks : Binds K d_check_blocks ["kinds", "blocks"] []
  a_count_of : Addr
  d_count_of : FuncData
  F_count_of : Fun K "count_of" "count_of" s_count_of a_count_of d_count_of
  g_count_of : mg "count_of" = some (.ref a_count_of)
  b_count_of : Binds K d_count_of ["blocks", "told"] []
  a_pairs_by : Addr
  d_pairs_by : FuncData
  F_pairs_by : Fun K "pairs_by" "pairs_by" s_pairs_by a_pairs_by d_pairs_by
  g_pairs_by : mg "pairs_by" = some (.ref a_pairs_by)
  b_pairs_by : Binds K d_pairs_by ["kinds", "blocks"] []
  a_pair_counts : Addr
  d_pair_counts : FuncData
  F_pair_counts : Fun K "pair_counts" "pair_counts" s_pair_counts a_pair_counts d_pair_counts
  g_pair_counts : mg "pair_counts" = some (.ref a_pair_counts)
  b_pair_counts : Binds K d_pair_counts ["kinds", "blocks"] []
  a_balance : Addr
  d_balance : FuncData
  F_balance : Fun K "balance" "balance" s_balance a_balance d_balance
  g_balance : mg "balance" = some (.ref a_balance)
  b_balance : Binds K d_balance ["kinds", "blocks"] []
  a_check_base : Addr
  d_check_base : FuncData
  F_check_base : Fun K "check_base" "check_base" s_check_base a_check_base d_check_base
  g_check_base : mg "check_base" = some (.ref a_check_base)
  b_check_base : Binds K d_check_base ["kinds", "base"] []
  a_differences : Addr
  d_differences : FuncData
  F_differences : Fun K "differences" "differences" s_differences a_differences d_differences
  g_differences : mg "differences" = some (.ref a_differences)
  b_differences : Binds K d_differences ["kinds", "base"] []
  a_developed : Addr
  d_developed : FuncData
  F_developed : Fun K "developed" "developed" s_developed a_developed d_developed
  g_developed : mg "developed" = some (.ref a_developed)
  b_developed : Binds K d_developed ["kinds", "base"] []
  a__law_draws : Addr
  d__law_draws : FuncData
  F__law_draws : Fun K "_law_draws" "_law_draws" s__law_draws a__law_draws d__law_draws
  g__law_draws : mg "_law_draws" = some (.ref a__law_draws)
  b__law_draws : Binds K d__law_draws ["script"] []
  a__law_mix : Addr
  d__law_mix : FuncData
  F__law_mix : Fun K "_law_mix" "_law_mix" s__law_mix a__law_mix d__law_mix
  g__law_mix : mg "_law_mix" = some (.ref a__law_mix)
  b__law_mix : Binds K d__law_mix ["draws", "k", "many"] []
  a__law_base : Addr
  d__law_base : FuncData
  F__law_base : Fun K "_law_base" "_law_base" s__law_base a__law_base d__law_base
  g__law_base : mg "_law_base" = some (.ref a__law_base)
  b__law_base : Binds K d__law_base ["draws", "k", "kinds"] []
  a_law : Addr
  d_law : FuncData
  F_law : Fun K "law" "law" s_law a_law d_law
  g_law : mg "law" = some (.ref a_law)
  b_law : Binds K d_law ["script"] []
  t_LEAST_KINDS : Tok
  c_LEAST_KINDS : mg "LEAST_KINDS" = some (.int 2 t_LEAST_KINDS)
  t_MOST_BLOCKS : Tok
  c_MOST_BLOCKS : mg "MOST_BLOCKS" = some (.int 60 t_MOST_BLOCKS)
  t_MOST_KINDS : Tok
  c_MOST_KINDS : mg "MOST_KINDS" = some (.int 12 t_MOST_KINDS)
  t_MOST_LISTS : Tok
  c_MOST_LISTS : mg "MOST_LISTS" = some (.int 5 t_MOST_LISTS)
  z_abs : mg "abs" = none
  z_all : mg "all" = none
  z_enumerate : mg "enumerate" = none
  z_int : mg "int" = none
  z_len : mg "len" = none
  z_min : mg "min" = none
  z_range : mg "range" = none
  z_repr : mg "repr" = none
  z_set : mg "set" = none
  z_sorted : mg "sorted" = none
  z_zip : mg "zip" = none
section
variable {P : Program} {w : World} {K : PySem.W.Frag} {mg : Str → Option Value} {base : Heap}
def Top.cl (T : Top P K mg) : Nat → Option Addr := fun k => match k with
  | _ => none
theorem ok_check_kinds (T : Top P K mg) : FnG P w K mg base 1 T.a_check_kinds T.d_check_kinds ["kinds"] (spF K T.cl f_check_kinds) :=
  def_F T.F_check_kinds sc_check_kinds rfl (by decide) fun cdv A outer s H E M hr hG hp tk =>
  (ss_1 (ps_i (pt_no (pt_ch (o_le (units_of hr)) (o_le (units_of hr)) (pk_gi T.c_LEAST_KINDS) (pe_v (pv 0)) (pk_gi T.c_MOST_KINDS)))
  (ss_1 ps_no)
  ss_nil))
theorem ok_check_lists (T : Top P K mg) : FnG P w K mg base 1 T.a_check_lists T.d_check_lists ["kinds", "lists"] (spF K T.cl f_check_lists) :=
  def_F T.F_check_lists sc_check_lists rfl (by decide) fun cdv A outer s H E M hr hG hp tk =>
  (ss_1 (ps_fr hp rfl (pi_e T.z_enumerate (pa_c (pe_v (pv 1)) pa_n)) (pg_tup (n := 2) rfl (pgs_cons (pg_name (i := 2) sc_check_lists.nd rfl (by first | exact Or.inl rfl | exact Or.inr rfl)) (pgs_cons (pg_name (i := 3) sc_check_lists.nd rfl (by first | exact Or.inl rfl | exact Or.inr rfl)) pgs_nil))) (gok_t (gsok_c (gok_n 2) (gsok_c (gok_n 3) gsok_0)))
  (ss_c (ps_i (L2.PW.pt (pw_orr (pt_cp (o_eq (units_of hr)) (pe_bi k_len T.z_len (by decide +kernel) (pa_c (pe_v (pv 3)) pa_n)) pk_int) (L2.pw_or1 (pt_no (pt_v (pe_bi (k_all rfl) T.z_all (by decide +kernel) (pa_c (PE.lE (pe_co (own := [("kind", 4)]) rfl sc_check_lists.nd (pi_l (pe_v (pv 3))) (blkOk_by (N := ["kinds", "lists", "i", "told", "kind", "one", "two"]) (sc := defScope s_check_lists) (by decide +kernel)) (gok_n 4) (by decide) (fun _ _ _ _ _ => (pg_name (i := 4) sc_check_lists.nd rfl (by first | exact Or.inl rfl | exact Or.inr rfl))) (fun _ _ _ _ _ => pts_y) (fun _ _ _ _ _ => (pe_ch (o_le (units_of hr)) (o_lt (units_of hr)) pk_int (pe_v (pv 4)) (pe_v (pv 0)))))) pa_n)))))))
    (ss_1 ps_no)
    ss_nil)
    (ss_1 (ps_i (pt_no (pt_v (pe_bi (k_all rfl) T.z_all (by decide +kernel) (pa_c (PE.lE (pe_co (own := [("one", 5), ("two", 6)]) rfl sc_check_lists.nd (pi_z T.z_zip (pa_c (pe_v (pv 3)) (pa_c (PE.lE (pe_sl (pe_v (pv 3)) (po_s pk_int) po_n)) pa_n))) (blkOk_by (N := ["kinds", "lists", "i", "told", "kind", "one", "two"]) (sc := defScope s_check_lists) (by decide +kernel)) (gok_t (gsok_c (gok_n 5) (gsok_c (gok_n 6) gsok_0))) (by decide) (fun _ _ _ _ _ => (pg_tup (n := 2) rfl (pgs_cons (pg_name (i := 5) sc_check_lists.nd rfl (by first | exact Or.inl rfl | exact Or.inr rfl)) (pgs_cons (pg_name (i := 6) sc_check_lists.nd rfl (by first | exact Or.inl rfl | exact Or.inr rfl)) pgs_nil)))) (fun _ _ _ _ _ => pts_y) (fun _ _ _ _ _ => (pe_cp (o_lt (units_of hr)) (pe_v (pv 5)) (pe_v (pv 6)))))) pa_n))))
    (ss_1 ps_no)
    ss_nil)))))
theorem ok_check_blocks (T : Top P K mg) (G_check_kinds : FnG P w K mg base 1 T.a_check_kinds T.d_check_kinds ["kinds"] (spF K T.cl f_check_kinds)) (G_check_lists : FnG P w K mg base 1 T.a_check_lists T.d_check_lists ["kinds", "lists"] (spF K T.cl f_check_lists)) : FnG P w K mg base 2 T.a_check_blocks T.d_check_blocks ["kinds", "blocks"] (spF K T.cl f_check_blocks) :=
  def_F T.F_check_blocks sc_check_blocks rfl (by decide) fun cdv A outer s H E M hr hG hp tk =>
  (ss_c (ps_dr (pf G_check_kinds (hr.mono (by decide)) hG T.g_check_kinds T.F_check_kinds.kp T.b_check_kinds (pa_c (pe_v (pv 0)) pa_n)))
  (ss_c (ps_i (pt_no (pt_ch (o_le (units_of hr)) (o_le (units_of hr)) pk_int (pe_bi k_len T.z_len (by decide +kernel) (pa_c (pe_v (pv 1)) pa_n)) (pk_gi T.c_MOST_BLOCKS)))
  (ss_1 ps_no)
  ss_nil)
  (ss_1 (ps_dr (pf G_check_lists (hr.mono (by decide)) hG T.g_check_lists T.F_check_lists.kp T.b_check_lists (pa_c (pe_v (pv 0)) (pa_c (pe_v (pv 1)) pa_n)))))))
theorem ok_count_of (T : Top P K mg) : FnG P w K mg base 1 T.a_count_of T.d_count_of ["blocks", "told"] (spF K T.cl f_count_of) :=
  def_F T.F_count_of sc_count_of rfl (by decide) fun cdv A outer s H E M hr hG hp tk =>
  (ss_1 (ps_rt rfl (pe_bi k_len T.z_len (by decide +kernel) (pa_c (PE.lE (pe_co (own := [("block", 2)]) rfl sc_count_of.nd (pi_l (pe_v (pv 0))) (blkOk_by (N := ["blocks", "told", "block", "kind"]) (sc := defScope s_count_of) (by decide +kernel)) (gok_n 2) (by decide) (fun _ _ _ _ _ => (pg_name (i := 2) sc_count_of.nd rfl (by first | exact Or.inl rfl | exact Or.inr rfl))) (fun _ _ _ _ _ => (pts_one (pt_v (pe_bi (k_all rfl) T.z_all (by decide +kernel) (pa_c (PE.lE (pe_co (own := [("kind", 3)]) rfl sc_count_of.nd (pi_l (pe_v (pv 1))) (blkOk_by (by with_unfolding_all rfl)) (gok_n 3) (by decide) (fun _ _ _ _ _ => (pg_name (i := 3) sc_count_of.nd rfl (by first | exact Or.inl rfl | exact Or.inr rfl))) (fun _ _ _ _ _ => pts_y) (fun _ _ _ _ _ => (pe_cp (o_in (units_of hr)) (pe_v (pv 3)) (pe_v (pv 2)))))) pa_n))))) (fun _ _ _ _ _ => (pe_v (pv 2))))) pa_n))))
theorem ok_pairs_by (T : Top P K mg) (G_count_of : FnG P w K mg base 1 T.a_count_of T.d_count_of ["blocks", "told"] (spF K T.cl f_count_of)) : FnG P w K mg base 2 T.a_pairs_by T.d_pairs_by ["kinds", "blocks"] (spN K T.cl f_pairs_by) :=
  def_N T.F_pairs_by sc_pairs_by rfl (by decide) (by unfold m_pairs_by; repeat first | exact nnx_rt | exact nnx_rtM | exact nnx_no | refine nnx_seq ?_ | refine nnx_if ?_ ?_) fun cdv A outer s H E M hr hG hp tk =>
  (ss_c (ps_asM (i := 2) sc_pairs_by.nd (pe_d0T pe_dnewT))
  (ss_c (ps_fr hp rfl (pi_r1 T.z_range (pa_c (pe_v (pv 0)) pa_n)) (pg_name (i := 3) sc_pairs_by.nd rfl (by first | exact Or.inl rfl | exact Or.inr rfl)) (gok_n 3)
  (ss_1 (ps_fr hp rfl (pi_r2 T.z_range (pa_c (pe_bin o_add (pe_v (pv 3)) pk_int) (pa_c (pe_v (pv 0)) pa_n))) (pg_name (i := 4) sc_pairs_by.nd rfl (by first | exact Or.inl rfl | exact Or.inr rfl)) (gok_n 4)
    (ss_1 (ps_dpT (ps_dput (u1 (units_of hr)) (pv 2) (L2.pe_tup (pa_c (pe_v (pv 3)) (pa_c (pe_v (pv 4)) pa_n))) (pf G_count_of (hr.mono (by decide)) hG T.g_count_of T.F_count_of.kp T.b_count_of (pa_c (pe_v (pv 1)) (pa_c (pe_tu (pa_c (pe_v (pv 3)) (pa_c (pe_v (pv 4)) pa_n)) (hl := (xCons_len (xCons_len xNil_len)))) pa_n))) rfl))))))
  (ss_1 (ps_rtM (pv 2)))))
theorem ok_pair_counts (T : Top P K mg) (G_check_blocks : FnG P w K mg base 2 T.a_check_blocks T.d_check_blocks ["kinds", "blocks"] (spF K T.cl f_check_blocks)) (G_pairs_by : FnG P w K mg base 2 T.a_pairs_by T.d_pairs_by ["kinds", "blocks"] (spN K T.cl f_pairs_by)) : FnG P w K mg base 3 T.a_pair_counts T.d_pair_counts ["kinds", "blocks"] (spN K T.cl f_pair_counts) :=
  def_N T.F_pair_counts sc_pair_counts rfl (by decide) (by unfold m_pair_counts; repeat first | exact nnx_rt | exact nnx_rtM | exact nnx_no | refine nnx_seq ?_ | refine nnx_if ?_ ?_) fun cdv A outer s H E M hr hG hp tk =>
  (ss_c (ps_dr (pf G_check_blocks (hr.mono (by decide)) hG T.g_check_blocks T.F_check_blocks.kp T.b_check_blocks (pa_c (pe_v (pv 0)) (pa_c (pe_v (pv 1)) pa_n))))
  (ss_1 (ps_rtL rfl (pfL G_pairs_by (hr.mono (by decide)) hG T.g_pairs_by T.F_pairs_by.kp T.b_pairs_by (pa_c (pe_v (pv 0)) (pa_c (pe_v (pv 1)) pa_n))))))
theorem ok_balance (T : Top P K mg) (G_check_blocks : FnG P w K mg base 2 T.a_check_blocks T.d_check_blocks ["kinds", "blocks"] (spF K T.cl f_check_blocks)) (G_pairs_by : FnG P w K mg base 2 T.a_pairs_by T.d_pairs_by ["kinds", "blocks"] (spN K T.cl f_pairs_by)) (G_count_of : FnG P w K mg base 1 T.a_count_of T.d_count_of ["blocks", "told"] (spF K T.cl f_count_of)) : FnG P w K mg base 3 T.a_balance T.d_balance ["kinds", "blocks"] (spF K T.cl f_balance) :=
  def_F T.F_balance sc_balance rfl (by decide) fun cdv A outer s H E M hr hG hp tk =>
  (ss_c (ps_dr (pf G_check_blocks (hr.mono (by decide)) hG T.g_check_blocks T.F_check_blocks.kp T.b_check_blocks (pa_c (pe_v (pv 0)) (pa_c (pe_v (pv 1)) pa_n))))
  (ss_c (ps_as (i := 2) sc_balance.nd (PE.lE (pe_sSI (fun hh => pe_callB (cr_sortedSet rfl) rfl T.z_sorted (by decide +kernel) (pa_cons hh pa_nil)) (own := [("block", 5)]) rfl sc_balance.nd (pi_l (pe_v (pv 1))) (blkOk_by (N := ["kinds", "blocks", "sizes", "found", "counts", "block", "pair"]) (sc := defScope s_balance) (by decide +kernel)) (gok_n 5) (by decide) (fun _ _ _ _ _ => (pg_name (i := 5) sc_balance.nd rfl (by first | exact Or.inl rfl | exact Or.inr rfl))) (fun _ _ _ _ _ => pts_y) (fun _ _ _ _ _ => (pe_bi k_len T.z_len (by decide +kernel) (pa_c (pe_v (pv 5)) pa_n))))))
  (ss_c (ps_as (i := 3) sc_balance.nd (PE.lE (pfL G_pairs_by (hr.mono (by decide)) hG T.g_pairs_by T.F_pairs_by.kp T.b_pairs_by (pa_c (pe_v (pv 0)) (pa_c (pe_v (pv 1)) pa_n)))))
  (ss_c (ps_as (i := 4) sc_balance.nd (PE.lE (pe_svl (i := 3) (j := 6) (pe_callB (cr_sortedSet rfl) rfl T.z_sorted (by decide +kernel) (pa_cons (pe_SI (own := [("pair", 6)]) rfl sc_balance.nd (pi_keys (pv 3)) (blkOk_by (N := ["kinds", "blocks", "sizes", "found", "counts", "block", "pair"]) (sc := defScope s_balance) (by decide +kernel)) (fun _ _ _ _ _ => (pg_name (i := 6) sc_balance.nd rfl (by first | exact Or.inl rfl | exact Or.inr rfl))) (fun _ _ _ _ _ => pts_nil) (fun _ _ _ _ _ => (pe_dget (u1 (units_of hr)) (pv 3) (pv 6) (fun _ _ => rfl)))) pa_nil)))))
  (ss_c (ps_i (L2.PW.pt (pw_orr (pt_cp (o_gt (units_of hr)) (pe_bi k_len T.z_len (by decide +kernel) (pa_c (pe_v (pv 2)) pa_n)) pk_int) (pw_orr (pt_no (pt_ch (o_le (units_of hr)) (o_lt (units_of hr)) pk_int (pe_bi k_len T.z_len (by decide +kernel) (pa_c (pe_i (pe_v (pv 1)) pk_int) pa_n)) (pe_v (pv 0)))) (pw_orr (pt_cp (o_gt (units_of hr)) (pe_bi k_len T.z_len (by decide +kernel) (pa_c (pe_v (pv 4)) pa_n)) pk_int) (L2.pw_or1 (pt_cp (o_in (units_of hr)) pk_int (pe_v (pv 4))))))))
  (ss_1 (ps_rt rfl pk_non))
  ss_nil)
  (ss_1 (ps_rt rfl (pe_tu (pa_c (pf G_count_of (hr.mono (by decide)) hG T.g_count_of T.F_count_of.kp T.b_count_of (pa_c (pe_v (pv 1)) (pa_c (pe_tu (pa_c pk_int pa_n) (hl := (xCons_len xNil_len))) pa_n))) (pa_c (pe_diT (pe_dget (u1 (units_of hr)) (pv 3) (L2.pe_tup (pa_c pk_int (pa_c pk_int pa_n))) (fun _ _ => rfl))) pa_n)) (hl := (xCons_len (xCons_len xNil_len)))))))))))
theorem ok_check_base (T : Top P K mg) (G_check_kinds : FnG P w K mg base 1 T.a_check_kinds T.d_check_kinds ["kinds"] (spF K T.cl f_check_kinds)) (G_check_lists : FnG P w K mg base 1 T.a_check_lists T.d_check_lists ["kinds", "lists"] (spF K T.cl f_check_lists)) : FnG P w K mg base 2 T.a_check_base T.d_check_base ["kinds", "base"] (spF K T.cl f_check_base) :=
  def_F T.F_check_base sc_check_base rfl (by decide) fun cdv A outer s H E M hr hG hp tk =>
  (ss_c (ps_dr (pf G_check_kinds (hr.mono (by decide)) hG T.g_check_kinds T.F_check_kinds.kp T.b_check_kinds (pa_c (pe_v (pv 0)) pa_n)))
  (ss_c (ps_i (pt_no (pt_ch (o_le (units_of hr)) (o_le (units_of hr)) pk_int (pe_bi k_len T.z_len (by decide +kernel) (pa_c (pe_v (pv 1)) pa_n)) (pk_gi T.c_MOST_LISTS)))
  (ss_1 ps_no)
  ss_nil)
  (ss_1 (ps_dr (pf G_check_lists (hr.mono (by decide)) hG T.g_check_lists T.F_check_lists.kp T.b_check_lists (pa_c (pe_v (pv 0)) (pa_c (pe_v (pv 1)) pa_n)))))))
theorem ok_differences (T : Top P K mg) (G_check_base : FnG P w K mg base 2 T.a_check_base T.d_check_base ["kinds", "base"] (spF K T.cl f_check_base)) : FnG P w K mg base 3 T.a_differences T.d_differences ["kinds", "base"] (spN K T.cl f_differences) :=
  def_N T.F_differences sc_differences rfl (by decide) (by unfold m_differences; repeat first | exact nnx_rt | exact nnx_rtM | exact nnx_no | refine nnx_seq ?_ | refine nnx_if ?_ ?_) fun cdv A outer s H E M hr hG hp tk =>
  (ss_c (ps_dr (pf G_check_base (hr.mono (by decide)) hG T.g_check_base T.F_check_base.kp T.b_check_base (pa_c (pe_v (pv 0)) (pa_c (pe_v (pv 1)) pa_n))))
  (ss_c (ps_asM (i := 2) sc_differences.nd (pe_rep (pe_li (pa_c pk_int pa_n) (hl := (xCons_len xNil_len))) (pe_bin o_sub (pe_v (pv 0)) pk_int)))
  (ss_c (ps_fr hp rfl (pi_l (pe_v (pv 1))) (pg_name (i := 3) sc_differences.nd rfl (by first | exact Or.inl rfl | exact Or.inr rfl)) (gok_n 3)
  (ss_1 (ps_fr hp rfl (pi_l (pe_v (pv 3))) (pg_name (i := 4) sc_differences.nd rfl (by first | exact Or.inl rfl | exact Or.inr rfl)) (gok_n 4)
    (ss_1 (ps_fr hp rfl (pi_l (pe_v (pv 3))) (pg_name (i := 5) sc_differences.nd rfl (by first | exact Or.inl rfl | exact Or.inr rfl)) (gok_n 5)
      (ss_1 (ps_i (pt_cp (o_ne (units_of hr)) (pe_v (pv 4)) (pe_v (pv 5)))
        (ss_1 (ps_st (j := 2) (ps_asg (pe_bin o_add (pe_im (pv 2) (pe_bin o_sub (pe_bin o_mod (pe_bin o_sub (pe_v (pv 5)) (pe_v (pv 4))) (pe_v (pv 0))) pk_int)) pk_int) (pg_sub (pv 2) (pe_bin o_sub (pe_bin o_mod (pe_bin o_sub (pe_v (pv 5)) (pe_v (pv 4))) (pe_v (pv 0))) pk_int) set_list))))
        ss_nil)))))))
  (ss_1 (ps_rtM (pv 2))))))
theorem ok_developed (T : Top P K mg) (G_check_base : FnG P w K mg base 2 T.a_check_base T.d_check_base ["kinds", "base"] (spF K T.cl f_check_base)) : FnG P w K mg base 3 T.a_developed T.d_developed ["kinds", "base"] (spP K T.cl .each f_developed) :=
  def_P [] T.F_developed sc_developed rfl (by decide) (by decide) fun cdv A outer s H E M hr hG hp tk =>
  (ss_c (ps_dr (pf G_check_base (hr.mono (by decide)) hG T.g_check_base T.F_check_base.kp T.b_check_base (pa_c (pe_v (pv 0)) (pa_c (pe_v (pv 1)) pa_n))))
  (ss_1 (ps_rtP rfl (pe_co2E (own := [("told", 2), ("step", 3)]) [3] rfl sc_developed.nd (pi_l (pe_v (pv 1))) (blkOk_by (N := ["kinds", "base", "told", "step", "kind"]) (sc := defScope s_developed) (by decide +kernel)) (gok_n 2) (by decide) (gok_n 3) (by decide) (by decide) (fun _ _ _ _ _ => (pg_name (i := 2) sc_developed.nd rfl (by first | exact Or.inl rfl | exact Or.inr rfl))) (fun _ _ _ _ _ => pts_y) (fun _ _ _ _ _ => (pi_r1 T.z_range (pa_c (pe_v (pv 0)) pa_n))) (fun _ _ _ _ _ => (pg_name (i := 3) sc_developed.nd rfl (by first | exact Or.inl rfl | exact Or.inr rfl))) (fun _ _ _ _ _ => pts_y) (fun _ _ _ _ _ => (PE.lP (pe_biL (k_sort (units_of hr)) T.z_sorted (by decide +kernel) (pa_c (PE.lE (pe_co (own := [("kind", 4)]) rfl sc_developed.nd (pi_l (pe_v (pv 2))) (blkOk_by (by with_unfolding_all rfl)) (gok_n 4) (by decide) (fun _ _ _ _ _ => (pg_name (i := 4) sc_developed.nd rfl (by first | exact Or.inl rfl | exact Or.inr rfl))) (fun _ _ _ _ _ => pts_y) (fun _ _ _ _ _ => (pe_bin o_mod (pe_bin o_add (pe_v (pv 4)) (pe_v (pv 3))) (pe_v (pv 0)))))) pa_n))))))))
theorem ok__law_draws (T : Top P K mg) : FnG P w K mg base 1 T.a__law_draws T.d__law_draws ["script"] (spN K T.cl f__law_draws) :=
  def_N T.F__law_draws sc__law_draws rfl (by decide) (by unfold m__law_draws; repeat first | exact nnx_rt | exact nnx_rtM | exact nnx_no | refine nnx_seq ?_ | refine nnx_if ?_ ?_) fun cdv A outer s H E M hr hG hp tk =>
  (ss_c (ps_asM (i := 1) sc__law_draws.nd (pe_li pa_n (hl := xNil_len)))
  (ss_c (ps_fr hp rfl (pi_r1 T.z_range (pa_c (pe_bi (k_min rfl (units_of hr)) T.z_min (by decide +kernel) (pa_c pk_int (pa_c (pe_bi k_len T.z_len (by decide +kernel) (pa_c (pe_v (pv 0)) pa_n)) pa_n))) pa_n)) (pg_name (i := 2) sc__law_draws.nd rfl (by first | exact Or.inl rfl | exact Or.inr rfl)) (gok_n 2)
  (ss_c (ps_as (i := 3) sc__law_draws.nd (pe_bi k_abs T.z_abs (by decide +kernel) (pa_c (pe_i (pe_v (pv 0)) (pe_v (pv 2))) pa_n)))
    (ss_1 (ps_i (pt_cp (o_ge (units_of hr)) (pe_v (pv 3)) (pe_bin o_pow pk_int pk_int))
    (ss_1 (ps_fr hp rfl (pi_r1 T.z_range (pa_c pk_int pa_n)) (pg_name (i := 4) sc__law_draws.nd rfl (by first | exact Or.inl rfl | exact Or.inr rfl)) (gok_n 4)
      (ss_1 (ps_i (pt_cp (o_gt (units_of hr)) (pe_v (pv 3)) pk_int)
        (ss_c (ps_ap (i := 1) (ps_expr (pe_bm PySem.F.plainAttrs_list PySem.F.slot_list_append PySem.F.type_list_append mt_append (pv 1) (pa_cons (pe_bin o_mod (pe_ty k_int T.z_int (by decide +kernel) (pa_c (pe_v (pv 3)) pa_n)) pk_int) pa_nil))))
          (ss_1 (ps_as (i := 3) sc__law_draws.nd (pe_bin o_div (pe_v (pv 3)) pk_int))))
        ss_nil))))
    (ss_c (ps_as (i := 5) sc__law_draws.nd (pe_bin o_mod (pe_ty k_int T.z_int (by decide +kernel) (pa_c (pe_bin o_add (pe_bin o_mul (pe_v (pv 3)) pk_int) (pe_bin o_mul (pe_bin o_add (pe_v (pv 2)) pk_int) pk_int)) pa_n)) pk_int))
      (ss_c (ps_as (i := 5) sc__law_draws.nd (pe_bin o_mod (pe_ty k_int T.z_int (by decide +kernel) (pa_c (pe_bin o_add (pe_bin o_add (pe_bin o_mul (pe_v (pv 5)) pk_int) (pe_bin o_mul pk_int (pe_v (pv 2)))) pk_int) pa_n)) pk_int))
      (ss_c (ps_ap (i := 1) (ps_expr (pe_bm PySem.F.plainAttrs_list PySem.F.slot_list_append PySem.F.type_list_append mt_append (pv 1) (pa_cons (pe_bin o_mod (pe_ty k_int T.z_int (by decide +kernel) (pa_c (pe_v (pv 5)) pa_n)) pk_int) pa_nil))))
      (ss_1 (ps_ap (i := 1) (ps_expr (pe_bm PySem.F.plainAttrs_list PySem.F.slot_list_append PySem.F.type_list_append mt_append (pv 1) (pa_cons (pe_bin o_mod (pe_ty k_int T.z_int (by decide +kernel) (pa_c (pe_bin o_div (pe_v (pv 5)) pk_int) pa_n)) pk_int) pa_nil))))))))))))
  (ss_1 (ps_rtM (pv 1)))))
theorem ok__law_mix (T : Top P K mg) : FnG P w K mg base 1 T.a__law_mix T.d__law_mix ["draws", "k", "many"] (spF K T.cl f__law_mix) :=
  def_F T.F__law_mix sc__law_mix rfl (by decide) fun cdv A outer s H E M hr hG hp tk =>
  (ss_c (ps_as (i := 3) sc__law_mix.nd pk_int)
  (ss_c (ps_i (pt_cp (o_gt (units_of hr)) (pe_bi k_len T.z_len (by decide +kernel) (pa_c (pe_v (pv 0)) pa_n)) pk_int)
  (ss_1 (ps_as (i := 3) sc__law_mix.nd (pe_i (pe_v (pv 0)) (pe_bin o_mod (pe_ty k_int T.z_int (by decide +kernel) (pa_c (pe_v (pv 1)) pa_n)) (pe_bi k_len T.z_len (by decide +kernel) (pa_c (pe_v (pv 0)) pa_n))))))
  ss_nil)
  (ss_c (ps_i (pt_cp (o_lt (units_of hr)) (pe_v (pv 1)) (pe_bi k_len T.z_len (by decide +kernel) (pa_c (pe_v (pv 0)) pa_n)))
  (ss_1 (ps_rt rfl (pe_bin o_mod (pe_ty k_int T.z_int (by decide +kernel) (pa_c (pe_v (pv 3)) pa_n)) (pe_v (pv 2)))))
  ss_nil)
  (ss_1 (ps_rt rfl (pe_bin o_mod (pe_ty k_int T.z_int (by decide +kernel) (pa_c (pe_bin o_div (pe_ty k_int T.z_int (by decide +kernel) (pa_c (pe_bin o_add (pe_bin o_mul (pe_v (pv 3)) pk_int) (pe_bin o_mul (pe_v (pv 1)) pk_int)) pa_n)) pk_int) pa_n)) (pe_v (pv 2))))))))
theorem ok__law_base (T : Top P K mg) (G__law_mix : FnG P w K mg base 1 T.a__law_mix T.d__law_mix ["draws", "k", "many"] (spF K T.cl f__law_mix)) : FnG P w K mg base 2 T.a__law_base T.d__law_base ["draws", "k", "kinds"] (spN K T.cl f__law_base) :=
  def_N T.F__law_base sc__law_base rfl (by decide) (by unfold m__law_base; repeat first | exact nnx_rt | exact nnx_rtM | exact nnx_no | refine nnx_seq ?_ | refine nnx_if ?_ ?_) fun cdv A outer s H E M hr hG hp tk =>
  (ss_c (ps_asM (i := 3) sc__law_base.nd (pe_li pa_n (hl := xNil_len)))
  (ss_c (ps_as (i := 4) sc__law_base.nd (pe_bin o_add pk_int (pf G__law_mix (hr.mono (by decide)) hG T.g__law_mix T.F__law_mix.kp T.b__law_mix (pa_c (pe_v (pv 0)) (pa_c (pe_bin o_add (pe_v (pv 1)) pk_int) (pa_c pk_int pa_n))))))
  (ss_c (ps_fr hp rfl (pi_r1 T.z_range (pa_c (pe_bin o_add pk_int (pf G__law_mix (hr.mono (by decide)) hG T.g__law_mix T.F__law_mix.kp T.b__law_mix (pa_c (pe_v (pv 0)) (pa_c (pe_v (pv 1)) (pa_c pk_int pa_n))))) pa_n)) (pg_name (i := 5) sc__law_base.nd rfl (by first | exact Or.inl rfl | exact Or.inr rfl)) (gok_n 5)
  (ss_c (ps_as (i := 6) sc__law_base.nd (PE.lE (pe_ss2 (units_of hr) (pe_callB (cr_sort2 rfl) rfl T.z_sorted (by decide +kernel) (pa_cons (pe_callTy (cr_set2 rfl (u64 (units_of hr))) rfl T.z_set (by decide +kernel) (pa_cons (PE.lE (pe_co (own := [("j", 7)]) rfl sc__law_base.nd (pi_r1 T.z_range (pa_c (pe_v (pv 4)) pa_n)) (blkOk_by (N := ["draws", "k", "kinds", "found", "size", "t", "told", "j"]) (sc := defScope s__law_base) (by decide +kernel)) (gok_n 7) (by decide) (fun _ _ _ _ _ => (pg_name (i := 7) sc__law_base.nd rfl (by first | exact Or.inl rfl | exact Or.inr rfl))) (fun _ _ _ _ _ => pts_y) (fun _ _ _ _ _ => (pf G__law_mix (hr.mono (by decide)) hG T.g__law_mix T.F__law_mix.kp T.b__law_mix (pa_c (pe_v (pv 0)) (pa_c (pe_bin o_add (pe_bin o_add (pe_bin o_add (pe_v (pv 1)) pk_int) (pe_bin o_mul pk_int (pe_v (pv 5)))) (pe_v (pv 7))) (pa_c (pe_v (pv 2)) pa_n))))))) pa_nil)) pa_nil)))))
    (ss_1 (ps_ap (i := 3) (ps_expr (pe_bm PySem.F.plainAttrs_list PySem.F.slot_list_append PySem.F.type_list_append mt_append (pv 3) (pa_cons (pe_v (pv 6)) pa_nil)))))))
  (ss_1 (ps_rtM (pv 3))))))
theorem ok_law (T : Top P K mg) (G__law_draws : FnG P w K mg base 1 T.a__law_draws T.d__law_draws ["script"] (spN K T.cl f__law_draws)) (G__law_base : FnG P w K mg base 2 T.a__law_base T.d__law_base ["draws", "k", "kinds"] (spN K T.cl f__law_base)) (G_pair_counts : FnG P w K mg base 3 T.a_pair_counts T.d_pair_counts ["kinds", "blocks"] (spN K T.cl f_pair_counts)) (G_balance : FnG P w K mg base 3 T.a_balance T.d_balance ["kinds", "blocks"] (spF K T.cl f_balance)) (G__law_mix : FnG P w K mg base 1 T.a__law_mix T.d__law_mix ["draws", "k", "many"] (spF K T.cl f__law_mix)) (G_differences : FnG P w K mg base 3 T.a_differences T.d_differences ["kinds", "base"] (spN K T.cl f_differences)) (G_developed : FnG P w K mg base 3 T.a_developed T.d_developed ["kinds", "base"] (spP K T.cl .each f_developed)) : FnG P w K mg base 4 T.a_law T.d_law ["script"] (spF K T.cl f_law) :=
  def_F T.F_law sc_law rfl (by decide) fun cdv A outer s H E M hr hG hp tk =>
  (ss_c (ps_as (i := 1) sc_law.nd (PE.lE (pfL G__law_draws (hr.mono (by decide)) hG T.g__law_draws T.F__law_draws.kp T.b__law_draws (pa_c (pe_v (pv 0)) pa_n))))
  (ss_c (ps_fr hp rfl (pi_r1 T.z_range (pa_c pk_int pa_n)) (pg_name (i := 2) sc_law.nd rfl (by first | exact Or.inl rfl | exact Or.inr rfl)) (gok_n 2)
  (ss_c (ps_as (i := 3) sc_law.nd (pe_bin o_add pk_int (pf G__law_mix (hr.mono (by decide)) hG T.g__law_mix T.F__law_mix.kp T.b__law_mix (pa_c (pe_v (pv 1)) (pa_c (pe_v (pv 2)) (pa_c pk_int pa_n))))))
    (ss_c (ps_as (i := 4) sc_law.nd (PE.lE (pfL G__law_base (hr.mono (by decide)) hG T.g__law_base T.F__law_base.kp T.b__law_base (pa_c (pe_v (pv 1)) (pa_c (pe_bin o_add pk_int (pe_bin o_mul pk_int (pe_v (pv 2)))) (pa_c (pe_v (pv 3)) pa_n))))))
    (ss_c (ps_i (pt_cp (o_eq (units_of hr)) (pf G__law_mix (hr.mono (by decide)) hG T.g__law_mix T.F__law_mix.kp T.b__law_mix (pa_c (pe_v (pv 1)) (pa_c (pe_bin o_add pk_int (pe_v (pv 2))) (pa_c pk_int pa_n)))) pk_int)
    (ss_1 (ps_un (ps_asg (pe_i (PE.lE (pe_li (pa_c (pe_tu (pa_c pk_int (pa_c (PE.lE (pe_li (pa_c (PE.lE (pe_li (pa_c pk_int (pa_c pk_int (pa_c pk_int pa_n))) (hl := (xCons_len (xCons_len (xCons_len xNil_len)))))) pa_n) (hl := (xCons_len xNil_len)))) pa_n)) (hl := (xCons_len (xCons_len xNil_len)))) (pa_c (pe_tu (pa_c pk_int (pa_c (PE.lE (pe_li (pa_c (PE.lE (pe_li (pa_c pk_int (pa_c pk_int (pa_c pk_int (pa_c pk_int (pa_c pk_int pa_n))))) (hl := (xCons_len (xCons_len (xCons_len (xCons_len (xCons_len xNil_len)))))))) pa_n) (hl := (xCons_len xNil_len)))) pa_n)) (hl := (xCons_len (xCons_len xNil_len)))) (pa_c (pe_tu (pa_c pk_int (pa_c (PE.lE (pe_li (pa_c (PE.lE (pe_li (pa_c pk_int (pa_c pk_int (pa_c pk_int pa_n))) (hl := (xCons_len (xCons_len (xCons_len xNil_len)))))) (pa_c (PE.lE (pe_li (pa_c pk_int (pa_c pk_int (pa_c pk_int pa_n))) (hl := (xCons_len (xCons_len (xCons_len xNil_len)))))) pa_n)) (hl := (xCons_len (xCons_len xNil_len))))) pa_n)) (hl := (xCons_len (xCons_len xNil_len)))) (pa_c (pe_tu (pa_c pk_int (pa_c (PE.lE (pe_li (pa_c (PE.lE (pe_li (pa_c pk_int (pa_c pk_int (pa_c pk_int pa_n))) (hl := (xCons_len (xCons_len (xCons_len xNil_len)))))) pa_n) (hl := (xCons_len xNil_len)))) pa_n)) (hl := (xCons_len (xCons_len xNil_len)))) (pa_c (pe_tu (pa_c pk_int (pa_c (PE.lE (pe_li (pa_c (PE.lE (pe_li (pa_c pk_int (pa_c pk_int pa_n)) (hl := (xCons_len (xCons_len xNil_len))))) (pa_c (PE.lE (pe_li (pa_c pk_int (pa_c pk_int pa_n)) (hl := (xCons_len (xCons_len xNil_len))))) pa_n)) (hl := (xCons_len (xCons_len xNil_len))))) pa_n)) (hl := (xCons_len (xCons_len xNil_len)))) (pa_c (pe_tu (pa_c pk_int (pa_c (PE.lE (pe_li (pa_c (PE.lE (pe_li (pa_c pk_int (pa_c pk_int pa_n)) (hl := (xCons_len (xCons_len xNil_len))))) pa_n) (hl := (xCons_len xNil_len)))) pa_n)) (hl := (xCons_len (xCons_len xNil_len)))) pa_n)))))) (hl := (xCons_len (xCons_len (xCons_len (xCons_len (xCons_len (xCons_len xNil_len))))))))) (pf G__law_mix (hr.mono (by decide)) hG T.g__law_mix T.F__law_mix.kp T.b__law_mix (pa_c (pe_v (pv 1)) (pa_c (pe_bin o_add pk_int (pe_v (pv 2))) (pa_c pk_int pa_n))))) (pg_tup (n := 2) rfl (pgs_cons (pg_name (i := 3) sc_law.nd rfl (by first | exact Or.inl rfl | exact Or.inr rfl)) (pgs_cons (pg_name (i := 4) sc_law.nd rfl (by first | exact Or.inl rfl | exact Or.inr rfl)) pgs_nil)))) (gok_t (gsok_c (gok_n 3) (gsok_c (gok_n 4) gsok_0)))))
    ss_nil)
    (ss_c (ps_as (i := 5) sc_law.nd (pe_bi (k_repr hG (units_of hr)) T.z_repr (by decide +kernel) (pa_c (pe_v (pv 4)) pa_n)))
    (ss_c (ps_asM (i := 6) sc_law.nd (pe_rep (pe_li (pa_c pk_int pa_n) (hl := (xCons_len xNil_len))) (pe_bin o_sub (pe_v (pv 3)) pk_int)))
    (ss_c (ps_fr hp rfl (pi_l (pe_v (pv 4))) (pg_name (i := 7) sc_law.nd rfl (by first | exact Or.inl rfl | exact Or.inr rfl)) (gok_n 7)
    (ss_1 (ps_fr hp rfl (pi_l (pe_v (pv 7))) (pg_name (i := 11) sc_law.nd rfl (by first | exact Or.inl rfl | exact Or.inr rfl)) (gok_n 11)
      (ss_1 (ps_fr hp rfl (pi_l (pe_v (pv 7))) (pg_name (i := 15) sc_law.nd rfl (by first | exact Or.inl rfl | exact Or.inr rfl)) (gok_n 15)
        (ss_1 (ps_i (pt_cp (o_ne (units_of hr)) (pe_v (pv 11)) (pe_v (pv 15)))
          (ss_c (ps_as (i := 16) sc_law.nd (pe_bin o_mod (pe_ty k_int T.z_int (by decide +kernel) (pa_c (pe_bin o_sub (pe_v (pv 15)) (pe_v (pv 11))) pa_n)) (pe_v (pv 3))))
            (ss_1 (ps_st (j := 6) (ps_asg (pe_bin o_add (pe_im (pv 6) (pe_bin o_sub (pe_v (pv 16)) pk_int)) pk_int) (pg_sub (pv 6) (pe_bin o_sub (pe_v (pv 16)) pk_int) set_list)))))
          ss_nil)))))))
    (ss_fz 6 (ss_c (ps_asM (i := 8) sc_law.nd (pe_li pa_n (hl := xNil_len)))
    (ss_c (ps_fr hp rfl (pi_l (pe_v (pv 4))) (pg_name (i := 7) sc_law.nd rfl (by first | exact Or.inl rfl | exact Or.inr rfl)) (gok_n 7)
    (ss_1 (ps_fr hp rfl (pi_r1 T.z_range (pa_c (pe_v (pv 3)) pa_n)) (pg_name (i := 12) sc_law.nd rfl (by first | exact Or.inl rfl | exact Or.inr rfl)) (gok_n 12)
      (ss_1 (ps_ap (i := 8) (ps_expr (pe_bm PySem.F.plainAttrs_list PySem.F.slot_list_append PySem.F.type_list_append mt_append (pv 8) (pa_cons (PE.lE (pe_biL (k_sort (units_of hr)) T.z_sorted (by decide +kernel) (pa_c (PE.lE (pe_co (own := [("kind", 17)]) rfl sc_law.nd (pi_l (pe_v (pv 7))) (blkOk_by (N := ["script", "draws", "turn", "kinds", "base", "kept", "due", "told", "blocks", "pairs", "even", "one", "step", "found", "made", "two", "gap", "kind"]) (sc := defScope s_law) (by decide +kernel)) (gok_n 17) (by decide) (fun _ _ _ _ _ => (pg_name (i := 17) sc_law.nd rfl (by first | exact Or.inl rfl | exact Or.inr rfl))) (fun _ _ _ _ _ => pts_y) (fun _ _ _ _ _ => (pe_bin o_mod (pe_ty k_int T.z_int (by decide +kernel) (pa_c (pe_bin o_add (pe_v (pv 17)) (pe_v (pv 12))) pa_n)) (pe_v (pv 3)))))) pa_n))) pa_nil))))))))
    (ss_fz 8 (ss_bar [1, 2, 3, 4, 5, 6, 8] [(14, .each)] fun _ =>
    (ss_cM (ps_nm (ps_pmP (i := 13) (j := 14) rfl sc_law.nd (pfL G_differences (hr.mono (by decide)) hG T.g_differences T.F_differences.kp T.b_differences (pa_c (pe_v (pv 3)) (pa_c (pe_v (pv 4)) pa_n))) (pfP G_developed  (hr.mono (by decide)) hG T.g_developed T.F_developed.kp T.b_developed (pa_c (pe_v (pv 3)) (pa_c (pe_v (pv 4)) pa_n)))))
    (ss_cM (ps_nm (ps_i (L2.PW.pt (pw_orr (pt_th (pt_cp (o_ne (units_of hr)) (pe_bi (k_repr hG (units_of hr)) T.z_repr (by decide +kernel) (pa_c (pe_v (pv 13)) pa_n)) (pe_bi (k_repr hG (units_of hr)) T.z_repr (by decide +kernel) (pa_c (pe_v (pv 6)) pa_n)))) (L2.pw_or1 (pt_cp (o_ne (units_of hr)) (pe_bi (k_repr hG (units_of hr)) T.z_repr (by decide +kernel) (pa_c (pe_v (pv 14)) pa_n)) (pe_bi (k_repr hG (units_of hr)) T.z_repr (by decide +kernel) (pa_c (pe_v (pv 8)) pa_n))))))
    (ss_1 (ps_rt rfl pk_bl))
    ss_nil))
    (ss_cM (ps_nm (ps_as (i := 9) sc_law.nd (PE.lE (pfL G_pair_counts (hr.mono (by decide)) hG T.g_pair_counts T.F_pair_counts.kp T.b_pair_counts (pa_c (pe_v (pv 3)) (pa_c (pe_v (pv 8)) pa_n))))))
    (ss_cM (ps_nm (ps_fk (i := 9) (a1 := 11) (b1 := 15) [3, 6, 11, 15] (fun cl H0 M0 => L2.ps_for hp rfl (pi_keys (pv 9)) (pg_tup (n := 2) rfl (pgs_cons (pg_name (i := 11) sc_law.nd rfl (by first | exact Or.inl rfl | exact Or.inr rfl)) (pgs_cons (pg_name (i := 15) sc_law.nd rfl (by first | exact Or.inl rfl | exact Or.inr rfl)) pgs_nil))) (L2.pss_one (L2.ps_if (L2.PW.pt (pw_orr (pt_cp (o_ne (units_of hr)) (pe_diT (pe_dget (u1 (units_of hr)) (pv 9) (L2.pe_tup (pa_c (pe_v (pv 11)) (pa_c (pe_v (pv 15)) pa_n))) (fun _ _ => rfl))) (pe_i (pe_v (pv 6)) (pe_bin o_sub (pe_bin o_sub (pe_v (pv 15)) (pe_v (pv 11))) pk_int))) (L2.pw_or1 (pt_cp (o_ne (units_of hr)) (pe_i (pe_v (pv 6)) (pe_bin o_sub (pe_bin o_sub (pe_v (pv 15)) (pe_v (pv 11))) pk_int)) (pe_i (pe_v (pv 6)) (pe_bin o_sub (pe_bin o_sub (pe_v (pv 3)) (pe_bin o_sub (pe_v (pv 15)) (pe_v (pv 11)))) pk_int)))))) (L2.pss_one (L2.ps_ret pk_bl)) L2.pss_nil)))))
    (ss_cM (ps_nm (ps_as (i := 10) sc_law.nd (pe_an (pe_cp (o_eq (units_of hr)) (pe_ls (pe_callB cr_lenSet rfl T.z_len (by decide +kernel) (pa_cons (pe_callTy (cr_setI rfl) rfl T.z_set (by decide +kernel) (pa_cons (pe_v (pv 6)) pa_nil)) pa_nil))) pk_int) (pe_an (pe_cp (o_gt (units_of hr)) (pe_i (pe_v (pv 6)) pk_int) pk_int) (pe_an (pe_cp (o_eq (units_of hr)) (pe_ls (pe_callB cr_lenSet rfl T.z_len (by decide +kernel) (pa_cons (pe_callTy (cr_setI rfl) rfl T.z_set (by decide +kernel) (pa_cons (PE.lE (pe_co (own := [("told", 7)]) rfl sc_law.nd (pi_l (pe_v (pv 4))) (blkOk_by (N := ["script", "draws", "turn", "kinds", "base", "kept", "due", "told", "blocks", "pairs", "even", "one", "step", "found", "made", "two", "gap", "kind"]) (sc := defScope s_law) (by decide +kernel)) (gok_n 7) (by decide) (fun _ _ _ _ _ => (pg_name (i := 7) sc_law.nd rfl (by first | exact Or.inl rfl | exact Or.inr rfl))) (fun _ _ _ _ _ => pts_y) (fun _ _ _ _ _ => (pe_bi k_len T.z_len (by decide +kernel) (pa_c (pe_v (pv 7)) pa_n))))) pa_nil)) pa_nil))) pk_int) (L2.pe_one (pe_ch (o_le (units_of hr)) (o_lt (units_of hr)) pk_int (pe_bi k_len T.z_len (by decide +kernel) (pa_c (pe_i (pe_v (pv 4)) pk_int) pa_n)) (pe_v (pv 3)))))))))
    (ss_cM (ps_nm (ps_i (pt_cp (o_ne (units_of hr)) (pe_cp o_isnot (pf G_balance (hr.mono (by decide)) hG T.g_balance T.F_balance.kp T.b_balance (pa_c (pe_v (pv 3)) (pa_c (pe_v (pv 8)) pa_n))) pk_non) (pe_v (pv 10)))
    (ss_1 (ps_rt rfl pk_bl))
    ss_nil))
    (ss_cM (ps_nm (ps_i (L2.PW.pt (pw_an (pt_v (pe_v (pv 10))) (L2.pw_and1 (pt_cp (o_ne (units_of hr)) (pf G_balance (hr.mono (by decide)) hG T.g_balance T.F_balance.kp T.b_balance (pa_c (pe_v (pv 3)) (pa_c (pe_v (pv 8)) pa_n))) (pe_tu (pa_c (pe_bin o_mul (pe_bi k_len T.z_len (by decide +kernel) (pa_c (pe_v (pv 4)) pa_n)) (pe_bi k_len T.z_len (by decide +kernel) (pa_c (pe_i (pe_v (pv 4)) pk_int) pa_n))) (pa_c (pe_i (pe_v (pv 6)) pk_int) pa_n)) (hl := (xCons_len (xCons_len xNil_len))))))))
    (ss_1 (ps_rt rfl pk_bl))
    ss_nil))
    (ss_cM (ps_mtI (j := 14) (i := 0) (ps_expr (pe_bm PySem.F.plainAttrs_list PySem.F.slot_list_append PySem.F.type_list_append mt_append (pe_ix ix_seq (pv 14) pk_int (fun _ _ => rfl)) (pa_cons pk_int pa_nil))))
    (ss_cM (ps_nm (ps_ap (i := 13) (ps_expr (pe_bm PySem.F.plainAttrs_list PySem.F.slot_list_append PySem.F.type_list_append mt_append (pv 13) (pa_cons pk_int pa_nil)))))
    (ss_1M (ps_nm (ps_i (L2.PW.pt (pw_orr (pt_cp (o_ne (units_of hr)) (pe_bi (k_repr hG (units_of hr)) T.z_repr (by decide +kernel) (pa_c (pf (spP_F G_developed ) (hr.mono (by decide)) hG T.g_developed T.F_developed.kp T.b_developed (pa_c (pe_v (pv 3)) (pa_c (pe_v (pv 4)) pa_n))) pa_n)) (pe_bi (k_repr hG (units_of hr)) T.z_repr (by decide +kernel) (pa_c (pe_v (pv 8)) pa_n))) (L2.pw_or1 (pt_cp (o_ne (units_of hr)) (pe_bi (k_repr hG (units_of hr)) T.z_repr (by decide +kernel) (pa_c (pe_v (pv 4)) pa_n)) (pe_v (pv 5))))))
    (ss_1 (ps_rt rfl pk_bl))
    ss_nil))))))))))))))))))))))))
  (ss_c (ps_i (L2.PW.pt (pw_orr (pt_cp (o_ne (units_of hr)) (pf G_balance (hr.mono (by decide)) hG T.g_balance T.F_balance.kp T.b_balance (pa_c pk_int (pa_c (pf (spP_F G_developed ) (hr.mono (by decide)) hG T.g_developed T.F_developed.kp T.b_developed (pa_c pk_int (pa_c (PE.lE (pe_li (pa_c (PE.lE (pe_li (pa_c pk_int (pa_c pk_int (pa_c pk_int pa_n))) (hl := (xCons_len (xCons_len (xCons_len xNil_len)))))) pa_n) (hl := (xCons_len xNil_len)))) pa_n))) pa_n))) (pe_tu (pa_c pk_int (pa_c pk_int pa_n)) (hl := (xCons_len (xCons_len xNil_len))))) (L2.pw_or1 (pt_cp (o_ne (units_of hr)) (pf G_balance (hr.mono (by decide)) hG T.g_balance T.F_balance.kp T.b_balance (pa_c pk_int (pa_c (pf (spP_F G_developed ) (hr.mono (by decide)) hG T.g_developed T.F_developed.kp T.b_developed (pa_c pk_int (pa_c (PE.lE (pe_li (pa_c (PE.lE (pe_li (pa_c pk_int (pa_c pk_int (pa_c pk_int (pa_c pk_int (pa_c pk_int pa_n))))) (hl := (xCons_len (xCons_len (xCons_len (xCons_len (xCons_len xNil_len)))))))) pa_n) (hl := (xCons_len xNil_len)))) pa_n))) pa_n))) (pe_tu (pa_c pk_int (pa_c pk_int pa_n)) (hl := (xCons_len (xCons_len xNil_len))))))))
  (ss_1 (ps_rt rfl pk_bl))
  ss_nil)
  (ss_1 (ps_rt rfl (pe_cp o_is (pf G_balance (hr.mono (by decide)) hG T.g_balance T.F_balance.kp T.b_balance (pa_c pk_int (pa_c (pf (spP_F G_developed ) (hr.mono (by decide)) hG T.g_developed T.F_developed.kp T.b_developed (pa_c pk_int (pa_c (PE.lE (pe_li (pa_c (PE.lE (pe_li (pa_c pk_int (pa_c pk_int (pa_c pk_int (pa_c pk_int (pa_c pk_int pa_n))))) (hl := (xCons_len (xCons_len (xCons_len (xCons_len (xCons_len xNil_len)))))))) pa_n) (hl := (xCons_len xNil_len)))) pa_n))) pa_n))) pk_non))))))
theorem all (T : Top P K mg) : FnG P w K mg base 4 T.a_law T.d_law ["script"] (spF K T.cl f_law) := by
  have G_check_kinds := ok_check_kinds (P := P) (w := w) (base := base) T
  have G_check_lists := ok_check_lists (P := P) (w := w) (base := base) T
  have G_check_blocks := ok_check_blocks (P := P) (w := w) (base := base) T G_check_kinds G_check_lists
  have G_count_of := ok_count_of (P := P) (w := w) (base := base) T
  have G_pairs_by := ok_pairs_by (P := P) (w := w) (base := base) T G_count_of
  have G_pair_counts := ok_pair_counts (P := P) (w := w) (base := base) T G_check_blocks G_pairs_by
  have G_balance := ok_balance (P := P) (w := w) (base := base) T G_check_blocks G_pairs_by G_count_of
  have G_check_base := ok_check_base (P := P) (w := w) (base := base) T G_check_kinds G_check_lists
  have G_differences := ok_differences (P := P) (w := w) (base := base) T G_check_base
  have G_developed := ok_developed (P := P) (w := w) (base := base) T G_check_base
  have G__law_draws := ok__law_draws (P := P) (w := w) (base := base) T
  have G__law_mix := ok__law_mix (P := P) (w := w) (base := base) T
  have G__law_base := ok__law_base (P := P) (w := w) (base := base) T G__law_mix
  have G_law := ok_law (P := P) (w := w) (base := base) T G__law_draws G__law_base G_pair_counts G_balance G__law_mix G_differences G_developed
  exact G_law
end
end My
set_option Elab.async false
set_option linter.all false
set_option maxRecDepth 100000
set_option maxHeartbeats 4000000
/-! what the top has written, and the end -/
namespace My
open PySem PySem.Spec PyProof.Rows L2 Tw
theorem all_mk {l : PySem.W.OpenLaw} {w : World} {K : PySem.W.Frag} {h : Heap} {mg : Str → Option Value} {fa : Addr} (X : K.In h) (G : h.Ns mainGlobals mg) (hfa : mg "law" = some (.ref fa))
    {od0 an0 : Option Addr} {sl0 : Array (Option Value)} {oc0 kV0 dc0 pm0 cd0 ct0 : Value} {f0 : Addr}
    (a0 : PySem.W.nsIn K mainGlobals "check_kinds" = some (some (.ref f0))) (l0 : K.lookup f0 = some ⟨oc0, od0, .func (PySem.W.fnOf "check_kinds" "check_kinds" (defArgs s_check_kinds) (defBody s_check_kinds) (defScope s_check_kinds) .none kV0 dc0 pm0 an0 cd0 ct0), sl0⟩) (c0 : PySem.W.codeIn K cd0 "check_kinds" = true) (k0 : PySem.W.keepIn K (.ref f0) = true)
    {od1 an1 : Option Addr} {sl1 : Array (Option Value)} {oc1 kV1 dc1 pm1 cd1 ct1 : Value} {f1 : Addr}
    (a1 : PySem.W.nsIn K mainGlobals "check_lists" = some (some (.ref f1))) (l1 : K.lookup f1 = some ⟨oc1, od1, .func (PySem.W.fnOf "check_lists" "check_lists" (defArgs s_check_lists) (defBody s_check_lists) (defScope s_check_lists) .none kV1 dc1 pm1 an1 cd1 ct1), sl1⟩) (c1 : PySem.W.codeIn K cd1 "check_lists" = true) (k1 : PySem.W.keepIn K (.ref f1) = true)
    {od2 an2 : Option Addr} {sl2 : Array (Option Value)} {oc2 kV2 dc2 pm2 cd2 ct2 : Value} {f2 : Addr}
    (a2 : PySem.W.nsIn K mainGlobals "check_blocks" = some (some (.ref f2))) (l2 : K.lookup f2 = some ⟨oc2, od2, .func (PySem.W.fnOf "check_blocks" "check_blocks" (defArgs s_check_blocks) (defBody s_check_blocks) (defScope s_check_blocks) .none kV2 dc2 pm2 an2 cd2 ct2), sl2⟩) (c2 : PySem.W.codeIn K cd2 "check_blocks" = true) (k2 : PySem.W.keepIn K (.ref f2) = true)
    {od3 an3 : Option Addr} {sl3 : Array (Option Value)} {oc3 kV3 dc3 pm3 cd3 ct3 : Value} {f3 : Addr}
    (a3 : PySem.W.nsIn K mainGlobals "count_of" = some (some (.ref f3))) (l3 : K.lookup f3 = some ⟨oc3, od3, .func (PySem.W.fnOf "count_of" "count_of" (defArgs s_count_of) (defBody s_count_of) (defScope s_count_of) .none kV3 dc3 pm3 an3 cd3 ct3), sl3⟩) (c3 : PySem.W.codeIn K cd3 "count_of" = true) (k3 : PySem.W.keepIn K (.ref f3) = true)
    {od4 an4 : Option Addr} {sl4 : Array (Option Value)} {oc4 kV4 dc4 pm4 cd4 ct4 : Value} {f4 : Addr}
    (a4 : PySem.W.nsIn K mainGlobals "pairs_by" = some (some (.ref f4))) (l4 : K.lookup f4 = some ⟨oc4, od4, .func (PySem.W.fnOf "pairs_by" "pairs_by" (defArgs s_pairs_by) (defBody s_pairs_by) (defScope s_pairs_by) .none kV4 dc4 pm4 an4 cd4 ct4), sl4⟩) (c4 : PySem.W.codeIn K cd4 "pairs_by" = true) (k4 : PySem.W.keepIn K (.ref f4) = true)
    {od5 an5 : Option Addr} {sl5 : Array (Option Value)} {oc5 kV5 dc5 pm5 cd5 ct5 : Value} {f5 : Addr}
    (a5 : PySem.W.nsIn K mainGlobals "pair_counts" = some (some (.ref f5))) (l5 : K.lookup f5 = some ⟨oc5, od5, .func (PySem.W.fnOf "pair_counts" "pair_counts" (defArgs s_pair_counts) (defBody s_pair_counts) (defScope s_pair_counts) .none kV5 dc5 pm5 an5 cd5 ct5), sl5⟩) (c5 : PySem.W.codeIn K cd5 "pair_counts" = true) (k5 : PySem.W.keepIn K (.ref f5) = true)
    {od6 an6 : Option Addr} {sl6 : Array (Option Value)} {oc6 kV6 dc6 pm6 cd6 ct6 : Value} {f6 : Addr}
    (a6 : PySem.W.nsIn K mainGlobals "balance" = some (some (.ref f6))) (l6 : K.lookup f6 = some ⟨oc6, od6, .func (PySem.W.fnOf "balance" "balance" (defArgs s_balance) (defBody s_balance) (defScope s_balance) .none kV6 dc6 pm6 an6 cd6 ct6), sl6⟩) (c6 : PySem.W.codeIn K cd6 "balance" = true) (k6 : PySem.W.keepIn K (.ref f6) = true)
    {od7 an7 : Option Addr} {sl7 : Array (Option Value)} {oc7 kV7 dc7 pm7 cd7 ct7 : Value} {f7 : Addr}
    (a7 : PySem.W.nsIn K mainGlobals "check_base" = some (some (.ref f7))) (l7 : K.lookup f7 = some ⟨oc7, od7, .func (PySem.W.fnOf "check_base" "check_base" (defArgs s_check_base) (defBody s_check_base) (defScope s_check_base) .none kV7 dc7 pm7 an7 cd7 ct7), sl7⟩) (c7 : PySem.W.codeIn K cd7 "check_base" = true) (k7 : PySem.W.keepIn K (.ref f7) = true)
    {od8 an8 : Option Addr} {sl8 : Array (Option Value)} {oc8 kV8 dc8 pm8 cd8 ct8 : Value} {f8 : Addr}
    (a8 : PySem.W.nsIn K mainGlobals "differences" = some (some (.ref f8))) (l8 : K.lookup f8 = some ⟨oc8, od8, .func (PySem.W.fnOf "differences" "differences" (defArgs s_differences) (defBody s_differences) (defScope s_differences) .none kV8 dc8 pm8 an8 cd8 ct8), sl8⟩) (c8 : PySem.W.codeIn K cd8 "differences" = true) (k8 : PySem.W.keepIn K (.ref f8) = true)
    {od9 an9 : Option Addr} {sl9 : Array (Option Value)} {oc9 kV9 dc9 pm9 cd9 ct9 : Value} {f9 : Addr}
    (a9 : PySem.W.nsIn K mainGlobals "developed" = some (some (.ref f9))) (l9 : K.lookup f9 = some ⟨oc9, od9, .func (PySem.W.fnOf "developed" "developed" (defArgs s_developed) (defBody s_developed) (defScope s_developed) .none kV9 dc9 pm9 an9 cd9 ct9), sl9⟩) (c9 : PySem.W.codeIn K cd9 "developed" = true) (k9 : PySem.W.keepIn K (.ref f9) = true)
    {od10 an10 : Option Addr} {sl10 : Array (Option Value)} {oc10 kV10 dc10 pm10 cd10 ct10 : Value} {f10 : Addr}
    (a10 : PySem.W.nsIn K mainGlobals "_law_draws" = some (some (.ref f10))) (l10 : K.lookup f10 = some ⟨oc10, od10, .func (PySem.W.fnOf "_law_draws" "_law_draws" (defArgs s__law_draws) (defBody s__law_draws) (defScope s__law_draws) .none kV10 dc10 pm10 an10 cd10 ct10), sl10⟩) (c10 : PySem.W.codeIn K cd10 "_law_draws" = true) (k10 : PySem.W.keepIn K (.ref f10) = true)
    {od11 an11 : Option Addr} {sl11 : Array (Option Value)} {oc11 kV11 dc11 pm11 cd11 ct11 : Value} {f11 : Addr}
    (a11 : PySem.W.nsIn K mainGlobals "_law_mix" = some (some (.ref f11))) (l11 : K.lookup f11 = some ⟨oc11, od11, .func (PySem.W.fnOf "_law_mix" "_law_mix" (defArgs s__law_mix) (defBody s__law_mix) (defScope s__law_mix) .none kV11 dc11 pm11 an11 cd11 ct11), sl11⟩) (c11 : PySem.W.codeIn K cd11 "_law_mix" = true) (k11 : PySem.W.keepIn K (.ref f11) = true)
    {od12 an12 : Option Addr} {sl12 : Array (Option Value)} {oc12 kV12 dc12 pm12 cd12 ct12 : Value} {f12 : Addr}
    (a12 : PySem.W.nsIn K mainGlobals "_law_base" = some (some (.ref f12))) (l12 : K.lookup f12 = some ⟨oc12, od12, .func (PySem.W.fnOf "_law_base" "_law_base" (defArgs s__law_base) (defBody s__law_base) (defScope s__law_base) .none kV12 dc12 pm12 an12 cd12 ct12), sl12⟩) (c12 : PySem.W.codeIn K cd12 "_law_base" = true) (k12 : PySem.W.keepIn K (.ref f12) = true)
    {od13 an13 : Option Addr} {sl13 : Array (Option Value)} {oc13 kV13 dc13 pm13 cd13 ct13 : Value} {f13 : Addr}
    (a13 : PySem.W.nsIn K mainGlobals "law" = some (some (.ref f13))) (l13 : K.lookup f13 = some ⟨oc13, od13, .func (PySem.W.fnOf "law" "law" (defArgs s_law) (defBody s_law) (defScope s_law) .none kV13 dc13 pm13 an13 cd13 ct13), sl13⟩) (c13 : PySem.W.codeIn K cd13 "law" = true) (k13 : PySem.W.keepIn K (.ref f13) = true)
    {t_LEAST_KINDS : Tok} (q_LEAST_KINDS : PySem.W.nsIn K mainGlobals "LEAST_KINDS" = some (some (.int 2 t_LEAST_KINDS)))
    {t_MOST_BLOCKS : Tok} (q_MOST_BLOCKS : PySem.W.nsIn K mainGlobals "MOST_BLOCKS" = some (some (.int 60 t_MOST_BLOCKS)))
    {t_MOST_KINDS : Tok} (q_MOST_KINDS : PySem.W.nsIn K mainGlobals "MOST_KINDS" = some (some (.int 12 t_MOST_KINDS)))
    {t_MOST_LISTS : Tok} (q_MOST_LISTS : PySem.W.nsIn K mainGlobals "MOST_LISTS" = some (some (.int 5 t_MOST_LISTS)))
    (z_abs : PySem.W.nsIn K mainGlobals "abs" = some none)
    (z_all : PySem.W.nsIn K mainGlobals "all" = some none)
    (z_enumerate : PySem.W.nsIn K mainGlobals "enumerate" = some none)
    (z_int : PySem.W.nsIn K mainGlobals "int" = some none)
    (z_len : PySem.W.nsIn K mainGlobals "len" = some none)
    (z_min : PySem.W.nsIn K mainGlobals "min" = some none)
    (z_range : PySem.W.nsIn K mainGlobals "range" = some none)
    (z_repr : PySem.W.nsIn K mainGlobals "repr" = some none)
    (z_set : PySem.W.nsIn K mainGlobals "set" = some none)
    (z_sorted : PySem.W.nsIn K mainGlobals "sorted" = some none)
    (z_zip : PySem.W.nsIn K mainGlobals "zip" = some none)
    : ∃ fd : FuncData, (∀ (s : Shared) (v : Value), BindsTo s fd ⟨[v], []⟩ [("script", v)]) ∧ ∀ base : Heap, K.In base → base.Ns mainGlobals mg → FnG l.prog w K mg base 4 fa fd ["script"] (spLaw K) := by
  have e := hfa.symm.trans (PySem.W.mg_of X G a13)
  cases e
  have F0 := fun_mk (st := s_check_kinds) l0 c0 k0
  have B0 := F0.binds (ps := ["kinds"]) fun _ _ _ _ _ _ us hl => match us, hl with | [_], _ => rfl
  have F1 := fun_mk (st := s_check_lists) l1 c1 k1
  have B1 := F1.binds (ps := ["kinds", "lists"]) fun _ _ _ _ _ _ us hl => match us, hl with | [_, _], _ => rfl
  have F2 := fun_mk (st := s_check_blocks) l2 c2 k2
  have B2 := F2.binds (ps := ["kinds", "blocks"]) fun _ _ _ _ _ _ us hl => match us, hl with | [_, _], _ => rfl
  have F3 := fun_mk (st := s_count_of) l3 c3 k3
  have B3 := F3.binds (ps := ["blocks", "told"]) fun _ _ _ _ _ _ us hl => match us, hl with | [_, _], _ => rfl
  have F4 := fun_mk (st := s_pairs_by) l4 c4 k4
  have B4 := F4.binds (ps := ["kinds", "blocks"]) fun _ _ _ _ _ _ us hl => match us, hl with | [_, _], _ => rfl
  have F5 := fun_mk (st := s_pair_counts) l5 c5 k5
  have B5 := F5.binds (ps := ["kinds", "blocks"]) fun _ _ _ _ _ _ us hl => match us, hl with | [_, _], _ => rfl
  have F6 := fun_mk (st := s_balance) l6 c6 k6
  have B6 := F6.binds (ps := ["kinds", "blocks"]) fun _ _ _ _ _ _ us hl => match us, hl with | [_, _], _ => rfl
  have F7 := fun_mk (st := s_check_base) l7 c7 k7
  have B7 := F7.binds (ps := ["kinds", "base"]) fun _ _ _ _ _ _ us hl => match us, hl with | [_, _], _ => rfl
  have F8 := fun_mk (st := s_differences) l8 c8 k8
  have B8 := F8.binds (ps := ["kinds", "base"]) fun _ _ _ _ _ _ us hl => match us, hl with | [_, _], _ => rfl
  have F9 := fun_mk (st := s_developed) l9 c9 k9
  have B9 := F9.binds (ps := ["kinds", "base"]) fun _ _ _ _ _ _ us hl => match us, hl with | [_, _], _ => rfl
  have F10 := fun_mk (st := s__law_draws) l10 c10 k10
  have B10 := F10.binds (ps := ["script"]) fun _ _ _ _ _ _ us hl => match us, hl with | [_], _ => rfl
  have F11 := fun_mk (st := s__law_mix) l11 c11 k11
  have B11 := F11.binds (ps := ["draws", "k", "many"]) fun _ _ _ _ _ _ us hl => match us, hl with | [_, _, _], _ => rfl
  have F12 := fun_mk (st := s__law_base) l12 c12 k12
  have B12 := F12.binds (ps := ["draws", "k", "kinds"]) fun _ _ _ _ _ _ us hl => match us, hl with | [_, _, _], _ => rfl
  have F13 := fun_mk (st := s_law) l13 c13 k13
  have B13 := F13.binds (ps := ["script"]) fun _ _ _ _ _ _ us hl => match us, hl with | [_], _ => rfl
  refine ⟨_, fun s v => .of_eq rfl, fun base _ _ => (all (P := l.prog) ⟨_, _, F0, PySem.W.mg_of X G a0, B0, _, _, F1, PySem.W.mg_of X G a1, B1, _, _, F2, PySem.W.mg_of X G a2, B2, _, _, F3, PySem.W.mg_of X G a3, B3, _, _, F4, PySem.W.mg_of X G a4, B4, _, _, F5, PySem.W.mg_of X G a5, B5, _, _, F6, PySem.W.mg_of X G a6, B6, _, _, F7, PySem.W.mg_of X G a7, B7, _, _, F8, PySem.W.mg_of X G a8, B8, _, _, F9, PySem.W.mg_of X G a9, B9, _, _, F10, PySem.W.mg_of X G a10, B10, _, _, F11, PySem.W.mg_of X G a11, B11, _, _, F12, PySem.W.mg_of X G a12, B12, _, _, F13, PySem.W.mg_of X G a13, B13, _, PySem.W.mg_of X G q_LEAST_KINDS, _, PySem.W.mg_of X G q_MOST_BLOCKS, _, PySem.W.mg_of X G q_MOST_KINDS, _, PySem.W.mg_of X G q_MOST_LISTS, PySem.W.mg_none_of X G z_abs, PySem.W.mg_none_of X G z_all, PySem.W.mg_none_of X G z_enumerate, PySem.W.mg_none_of X G z_int, PySem.W.mg_none_of X G z_len, PySem.W.mg_none_of X G z_min, PySem.W.mg_none_of X G z_range, PySem.W.mg_none_of X G z_repr, PySem.W.mg_none_of X G z_set, PySem.W.mg_none_of X G z_sorted, PySem.W.mg_none_of X G z_zip⟩).law law_true⟩
end My
open PySem PySem.W PyProof.Rows
set_option maxHeartbeats 0 in
theorem PySem.Challenge.cw_triedwares_k35_whole_blocks_from_differe_holds : PySem.Challenge.rw_triedwares_k35_whole_blocks_from_differe.Holds := by
  w_on; o_law; k_head; (case hw => w_witness2)
  k_fill
  refine Tw.walkG (l := PySem.Challenge.rw_triedwares_k35_whole_blocks_from_differe) (n := 63) (k := 4) (x := "script") (sp := fun w => Tw.spLaw _) rfl (by decide) rfl ⟨rfl, by decide, by decide⟩ (fun w h Y => PySem.W.kIn_of Y) ?F (fun w H a ns hl _ hS => ⟨a, ns, rfl, hl, hS, fun _ _ z => z⟩)
  case F =>
    intro w mg fa h KX G hmg
    refine' My.all_mk KX G hmg ?a0 ?l0 ?c0 ?k0 ?a1 ?l1 ?c1 ?k1 ?a2 ?l2 ?c2 ?k2 ?a3 ?l3 ?c3 ?k3 ?a4 ?l4 ?c4 ?k4 ?a5 ?l5 ?c5 ?k5 ?a6 ?l6 ?c6 ?k6 ?a7 ?l7 ?c7 ?k7 ?a8 ?l8 ?c8 ?k8 ?a9 ?l9 ?c9 ?k9 ?a10 ?l10 ?c10 ?k10 ?a11 ?l11 ?c11 ?k11 ?a12 ?l12 ?c12 ?k12 ?a13 ?l13 ?c13 ?k13 ?q_LEAST_KINDS ?q_MOST_BLOCKS ?q_MOST_KINDS ?q_MOST_LISTS ?z_abs ?z_all ?z_enumerate ?z_int ?z_len ?z_min ?z_range ?z_repr ?z_set ?z_sorted ?z_zip
    (case a0 => k_is); (case l0 => k_is); (case c0 => k_is); (case k0 => k_is)
    (case a1 => k_is); (case l1 => k_is); (case c1 => k_is); (case k1 => k_is)
    (case a2 => k_is); (case l2 => k_is); (case c2 => k_is); (case k2 => k_is)
    (case a3 => k_is); (case l3 => k_is); (case c3 => k_is); (case k3 => k_is)
    (case a4 => k_is); (case l4 => k_is); (case c4 => k_is); (case k4 => k_is)
    (case a5 => k_is); (case l5 => k_is); (case c5 => k_is); (case k5 => k_is)
    (case a6 => k_is); (case l6 => k_is); (case c6 => k_is); (case k6 => k_is)
    (case a7 => k_is); (case l7 => k_is); (case c7 => k_is); (case k7 => k_is)
    (case a8 => k_is); (case l8 => k_is); (case c8 => k_is); (case k8 => k_is)
    (case a9 => k_is); (case l9 => k_is); (case c9 => k_is); (case k9 => k_is)
    (case a10 => k_is); (case l10 => k_is); (case c10 => k_is); (case k10 => k_is)
    (case a11 => k_is); (case l11 => k_is); (case c11 => k_is); (case k11 => k_is)
    (case a12 => k_is); (case l12 => k_is); (case c12 => k_is); (case k12 => k_is)
    (case a13 => k_is); (case l13 => k_is); (case c13 => k_is); (case k13 => k_is)
    (case q_LEAST_KINDS => k_is)
    (case q_MOST_BLOCKS => k_is)
    (case q_MOST_KINDS => k_is)
    (case q_MOST_LISTS => k_is)
    (case z_abs => k_is)
    (case z_all => k_is)
    (case z_enumerate => k_is)
    (case z_int => k_is)
    (case z_len => k_is)
    (case z_min => k_is)
    (case z_range => k_is)
    (case z_repr => k_is)
    (case z_set => k_is)
    (case z_sorted => k_is)
    (case z_zip => k_is)
