import PyProof.Rows.All
import Wide.All
import OpenK.AllK
import Wide.FinOn
import HandS.ForMost
import HandS.Wide
import HandS.Flow
import HandS.Evl
import HandS.Exc
import HandS.TryOnly
import HandS.ExcOwn
import HandS.WordsExc
import KE.DataEq
import KE.DataCmp
import KE.DataMinMax
import KE.DataAny
import KE.DataFind
import KE.SortData
import PyProof.ReprRoads
import HandS.EndBits
import HandS.Style
import HandS.Star
import HandS.Gcd
import PyProof.ReprLen
import PySem.Challenge.RW_triedwares_k25_whole_contrasts_at_once
set_option Elab.async false
set_option linter.all false
set_option maxRecDepth 100000
set_option maxHeartbeats 4000000
/-! Tw1: data in the heap, environments, readings by programs over data -/
namespace Tw
open PySem PySem.Spec PyProof.Rows L2
abbrev D := PyData
/-! ### results -/
inductive R (α : Type) where
  | ok (a : α)
  | ex (c : Nat) (a : D)
  | bad
def R.bind {α β : Type} : R α → (α → R β) → R β
  | .ok a, f => f a
  | .ex c a, _ => .ex c a
  | .bad, _ => .bad
theorem R.bind_ok {α β : Type} {r : R α} {f : α → R β} {b : β} (h : r.bind f = .ok b) : ∃ a, r = .ok a ∧ f a = .ok b := by
  cases r with
  | ok a => exact ⟨a, rfl, h⟩
  | ex c a => cases h
  | bad => cases h
/-! ### data in a heap -/
def keyD : Key → D
  | .inl i => .int i
  | .inr x => .str x
mutual
def At (K : PySem.W.Frag) (H : Hp) : D → V → Prop
  | .none, v => v = .non
  | .bool b, v => v = .bl b
  | .int i, v => v = .int i
  | .str x, v => v = .str x
  | .list ds, v => ∃ a xs, v = .ref a ∧ SqL K H a xs ∧ AtL K H ds xs
  | .tuple ds, v => ∃ a xs, v = .ref a ∧ SqT K H a xs ∧ AtL K H ds xs
  | .dict es, v => ∃ a, v = .ref a ∧ ((∃ kvs, Rd H a (.dK kvs) ∧ AtK K H es kvs) ∨ (∃ kvs, Rd H a (.dT kvs) ∧ AtT K H es kvs) ∨
      ∃ (S : Int → Bool) (n : Nat) (xs : List Int), Rd H a (.set S n) ∧ es = [(.none, .list ((xs : List Int).map .int))] ∧ xs.Nodup ∧ (∀ i, S i = true ↔ i ∈ xs) ∧ xs.length = n)
def AtL (K : PySem.W.Frag) (H : Hp) : List D → List V → Prop
  | [], xs => xs = []
  | d :: ds, xs => ∃ v vs, xs = v :: vs ∧ At K H d v ∧ AtL K H ds vs
def AtK (K : PySem.W.Frag) (H : Hp) : List (D × D) → List (Key × V) → Prop
  | [], ks => ks = []
  | (k, d) :: es, ks => ∃ c v r, ks = (c, v) :: r ∧ k = keyD c ∧ At K H d v ∧ AtK K H es r
def AtT (K : PySem.W.Frag) (H : Hp) : List (D × D) → List (List Key × V) → Prop
  | [], ks => ks = []
  | (k, d) :: es, ks => ∃ c v r, ks = (c, v) :: r ∧ k = .tuple (c.map keyD) ∧ At K H d v ∧ AtT K H es r
end
abbrev Ex := Evl.Ex
theorem ex_rd {H H' : Hp} {a : Addr} {u : HO} (e : Ex H H') (h : Rd H a u) : Rd H' a u := Evl.ex_rd e h
mutual
theorem At.mono {K : PySem.W.Frag} {H H' : Hp} (e : Ex H H') : ∀ (d : D) (v : V), At K H d v → At K H' d v
  | .none, v, h => h
  | .bool b, v, h => h
  | .int i, v, h => h
  | .str x, v, h => h
  | .list ds, v, ⟨a, xs, h1, h2, h3⟩ => ⟨a, xs, h1, Evl.ex_l e h2, AtL.mono e ds xs h3⟩
  | .tuple ds, v, ⟨a, xs, h1, h2, h3⟩ => ⟨a, xs, h1, Evl.ex_t e h2, AtL.mono e ds xs h3⟩
  | .dict es, v, ⟨a, h1, h2⟩ => ⟨a, h1, by
    rcases h2 with ⟨kvs, r, h⟩ | ⟨kvs, r, h⟩ | ⟨S, n, xs, r, h⟩
    · exact .inl ⟨kvs, ex_rd e r, AtK.mono e es kvs h⟩
    · exact .inr (.inl ⟨kvs, ex_rd e r, AtT.mono e es kvs h⟩)
    · exact .inr (.inr ⟨S, n, xs, ex_rd e r, h⟩)⟩
theorem AtL.mono {K : PySem.W.Frag} {H H' : Hp} (e : Ex H H') : ∀ (ds : List D) (vs : List V), AtL K H ds vs → AtL K H' ds vs
  | [], vs, h => h
  | d :: ds, vs, ⟨v, r, h1, h2, h3⟩ => ⟨v, r, h1, At.mono e d v h2, AtL.mono e ds r h3⟩
theorem AtK.mono {K : PySem.W.Frag} {H H' : Hp} (e : Ex H H') : ∀ (es : List (D × D)) (ks : List (Key × V)), AtK K H es ks → AtK K H' es ks
  | [], ks, h => h
  | (k, d) :: es, ks, ⟨c, v, r, h1, h0, h2, h3⟩ => ⟨c, v, r, h1, h0, At.mono e d v h2, AtK.mono e es r h3⟩
theorem AtT.mono {K : PySem.W.Frag} {H H' : Hp} (e : Ex H H') : ∀ (es : List (D × D)) (ks : List (List Key × V)), AtT K H es ks → AtT K H' es ks
  | [], ks, h => h
  | (k, d) :: es, ks, ⟨c, v, r, h1, h0, h2, h3⟩ => ⟨c, v, r, h1, h0, At.mono e d v h2, AtT.mono e es r h3⟩
end
/-- an own, changeable object's content -/
def Own (K : PySem.W.Frag) (H : Hp) (o : HO) (d : D) : Prop :=
  (∃ vs ds, o = .lst vs ∧ d = .list ds ∧ AtL K H ds vs) ∨ (∃ kvs es, o = .dK kvs ∧ d = .dict es ∧ AtK K H es kvs) ∨ (∃ kvs es, o = .dT kvs ∧ d = .dict es ∧ AtT K H es kvs) ∨
    ∃ (S : Int → Bool) (n : Nat) (xs : List Int), o = .set S n ∧ d = .dict [(.none, .list ((xs : List Int).map .int))] ∧ xs.Nodup ∧ (∀ i, S i = true ↔ i ∈ xs) ∧ xs.length = n
theorem Own.mono {K : PySem.W.Frag} {H H' : Hp} (e : Ex H H') {o : HO} {d : D} (h : Own K H o d) : Own K H' o d := by
  rcases h with ⟨vs, ds, h1, h2, h⟩ | ⟨kvs, es, h1, h2, h⟩ | ⟨kvs, es, h1, h2, h⟩ | h
  · exact .inl ⟨vs, ds, h1, h2, AtL.mono e ds vs h⟩
  · exact .inr (.inl ⟨kvs, es, h1, h2, AtK.mono e es kvs h⟩)
  · exact .inr (.inr (.inl ⟨kvs, es, h1, h2, AtT.mono e es kvs h⟩))
  · exact .inr (.inr (.inr h))
theorem Own.at {K : PySem.W.Frag} {H : Hp} {a : Addr} {o : HO} {d : D} (r : H a = some o) (h : Own K H o d) : At K H d (.ref a) := by
  rcases h with ⟨vs, ds, h1, h2, h⟩ | ⟨kvs, es, h1, h2, h⟩ | ⟨kvs, es, h1, h2, h⟩ | ⟨S, n, xs, h1, h2, h⟩
  · subst h1 h2
    exact ⟨a, vs, rfl, SqL.of r, h⟩
  · subst h1 h2
    exact ⟨a, rfl, .inl ⟨kvs, .inl r, h⟩⟩
  · subst h1 h2
    exact ⟨a, rfl, .inr (.inl ⟨kvs, .inl r, h⟩)⟩
  · subst h1 h2
    exact ⟨a, rfl, .inr (.inr ⟨S, n, xs, .inl r, rfl, h⟩)⟩
/-- flat data lean on no object -/
def flat : D → Bool
  | .none | .bool _ | .int _ | .str _ => true
  | _ => false
theorem At.flat {K : PySem.W.Frag} {H H' : Hp} : ∀ {d : D} {v : V}, flat d = true → At K H d v → At K H' d v
  | .none, _, _, h => h
  | .bool _, _, _, h => h
  | .int _, _, _, h => h
  | .str _, _, _, h => h
  | .list _, _, f, _ => by cases f
  | .tuple _, _, f, _ => by cases f
  | .dict _, _, f, _ => by cases f
/-! ### the heap without what is owned -/
def hid (M : List Addr) (H : Hp) : Hp := fun a => if a ∈ M then none else H a
theorem hid_of {M : List Addr} {H : Hp} {a : Addr} {o : HO} (h : H a = some o) (n : a ∉ M) : hid M H a = some o := by
  unfold hid
  rw [if_neg n]
  exact h
theorem of_hid {M : List Addr} {H : Hp} {a : Addr} {o : HO} (h : hid M H a = some o) : H a = some o ∧ a ∉ M := by
  unfold hid at h
  by_cases e : a ∈ M
  · rw [if_pos e] at h
    cases h
  · rw [if_neg e] at h
    exact ⟨h, e⟩
theorem hid_ex {M : List Addr} {H H' : Hp} (e : Ex H H') : Ex (hid M H) (hid M H') := fun a o h => hid_of (e a o (of_hid h).1) (of_hid h).2
theorem hid_sub {M M' : List Addr} {H : Hp} (s : ∀ a, a ∈ M → a ∈ M') : Ex (hid M' H) (hid M H) := fun a o h => hid_of (of_hid h).1 fun z => (of_hid h).2 (s a z)
theorem hid_le {M : List Addr} {H : Hp} : Ex (hid M H) H := fun a o h => (of_hid h).1
/-- a new address, hidden from then on -/
theorem hid_new {M : List Addr} {H H' : Hp} {p : Addr} (e : Ex H H') (n : H p = none) : Ex (hid M H) (hid (p :: M) H') := fun a o h => by
  refine hid_of (e a o (of_hid h).1) fun z => ?_
  rcases List.mem_cons.mp z with z | z
  · rw [z] at h
    rw [(of_hid h).1] at n
    cases n
  · exact (of_hid h).2 z
theorem hid_upd {M : List Addr} {H : Hp} {a : Addr} {o : HO} (m : a ∈ M) : hid M (upd H a o) = hid M H := by
  funext b
  unfold hid
  by_cases e : b ∈ M
  · rw [if_pos e, if_pos e]
  · rw [if_neg e, if_neg e, upd_ne (fun z : b = a => e (by rw [z]; exact m))]
/-! ### environments -/
inductive SV where
  | no
  | im (d : D)
  | mu (d : D)
abbrev Nv := List SV
def gt : Nv → Nat → SV
  | [], _ => .no
  | s :: _, 0 => s
  | _ :: r, i + 1 => gt r i
def st : Nv → Nat → SV → Nv
  | [], _, _ => []
  | _ :: r, 0, s => s :: r
  | x :: r, i + 1, s => x :: st r i s
theorem st_len : ∀ (ε : Nv) (i : Nat) (s : SV), (st ε i s).length = ε.length
  | [], _, _ => rfl
  | _ :: _, 0, _ => rfl
  | x :: r, i + 1, s => by
    show (st r i s).length + 1 = r.length + 1
    rw [st_len r i s]
theorem gt_same : ∀ {ε : Nv} {i : Nat} {s : SV}, i < ε.length → gt (st ε i s) i = s
  | [], _, _, h => absurd h (Nat.not_lt_zero _)
  | _ :: _, 0, _, _ => rfl
  | _ :: r, i + 1, s, h => gt_same (ε := r) (i := i) (Nat.lt_of_succ_lt_succ h)
theorem gt_ne : ∀ {ε : Nv} {i j : Nat} {s : SV}, j ≠ i → gt (st ε i s) j = gt ε j
  | [], _, _, _, _ => rfl
  | _ :: _, 0, 0, _, h => absurd rfl h
  | _ :: _, 0, _ + 1, _, _ => rfl
  | _ :: _, _ + 1, 0, _, _ => rfl
  | _ :: r, i + 1, j + 1, s, h => gt_ne (ε := r) fun e => h (congrArg _ e)
theorem gt_lt : ∀ {ε : Nv} {i : Nat}, gt ε i ≠ .no → i < ε.length
  | [], _, h => absurd rfl h
  | _ :: _, 0, _ => Nat.succ_pos _
  | _ :: r, i + 1, h => Nat.succ_lt_succ (gt_lt (ε := r) h)
/-- what stays the same through a body: the ground, the heap at the entry, the callers' own objects, whether the answer is to be new -/
structure Cf where
  K : PySem.W.Frag
  H0 : Hp
  M0 : List Addr
  fr : Bool
structure Rel (c : Cf) (σ : L2.St) (H : Hp) (ε : Nv) (M : List Addr) : Prop where
  ext : Ex c.H0 H
  len : σ.length = ε.length
  sub : ∀ a, a ∈ c.M0 → a ∈ M
  trk : ∀ a, a ∈ M → ∃ o, H a = some o
  old : ∀ a, a ∈ c.M0 → c.H0 a ≠ none
  im : ∀ i d, gt ε i = .im d → ∃ v, σ[i]? = some (some v) ∧ At c.K (hid M H) d v
  mu : ∀ i d, gt ε i = .mu d → ∃ a o, σ[i]? = some (some (.ref a)) ∧ a ∈ M ∧ c.H0 a = none ∧ H a = some o ∧ Own c.K (hid M H) o d
  dis : ∀ i j d e a b, i ≠ j → gt ε i = .mu d → gt ε j = .mu e → σ[i]? = some (some (.ref a)) → σ[j]? = some (some (.ref b)) → a ≠ b
theorem Rel.ex {c : Cf} {σ : L2.St} {H H' : Hp} {ε : Nv} {M : List Addr} (r : Rel c σ H ε M) (e : Ex H H') : Rel c σ H' ε M where
  ext := r.ext.trans e
  len := r.len
  sub := r.sub
  trk := fun a h => let ⟨o, q⟩ := r.trk a h; ⟨o, e a o q⟩
  old := r.old
  im := fun i d h => let ⟨v, h1, h2⟩ := r.im i d h; ⟨v, h1, At.mono (hid_ex e) d v h2⟩
  mu := fun i d h => let ⟨a, o, h1, h2, h3, h4, h5⟩ := r.mu i d h; ⟨a, o, h1, h2, h3, e a o h4, h5.mono (hid_ex e)⟩
  dis := r.dis
theorem Rel.notM {c : Cf} {σ : L2.St} {H : Hp} {ε : Nv} {M : List Addr} (r : Rel c σ H ε M) {p : Addr} (n : H p = none) : p ∉ M := fun h => by
  obtain ⟨o, q⟩ := r.trk p h
  rw [n] at q
  cases q
/-- a name is stored: data -/
theorem Rel.set {c : Cf} {σ : L2.St} {H : Hp} {ε : Nv} {M : List Addr} (r : Rel c σ H ε M) {i : Nat} {d : D} {v : V} (h : At c.K (hid M H) d v) : Rel c (σ.set i (some v)) H (st ε i (.im d)) M where
  ext := r.ext
  len := by rw [List.length_set, st_len, r.len]
  sub := r.sub
  trk := r.trk
  old := r.old
  im := fun j e he => by
    by_cases q : j = i
    · subst q
      have hl : j < ε.length := by
        have := gt_lt (ε := st ε j (.im d)) (i := j) (by rw [he]; intro z; cases z)
        rwa [st_len] at this
      rw [gt_same hl] at he
      cases he
      exact ⟨v, by rw [List.getElem?_set_self (by rw [r.len]; exact hl)], h⟩
    · rw [gt_ne q] at he
      obtain ⟨w, h1, h2⟩ := r.im j e he
      exact ⟨w, by rw [List.getElem?_set_ne (Ne.symm q)]; exact h1, h2⟩
  mu := fun j e he => by
    by_cases q : j = i
    · subst q
      have hl : j < ε.length := by
        have := gt_lt (ε := st ε j (.im d)) (i := j) (by rw [he]; intro z; cases z)
        rwa [st_len] at this
      rw [gt_same hl] at he
      cases he
    · rw [gt_ne q] at he
      obtain ⟨a, o, h1, h2⟩ := r.mu j e he
      exact ⟨a, o, by rw [List.getElem?_set_ne (Ne.symm q)]; exact h1, h2⟩
  dis := fun j k e f a b hjk hj hk h1 h2 => by
    by_cases q : j = i
    · subst q
      have hl : j < ε.length := by
        have := gt_lt (ε := st ε j (.im d)) (i := j) (by rw [hj]; intro z; cases z)
        rwa [st_len] at this
      rw [gt_same hl] at hj
      cases hj
    · by_cases q2 : k = i
      · subst q2
        have hl : k < ε.length := by
          have := gt_lt (ε := st ε k (.im d)) (i := k) (by rw [hk]; intro z; cases z)
          rwa [st_len] at this
        rw [gt_same hl] at hk
        cases hk
      · rw [gt_ne q] at hj
        rw [gt_ne q2] at hk
        rw [List.getElem?_set_ne (Ne.symm q)] at h1
        rw [List.getElem?_set_ne (Ne.symm q2)] at h2
        exact r.dis j k e f a b hjk hj hk h1 h2
/-- a name is stored: a new object of one's own -/
theorem Rel.setMu {c : Cf} {σ : L2.St} {H H' : Hp} {ε : Nv} {M : List Addr} (r : Rel c σ H ε M) {i : Nat} {d : D} {p : Addr} {o : HO} (n : H p = none) (e : Ex H H') (hp : H' p = some o) (h : Own c.K (hid (p :: M) H') o d) :
    Rel c (σ.set i (some (.ref p))) H' (st ε i (.mu d)) (p :: M) where
  ext := r.ext.trans e
  len := by rw [List.length_set, st_len, r.len]
  sub := fun a ha => List.mem_cons_of_mem _ (r.sub a ha)
  trk := fun a ha => by
    rcases List.mem_cons.mp ha with q | q
    · exact ⟨o, by rw [q]; exact hp⟩
    · obtain ⟨u, q⟩ := r.trk a q
      exact ⟨u, e a u q⟩
  old := r.old
  im := fun j f he => by
    by_cases q : j = i
    · subst q
      have hl : j < ε.length := by
        have := gt_lt (ε := st ε j (.mu d)) (i := j) (by rw [he]; intro z; cases z)
        rwa [st_len] at this
      rw [gt_same hl] at he
      cases he
    · rw [gt_ne q] at he
      obtain ⟨w, h1, h2⟩ := r.im j f he
      exact ⟨w, by rw [List.getElem?_set_ne (Ne.symm q)]; exact h1, At.mono (hid_new e n) f w h2⟩
  mu := fun j f he => by
    by_cases q : j = i
    · subst q
      have hl : j < ε.length := by
        have := gt_lt (ε := st ε j (.mu d)) (i := j) (by rw [he]; intro z; cases z)
        rwa [st_len] at this
      rw [gt_same hl] at he
      cases he
      refine ⟨p, o, by rw [List.getElem?_set_self (by rw [r.len]; exact hl)], List.mem_cons_self, ?_, hp, h⟩
      cases q : c.H0 p with
      | none => rfl
      | some u =>
        have := r.ext p u q
        rw [n] at this
        cases this
    · rw [gt_ne q] at he
      obtain ⟨a, u, h1, h2, h3, h4, h5⟩ := r.mu j f he
      exact ⟨a, u, by rw [List.getElem?_set_ne (Ne.symm q)]; exact h1, List.mem_cons_of_mem _ h2, h3, e a u h4, h5.mono (hid_new e n)⟩
  dis := fun j k f g a b hjk hj hk h1 h2 => by
    have hM : ∀ j, j ≠ i → ∀ f a, gt (st ε i (.mu d)) j = .mu f → (σ.set i (some (.ref p)))[j]? = some (some (.ref a)) → a ≠ p := fun j q f a hj h1 => by
      rw [gt_ne q] at hj
      rw [List.getElem?_set_ne (Ne.symm q)] at h1
      obtain ⟨a', u, h1', h2', _⟩ := r.mu j f hj
      rw [h1] at h1'
      cases h1'
      exact fun z => r.notM n (z ▸ h2')
    by_cases q : j = i
    · subst q
      have hl : j < ε.length := by
        have := gt_lt (ε := st ε j (.mu d)) (i := j) (by rw [hj]; intro z; cases z)
        rwa [st_len] at this
      rw [List.getElem?_set_self (by rw [r.len]; exact hl)] at h1
      cases h1
      exact (hM k (Ne.symm hjk) g b hk h2).symm
    · by_cases q2 : k = i
      · subst q2
        have hl : k < ε.length := by
          have := gt_lt (ε := st ε k (.mu d)) (i := k) (by rw [hk]; intro z; cases z)
          rwa [st_len] at this
        rw [List.getElem?_set_self (by rw [r.len]; exact hl)] at h2
        cases h2
        exact hM j q f a hj h1
      · rw [gt_ne q] at hj
        rw [gt_ne q2] at hk
        rw [List.getElem?_set_ne (Ne.symm q)] at h1
        rw [List.getElem?_set_ne (Ne.symm q2)] at h2
        exact r.dis j k f g a b hjk hj hk h1 h2
/-- one's own object is changed -/
theorem Rel.upd {c : Cf} {σ : L2.St} {H : Hp} {ε : Nv} {M : List Addr} (r : Rel c σ H ε M) {i : Nat} {d d' : D} {a : Addr} {o' : HO} (g : gt ε i = .mu d) (s : σ[i]? = some (some (.ref a))) (h : Own c.K (hid M H) o' d') :
    Rel c σ (L2.upd H a o') (st ε i (.mu d')) M := by
  obtain ⟨a', o, h1, h2, h3, h4, h5⟩ := r.mu i d g
  rw [s] at h1
  cases h1
  have hl : i < ε.length := gt_lt (by rw [g]; intro z; cases z)
  have hh : hid M (L2.upd H a o') = hid M H := hid_upd h2
  refine ⟨r.ext.mut h3, by rw [st_len]; exact r.len, r.sub, fun b hb => ?_, r.old, fun j f he => ?_, fun j f he => ?_, fun j k f g' a1 b1 hjk hj hk h1 h2' => ?_⟩
  · by_cases q : b = a
    · exact ⟨o', by rw [q]; exact upd_same⟩
    · obtain ⟨u, q2⟩ := r.trk b hb
      exact ⟨u, by rw [upd_ne q]; exact q2⟩
  · by_cases q : j = i
    · subst q
      rw [gt_same hl] at he
      cases he
    · rw [gt_ne q] at he
      rw [hh]
      exact r.im j f he
  · by_cases q : j = i
    · subst q
      rw [gt_same hl] at he
      cases he
      exact ⟨a, o', s, h2, h3, upd_same, by rw [hh]; exact h⟩
    · rw [gt_ne q] at he
      obtain ⟨b, u, q1, q2, q3, q4, q5⟩ := r.mu j f he
      have ne : b ≠ a := r.dis j i f d b a q he g q1 s
      exact ⟨b, u, q1, q2, q3, by rw [upd_ne ne]; exact q4, by rw [hh]; exact q5⟩
  · have back : ∀ j f, gt (st ε i (.mu d')) j = .mu f → ∃ f', gt ε j = .mu f' := fun j f hj => by
      by_cases q : j = i
      · subst q
        exact ⟨d, g⟩
      · rw [gt_ne q] at hj
        exact ⟨f, hj⟩
    obtain ⟨f1, e1⟩ := back j f hj
    obtain ⟨f2, e2⟩ := back k g' hk
    exact r.dis j k f1 f2 a1 b1 hjk e1 e2 h1 h2'
/-- one's own object as data, from now on -/
theorem Rel.frz {c : Cf} {σ : L2.St} {H : Hp} {ε : Nv} {M : List Addr} (r : Rel c σ H ε M) {i : Nat} {d : D} (g : gt ε i = .mu d) : ∃ M', (∀ a, a ∈ M' → a ∈ M) ∧ Rel c σ H (st ε i (.im d)) M' := by
  obtain ⟨a, o, h1, h2, h3, h4, h5⟩ := r.mu i d g
  have hl : i < ε.length := gt_lt (by rw [g]; intro z; cases z)
  have sub : ∀ b, b ∈ M.filter (fun b => decide (b ≠ a)) → b ∈ M := fun b hb => (List.mem_filter.mp hb).1
  have keep : ∀ b, b ∈ M → b ≠ a → b ∈ M.filter (fun b => decide (b ≠ a)) := fun b hb n => List.mem_filter.mpr ⟨hb, decide_eq_true n⟩
  have na : a ∉ M.filter (fun b => decide (b ≠ a)) := fun z => of_decide_eq_true (List.mem_filter.mp z).2 rfl
  refine ⟨M.filter (fun b => decide (b ≠ a)), sub, ?_⟩
  have hs : Ex (hid M H) (hid (M.filter (fun b => decide (b ≠ a))) H) := hid_sub sub
  refine ⟨r.ext, by rw [st_len]; exact r.len, fun b hb => keep b (r.sub b hb) fun z => r.old b hb (z ▸ h3), fun b hb => r.trk b (sub b hb), r.old, fun j f he => ?_, fun j f he => ?_, fun j k f g' a1 b1 hjk hj hk q1 q2 => ?_⟩
  · by_cases q : j = i
    · subst q
      rw [gt_same hl] at he
      cases he
      exact ⟨.ref a, h1, Own.at (hid_of h4 na) (h5.mono hs)⟩
    · rw [gt_ne q] at he
      obtain ⟨v, p1, p2⟩ := r.im j f he
      exact ⟨v, p1, At.mono hs f v p2⟩
  · by_cases q : j = i
    · subst q
      rw [gt_same hl] at he
      cases he
    · rw [gt_ne q] at he
      obtain ⟨b, u, p1, p2, p3, p4, p5⟩ := r.mu j f he
      exact ⟨b, u, p1, keep b p2 (r.dis j i f d b a q he g p1 h1), p3, p4, p5.mono hs⟩
  · by_cases q : j = i
    · subst q
      rw [gt_same hl] at hj
      cases hj
    · by_cases q3 : k = i
      · subst q3
        rw [gt_same hl] at hk
        cases hk
      · rw [gt_ne q] at hj
        rw [gt_ne q3] at hk
        exact r.dis j k f g' a1 b1 hjk hj hk q1 q2
end Tw
set_option Elab.async false
set_option linter.all false
set_option maxRecDepth 100000
set_option maxHeartbeats 4000000
/-! Tw2: readings by programs over data: expressions -/
namespace Tw
open PySem PySem.Spec PyProof.Rows L2
abbrev Trk (M : List Addr) (H : Hp) : Prop := ∀ a, a ∈ M → ∃ o, H a = some o
theorem Trk.ex {M : List Addr} {H H' : Hp} (t : Trk M H) (e : Ex H H') : Trk M H' := fun a h => let ⟨o, q⟩ := t a h; ⟨o, e a o q⟩
theorem Trk.no {M : List Addr} {H : Hp} (t : Trk M H) {p : Addr} (n : H p = none) : p ∉ M := fun h => by
  obtain ⟨o, q⟩ := t p h
  rw [n] at q
  cases q
/-! ### the readings -/
def rdE (c : Cf) (m : Nv → R D) : TE := fun σ H Q => ∃ ε M, Rel c σ H ε M ∧ ∃ d, m ε = .ok d ∧ ∀ v H', Ex H H' → At c.K (hid M H') d v → Q v H'
/-- the same, the value a new object -/
def rdL (c : Cf) (m : Nv → R D) : TE := fun σ H Q => ∃ ε M, Rel c σ H ε M ∧ ∃ d, m ε = .ok d ∧ ∀ p o H', H p = none → Ex H H' → H' p = some o → Own c.K (hid (p :: M) H') o d → Q (.ref p) H'
def rdT (c : Cf) (m : Nv → R Bool) : TT := fun σ H Q => ∃ ε M, Rel c σ H ε M ∧ ∃ b, m ε = .ok b ∧ ∀ H', Ex H H' → Q b H'
def rdA (c : Cf) (m : Nv → R (List D)) : TA := fun σ H Q => ∃ ε M, Rel c σ H ε M ∧ ∃ ds, m ε = .ok ds ∧ ∀ vs H', Ex H H' → AtL c.K (hid M H') ds vs → Q vs H'
/-! ### weakenings -/
section
variable {X : Cx} {c : Cf}
theorem _root_.L2.PE.wk {e : Expr} {t t' : TE} (h : PE X e t) (i : ∀ σ H Q, t' σ H Q → t σ H Q) : PE X e t' := ⟨fun pins s σ H Q I q => h.run pins s σ H Q I (i σ H Q q)⟩
theorem _root_.L2.PT.wk {e : Expr} {t t' : TT} (h : PT X e t) (i : ∀ σ H Q, t' σ H Q → t σ H Q) : PT X e t' := ⟨fun pins s σ H Q I q => h.run pins s σ H Q I (i σ H Q q)⟩
theorem _root_.L2.PA.wk {e : List Expr} {t t' : TA} (h : PA X e t) (i : ∀ σ H Q, t' σ H Q → t σ H Q) : PA X e t' := ⟨fun pos pins s σ H Q I q => h.run pos pins s σ H Q I (i σ H Q q)⟩
theorem _root_.L2.PS.wk {e : Stmt} {t t' : TS} (h : PS X e t) (i : ∀ D σ H, t' D σ H → t D σ H) : PS X e t' := ⟨fun pins s σ H D I q => h.run pins s σ H D I (i D σ H q)⟩
theorem _root_.L2.PSs.wk {e : List Stmt} {t t' : TS} (h : PSs X e t) (i : ∀ D σ H, t' D σ H → t D σ H) : PSs X e t' := ⟨fun pins s σ H D I q => h.run pins s σ H D I (i D σ H q)⟩
theorem own_new {K : PySem.W.Frag} {M : List Addr} {H H' : Hp} {p : Addr} {o : HO} {d : D} (t : Trk M H) (n : H p = none) (hp : H' p = some o) (h : Own K (hid (p :: M) H') o d) : At K (hid M H') d (.ref p) :=
  Own.at (hid_of hp (t.no n)) (h.mono (hid_sub fun a ha => List.mem_cons_of_mem _ ha))
/-- a new object is data -/
theorem PE.lE {e : Expr} {m : Nv → R D} (h : PE X e (rdL c m)) : PE X e (rdE c m) := h.wk fun σ H Q ⟨ε, M, r, d, hm, q⟩ => ⟨ε, M, r, d, hm, fun p o H' n e hp ho => q _ H' e (own_new (Trk.ex r.trk (Evl.Ex.refl _)) n hp ho)⟩
/-! ### atoms -/
def xV (i : Nat) : Nv → R D := fun ε => match gt ε i with | .im d => .ok d | _ => .bad
def xC (d : D) : Nv → R D := fun _ => .ok d
theorem xV_ok {i : Nat} {ε : Nv} {d : D} (h : xV i ε = .ok d) : gt ε i = .im d := by
  unfold xV at h
  cases e : gt ε i with
  | no => rw [e] at h; cases h
  | mu f => rw [e] at h; cases h
  | im f => rw [e] at h; cases h; rfl
theorem pe_v {e : Expr} {i : Nat} (h : PE X e (tVar i)) : PE X e (rdE c (xV i)) := h.wk fun σ H Q ⟨ε, M, r, d, hm, q⟩ => by
  obtain ⟨v, h1, h2⟩ := r.im i d (xV_ok hm)
  exact ⟨v, h1, q v H (Evl.Ex.refl H) h2⟩
theorem pe_k {e : Expr} {v : V} {d : D} (h : PE X e (tC v)) (hd : ∀ K H, At K H d v) : PE X e (rdE c (xC d)) := h.wk fun σ H Q ⟨ε, M, r, d', hm, q⟩ => by
  cases hm
  exact q v H (Evl.Ex.refl H) (hd _ _)
theorem pk_int {i : Int} {j pos} : PE X (.Constant (.int i) j pos) (rdE c (xC (.int i))) := pe_k pe_int fun _ _ => rfl
theorem pk_bl {b : Bool} {j pos} : PE X (.Constant (.bool b) j pos) (rdE c (xC (.bool b))) := pe_k pe_bl fun _ _ => rfl
theorem pk_non {j pos} : PE X (.Constant .none j pos) (rdE c (xC .none)) := pe_k pe_non fun _ _ => rfl
theorem pk_str {x j pos} : PE X (.Constant (.str x) j pos) (rdE c (xC (.str x))) := pe_k pe_str fun _ _ => rfl
/-- a constant of the module -/
theorem pk_glob {x : Str} {v : V} {u : Value} {d : D} {pos : Pos} (hg : Gl X x) (hm : X.mg x = some u) (r : RelV v u) (hd : ∀ K H, At K H d v) (hdb : (x == ("__debug__" : Str)) = false := by decide) : PE X (.Name x pos) (rdE c (xC d)) := pe_k (pe_glob hg hm r hdb) hd
/-! ### lists of expressions -/
def xNil : Nv → R (List D) := fun _ => .ok []
def xCons (m : Nv → R D) (r : Nv → R (List D)) : Nv → R (List D) := fun ε => (m ε).bind fun d => (r ε).bind fun ds => .ok (d :: ds)
theorem pa_n : PA X [] (rdA c xNil) := pa_nil.wk fun σ H Q ⟨ε, M, r, ds, hm, q⟩ => by
  cases hm
  exact q [] H (Evl.Ex.refl H) rfl
theorem pa_c {e : Expr} {es : List Expr} {m : Nv → R D} {ms : Nv → R (List D)} (h : PE X e (rdE c m)) (hs : PA X es (rdA c ms)) (hst : starEach (e :: es) X.env = (false, eval e X.env) :: starEach es X.env := by rfl) : PA X (e :: es) (rdA c (xCons m ms)) :=
  (pa_cons h hs hst).wk fun σ H Q ⟨ε, M, r, ds, hm, q⟩ => by
    obtain ⟨d, h1, h2⟩ := R.bind_ok hm
    obtain ⟨dr, h3, h4⟩ := R.bind_ok h2
    cases h4
    exact ⟨ε, M, r, d, h1, fun v H1 e1 hv => ⟨ε, M, r.ex e1, dr, h3, fun vs H2 e2 hvs => q (v :: vs) H2 (e1.trans e2) ⟨v, vs, rfl, At.mono (hid_ex e2) d v hv, hvs⟩⟩⟩
/-! ### values in, a value out -/
def r1D (K : PySem.W.Frag) (f : D → R D) : V → Hp → VK → Prop := fun x H Q => ∃ M a d, Trk M H ∧ At K (hid M H) a x ∧ f a = .ok d ∧ ∀ v H', Ex H H' → At K (hid M H') d v → Q v H'
def r2D (K : PySem.W.Frag) (f : D → D → R D) : R2 := fun x y H Q => ∃ M a b d, Trk M H ∧ At K (hid M H) a x ∧ At K (hid M H) b y ∧ f a b = .ok d ∧ ∀ v H', Ex H H' → At K (hid M H') d v → Q v H'
def r2L (K : PySem.W.Frag) (f : D → D → R D) : R2 := fun x y H Q => ∃ M a b d, Trk M H ∧ At K (hid M H) a x ∧ At K (hid M H) b y ∧ f a b = .ok d ∧ ∀ p o H', H p = none → Ex H H' → H' p = some o → Own K (hid (p :: M) H') o d → Q (.ref p) H'
def rnD (K : PySem.W.Frag) (f : List D → R D) : List V → Hp → VK → Prop := fun xs H Q => ∃ M as d, Trk M H ∧ AtL K (hid M H) as xs ∧ f as = .ok d ∧ ∀ v H', Ex H H' → At K (hid M H') d v → Q v H'
def rnL (K : PySem.W.Frag) (f : List D → R D) : List V → Hp → VK → Prop := fun xs H Q => ∃ M as d, Trk M H ∧ AtL K (hid M H) as xs ∧ f as = .ok d ∧ ∀ p o H', H p = none → Ex H H' → H' p = some o → Own K (hid (p :: M) H') o d → Q (.ref p) H'
theorem r2L.D {K : PySem.W.Frag} {f : D → D → R D} {x y : V} {H : Hp} {Q : VK} (h : r2D K f x y H Q) : r2L K f x y H Q := by
  obtain ⟨M, a, b, d, t, ha, hb, hf, q⟩ := h
  exact ⟨M, a, b, d, t, ha, hb, hf, fun p o H' n e hp ho => q _ H' e (own_new t n hp ho)⟩
theorem rnL.D {K : PySem.W.Frag} {f : List D → R D} {xs : List V} {H : Hp} {Q : VK} (h : rnD K f xs H Q) : rnL K f xs H Q := by
  obtain ⟨M, a, d, t, ha, hf, q⟩ := h
  exact ⟨M, a, d, t, ha, hf, fun p o H' n e hp ho => q _ H' e (own_new t n hp ho)⟩
def xBin (f : D → D → R D) (ma mb : Nv → R D) : Nv → R D := fun ε => (ma ε).bind fun a => (mb ε).bind fun b => f a b
def xUn (f : D → R D) (ma : Nv → R D) : Nv → R D := fun ε => (ma ε).bind f
def xCall (f : List D → R D) (ms : Nv → R (List D)) : Nv → R D := fun ε => (ms ε).bind f
variable {a b : Expr} {ma mb : Nv → R D} {ms : Nv → R (List D)} {pos : Pos}
theorem tOp_rd {r : R2} {f : D → D → R D} (hr : ∀ x y H Q, r2D c.K f x y H Q → r x y H Q) : ∀ σ H Q, rdE c (xBin f ma mb) σ H Q → tOp r (rdE c ma) (rdE c mb) σ H Q := fun σ H Q ⟨ε, M, re, d, hm, q⟩ => by
  obtain ⟨x, h1, h2⟩ := R.bind_ok hm
  obtain ⟨y, h3, h4⟩ := R.bind_ok h2
  exact ⟨ε, M, re, x, h1, fun v H1 e1 hv => ⟨ε, M, re.ex e1, y, h3, fun u H2 e2 hu => hr _ _ _ _ ⟨M, x, y, d, Trk.ex re.trk (e1.trans e2), At.mono (hid_ex e2) x v hv, hu, h4, fun w H3 e3 hw => q w H3 ((e1.trans e2).trans e3) hw⟩⟩⟩
theorem tOp_rdL {r : R2} {f : D → D → R D} (hr : ∀ x y H Q, r2L c.K f x y H Q → r x y H Q) : ∀ σ H Q, rdL c (xBin f ma mb) σ H Q → tOp r (rdE c ma) (rdE c mb) σ H Q := fun σ H Q ⟨ε, M, re, d, hm, q⟩ => by
  obtain ⟨x, h1, h2⟩ := R.bind_ok hm
  obtain ⟨y, h3, h4⟩ := R.bind_ok h2
  refine ⟨ε, M, re, x, h1, fun v H1 e1 hv => ⟨ε, M, re.ex e1, y, h3, fun u H2 e2 hu => hr _ _ _ _ ⟨M, x, y, d, Trk.ex re.trk (e1.trans e2), At.mono (hid_ex e2) x v hv, hu, h4, fun p o H3 n e3 hp ho => q p o H3 ?_ ((e1.trans e2).trans e3) hp ho⟩⟩⟩
  exact Evl.fresh_back (e1.trans e2) n
theorem pe_bin {op : Operator} {f : D → D → R D} (ho : OpR X (binaryOp op) (r2D X.K f)) (ha : PE X a (rdE c ma)) (hb : PE X b (rdE c mb)) (hK : c.K = X.K := by rfl) : PE X (.BinOp a op b pos) (rdE c (xBin f ma mb)) :=
  (pe_op ho ha hb).wk (tOp_rd fun _ _ _ _ h => hK ▸ h)
theorem pe_binL {op : Operator} {f : D → D → R D} (ho : OpR X (binaryOp op) (r2L X.K f)) (ha : PE X a (rdE c ma)) (hb : PE X b (rdE c mb)) (hK : c.K = X.K := by rfl) : PE X (.BinOp a op b pos) (rdL c (xBin f ma mb)) :=
  (pe_op ho ha hb).wk (tOp_rdL fun _ _ _ _ h => hK ▸ h)
theorem pe_cp {op : CmpOp} {f : D → D → R D} (ho : OpR X (compareOp op) (r2D X.K f)) (ha : PE X a (rdE c ma)) (hb : PE X b (rdE c mb)) (hm : behindInMarks op b = false := by first | exact nomark _ | rfl) (hK : c.K = X.K := by rfl) : PE X (.Compare a [op] [b] pos) (rdE c (xBin f ma mb)) :=
  (pe_cmpR ho ha hb hm).wk (tOp_rd fun _ _ _ _ h => hK ▸ h)
theorem pe_un1 {op : UnaryOp} {f : D → R D} (ho : UnR X (unaryOp op) (r1D X.K f)) (ha : PE X a (rdE c ma)) (hK : c.K = X.K := by rfl) : PE X (.UnaryOp op a pos) (rdE c (xUn f ma)) :=
  (pe_un ho ha).wk fun σ H Q ⟨ε, M, re, d, hm, q⟩ => by
    obtain ⟨x, h1, h2⟩ := R.bind_ok hm
    exact ⟨ε, M, re, x, h1, fun v H1 e1 hv => ⟨M, x, d, Trk.ex re.trk e1, hK ▸ hv, h2, fun w H3 e3 hw => q w H3 (e1.trans e3) (hK ▸ hw)⟩⟩
theorem tCB_rd {r : List V → Hp → VK → Prop} {f : List D → R D} (hr : ∀ xs H Q, rnD c.K f xs H Q → r xs H Q) : ∀ σ H Q, rdE c (xCall f ms) σ H Q → tCB r (rdA c ms) σ H Q := fun σ H Q ⟨ε, M, re, d, hm, q⟩ => by
  obtain ⟨ds, h1, h2⟩ := R.bind_ok hm
  exact ⟨ε, M, re, ds, h1, fun vs H1 e1 hv => hr _ _ _ ⟨M, ds, d, Trk.ex re.trk e1, hv, h2, fun w H3 e3 hw => q w H3 (e1.trans e3) hw⟩⟩
theorem tCB_rdL {r : List V → Hp → VK → Prop} {f : List D → R D} (hr : ∀ xs H Q, rnL c.K f xs H Q → r xs H Q) : ∀ σ H Q, rdL c (xCall f ms) σ H Q → tCB r (rdA c ms) σ H Q := fun σ H Q ⟨ε, M, re, d, hm, q⟩ => by
  obtain ⟨ds, h1, h2⟩ := R.bind_ok hm
  exact ⟨ε, M, re, ds, h1, fun vs H1 e1 hv => hr _ _ _ ⟨M, ds, d, Trk.ex re.trk e1, hv, h2, fun p o H3 n e3 hp ho => q p o H3 (Evl.fresh_back e1 n) (e1.trans e3) hp ho⟩⟩
variable {x : Str} {p : Pos} {e : Expr} {es : List Expr}
/-- a builtin's call, a builtin class's -/
theorem pe_bi {id : String} {f : List D → R D} (hc : CallR X (.builtin id) (rnD X.K f)) (hm : X.mg x = none) (hv : bootBuiltins x = some (.builtin id)) (ha : PA X (e :: es) (rdA c ms)) (hg : Gl X x := by rfl)
    (hn : x ≠ "__name__" := by decide) (hd : (x == ("__debug__" : Str)) = false := by decide) (hst : starEach (e :: es) X.env = (false, eval e X.env) :: starEach es X.env := by rfl) (hpl : (backTo pos (starEach es X.env)).any (·.1) = false := by rfl) (hK : c.K = X.K := by rfl) :
    PE X (.Call (.Name x p) (e :: es) [] pos) (rdE c (xCall f ms)) := (pe_callB hc hg hm hv ha hn hd hst hpl).wk (tCB_rd fun _ _ _ h => hK ▸ h)
theorem pe_ty {T : String} {f : List D → R D} (hc : CallR X (.type T) (rnD X.K f)) (hm : X.mg x = none) (hv : bootBuiltins x = some (.type T)) (ha : PA X (e :: es) (rdA c ms)) (hg : Gl X x := by rfl)
    (hn : x ≠ "__name__" := by decide) (hd : (x == ("__debug__" : Str)) = false := by decide) (hst : starEach (e :: es) X.env = (false, eval e X.env) :: starEach es X.env := by rfl) (hpl : (backTo pos (starEach es X.env)).any (·.1) = false := by rfl) (hK : c.K = X.K := by rfl) :
    PE X (.Call (.Name x p) (e :: es) [] pos) (rdE c (xCall f ms)) := (pe_callTy hc hg hm hv ha hn hd hst hpl).wk (tCB_rd fun _ _ _ h => hK ▸ h)
theorem pe_biL {id : String} {f : List D → R D} (hc : CallR X (.builtin id) (rnL X.K f)) (hm : X.mg x = none) (hv : bootBuiltins x = some (.builtin id)) (ha : PA X (e :: es) (rdA c ms)) (hg : Gl X x := by rfl)
    (hn : x ≠ "__name__" := by decide) (hd : (x == ("__debug__" : Str)) = false := by decide) (hst : starEach (e :: es) X.env = (false, eval e X.env) :: starEach es X.env := by rfl) (hpl : (backTo pos (starEach es X.env)).any (·.1) = false := by rfl) (hK : c.K = X.K := by rfl) :
    PE X (.Call (.Name x p) (e :: es) [] pos) (rdL c (xCall f ms)) := (pe_callB hc hg hm hv ha hn hd hst hpl).wk (tCB_rdL fun _ _ _ h => hK ▸ h)
theorem pe_tyL {T : String} {f : List D → R D} (hc : CallR X (.type T) (rnL X.K f)) (hm : X.mg x = none) (hv : bootBuiltins x = some (.type T)) (ha : PA X (e :: es) (rdA c ms)) (hg : Gl X x := by rfl)
    (hn : x ≠ "__name__" := by decide) (hd : (x == ("__debug__" : Str)) = false := by decide) (hst : starEach (e :: es) X.env = (false, eval e X.env) :: starEach es X.env := by rfl) (hpl : (backTo pos (starEach es X.env)).any (·.1) = false := by rfl) (hK : c.K = X.K := by rfl) :
    PE X (.Call (.Name x p) (e :: es) [] pos) (rdL c (xCall f ms)) := (pe_callTy hc hg hm hv ha hn hd hst hpl).wk (tCB_rdL fun _ _ _ h => hK ▸ h)
/-! ### a def of one's own -/
/-- what a def promises: a value | a new object -/
def spF (K : PySem.W.Frag) (f : List D → R D) : Sp := fun vs H Q E => ∃ M ds d, Trk M H ∧ AtL K (hid M H) ds vs ∧ f ds = .ok d ∧ ∀ v H', Ex H H' → At K (hid M H') d v → Q v H'
def spN (K : PySem.W.Frag) (f : List D → R D) : Sp := fun vs H Q E => ∃ M ds d, Trk M H ∧ AtL K (hid M H) ds vs ∧ f ds = .ok d ∧ ∀ p o H', H p = none → Ex H H' → H' p = some o → Own K (hid (p :: M) H') o d → Q (.ref p) H'
def E0' : XK := fun _ _ _ => False
theorem pass0' {P : Program} {w : World} : Passes (L2.CX P w) X E0' := fun _ _ _ _ _ _ _ ⟨_, _, _, _, _, _, _, _, _, _, _, _, h⟩ => h.elim
theorem pe_f {k : Nat} {f : Addr} {fd : FuncData} {ps : List Str} {g : List D → R D} (F : FnOk X.prog X.w X.K X.mg X.base (L2.CX X.prog X.w) k f fd ps (spF X.K g)) (hr : Room k X.A) (hm : X.mg x = some (.ref f)) (hk : PySem.W.keepIn X.K (.ref f) = true) (hb : Binds X.K fd ps [])
    (ha : PA X (e :: es) (rdA c ms)) (hg : Gl X x := by rfl) (hdb : (x == ("__debug__" : Str)) = false := by decide) (he : starEach (e :: es) X.env = (false, eval e X.env) :: starEach es X.env := by rfl) (hpl : (backTo pos (starEach es X.env)).any (·.1) = false := by rfl) (hK : c.K = X.K := by rfl) :
    PE X (.Call (.Name x p) (e :: es) [] pos) (rdE c (xCall g ms)) := (pe_call (E := E0') (dvs := []) F hr hg hm hk hb .nil pass0' ha hdb he hpl).wk fun σ H Q ⟨ε, M, re, d, hm, q⟩ => by
  obtain ⟨ds, h1, h2⟩ := R.bind_ok hm
  exact ⟨ε, M, re, ds, h1, fun vs H1 e1 hv => by
    show spF X.K g (vs ++ []) H1 Q E0'
    rw [List.append_nil]
    exact ⟨M, ds, d, Trk.ex re.trk e1, hK ▸ hv, h2, fun w H3 e3 hw => q w H3 (e1.trans e3) (hK ▸ hw)⟩⟩
theorem pe_fL {k : Nat} {f : Addr} {fd : FuncData} {ps : List Str} {g : List D → R D} (F : FnOk X.prog X.w X.K X.mg X.base (L2.CX X.prog X.w) k f fd ps (spN X.K g)) (hr : Room k X.A) (hm : X.mg x = some (.ref f)) (hk : PySem.W.keepIn X.K (.ref f) = true) (hb : Binds X.K fd ps [])
    (ha : PA X (e :: es) (rdA c ms)) (hg : Gl X x := by rfl) (hdb : (x == ("__debug__" : Str)) = false := by decide) (he : starEach (e :: es) X.env = (false, eval e X.env) :: starEach es X.env := by rfl) (hpl : (backTo pos (starEach es X.env)).any (·.1) = false := by rfl) (hK : c.K = X.K := by rfl) :
    PE X (.Call (.Name x p) (e :: es) [] pos) (rdL c (xCall g ms)) := (pe_call (E := E0') (dvs := []) F hr hg hm hk hb .nil pass0' ha hdb he hpl).wk fun σ H Q ⟨ε, M, re, d, hm, q⟩ => by
  obtain ⟨ds, h1, h2⟩ := R.bind_ok hm
  exact ⟨ε, M, re, ds, h1, fun vs H1 e1 hv => by
    show spN X.K g (vs ++ []) H1 Q E0'
    rw [List.append_nil]
    exact ⟨M, ds, d, Trk.ex re.trk e1, hK ▸ hv, h2, fun p o H3 n e3 hp ho => q p o H3 (Evl.fresh_back e1 n) (e1.trans e3) hp (hK ▸ ho)⟩⟩
/-! ### displays -/
def xTup (m : Nv → R (List D)) : Nv → R D := fun ε => (m ε).bind fun ds => .ok (.tuple ds)
def xLst (m : Nv → R (List D)) : Nv → R D := fun ε => (m ε).bind fun ds => .ok (.list ds)
theorem atL_len {K : PySem.W.Frag} {H : Hp} : ∀ {ds : List D} {vs : List V}, AtL K H ds vs → vs.length = ds.length
  | [], vs, h => by
    have e : vs = [] := h
    rw [e]
    rfl
  | d :: ds, vs, ⟨v, r, h1, _, h3⟩ => by
    rw [h1, List.length_cons, List.length_cons, atL_len h3]
theorem pe_tu {x1} (h : PA X es (rdA c ms)) (hz : es.length ≤ sizeLine := by decide) (hl : ∀ ε ds, ms ε = .ok ds → ds.length = es.length := by intro _ _ _; assumption) : PE X (.Tuple es x1 pos) (rdE c (xTup ms)) :=
  (L2.pe_tup h).wk fun σ H Q ⟨ε, M, re, d, hm, q⟩ => by
    obtain ⟨ds, h1, h2⟩ := R.bind_ok hm
    cases h2
    refine ⟨ε, M, re, ds, h1, fun vs H1 e1 hv => ⟨by rw [atL_len hv, hl ε ds h1]; exact hz, fun p n => ?_⟩⟩
    have np := (Trk.ex re.trk e1).no n
    exact q (.ref p) _ (e1.trans (Evl.Ex.new n)) ⟨p, vs, rfl, SqT.of (hid_of upd_same np), AtL.mono (hid_ex (Evl.Ex.new n)) ds vs hv⟩
theorem pe_li (h : PA X es (rdA c ms)) (hz : es.length ≤ sizeLine := by decide) (hl : ∀ ε ds, ms ε = .ok ds → ds.length = es.length := by intro _ _ _; assumption) : PE X (.List es pos) (rdL c (xLst ms)) :=
  (L2.pe_lst h).wk fun σ H Q ⟨ε, M, re, d, hm, q⟩ => by
    obtain ⟨ds, h1, h2⟩ := R.bind_ok hm
    cases h2
    refine ⟨ε, M, re, ds, h1, fun vs H1 e1 hv => ⟨by rw [atL_len hv, hl ε ds h1]; exact hz, fun p n => ?_⟩⟩
    refine q p (.lst vs) _ (Evl.fresh_back e1 n) (e1.trans (Evl.Ex.new n)) upd_same (.inl ⟨vs, ds, rfl, rfl, AtL.mono (hid_new (Evl.Ex.new n) n) ds vs hv⟩)
theorem xNil_len : ∀ (ε : Nv) ds, xNil ε = .ok ds → ds.length = ([] : List Expr).length := fun ε ds h => by cases h; rfl
theorem xCons_len {m : Nv → R D} {r : Nv → R (List D)} {e : Expr} {es : List Expr} (h : ∀ ε ds, r ε = .ok ds → ds.length = es.length) : ∀ ε ds, xCons m r ε = .ok ds → ds.length = (e :: es).length := fun ε ds hm => by
  obtain ⟨d, h1, h2⟩ := R.bind_ok hm
  obtain ⟨dr, h3, h4⟩ := R.bind_ok h2
  cases h4
  rw [List.length_cons, List.length_cons, h ε dr h3]
/-! ### what is one's own, read as data for a flat answer -/
def th : Nv → Nv := List.map fun | .mu d => .im d | s => s
theorem gt_th : ∀ (ε : Nv) (i : Nat), gt (th ε) i = match gt ε i with | .mu d => .im d | s => s
  | [], _ => rfl
  | _ :: _, 0 => rfl
  | _ :: r, i + 1 => gt_th r i
theorem Rel.th {σ : L2.St} {H : Hp} {ε : Nv} {M : List Addr} (r : Rel c σ H ε M) : Rel c σ H (th ε) c.M0 where
  ext := r.ext
  len := r.len.trans (List.length_map _).symm
  sub := fun _ h => h
  trk := fun a h => r.trk a (r.sub a h)
  old := r.old
  im := fun i d h => by
    rw [gt_th] at h
    cases e : gt ε i with
    | no => rw [e] at h; cases h
    | im f =>
      rw [e] at h
      cases h
      obtain ⟨v, h1, h2⟩ := r.im i _ e
      exact ⟨v, h1, At.mono (hid_sub r.sub) _ v h2⟩
    | mu f =>
      rw [e] at h
      cases h
      obtain ⟨a, o, h1, h2, h3, h4, h5⟩ := r.mu i _ e
      exact ⟨_, h1, Own.at (hid_of h4 fun z => r.old a z h3) (h5.mono (hid_sub r.sub))⟩
  mu := fun i d h => by
    rw [gt_th] at h
    cases e : gt ε i with
    | no => rw [e] at h; cases h
    | im f => rw [e] at h; cases h
    | mu f => rw [e] at h; cases h
  dis := fun i j d e a b _ h _ _ _ => by
    rw [gt_th] at h
    cases q : gt ε i with
    | no => rw [q] at h; cases h
    | im f => rw [q] at h; cases h
    | mu f => rw [q] at h; cases h
def xTh (m : Nv → R D) : Nv → R D := fun ε => (m (th ε)).bind fun d => if flat d then .ok d else .bad
def tTh (m : Nv → R Bool) : Nv → R Bool := fun ε => m (th ε)
theorem pe_th {m : Nv → R D} (h : PE X e (rdE c m)) : PE X e (rdE c (xTh m)) := h.wk fun σ H Q ⟨ε, M, re, d, hm, q⟩ => by
  obtain ⟨d', h1, h2⟩ := R.bind_ok hm
  by_cases hf : flat d' = true
  · rw [if_pos hf] at h2
    cases h2
    exact ⟨_, _, re.th, d, h1, fun v H' e' hv => q v H' e' (At.flat hf hv)⟩
  · rw [if_neg hf] at h2
    cases h2
theorem pt_th {m : Nv → R Bool} (h : PT X e (rdT c m)) : PT X e (rdT c (tTh m)) := h.wk fun σ H Q ⟨ε, M, re, d, hm, q⟩ => ⟨_, _, re.th, d, hm, q⟩
/-! ### tests -/
end
end Tw
set_option Elab.async false
set_option linter.all false
set_option maxRecDepth 100000
set_option maxHeartbeats 4000000
/-! Tw3: operators, builtins over data -/
namespace Tw
open PySem PySem.Spec PyProof.Rows L2
/-! ### data are read -/
section
variable {X : Cx} {pins : List (Addr × Obj)} {σ : L2.St} {H : Hp} {s : Shared}
mutual
theorem At.dp {K : PySem.W.Frag} : ∀ (d : D) (v : V), d.plain = true → At K H d v → Dp K H v d
  | .none, v, _, h => by
    have e : v = .non := h
    rw [e]
    exact .non
  | .bool b, v, _, h => by
    have e : v = .bl b := h
    rw [e]
    exact .bl b
  | .int i, v, _, h => by
    have e : v = .int i := h
    rw [e]
    exact .int i
  | .str x, v, _, h => by
    have e : v = .str x := h
    rw [e]
    exact .str x
  | .list ds, v, p, h => by
    obtain ⟨a, xs, h1, h2, h3⟩ := h
    rw [h1]
    exact .lst h2 (AtL.dp ds xs (by simpa only [PyData.plain] using p) h3)
  | .tuple ds, v, p, h => by
    obtain ⟨a, xs, h1, h2, h3⟩ := h
    rw [h1]
    exact .tup h2 (AtL.dp ds xs (by simpa only [PyData.plain] using p) h3)
  | .dict es, v, p, h => by simp [PyData.plain] at p
theorem AtL.dp {K : PySem.W.Frag} : ∀ (ds : List D) (vs : List V), PyData.plainAll ds = true → AtL K H ds vs → DpAll K H vs ds
  | [], vs, _, h => by
    have e : vs = [] := h
    rw [e]
    exact .nil
  | d :: ds, vs, p, h => by
    obtain ⟨v, r, h1, h2, h3⟩ := h
    rw [h1]
    have p' : (d.plain && PyData.plainAll ds) = true := by simpa only [PyData.plainAll] using p
    rw [Bool.and_eq_true] at p'
    exact .cons (At.dp d v p'.1 h2) (AtL.dp ds r p'.2 h3)
end
theorem At.reads (I : Inv X pins σ H s) {d : D} {v : V} {u : Value} {M : List Addr} (p : d.plain = true) (h : At X.K (hid M H) d v) (r : RelV v u) : ∃ as, Reads s.heap u d as :=
  Dp.reads I d v u (At.dp d v p (At.mono hid_le d v h)) r
theorem AtL.get {K : PySem.W.Frag} : ∀ {ds : List D} {vs : List V} {i : Nat} {d : D}, AtL K H ds vs → ds[i]? = some d → ∃ v, vs[i]? = some v ∧ At K H d v
  | [], _, _, _, _, h => by simp at h
  | d :: ds, vs, 0, e, ⟨v, r, h1, h2, h3⟩, h => by
    simp at h
    subst h
    rw [h1]
    exact ⟨v, rfl, h2⟩
  | d :: ds, vs, i + 1, e, ⟨v, r, h1, h2, h3⟩, h => by
    rw [h1]
    obtain ⟨w, q1, q2⟩ := AtL.get (i := i) h3 (by simpa using h)
    exact ⟨w, by simpa using q1, q2⟩
theorem AtL.get' {K : PySem.W.Frag} : ∀ {ds : List D} {vs : List V} {i : Nat} {v : V}, AtL K H ds vs → vs[i]? = some v → ∃ d, ds[i]? = some d ∧ At K H d v
  | [], vs, i, v, h, q => by
    have e : vs = [] := h
    rw [e] at q
    simp at q
  | d :: ds, vs, 0, e, ⟨v, r, h1, h2, h3⟩, h => by
    rw [h1] at h
    simp at h
    subst h
    exact ⟨d, rfl, h2⟩
  | d :: ds, vs, i + 1, e, ⟨v, r, h1, h2, h3⟩, h => by
    rw [h1] at h
    obtain ⟨w, q1, q2⟩ := AtL.get' (i := i) h3 (by simpa using h)
    exact ⟨w, by simpa using q1, q2⟩
theorem AtL.app {K : PySem.W.Frag} : ∀ {ds es : List D} {vs ws : List V}, AtL K H ds vs → AtL K H es ws → AtL K H (ds ++ es) (vs ++ ws)
  | [], es, vs, ws, h, g => by
    have e : vs = [] := h
    rw [e]
    exact g
  | d :: ds, es, vs, ws, ⟨v, r, h1, h2, h3⟩, g => by
    rw [h1]
    exact ⟨v, r ++ ws, rfl, h2, AtL.app h3 g⟩
theorem AtL.take {K : PySem.W.Frag} : ∀ (n : Nat) {ds : List D} {vs : List V}, AtL K H ds vs → AtL K H (ds.take n) (vs.take n)
  | 0, _, _, _ => rfl
  | n + 1, [], vs, h => by
    have e : vs = [] := h
    rw [e]
    rfl
  | n + 1, d :: ds, vs, ⟨v, r, h1, h2, h3⟩ => by
    rw [h1]
    exact ⟨v, r.take n, rfl, h2, AtL.take n h3⟩
theorem AtL.drop {K : PySem.W.Frag} : ∀ (n : Nat) {ds : List D} {vs : List V}, AtL K H ds vs → AtL K H (ds.drop n) (vs.drop n)
  | 0, _, _, h => h
  | n + 1, [], vs, h => by
    have e : vs = [] := h
    rw [e]
    rfl
  | n + 1, d :: ds, vs, ⟨v, r, h1, h2, h3⟩ => by
    rw [h1]
    exact AtL.drop n h3
theorem AtL.set {K : PySem.W.Frag} {d : D} {v : V} (h : At K H d v) : ∀ (n : Nat) {ds : List D} {vs : List V}, AtL K H ds vs → AtL K H (ds.set n d) (vs.set n v)
  | _, [], vs, h => by
    have e : vs = [] := h
    rw [e]
    rfl
  | 0, e :: ds, vs, ⟨w, r, h1, h2, h3⟩ => by
    rw [h1]
    exact ⟨v, r, rfl, h, h3⟩
  | n + 1, e :: ds, vs, ⟨w, r, h1, h2, h3⟩ => by
    rw [h1]
    exact ⟨w, r.set n v, rfl, h2, AtL.set h n h3⟩
theorem AtL.ints {K : PySem.W.Frag} : ∀ {ns : List Int} {vs : List V}, AtL K H (ns.map PyData.int) vs → vs = ns.map V.int
  | [], vs, h => h
  | n :: ns, vs, ⟨v, r, h1, h2, h3⟩ => by
    have e : v = .int n := h2
    rw [h1, e, AtL.ints h3]
    rfl
theorem AtL.bools {K : PySem.W.Frag} : ∀ {ns : List Bool} {vs : List V}, AtL K H (ns.map PyData.bool) vs → vs = ns.map V.bl
  | [], vs, h => h
  | n :: ns, vs, ⟨v, r, h1, h2, h3⟩ => by
    have e : v = .bl n := h2
    rw [h1, e, AtL.bools h3]
    rfl
theorem vals_each {K : PySem.W.Frag} {M : List Addr} : ∀ {ds : List D} {vs : List V} {us : List Value}, AtL K (hid M H) ds vs → Vals vs us → PySem.W.EachIs (fun u d => ∃ v, RelV v u ∧ At K (hid M H) d v) us ds
  | [], vs, us, h, r => by
    have e : vs = [] := h
    rw [e] at r
    cases r
    exact .nil
  | d :: ds, vs, us, ⟨v, r, h1, h2, h3⟩, rv => by
    rw [h1] at rv
    cases rv with
    | cons a b => exact .cons ⟨v, a, h2⟩ (vals_each h3 b)
theorem each_vals {K : PySem.W.Frag} {M : List Addr} : ∀ {ds : List D} {us : List Value}, PySem.W.EachIs (fun u d => ∃ v, RelV v u ∧ At K (hid M H) d v) us ds → ∃ vs, Vals vs us ∧ AtL K (hid M H) ds vs
  | _, _, .nil => ⟨[], .nil, rfl⟩
  | _, _, .cons ⟨v, r, h⟩ t => by
    obtain ⟨vs, h1, h2⟩ := each_vals t
    exact ⟨v :: vs, .cons r h1, v, vs, rfl, h, h2⟩
end
/-! ### what the programs do with data -/
def lim : Nat := 1000000
theorem lim_le {n : Nat} (h : n ≤ lim) : n ≤ sizeLine := Nat.le_trans h (by decide)
theorem lim_lt {n : Nat} (h : n ≤ lim) : n < sizeLine := Nat.lt_of_le_of_lt h (by decide)
def dAdd : D → D → R D
  | .int i, .int j => .ok (.int (i + j))
  | .list xs, .list ys => if xs.length + ys.length ≤ lim then .ok (.list (xs ++ ys)) else .bad
  | .tuple xs, .tuple ys => if xs.length + ys.length ≤ lim then .ok (.tuple (xs ++ ys)) else .bad
  | .str x, .str y => if x.length + y.length ≤ lim then .ok (.str (x ++ y)) else .bad
  | _, _ => .bad
def dSub : D → D → R D
  | .int i, .int j => .ok (.int (i - j))
  | _, _ => .bad
def dMul : D → D → R D
  | .int i, .int j => if i.natAbs.log2 + j.natAbs.log2 < 1000000 then .ok (.int (i * j)) else .bad
  | _, _ => .bad
def dRep : D → D → R D
  | .list xs, .int k => if k ≤ 1000000 ∧ -1000000 ≤ k ∧ xs.length * k.toNat ≤ lim then .ok (.list (List.replicate k.toNat xs).flatten) else .bad
  | _, _ => .bad
def dCat : D → D → R D
  | .list xs, .list ys => if xs.length + ys.length ≤ lim then .ok (.list (xs ++ ys)) else .bad
  | _, _ => .bad
def dDiv : D → D → R D
  | .int i, .int j => if 0 < j ∧ j.natAbs.log2 < 9000 then .ok (.int (i / j)) else .bad
  | _, _ => .bad
def dMod : D → D → R D
  | .int i, .int j => if 0 < j then .ok (.int (i % j)) else .bad
  | _, _ => .bad
def dPow : D → D → R D
  | .int i, .int j => if 0 ≤ j ∧ j ≤ 1000000 ∧ i.natAbs < 2 ^ 64 then .ok (.int (i ^ j.toNat)) else .bad
  | _, _ => .bad
def dNeg : D → R D
  | .int i => .ok (.int (-i))
  | _ => .bad
def okd (d : D) : Bool := d.plain && decide (d.depth ≤ 60)
def dEq (a b : D) : R D := if okd a && okd b then .ok (.bool (PyData.eqv a b)) else .bad
def dNe (a b : D) : R D := if okd a && okd b then .ok (.bool (!PyData.eqv a b)) else .bad
def ordd (a b : D) : Bool := okd a && okd b && PySem.W.alike a b && (match a with | .none => false | _ => true)
def dLt (a b : D) : R D := match a, b with
  | .int i, .int j => .ok (.bool (decide (i < j)))
  | a, b => if ordd a b then .ok (.bool (PySem.W.dataLt a b)) else .bad
def dLe (a b : D) : R D := match a, b with
  | .int i, .int j => .ok (.bool (decide (i ≤ j)))
  | a, b => if ordd a b then .ok (.bool (!PySem.W.dataLt b a)) else .bad
def dGt (a b : D) : R D := match a, b with
  | .int i, .int j => .ok (.bool (decide (j < i)))
  | a, b => if ordd a b then .ok (.bool (PySem.W.dataLt b a)) else .bad
def dGe (a b : D) : R D := match a, b with
  | .int i, .int j => .ok (.bool (decide (j ≤ i)))
  | a, b => if ordd a b then .ok (.bool (!PySem.W.dataLt a b)) else .bad
def isNone : D → Bool
  | .none => true
  | _ => false
def dIs (a b : D) : R D := if isNone b then .ok (.bool (isNone a)) else .bad
def dIsNot (a b : D) : R D := if isNone b then .ok (.bool (!isNone a)) else .bad
def dIn (a b : D) : R D := match b with
  | .list xs => if okd a && okd (.list xs) then .ok (.bool (xs.any fun y => PyData.eqv y a)) else .bad
  | .tuple xs => if okd a && okd (.tuple xs) then .ok (.bool (xs.any fun y => PyData.eqv y a)) else .bad
  | _ => .bad
def dNotIn (a b : D) : R D := match b with
  | .list xs => if okd a && okd (.list xs) then .ok (.bool (!xs.any fun y => PyData.eqv y a)) else .bad
  | .tuple xs => if okd a && okd (.tuple xs) then .ok (.bool (!xs.any fun y => PyData.eqv y a)) else .bad
  | _ => .bad
def dIx (a b : D) : R D := match a, b with
  | .list xs, .int i => match atI xs i with | some d => .ok d | none => .bad
  | .tuple xs, .int i => match atI xs i with | some d => .ok d | none => .bad
  | _, _ => .bad
def cLen : List D → R D
  | [.list xs] => .ok (.int xs.length)
  | [.tuple xs] => .ok (.int xs.length)
  | _ => .bad
def cAbs : List D → R D
  | [.int i] => .ok (.int (if i < 0 then -i else i))
  | _ => .bad
def cMax2 : List D → R D
  | [.int i, .int j] => .ok (.int (if j > i then j else i))
  | _ => .bad
def cMin2 : List D → R D
  | [.int i, .int j] => .ok (.int (if j < i then j else i))
  | _ => .bad
def cInt : List D → R D
  | [.int i] => .ok (.int i)
  | [.bool b] => .ok (.int (if b then 1 else 0))
  | _ => .bad
def intsOf : List D → Option (List Int)
  | [] => some []
  | .int i :: r => match intsOf r with | some l => some (i :: l) | none => none
  | _ :: _ => none
theorem intsOf_some : ∀ {ds : List D} {l : List Int}, intsOf ds = some l → ds = l.map PyData.int
  | [], l, h => by
    cases h
    rfl
  | .int i :: r, l, h => by
    unfold intsOf at h
    cases e : intsOf r with
    | none => rw [e] at h; cases h
    | some q =>
      rw [e] at h
      cases h
      rw [intsOf_some e]
      rfl
  | .none :: r, l, h => by cases h
  | .bool _ :: r, l, h => by cases h
  | .str _ :: r, l, h => by cases h
  | .list _ :: r, l, h => by cases h
  | .tuple _ :: r, l, h => by cases h
  | .dict _ :: r, l, h => by cases h
theorem intsOf_map : ∀ l : List Int, intsOf (l.map PyData.int) = some l
  | [] => rfl
  | i :: r => by
    show (match intsOf (r.map PyData.int) with | some l => some (i :: l) | none => none) = _
    rw [intsOf_map r]
def boolsOf : List D → Option (List Bool)
  | [] => some []
  | .bool i :: r => match boolsOf r with | some l => some (i :: l) | none => none
  | _ :: _ => none
theorem boolsOf_some : ∀ {ds : List D} {l : List Bool}, boolsOf ds = some l → ds = l.map PyData.bool
  | [], l, h => by
    cases h
    rfl
  | .bool i :: r, l, h => by
    unfold boolsOf at h
    cases e : boolsOf r with
    | none => rw [e] at h; cases h
    | some q =>
      rw [e] at h
      cases h
      rw [boolsOf_some e]
      rfl
  | .none :: r, l, h => by cases h
  | .int _ :: r, l, h => by cases h
  | .str _ :: r, l, h => by cases h
  | .list _ :: r, l, h => by cases h
  | .tuple _ :: r, l, h => by cases h
  | .dict _ :: r, l, h => by cases h
theorem boolsOf_map : ∀ l : List Bool, boolsOf (l.map PyData.bool) = some l
  | [] => rfl
  | i :: r => by
    show (match boolsOf (r.map PyData.bool) with | some l => some (i :: l) | none => none) = _
    rw [boolsOf_map r]
def cSum : List D → R D
  | [.list xs] => match intsOf xs with | some l => .ok (.int l.sum) | none => .bad
  | _ => .bad
def cAll : List D → R D
  | [.list xs] => match boolsOf xs with | some l => .ok (.bool (l.all id)) | none => .bad
  | _ => .bad
def cAny : List D → R D
  | [.list xs] => match boolsOf xs with | some l => .ok (.bool (l.any id)) | none => .bad
  | _ => .bad
def cMin : List D → R D
  | [.list (x :: xs)] => if okd (.list (x :: xs)) && PySem.W.alikeAll (x :: xs) (x :: xs) then (if (xs.all fun y => PySem.W.alike x y) then .ok (PySem.W.minD x xs) else .bad) else .bad
  | _ => .bad
def cRepr : List D → R D
  | [d] => if okd d && d.showable && decide (d.shown.length ≤ lim) then .ok (.str d.shown) else .bad
  | _ => .bad
end Tw
set_option Elab.async false
set_option linter.all false
set_option maxRecDepth 100000
set_option maxHeartbeats 4000000
/-! Tw4: defs whose callers' guards are known; the law's call -/
namespace Tw
open PySem PySem.Spec PyProof.Rows L2
/-- a def's promise where no guarded walk (a repr under way) is around -/
structure FnG (P : Program) (w : World) (K : PySem.W.Frag) (mg : Str → Option Value) (base : Heap) (k : Nat) (f : Addr) (fd : FuncData) (ps : List Str) (sp : Sp) : Prop where
  len : ∀ vs H Q E, sp vs H Q E → vs.length = ps.length
  run : ∀ (A : Around) (outer : List PySem.Env) (s : Shared) (H : Hp) (args : Args) (us : List Value) (vs : List V) (Q : VK) (E : XK), Room k A → A.guards = some [] → Env0 P w K mg base A outer s H → BindsTo s fd args (ps.zip us) → Vals vs us → sp vs H Q E →
    codeAny (model P w) A (.call (.ref f) args) (CR (L2.CX P w) outer P w H s Q E) s
theorem FnG.mono {P : Program} {w : World} {K : PySem.W.Frag} {mg : Str → Option Value} {base : Heap} {j k : Nat} {f : Addr} {fd : FuncData} {ps : List Str} {sp : Sp} (F : FnG P w K mg base j f fd ps sp) (h : j ≤ k) : FnG P w K mg base k f fd ps sp :=
  ⟨F.len, fun A outer s H args us vs Q E r => F.run A outer s H args us vs Q E (r.mono h)⟩
section
variable {P : Program} {w : World} {K : PySem.W.Frag} {mg : Str → Option Value} {base : Heap}
/-- from the body: cell names, parameters, the frame as the machine lays them -/
theorem fnG_of {x qual : Str} {st : Stmt} {f : Addr} {fd : FuncData} {N ps : List Str} {k : Nat} {sp : Sp} (F : Fun K x qual st f fd) (S : FnScope N ps (defScope st)) (len : ∀ vs H Q E, sp vs H Q E → vs.length = ps.length)
    (body : ∀ (cdv : Value) (A : Around) (outer : List PySem.Env) (s : Shared) (H : Hp) (vs : List V) (Q : VK) (E : XK), Room k (A.deeper (envOfC qual (defScope st) s.heap.objs.size f cdv)) → A.guards = some [] → sp vs H Q E →
      ∃ t, PSs (cxOf (L2.CX P w) P w K mg base N qual (defScope st) f cdv A outer s H E) (defBody st) t ∧ t { nx := fun _ H' => Q .non H', rt := Q } (start N vs) H) : FnG P w K mg base (k + 1) f fd ps sp := by
  obtain ⟨oc, od, kV, doc, pm, an, cdv, ct, osl, e, look, code⟩ := F.ex
  subst e
  constructor
  · exact len
  intro A outer s H args us vs Q E room guards start0 bound vals want
  have inK : K.In s.heap := start0.mod.kin.keeps fun b o q => (start0.bs b o q).1
  have noLim : s.heap.NoLimit := start0.mod.nolimit.keeps fun b o q => (start0.bs b o q).1
  have kinds : ∀ y ∈ ps.zip us, (defScope st).names.lookup y.1 = some .local ∨ ((defScope st).names.lookup y.1 = some .cell ∧ ((cellsFrom (s.heap.objs.size + 1) (defScope st).names []).lookup y.1).isSome = true) := by
    intro y hy
    cases S.par y.1 (List.of_mem_zip (show (y.1, y.2) ∈ ps.zip us from hy)).1 with
    | inl q => exact Or.inl q
    | inr q => exact Or.inr ⟨q, PySem.W.cellsFrom_some _ _ _ (Or.inl q)⟩
  apply codeAny_call_function room.depth (inK _ _ look) rfl S.co S.gen rfl (PySem.W.codeRec_of inK code)
  apply bound
  apply wpAny_newFunctionEnv_cells S.kind kinds
  intro env henv s1 made
  subst henv
  constructor
  · exact noLim.keeps made.toInCall.keep
  apply codeAny_func
  obtain ⟨t, reads, holds⟩ := body cdv A outer s H vs Q E (room.deeper _) guards want
  have J : Inv (cxOf (L2.CX P w) P w K mg base N qual (defScope st) f cdv A outer s H E) [] (start N vs) H s1 := inv_start S room.hd start0 (len vs H Q E want) vals made
  apply wpAny_mono (reads.run [] s1 (start N vs) H _ J holds)
  · intro flow s' done
    match flow, done with
    | .ret u, ⟨v, σ', H', J', rel, q⟩ => exact ⟨v, H', J'.os, J'.bare, J'.base, J'.hok, rel, q⟩
    | .next, ⟨σ', H', J', q⟩ => exact ⟨V.non, H', J'.os, J'.bare, J'.base, J'.hok, rfl, q⟩
    | .brk, ⟨_, _, _, q⟩ => exact q.elim
    | .cont, ⟨_, _, _, q⟩ => exact q.elim
  · intro e s' q
    exact q
end
section
variable {X : Cx} {c : Cf} {ms : Nv → R (List D)} {pos p : Pos} {x : Str} {e : Expr} {es : List Expr}
theorem runG {k : Nat} {f : Addr} {fd : FuncData} {ps : List Str} {sp : Sp} {E : XK} (F : FnG X.prog X.w X.K X.mg X.base k f fd ps sp) (hr : Room k X.A) (hG : X.A.guards = some []) (hb : Binds X.K fd ps []) (hx : Passes (L2.CX X.prog X.w) X E)
    {pins : List (Addr × Obj)} {σ : L2.St} {H : Hp} {s : Shared} {Q : VK} {us : List Value} {vs : List V} (I : Inv X pins σ H s) (r : Vals vs us) (h : sp vs H Q E) : wpAny (model X.prog X.w) X.A (call (.ref f) us) (EP X pins σ Q) X.xe s := by
  have n : (us ++ []).length = ps.length := by
    rw [List.append_nil, ← r.length]
    exact F.len vs H Q E h
  have b := hb s us I.kIn n
  rw [List.append_nil] at b
  apply wpAny_call
  apply codeAny_mono (F.run X.A X.stack s H ⟨us, []⟩ us vs Q E hr hG I.env0 b r h)
  intro res s' q
  match res, q with
  | .error err, q => exact hx pins σ H s err s' I q
  | .ok (.ret u), q => exact I.after q
  | .ok .next, q => exact q.elim
  | .ok .brk, q => exact q.elim
  | .ok .cont, q => exact q.elim
theorem pe_callG {k : Nat} {f : Addr} {fd : FuncData} {ps : List Str} {sp : Sp} {E : XK} {t : TA} (F : FnG X.prog X.w X.K X.mg X.base k f fd ps sp) (hr : Room k X.A) (hG : X.A.guards = some []) (hm : X.mg x = some (.ref f)) (hk : PySem.W.keepIn X.K (.ref f) = true) (hb : Binds X.K fd ps [])
    (hx : Passes (L2.CX X.prog X.w) X E) (ha : PA X (e :: es) t) (hg : Gl X x) (hdb : (x == ("__debug__" : Str)) = false) (he : starEach (e :: es) X.env = (false, eval e X.env) :: starEach es X.env) (hpl : (backTo pos (starEach es X.env)).any (·.1) = false) :
    PE X (.Call (.Name x p) (e :: es) [] pos) (fun σ H Q => t σ H fun vs H1 => sp vs H1 Q E) := by
  constructor
  intro pins s σ H Q I h
  apply wpAny_Call_Name_kw
  apply ld_glob I hg hm _ hdb
  apply PySem.W.callWith_K (h₀ := X.base) I.ok.mod.kin hk _ he hpl
  apply thn (ha.run pos pins s σ H _ I h)
  intro us s1 ⟨vs, H1, I1, r, q⟩
  exact ⟨I1.kIn, runG F hr hG hb hx I1 r q⟩
theorem pe_callG0 {k : Nat} {f : Addr} {fd : FuncData} {ps : List Str} {sp : Sp} {E : XK} (F : FnG X.prog X.w X.K X.mg X.base k f fd ps sp) (hr : Room k X.A) (hG : X.A.guards = some []) (hm : X.mg x = some (.ref f)) (hk : PySem.W.keepIn X.K (.ref f) = true) (hb : Binds X.K fd ps [])
    (hx : Passes (L2.CX X.prog X.w) X E) (hg : Gl X x) (hdb : (x == ("__debug__" : Str)) = false) : PE X (.Call (.Name x p) [] [] pos) (fun σ H Q => sp [] H Q E) := by
  constructor
  intro pins s σ H Q I h
  apply wpAny_Call_Name_kw
  apply ld_glob I hg hm _ hdb
  exact PySem.W.callWith_K0 I.kIn hk (runG (us := []) F hr hG hb hx I .nil h)
theorem pf {k : Nat} {f : Addr} {fd : FuncData} {ps : List Str} {g : List D → R D} (F : FnG X.prog X.w X.K X.mg X.base k f fd ps (spF X.K g)) (hr : Room k X.A) (hG : X.A.guards = some []) (hm : X.mg x = some (.ref f)) (hk : PySem.W.keepIn X.K (.ref f) = true) (hb : Binds X.K fd ps [])
    (ha : PA X (e :: es) (rdA c ms)) (hg : Gl X x := by rfl) (hdb : (x == ("__debug__" : Str)) = false := by decide) (he : starEach (e :: es) X.env = (false, eval e X.env) :: starEach es X.env := by rfl) (hpl : (backTo pos (starEach es X.env)).any (·.1) = false := by rfl) (hK : c.K = X.K := by rfl) :
    PE X (.Call (.Name x p) (e :: es) [] pos) (rdE c (xCall g ms)) := (pe_callG (E := E0') F hr hG hm hk hb pass0' ha hg hdb he hpl).wk fun σ H Q ⟨ε, M, re, d, hm, q⟩ => by
  obtain ⟨ds, h1, h2⟩ := R.bind_ok hm
  exact ⟨ε, M, re, ds, h1, fun vs H1 e1 hv => ⟨M, ds, d, Trk.ex re.trk e1, hK ▸ hv, h2, fun w H3 e3 hw => q w H3 (e1.trans e3) (hK ▸ hw)⟩⟩
theorem pfL {k : Nat} {f : Addr} {fd : FuncData} {ps : List Str} {g : List D → R D} (F : FnG X.prog X.w X.K X.mg X.base k f fd ps (spN X.K g)) (hr : Room k X.A) (hG : X.A.guards = some []) (hm : X.mg x = some (.ref f)) (hk : PySem.W.keepIn X.K (.ref f) = true) (hb : Binds X.K fd ps [])
    (ha : PA X (e :: es) (rdA c ms)) (hg : Gl X x := by rfl) (hdb : (x == ("__debug__" : Str)) = false := by decide) (he : starEach (e :: es) X.env = (false, eval e X.env) :: starEach es X.env := by rfl) (hpl : (backTo pos (starEach es X.env)).any (·.1) = false := by rfl) (hK : c.K = X.K := by rfl) :
    PE X (.Call (.Name x p) (e :: es) [] pos) (rdL c (xCall g ms)) := (pe_callG (E := E0') F hr hG hm hk hb pass0' ha hg hdb he hpl).wk fun σ H Q ⟨ε, M, re, d, hm, q⟩ => by
  obtain ⟨ds, h1, h2⟩ := R.bind_ok hm
  exact ⟨ε, M, re, ds, h1, fun vs H1 e1 hv => ⟨M, ds, d, Trk.ex re.trk e1, hK ▸ hv, h2, fun p o H3 n e3 hp ho => q p o H3 (Evl.fresh_back e1 n) (e1.trans e3) hp (hK ▸ ho)⟩⟩
end
/-! ### the law's own call -/
theorem law_callG {P : Program} {w : World} {K : PySem.W.Frag} {mg mb : Str → Option Value} {k : Nat} {fa a : Addr} {fd : FuncData} {x : Str} {sp : Sp} {s₁ : Shared} {vs : List Value} {ns : List Int}
    (KX : K.In s₁.heap) (hns : s₁.heap.Ns mainGlobals mg) (hb : s₁.heap.Ns builtinsNs mb) (hbb : ∀ x : Str, x ≠ "__name__" → mb x = bootBuiltins x) (hlim : s₁.heap.NoLimit) (hg : s₁.gens = #[])
    (ha : s₁.heap.get? a = some { cls := .type "list", data := .seq vs.toArray }) (hi : IntsAre vs ns) (hl : ns.length ≤ sizeLine) (hr : Room k callerA)
    (F : ∀ base : Heap, K.In base → base.Ns mainGlobals mg → FnG P w K mg base k fa fd [x] sp) (hbind : ∀ (s : Shared) (u : Value), BindsTo s fd ⟨[u], []⟩ [(x, u)])
    (hsp : ∀ H : Hp, Only H → SqL K H a (ns.map V.int) → sp [.ref a] H (fun v _ => v = .bl true) fun _ _ _ => False) :
    codeAny (model P w) callerA (.call (.ref fa) ⟨[.ref a], []⟩) (fun r s' => r = .ok (.ret (.bool true)) ∧ OldK s₁.heap s'.heap ∧ s'.os = s₁.os ∧ AllBare s'.gens) s₁ := by
  have go : ∀ H : Hp, Only H → SqL K H a (ns.map V.int) → HOk P w H s₁.heap → (∀ b, H b ≠ none → b = a) → (H a ≠ none → K.lookup a = none) →
      codeAny (model P w) callerA (.call (.ref fa) ⟨[.ref a], []⟩) (fun r s' => r = .ok (.ret (.bool true)) ∧ OldK s₁.heap s'.heap ∧ s'.os = s₁.os ∧ AllBare s'.gens) s₁ := by
    intro H only list held just notK
    have free : ∀ b, b ≠ a → H b = none := by
      intro b nb
      cases q : H b with
      | none => rfl
      | some u => exact absurd (just b (by rw [q]; intro z; cases z)) nb
    have freeK : ∀ b o, K.lookup b = some o → H b = none := by
      intro b o hb
      by_cases e : b = a
      · cases q : H b with
        | none => rfl
        | some u =>
          have := notK (by rw [← e, q]; intro z; cases z)
          rw [← e, hb] at this
          cases this
      · exact free b e
    have kinB : K.In (hidT s₁.heap H) := fun b o hb => hidT_get (KX b o hb) (freeK b o hb)
    have names : ∀ (b : Addr) (m : Str → Option Value), s₁.heap.Ns b m → (hidT s₁.heap H).Ns b m := by
      intro b m ⟨o, es, ep, h1, h2, h3⟩
      have nb : b ≠ a := by
        intro e
        rw [e, ha] at h1
        cases h1
        cases h2
      exact ⟨o, es, ep, hidT_get h1 (free b nb), h2, h3⟩
    have modB : Mod K mg (hidT s₁.heap H) := by
      refine ⟨kinB, names _ _ hns, ⟨mb, names _ _ hb, hbb⟩, ?_⟩
      obtain ⟨mc, l1, l2⟩ := hlim
      exact ⟨mc, names _ _ l1, l2⟩
    have env : Env0 P w K mg (hidT s₁.heap H) callerA [] s₁ H := by
      refine ⟨rfl, modB, fun b o q => of_hidT q, Nat.le_of_eq (hidT_size _ _), trivial, ?_, held, .of_eq hg⟩
      intro b z
      cases z
    refine codeAny_mono ((F _ kinB (names _ _ hns)).run callerA [] s₁ H ⟨[.ref a], []⟩ [.ref a] [.ref a] _ _ hr rfl env (hbind s₁ (.ref a)) (.cons rfl .nil) (hsp H only list)) ?_
    intro res s' q
    match res, q with
    | .error e, ⟨_, _, _, _, _, _, _, _, _, _, _, _, z⟩ => exact z.elim
    | .ok .next, z => exact z.elim
    | .ok .brk, z => exact z.elim
    | .ok .cont, z => exact z.elim
    | .ok (.ret u), ⟨v, H', os, bare, un, held', rel, e⟩ =>
      subst e
      have eu : u = Value.bool true := rel
      subst eu
      refine ⟨rfl, OldK.of_keep ?_, os, bare⟩
      intro b o hb
      cases q : H b with
      | none =>
        exact un.keep b o hb q (fun z => by cases z) (fun z => by cases z)
      | some u =>
        rcases only b with n | ⟨ob, xs, f⟩
        · rw [q] at n
          cases n
        · have one := (held b _ f).1
          have two := (held' b _ (un.frzs b ob _ f)).1
          rw [hb] at one
          cases one
          exact two
  cases look : K.lookup a with
  | none =>
    refine go (fun b => if b = a then some (.frz { cls := .type "list", data := .seq vs.toArray } (.lst (ns.map V.int))) else none) ?_ (Or.inl (Or.inr ⟨_, if_pos rfl⟩)) ?_ ?_ (fun _ => look)
    · intro b
      by_cases e : b = a
      · exact Or.inr ⟨_, _, if_pos e⟩
      · exact Or.inl (if_neg e)
    · intro b u q
      by_cases e : b = a
      · have q' := (if_pos e).symm.trans q
        cases q'
        subst e
        exact ⟨ha, by rw [List.length_map]; exact hl, vs, _, vals_ints hi, ha⟩
      · have q' := (if_neg e).symm.trans q
        cases q'
    · intro b z
      by_cases e : b = a
      · exact e
      · exact absurd (if_neg e) z
  | some o =>
    have same := KX a o look
    rw [ha] at same
    cases same
    refine go (fun _ => none) (fun _ => Or.inl rfl) (Or.inr ⟨_, vs.toArray, _, look, rfl, rfl, rfl, ?_, ?_⟩) (fun b u q => by cases q) (fun b z => absurd rfl z) (fun z => absurd rfl z)
    · rw [List.size_toArray, hi.length]
      exact hl
    · simpa using vals_ints hi
/-- the goal that the head leaves, from the law's promise -/
theorem walkG {l : PySem.W.OpenLaw} {n k : Nat} {q : Program} {loose : List Str} {XP : (Str → Option Value) → Heap → Prop} {YP : World → Heap → Prop} {d : DefRec} {K : Params → PySem.W.Frag} {sp : World → Sp} {x : Str}
    (hn : l.most = some n) (hn2 : n ≤ sizeLine) (hdf : d.params.defaults = []) (hr : Room k callerA) (hY : ∀ (w : World) (h : Heap), YP w h → (K w.params).In h)
    (F : ∀ (w : World) (mg : Str → Option Value) (fa : Addr) (h : Heap), (K w.params).In h → h.Ns mainGlobals mg → mg d.name = some (.ref fa) →
      ∃ fd : FuncData, (∀ (s : Shared) (u : Value), BindsTo s fd ⟨[u], []⟩ [(x, u)]) ∧ ∀ base : Heap, (K w.params).In base → base.Ns mainGlobals mg → FnG l.prog w (K w.params) mg base k fa fd [x] (sp w))
    (hsp : ∀ (w : World) (H : Hp) (a : Addr) (ns : List Int), ns.length ≤ n → Only H → SqL (K w.params) H a (ns.map V.int) → sp w [.ref a] H (fun v _ => v = .bl true) fun _ _ _ => False) :
    PySem.W.WalkO q loose XP YP l.row.toRowW d [] (fun f vs => PySem.call f vs) := by
  apply Att.attach_call hn hdf
  intro w s₀ s₁ mg mb fa o pm cd doc a vs ns G Y ho hd hcd hmg hobj hints hlen hg
  obtain ⟨fd, bind, fn⟩ := F w mg fa _ (hY w _ Y) G.T.g hmg
  exact law_callG (hY w _ Y) G.T.g G.T.b G.T.builtins G.T.nolimit hg hobj hints (Nat.le_trans hlen hn2) hr fn bind fun H hO hS => hsp w H a ns hlen hO hS
end Tw
set_option Elab.async false
set_option linter.all false
set_option maxRecDepth 100000
set_option maxHeartbeats 4000000
/-! Tw5: the operators keep what they say of data -/
namespace Tw
open PySem PySem.Spec PyProof.Rows L2
section
variable {X : Cx}
theorem okd_iff {d : D} (h : okd d = true) : d.plain = true ∧ d.depth ≤ 60 := by
  unfold okd at h
  rw [Bool.and_eq_true] at h
  exact ⟨h.1, of_decide_eq_true h.2⟩
/-- two ints in, an int out, under a guard -/
theorem o_int {f : Value → Value → Sem Value} {C : Int → Int → Prop} {g : Int → Int → V} {F : D → D → R D} (ho : OpR X f (rI C g))
    (hF : ∀ a b d, F a b = .ok d → ∃ i j, a = .int i ∧ b = .int j ∧ C i j ∧ ∀ K H, At K H d (g i j)) : OpR X f (r2D X.K F) := by
  intro pins s σ H x y v u Q I rx ry ⟨M, a, b, d, t, ha, hb, hf, q⟩
  obtain ⟨i, j, rfl, rfl, hc, hd⟩ := hF a b d hf
  have ex : x = .int i := ha
  have ey : y = .int j := hb
  exact ho pins s σ H x y v u Q I rx ry ⟨i, j, ex, ey, hc, q _ H (Evl.Ex.refl H) (hd _ _)⟩
theorem o_int0 {f : Value → Value → Sem Value} {g : Int → Int → V} {F : D → D → R D} (ho : OpR X f (rI0 g))
    (hF : ∀ a b d, F a b = .ok d → ∃ i j, a = .int i ∧ b = .int j ∧ ∀ K H, At K H d (g i j)) : OpR X f (r2D X.K F) := by
  intro pins s σ H x y v u Q I rx ry ⟨M, a, b, d, t, ha, hb, hf, q⟩
  obtain ⟨i, j, rfl, rfl, hd⟩ := hF a b d hf
  have ex : x = .int i := ha
  have ey : y = .int j := hb
  exact ho pins s σ H x y v u Q I rx ry ⟨i, j, ex, ey, q _ H (Evl.Ex.refl H) (hd _ _)⟩
theorem o_sub : OpR X (binaryOp .Sub) (r2D X.K dSub) := o_int0 op_sub fun a b d h => by
  unfold dSub at h
  split at h
  · cases h
    exact ⟨_, _, rfl, rfl, fun _ _ => rfl⟩
  · cases h
theorem o_div : OpR X (binaryOp .FloorDiv) (r2D X.K dDiv) := o_int op_fdivW fun a b d h => by
  unfold dDiv at h
  split at h
  · split at h
    · rename_i i j q
      cases h
      exact ⟨_, _, rfl, rfl, q, fun _ _ => rfl⟩
    · cases h
  · cases h
theorem o_mod : OpR X (binaryOp .Mod) (r2D X.K dMod) := o_int op_modN fun a b d h => by
  unfold dMod at h
  split at h
  · split at h
    · rename_i i j q
      cases h
      refine ⟨_, _, rfl, rfl, by omega, fun _ _ => ?_⟩
      show V.int (i.fmod j) = V.int (i % j)
      rw [Int.fmod_eq_emod_of_nonneg _ (by omega)]
    · cases h
  · cases h
theorem o_pow : OpR X (binaryOp .Pow) (r2D X.K dPow) := o_int op_pow fun a b d h => by
  unfold dPow at h
  split at h
  · split at h
    · rename_i i j q
      cases h
      exact ⟨_, _, rfl, rfl, q, fun _ _ => rfl⟩
    · cases h
  · cases h
theorem o_neg : UnR X (unaryOp .USub) (r1D X.K dNeg) := by
  intro pins s σ H x v Q I rx ⟨M, a, d, t, ha, hf, q⟩
  unfold dNeg at hf
  split at hf
  · rename_i i
    cases hf
    have ex : x = .int i := ha
    exact un_neg pins s σ H x v Q I rx ⟨i, ex, q _ H (Evl.Ex.refl H) rfl⟩
  · cases hf
/-- an item is added behind: a new list -/
theorem laidL {pins : List (Addr × Obj)} {σ : L2.St} {H : Hp} {s : Shared} {M : List Addr} {ds : List D} {vs : List V} {us : List Value} {Q : VK} (I : Inv X pins σ H s) (t : Trk M H) (r : Vals vs us) (h : AtL X.K (hid M H) ds vs) (hz : vs.length ≤ sizeLine)
    (q : ∀ p o H', H p = none → Ex H H' → H' p = some o → Own X.K (hid (p :: M) H') o (.list ds) → Q (.ref p) H') :
    EP X pins σ Q (.ref s.heap.objs.size) { s with heap := s.heap.push { cls := .type "list", data := .seq us.toArray } } := by
  have n : H s.heap.objs.size = none := I.hok.fresh (Nat.le_refl _)
  exact ⟨.ref _, _, I.lnew (t' := s.toks) r hz, rfl, q _ _ _ n (Evl.Ex.new n) upd_same (.inl ⟨vs, ds, rfl, rfl, AtL.mono (hid_new (Evl.Ex.new n) n) ds vs h⟩)⟩
theorem plainL_eq {h : Heap} {a : Addr} {its : Array Value} (p : PlainL h a its) : ∃ n sl, h.get? a = some { cls := .type "list", dict := none, data := .seq its n, slots := sl } := by
  obtain ⟨⟨cls, dict, data, slots⟩, n, e, h1, h2, h3⟩ := p
  simp only at h1 h2 h3
  subst h1 h2 h3
  exact ⟨n, slots, e⟩
theorem o_mul : OpR X (binaryOp .Mult) (r2D X.K dMul) := o_int op_mulW fun a b d h => by
  unfold dMul at h
  split at h
  · split at h
    · rename_i i j q
      cases h
      exact ⟨_, _, rfl, rfl, q, fun _ _ => rfl⟩
    · cases h
  · cases h
theorem o_cat : OpR X (binaryOp .Add) (r2L X.K dCat) := by
  intro pins s σ H x y v u Q I rx ry ⟨M, a, b, d, t, ha, hb, hf, q⟩
  unfold dCat at hf
  split at hf
  · rename_i ds es
    split at hf
    · rename_i hz
      cases hf
      obtain ⟨l, xs, e1, h1, h2⟩ := ha
      obtain ⟨m, ys, e2, h3, h4⟩ := hb
      subst e1 e2
      cases rx
      cases ry
      have n1 := atL_len h2
      have n2 := atL_len h4
      obtain ⟨its, r1, p1, _⟩ := I.list (Or.elim h1 (fun z => Or.inl (ex_rd hid_le z)) Or.inr)
      obtain ⟨its2, r2, p2, _⟩ := I.list (Or.elim h3 (fun z => Or.inl (ex_rd hid_le z)) Or.inr)
      obtain ⟨k1, sl1, g1⟩ := plainL_eq p1
      obtain ⟨k2, sl2, g2⟩ := plainL_eq p2
      have l1 := r1.length
      have l2 := r2.length
      have hs : its.toArray.size + its2.toArray.size ≤ sizeLine := by
        rw [List.size_toArray, List.size_toArray]
        exact lim_le (by omega)
      refine concat_meets ⟨_, g1, rfl⟩ ⟨_, g2, rfl⟩ noFill_list_add seq_list_add PySem.F.slot_list_add PySem.F.entry_list_add (PySem.F.args_list_add_2 _ _) (PyProof.Rows.list_addW l m its.toArray its2.toArray k1 k2 none none sl1 sl2 hs) ⟨g1, g2, ?_⟩
      have ea : its.toArray ++ its2.toArray = (its ++ its2).toArray := by simp
      rw [ea]
      refine laidL I t (r1.append r2) (AtL.app h2 h4) ?_ q
      rw [List.length_append]
      exact lim_le (by omega)
    · cases hf
  · cases hf
theorem o_addT {pins : List (Addr × Obj)} {σ : L2.St} {H : Hp} {s : Shared} {M : List Addr} {x y : V} {v u : Value} {Q : VK} {ds es : List D} (I : Inv X pins σ H s) (rx : RelV x v) (ry : RelV y u) (t : Trk M H) (ha : At X.K (hid M H) (.tuple ds) x) (hb : At X.K (hid M H) (.tuple es) y) (hz : ds.length + es.length ≤ lim)
    (q : ∀ v H', Ex H H' → At X.K (hid M H') (.tuple (ds ++ es)) v → Q v H') : wpAny (model X.prog X.w) X.A (binaryOp .Add v u) (EP X pins σ Q) X.xe s := by
  obtain ⟨l, xs, e1, h1, h2⟩ := ha
  obtain ⟨m, ys, e2, h3, h4⟩ := hb
  subst e1 e2
  cases rx
  cases ry
  have n1 := atL_len h2
  have n2 := atL_len h4
  obtain ⟨its, r1, p1, _⟩ := I.tuple (Or.elim h1 (fun z => Or.inl (ex_rd hid_le z)) Or.inr)
  obtain ⟨its2, r2, p2, _⟩ := I.tuple (Or.elim h3 (fun z => Or.inl (ex_rd hid_le z)) Or.inr)
  obtain ⟨⟨cls, dd, data, sl⟩, ho, hc, k1, hd⟩ := id p1
  obtain ⟨⟨cls2, dd2, data2, sl2⟩, ho2, hc2, k2, hd2⟩ := id p2
  simp only at hc hd hc2 hd2
  subst hc hd hc2 hd2
  have l1 := r1.length
  have l2 := r2.length
  by_cases hv : its = []
  · have hx : ds = [] := List.eq_nil_of_length_eq_zero (by rw [← n1, l1, hv]; rfl)
    refine concat_meets ⟨_, ho, rfl⟩ ⟨_, ho2, rfl⟩ noFill_tuple_add seq_tuple_add PySem.F.slot_tuple_add PySem.F.entry_tuple_add (PySem.F.args_tuple_add_2 _ _) (PyProof.Rows.tuple_addW0 l m _ _ _ _ _ _ _ _ (by simp [hv])) ⟨ho, ho2, ?_⟩
    exact ⟨.ref m, H, I.tok _, rfl, q _ H (Evl.Ex.refl H) (by rw [hx]; exact ⟨m, ys, rfl, h3, h4⟩)⟩
  · by_cases hw : its2 = []
    · have hy : es = [] := List.eq_nil_of_length_eq_zero (by rw [← n2, l2, hw]; rfl)
      refine concat_meets ⟨_, ho, rfl⟩ ⟨_, ho2, rfl⟩ noFill_tuple_add seq_tuple_add PySem.F.slot_tuple_add PySem.F.entry_tuple_add (PySem.F.args_tuple_add_2 _ _) (PyProof.Rows.tuple_addW1 l m _ _ _ _ _ _ _ _ (by simpa using hv) (by simp [hw])) ⟨ho, ho2, ?_⟩
      exact ⟨.ref l, H, I.tok _, rfl, q _ H (Evl.Ex.refl H) (by rw [hy, List.append_nil]; exact ⟨l, xs, rfl, h1, h2⟩)⟩
    · have hs : its.toArray.size + its2.toArray.size ≤ sizeLine := by
        rw [List.size_toArray, List.size_toArray]
        exact lim_le (by omega)
      refine concat_meets ⟨_, ho, rfl⟩ ⟨_, ho2, rfl⟩ noFill_tuple_add seq_tuple_add PySem.F.slot_tuple_add PySem.F.entry_tuple_add (PySem.F.args_tuple_add_2 _ _) (PyProof.Rows.tuple_addW2 l m _ _ _ _ _ _ _ _ (by simpa using hv) (by simpa using hw) hs) ⟨ho, ho2, ?_⟩
      have ea : its.toArray ++ its2.toArray = (its ++ its2).toArray := by simp
      rw [ea]
      have n : H s.heap.objs.size = none := I.hok.fresh (Nat.le_refl _)
      have hl : (xs ++ ys).length ≤ sizeLine := by
        rw [List.length_append]
        exact lim_le (by omega)
      refine ⟨.ref s.heap.objs.size, _, I.laid (t' := s.toks) (o := .tup (xs ++ ys)) (fun b ob z => Heap.get?_push_of_some _ z) (Nat.le_refl _) ⟨hl, _, r1.append r2, IsTup.new _ _⟩, rfl, q _ _ (Evl.Ex.new n) ?_⟩
      exact ⟨_, _, rfl, SqT.of (hid_of upd_same (t.no n)), AtL.mono (hid_ex (Evl.Ex.new n)) _ _ (AtL.app h2 h4)⟩
theorem o_add : OpR X (binaryOp .Add) (r2D X.K dAdd) := by
  intro pins s σ H x y v u Q I rx ry ⟨M, a, b, d, t, ha, hb, hf, q⟩
  unfold dAdd at hf
  split at hf
  · rename_i i j
    cases hf
    exact op_add pins s σ H x y v u Q I rx ry ⟨i, j, ha, hb, q _ H (Evl.Ex.refl H) rfl⟩
  · rename_i xs ys
    split at hf
    · rename_i hz
      exact o_cat pins s σ H x y v u Q I rx ry (r2L.D ⟨M, _, _, d, t, ha, hb, by show (if xs.length + ys.length ≤ lim then R.ok (PyData.list (xs ++ ys)) else R.bad) = _; rw [if_pos hz]; exact hf, q⟩)
    · cases hf
  · rename_i xs ys
    split at hf
    · rename_i hz
      cases hf
      exact o_addT I rx ry t ha hb hz q
    · cases hf
  · rename_i z w
    split at hf
    · rename_i hz
      cases hf
      exact op_add_str pins s σ H x y v u Q I rx ry ⟨z, w, ha, hb, lim_le hz, q _ H (Evl.Ex.refl H) rfl⟩
    · cases hf
  · cases hf
/-! ### comparisons -/
theorem units_of {A : Around} {k : Nat} (hr : Room k A) : A.units + 200 < cLine := by
  have := hr.un
  omega
theorem o_eq (hu : X.A.units + 200 < cLine) : OpR X (compareOp .Eq) (r2D X.K dEq) := by
  intro pins s σ H x y v u Q I rx ry ⟨M, a, b, d, t, ha, hb, hf, q⟩
  unfold dEq at hf
  split at hf
  · rename_i g
    rw [Bool.and_eq_true] at g
    cases hf
    have ga := okd_iff g.1
    have gb := okd_iff g.2
    obtain ⟨as, r1⟩ := At.reads I ga.1 ha rx
    obtain ⟨bs, r2⟩ := At.reads I gb.1 hb ry
    exact SeqAt.eq_plain r1 r2 ga.1 gb.1 (by omega) ⟨.bl _, H, I, rfl, q _ H (Evl.Ex.refl H) rfl⟩
  · cases hf
theorem o_ne (hu : X.A.units + 200 < cLine) : OpR X (compareOp .NotEq) (r2D X.K dNe) := by
  intro pins s σ H x y v u Q I rx ry ⟨M, a, b, d, t, ha, hb, hf, q⟩
  unfold dNe at hf
  split at hf
  · rename_i g
    rw [Bool.and_eq_true] at g
    cases hf
    have ga := okd_iff g.1
    have gb := okd_iff g.2
    obtain ⟨as, r1⟩ := At.reads I ga.1 ha rx
    obtain ⟨bs, r2⟩ := At.reads I gb.1 hb ry
    exact SeqAt.ne_plain r1 r2 ga.1 gb.1 (by omega) ⟨.bl _, H, I, rfl, q _ H (Evl.Ex.refl H) rfl⟩
  · cases hf
theorem ordd_iff {a b : D} (h : ordd a b = true) : a.plain = true ∧ a.depth ≤ 60 ∧ b.plain = true ∧ b.depth ≤ 60 ∧ PySem.W.alike a b = true ∧ a ≠ .none := by
  unfold ordd at h
  rw [Bool.and_eq_true, Bool.and_eq_true, Bool.and_eq_true] at h
  obtain ⟨⟨⟨h1, h2⟩, h3⟩, h4⟩ := h
  exact ⟨(okd_iff h1).1, (okd_iff h1).2, (okd_iff h2).1, (okd_iff h2).2, h3, fun z => by rw [z] at h4; cases h4⟩
theorem o_lt (hu : X.A.units + 200 < cLine) : OpR X (compareOp .Lt) (r2D X.K dLt) := by
  intro pins s σ H x y v u Q I rx ry ⟨M, a, b, d, t, ha, hb, hf, q⟩
  unfold dLt at hf
  split at hf
  · rename_i i j
    cases hf
    exact op_lt pins s σ H x y v u Q I rx ry ⟨i, j, ha, hb, q _ H (Evl.Ex.refl H) rfl⟩
  · split at hf
    · rename_i g
      cases hf
      obtain ⟨p1, d1, p2, d2, al, nn⟩ := ordd_iff g
      obtain ⟨as, r1⟩ := At.reads I p1 ha rx
      obtain ⟨bs, r2⟩ := At.reads I p2 hb ry
      exact PySem.W.lt_data r1 r2 al nn (by omega) ⟨.bl _, H, I, rfl, q _ H (Evl.Ex.refl H) rfl⟩
    · cases hf
theorem o_le (hu : X.A.units + 200 < cLine) : OpR X (compareOp .LtE) (r2D X.K dLe) := by
  intro pins s σ H x y v u Q I rx ry ⟨M, a, b, d, t, ha, hb, hf, q⟩
  unfold dLe at hf
  split at hf
  · rename_i i j
    cases hf
    exact op_le pins s σ H x y v u Q I rx ry ⟨i, j, ha, hb, q _ H (Evl.Ex.refl H) rfl⟩
  · split at hf
    · rename_i g
      cases hf
      obtain ⟨p1, d1, p2, d2, al, nn⟩ := ordd_iff g
      obtain ⟨as, r1⟩ := At.reads I p1 ha rx
      obtain ⟨bs, r2⟩ := At.reads I p2 hb ry
      exact PySem.W.le_data r1 r2 al nn (by omega) ⟨.bl _, H, I, rfl, q _ H (Evl.Ex.refl H) rfl⟩
    · cases hf
theorem o_gt (hu : X.A.units + 200 < cLine) : OpR X (compareOp .Gt) (r2D X.K dGt) := by
  intro pins s σ H x y v u Q I rx ry ⟨M, a, b, d, t, ha, hb, hf, q⟩
  unfold dGt at hf
  split at hf
  · rename_i i j
    cases hf
    exact op_gt pins s σ H x y v u Q I rx ry ⟨i, j, ha, hb, q _ H (Evl.Ex.refl H) rfl⟩
  · split at hf
    · rename_i g
      cases hf
      obtain ⟨p1, d1, p2, d2, al, nn⟩ := ordd_iff g
      obtain ⟨as, r1⟩ := At.reads I p1 ha rx
      obtain ⟨bs, r2⟩ := At.reads I p2 hb ry
      exact PySem.W.gt_data r1 r2 al nn (by omega) ⟨.bl _, H, I, rfl, q _ H (Evl.Ex.refl H) rfl⟩
    · cases hf
theorem o_ge (hu : X.A.units + 200 < cLine) : OpR X (compareOp .GtE) (r2D X.K dGe) := by
  intro pins s σ H x y v u Q I rx ry ⟨M, a, b, d, t, ha, hb, hf, q⟩
  unfold dGe at hf
  split at hf
  · rename_i i j
    cases hf
    exact op_ge pins s σ H x y v u Q I rx ry ⟨i, j, ha, hb, q _ H (Evl.Ex.refl H) rfl⟩
  · split at hf
    · rename_i g
      cases hf
      obtain ⟨p1, d1, p2, d2, al, nn⟩ := ordd_iff g
      obtain ⟨as, r1⟩ := At.reads I p1 ha rx
      obtain ⟨bs, r2⟩ := At.reads I p2 hb ry
      exact PySem.W.ge_data r1 r2 al nn (by omega) ⟨.bl _, H, I, rfl, q _ H (Evl.Ex.refl H) rfl⟩
    · cases hf
theorem at_none {K : PySem.W.Frag} {H : Hp} : ∀ {a : D} {x : V}, At K H a x → decide (x = .non) = isNone a
  | .none, x, h => by
    have e : x = .non := h
    rw [e]
    rfl
  | .bool b, x, h => by
    have e : x = .bl b := h
    rw [e]
    rfl
  | .int i, x, h => by
    have e : x = .int i := h
    rw [e]
    rfl
  | .str z, x, h => by
    have e : x = .str z := h
    rw [e]
    rfl
  | .list ds, x, ⟨a, xs, e, _⟩ => by
    rw [e]
    rfl
  | .tuple ds, x, ⟨a, xs, e, _⟩ => by
    rw [e]
    rfl
  | .dict es, x, ⟨a, e, _⟩ => by
    rw [e]
    rfl
theorem isNone_eq {a : D} (h : isNone a = true) : a = .none := by
  cases a with
  | none => rfl
  | _ => cases h
theorem o_is : OpR X (compareOp .Is) (r2D X.K dIs) := by
  intro pins s σ H x y v u Q I rx ry ⟨M, a, b, d, t, ha, hb, hf, q⟩
  unfold dIs at hf
  split at hf
  · rename_i g
    cases hf
    rw [isNone_eq g] at hb
    have ey : y = .non := hb
    exact op_isN pins s σ H x y v u Q I rx ry ⟨ey, q _ H (Evl.Ex.refl H) (by rw [at_none ha]; rfl)⟩
  · cases hf
theorem o_isnot : OpR X (compareOp .IsNot) (r2D X.K dIsNot) := by
  intro pins s σ H x y v u Q I rx ry ⟨M, a, b, d, t, ha, hb, hf, q⟩
  unfold dIsNot at hf
  split at hf
  · rename_i g
    cases hf
    rw [isNone_eq g] at hb
    have ey : y = .non := hb
    exact op_notN pins s σ H x y v u Q I rx ry ⟨ey, q _ H (Evl.Ex.refl H) (by rw [at_none ha]; rfl)⟩
  · cases hf
theorem okd_list {xs : List D} (h : okd (.list xs) = true) : PyData.plainAll xs = true ∧ PyData.depthAll xs ≤ 59 := by
  obtain ⟨h1, h2⟩ := okd_iff h
  simp only [PyData.plain] at h1
  simp only [PyData.depth] at h2
  exact ⟨h1, by omega⟩
theorem okd_tuple {xs : List D} (h : okd (.tuple xs) = true) : PyData.plainAll xs = true ∧ PyData.depthAll xs ≤ 59 := by
  obtain ⟨h1, h2⟩ := okd_iff h
  simp only [PyData.plain] at h1
  simp only [PyData.depth] at h2
  exact ⟨h1, by omega⟩
theorem o_in (hu : X.A.units + 200 < cLine) : OpR X (compareOp .In) (r2D X.K dIn) := by
  intro pins s σ H x y v u Q I rx ry ⟨M, a, b, d, t, ha, hb, hf, q⟩
  unfold dIn at hf
  split at hf
  · split at hf
    · rename_i xs g
      rw [Bool.and_eq_true] at g
      cases hf
      obtain ⟨as, r1⟩ := At.reads I (okd_iff g.1).1 ha rx
      obtain ⟨bs, r2⟩ := At.reads I (okd_iff g.2).1 hb ry
      exact SeqAt.in_list_data r2 r1 (okd_list g.2).1 (okd_iff g.1).1 (by have := (okd_list g.2).2; omega) ⟨.bl _, H, I, rfl, q _ H (Evl.Ex.refl H) rfl⟩
    · cases hf
  · split at hf
    · rename_i xs g
      rw [Bool.and_eq_true] at g
      cases hf
      obtain ⟨as, r1⟩ := At.reads I (okd_iff g.1).1 ha rx
      obtain ⟨bs, r2⟩ := At.reads I (okd_iff g.2).1 hb ry
      exact SeqAt.in_tuple_data r2 r1 (okd_tuple g.2).1 (okd_iff g.1).1 (by have := (okd_tuple g.2).2; omega) ⟨.bl _, H, I, rfl, q _ H (Evl.Ex.refl H) rfl⟩
    · cases hf
  · cases hf
theorem o_notin (hu : X.A.units + 200 < cLine) : OpR X (compareOp .NotIn) (r2D X.K dNotIn) := by
  intro pins s σ H x y v u Q I rx ry ⟨M, a, b, d, t, ha, hb, hf, q⟩
  unfold dNotIn at hf
  split at hf
  · split at hf
    · rename_i xs g
      rw [Bool.and_eq_true] at g
      cases hf
      obtain ⟨as, r1⟩ := At.reads I (okd_iff g.1).1 ha rx
      obtain ⟨bs, r2⟩ := At.reads I (okd_iff g.2).1 hb ry
      exact SeqAt.notIn_list_data r2 r1 (okd_list g.2).1 (okd_iff g.1).1 (by have := (okd_list g.2).2; omega) ⟨.bl _, H, I, rfl, q _ H (Evl.Ex.refl H) rfl⟩
    · cases hf
  · split at hf
    · rename_i xs g
      rw [Bool.and_eq_true] at g
      cases hf
      obtain ⟨as, r1⟩ := At.reads I (okd_iff g.1).1 ha rx
      obtain ⟨bs, r2⟩ := At.reads I (okd_iff g.2).1 hb ry
      exact SeqAt.notIn_tuple_data r2 r1 (okd_tuple g.2).1 (okd_iff g.1).1 (by have := (okd_tuple g.2).2; omega) ⟨.bl _, H, I, rfl, q _ H (Evl.Ex.refl H) rfl⟩
    · cases hf
  · cases hf
end
end Tw
set_option Elab.async false
set_option linter.all false
set_option maxRecDepth 100000
set_option maxHeartbeats 4000000
/-! Tw6: items, slices, builtins, tests -/
namespace Tw
open PySem PySem.Spec PyProof.Rows L2
theorem sql_le {K : PySem.W.Frag} {M : List Addr} {H : Hp} {a : Addr} {xs : List V} (h : SqL K (hid M H) a xs) : SqL K H a xs := Evl.ex_l hid_le h
theorem sqt_le {K : PySem.W.Frag} {M : List Addr} {H : Hp} {a : Addr} {xs : List V} (h : SqT K (hid M H) a xs) : SqT K H a xs := Evl.ex_t hid_le h
theorem atI_at {K : PySem.W.Frag} {H : Hp} {ds : List D} {vs : List V} {i : Int} {d : D} (h : AtL K H ds vs) (g : atI ds i = some d) : ∃ v, atI vs i = some v ∧ At K H d v := by
  unfold atI at g ⊢
  rw [atL_len h]
  cases e : ixN ds.length i with
  | none =>
    rw [e] at g
    cases g
  | some j =>
    rw [e] at g
    obtain ⟨v, h1, h2⟩ := AtL.get h (show ds[j]? = some d from g)
    exact ⟨v, h1, h2⟩
section
variable {X : Cx}
theorem i_x : IxR X (r2D X.K dIx) := by
  intro value slice pins s σ H x y v u Q I rx ry ⟨M, a, b, d, t, ha, hb, hf, q⟩ hs
  unfold dIx at hf
  split at hf
  · rename_i xs i
    split at hf
    · rename_i e g
      cases hf
      obtain ⟨l, vs, e1, h1, h2⟩ := ha
      obtain ⟨w, g1, g2⟩ := atI_at h2 g
      exact ix_list value slice pins s σ H x y v u Q I rx ry ⟨l, vs, i, w, e1, hb, sql_le h1, g1, q w H (Evl.Ex.refl H) g2⟩ hs
    · cases hf
  · rename_i xs i
    split at hf
    · rename_i e g
      cases hf
      obtain ⟨l, vs, e1, h1, h2⟩ := ha
      obtain ⟨w, g1, g2⟩ := atI_at h2 g
      exact ix_tup value slice pins s σ H x y v u Q I rx ry ⟨l, vs, i, w, e1, hb, sqt_le h1, g1, q w H (Evl.Ex.refl H) g2⟩ hs
    · cases hf
  · cases hf
/-! ### builtins -/
theorem at_cons {K : PySem.W.Frag} {H : Hp} {d : D} {ds : List D} {xs : List V} (h : AtL K H (d :: ds) xs) : ∃ v vs, xs = v :: vs ∧ At K H d v ∧ AtL K H ds vs := h
theorem at_one {K : PySem.W.Frag} {H : Hp} {d : D} {xs : List V} (h : AtL K H [d] xs) : ∃ v, xs = [v] ∧ At K H d v := by
  obtain ⟨v, vs, e, h1, h2⟩ := h
  have z : vs = [] := h2
  rw [z] at e
  exact ⟨v, e, h1⟩
theorem at_two {K : PySem.W.Frag} {H : Hp} {d e : D} {xs : List V} (h : AtL K H [d, e] xs) : ∃ v w, xs = [v, w] ∧ At K H d v ∧ At K H e w := by
  obtain ⟨v, vs, e1, h1, h2⟩ := h
  obtain ⟨w, e2, h3⟩ := at_one h2
  rw [e2] at e1
  exact ⟨v, w, e1, h1, h3⟩
theorem k_len : CallR X (.builtin "len") (rnD X.K cLen) := by
  intro pins s σ H xs us Q I r ⟨M, as, d, t, ha, hf, q⟩
  unfold cLen at hf
  split at hf
  · cases hf
    obtain ⟨v, e, a, vs, e2, h1, h2⟩ := at_one ha
    exact call_len_seq pins s σ H xs us Q I r ⟨a, vs, by rw [e, e2], .inl (sql_le h1), q _ H (Evl.Ex.refl H) (by rw [atL_len h2]; rfl)⟩
  · cases hf
    obtain ⟨v, e, a, vs, e2, h1, h2⟩ := at_one ha
    exact call_len_seq pins s σ H xs us Q I r ⟨a, vs, by rw [e, e2], .inr (sqt_le h1), q _ H (Evl.Ex.refl H) (by rw [atL_len h2]; rfl)⟩
  · cases hf
theorem k_abs : CallR X (.builtin "abs") (rnD X.K cAbs) := by
  intro pins s σ H xs us Q I r ⟨M, as, d, t, ha, hf, q⟩
  unfold cAbs at hf
  split at hf
  · cases hf
    obtain ⟨v, e, h1⟩ := at_one ha
    exact call_abs pins s σ H xs us Q I r ⟨_, by rw [e, show v = _ from h1], q _ H (Evl.Ex.refl H) rfl⟩
  · cases hf
theorem k_int : CallR X (.type "int") (rnD X.K cInt) := by
  intro pins s σ H xs us Q I r ⟨M, as, d, t, ha, hf, q⟩
  unfold cInt at hf
  split at hf
  · cases hf
    obtain ⟨v, e, h1⟩ := at_one ha
    exact call_int1 pins s σ H xs us Q I r (.inl ⟨_, by rw [e, show v = _ from h1], q _ H (Evl.Ex.refl H) rfl⟩)
  · cases hf
    obtain ⟨v, e, h1⟩ := at_one ha
    exact call_int1 pins s σ H xs us Q I r (.inr ⟨_, by rw [e, show v = _ from h1], q _ H (Evl.Ex.refl H) rfl⟩)
  · cases hf
theorem k_sum (hc : X.calm = true) : CallR X (.builtin "sum") (rnD X.K cSum) := by
  intro pins s σ H xs us Q I r ⟨M, as, d, t, ha, hf, q⟩
  unfold cSum at hf
  split at hf
  · split at hf
    · rename_i l g
      cases hf
      obtain ⟨v, e, a, vs, e2, h1, h2⟩ := at_one ha
      rw [intsOf_some g] at h2
      rw [AtL.ints h2] at h1
      exact cr_sum hc pins s σ H xs us Q I r ⟨a, l, by rw [e, e2], sql_le h1, q _ H (Evl.Ex.refl H) rfl⟩
    · cases hf
  · cases hf
theorem k_all (hc : X.calm = true) : CallR X (.builtin "all") (rnD X.K cAll) := by
  intro pins s σ H xs us Q I r ⟨M, as, d, t, ha, hf, q⟩
  unfold cAll at hf
  split at hf
  · split at hf
    · rename_i l g
      cases hf
      obtain ⟨v, e, a, vs, e2, h1, h2⟩ := at_one ha
      rw [boolsOf_some g] at h2
      rw [AtL.bools h2] at h1
      exact cr_all hc pins s σ H xs us Q I r ⟨a, l, by rw [e, e2], sql_le h1, q _ H (Evl.Ex.refl H) rfl⟩
    · cases hf
  · cases hf
theorem k_any (hc : X.calm = true) : CallR X (.builtin "any") (rnD X.K cAny) := by
  intro pins s σ H xs us Q I r ⟨M, as, d, t, ha, hf, q⟩
  unfold cAny at hf
  split at hf
  · split at hf
    · rename_i l g
      cases hf
      obtain ⟨v, e, a, vs, e2, h1, h2⟩ := at_one ha
      rw [boolsOf_some g] at h2
      rw [AtL.bools h2] at h1
      exact cr_any hc pins s σ H xs us Q I r ⟨a, l, by rw [e, e2], sql_le h1, q _ H (Evl.Ex.refl H) rfl⟩
    · cases hf
  · cases hf
/-! ### min, max -/
def alikeB (xs : List D) : Bool := (xs.all fun x => xs.all fun y => PySem.W.alike x y) && xs.all fun x => !isNone x
theorem alikeB_iff {xs : List D} (h : alikeB xs = true) : PySem.W.AlikeAll xs := by
  unfold alikeB at h
  rw [Bool.and_eq_true] at h
  refine ⟨fun x hx y hy => ?_, fun x hx z => ?_⟩
  · exact List.all_eq_true.mp (List.all_eq_true.mp h.1 x hx) y hy
  · have := List.all_eq_true.mp h.2 x hx
    rw [z] at this
    cases this
def kMin : List D → R D
  | [.int i, .int j] => .ok (.int (if j < i then j else i))
  | [.list (x :: xs)] => if okd (.list (x :: xs)) && alikeB (x :: xs) then .ok (PySem.W.minD x xs) else .bad
  | _ => .bad
def kMax : List D → R D
  | [.int i, .int j] => .ok (.int (if j > i then j else i))
  | [.list (x :: xs)] => if okd (.list (x :: xs)) && alikeB (x :: xs) then .ok (PySem.W.maxD x xs) else .bad
  | _ => .bad
theorem plain_at {xs : List D} (h : PyData.plainAll xs = true) : ∀ {i : Nat} {d : D}, xs[i]? = some d → d.plain = true := fun {i d} e => PySem.W.plain_mem h (List.mem_of_getElem? e)
/-- an item that is read as a datum is this datum -/
theorem item_is {pins : List (Addr × Obj)} {σ : L2.St} {H : Hp} {s : Shared} {M : List Addr} {ds : List D} {vs : List V} {us : List Value} (I : Inv X pins σ H s) (hp : PyData.plainAll ds = true) (h : AtL X.K (hid M H) ds vs) (r : Vals vs us) {i : Nat} {u : Value} (hu : us[i]? = some u)
    {h' : Heap} (hk : ∀ b o, s.heap.get? b = some o → h'.get? b = some o) {d : D} {bs : List Addr} (rd : Reads h' u d bs) : ∃ v, RelV v u ∧ At X.K (hid M H) d v := by
  have hi : i < us.length := (List.getElem?_eq_some_iff.mp hu).1
  have hv : i < vs.length := by rw [r.length]; exact hi
  obtain ⟨u', h1, h2⟩ := r.get (List.getElem?_eq_getElem hv)
  rw [hu] at h1
  cases h1
  obtain ⟨e, g1, g2⟩ := AtL.get' h (List.getElem?_eq_getElem hv)
  obtain ⟨as, r1⟩ := At.reads I (plain_at hp g1) g2 h2
  have : e = d := SeqAt.plain_unique e d u as bs (plain_at hp g1) (PyProof.Rows.Reads.keeps hk r1) rd
  rw [← this]
  exact ⟨_, h2, g2⟩
theorem k_min (hc : X.calm = true) (hu : X.A.units + 200 < cLine) : CallR X (.builtin "min") (rnD X.K kMin) := by
  intro pins s σ H xs us Q I r ⟨M, as, d, t, ha, hf, q⟩
  unfold kMin at hf
  split at hf
  · cases hf
    obtain ⟨v, w, e, h1, h2⟩ := at_two ha
    exact call_min2 hc pins s σ H xs us Q I r ⟨_, _, by rw [e, show v = _ from h1, show w = _ from h2], q _ H (Evl.Ex.refl H) rfl⟩
  · split at hf
    · rename_i x ds g
      rw [Bool.and_eq_true] at g
      cases hf
      obtain ⟨v, e, a, vs, e2, h1, h2⟩ := at_one ha
      subst e2
      subst e
      obtain ⟨its, rv, hl, _⟩ := I.list (sql_le h1)
      rw [Vals.ref1 r]
      have hp := okd_list g.1
      obtain ⟨bs, hr⟩ := Dp.readsAll I (x :: ds) vs its (AtL.dp _ _ hp.1 (AtL.mono hid_le _ _ h2)) rv
      refine PySem.W.min_list_data (I.ok.hd hc) hl.isList (by simpa using hr) (alikeB_iff g.2) (by have := hp.2; omega) fun i u h' tk bs hi rd hk => ?_
      obtain ⟨w, w1, w2⟩ := item_is I hp.1 h2 rv (by simpa using hi) hk rd
      exact ⟨w, H, I.kept hk, w1, q w H (Evl.Ex.refl H) w2⟩
    · cases hf
  · cases hf
theorem k_max (hc : X.calm = true) (hu : X.A.units + 200 < cLine) : CallR X (.builtin "max") (rnD X.K kMax) := by
  intro pins s σ H xs us Q I r ⟨M, as, d, t, ha, hf, q⟩
  unfold kMax at hf
  split at hf
  · cases hf
    obtain ⟨v, w, e, h1, h2⟩ := at_two ha
    exact call_max2 hc pins s σ H xs us Q I r ⟨_, _, by rw [e, show v = _ from h1, show w = _ from h2], q _ H (Evl.Ex.refl H) rfl⟩
  · split at hf
    · rename_i x ds g
      rw [Bool.and_eq_true] at g
      cases hf
      obtain ⟨v, e, a, vs, e2, h1, h2⟩ := at_one ha
      subst e2
      subst e
      obtain ⟨its, rv, hl, _⟩ := I.list (sql_le h1)
      rw [Vals.ref1 r]
      have hp := okd_list g.1
      obtain ⟨bs, hr⟩ := Dp.readsAll I (x :: ds) vs its (AtL.dp _ _ hp.1 (AtL.mono hid_le _ _ h2)) rv
      refine PySem.W.max_list_data (I.ok.hd hc) hl.isList (by simpa using hr) (alikeB_iff g.2) (by have := hp.2; omega) fun i u h' tk bs hi rd hk => ?_
      obtain ⟨w, w1, w2⟩ := item_is I hp.1 h2 rv (by simpa using hi) hk rd
      exact ⟨w, H, I.kept hk, w1, q w H (Evl.Ex.refl H) w2⟩
    · cases hf
  · cases hf
/-! ### repr -/
mutual
theorem plain_hasDict : ∀ d : D, d.plain = true → d.hasDict = false
  | .none, _ => rfl
  | .bool _, _ => rfl
  | .int _, _ => rfl
  | .str _, _ => rfl
  | .list xs, h => by
    simp only [PyData.plain] at h
    simp only [PyData.hasDict]
    exact plain_hasDictAll xs h
  | .tuple xs, h => by
    simp only [PyData.plain] at h
    simp only [PyData.hasDict]
    exact plain_hasDictAll xs h
  | .dict _, h => by simp only [PyData.plain] at h; cases h
theorem plain_hasDictAll : ∀ xs : List D, PyData.plainAll xs = true → PyData.hasDictAll xs = false
  | [], _ => rfl
  | x :: xs, h => by
    simp only [PyData.plainAll, Bool.and_eq_true] at h
    simp only [PyData.hasDictAll, plain_hasDict x h.1, plain_hasDictAll xs h.2, Bool.or_self]
end
theorem k_repr (hG : X.A.guards = some []) (hu : X.A.units + 200 < cLine) : CallR X (.builtin "repr") (rnD X.K cRepr) := by
  intro pins s σ H xs us Q I r ⟨M, as, d, t, ha, hf, q⟩
  unfold cRepr at hf
  split at hf
  · rename_i d0
    split at hf
    · rename_i g
      rw [Bool.and_eq_true, Bool.and_eq_true] at g
      obtain ⟨⟨g1, g2⟩, g3⟩ := g
      have g3' : d0.shown.length ≤ lim := of_decide_eq_true g3
      cases hf
      obtain ⟨v, e, h1⟩ := at_one ha
      subst e
      obtain ⟨u, e, rv⟩ := vals1 r
      subst e
      have done : ∀ u', EP X pins σ Q (.str d0.shown u') { s with toks := s.toks + 1 } := fun u' => ⟨.str _, H, I.tok _, ⟨_, rfl⟩, q _ H (Evl.Ex.refl H) rfl⟩
      cases d0 with
      | none =>
        rw [show v = _ from h1] at rv
        rw [show u = _ from rv]
        exact PySem.P.repr_of_none (done _)
      | bool b =>
        rw [show v = _ from h1] at rv
        rw [show u = _ from rv]
        refine PySem.P.repr_of_bool ?_
        cases b
        · exact done _
        · exact done _
      | int i =>
        rw [show v = _ from h1] at rv
        obtain ⟨tk, rv⟩ := rv
        rw [rv]
        exact PySem.P.repr_of_int (of_decide_eq_true (by simpa only [PyData.showable] using g2)) (done _)
      | str z =>
        rw [show v = _ from h1] at rv
        obtain ⟨tk, rv⟩ := rv
        rw [rv]
        exact PySem.P.repr_of_str (done _) (lim_le (by simpa only [PyData.shown] using g3'))
      | list ds =>
        obtain ⟨bs, rd⟩ := At.reads I (okd_iff g1).1 h1 rv
        obtain ⟨a, vs, e, _⟩ := h1
        rw [e] at rv
        rw [show u = _ from rv] at rd ⊢
        exact repr_of_reads' rd g2 (fun z => by rw [plain_hasDict _ (okd_iff g1).1] at z; cases z) hG (by have := (okd_iff g1).2; omega) (fun _ _ z => z) (fun h' tk tk' hk => ⟨.str _, H, I.kept hk, ⟨_, rfl⟩, q _ H (Evl.Ex.refl H) rfl⟩) (lim_le g3')
      | tuple ds =>
        obtain ⟨bs, rd⟩ := At.reads I (okd_iff g1).1 h1 rv
        obtain ⟨a, vs, e, _⟩ := h1
        rw [e] at rv
        rw [show u = _ from rv] at rd ⊢
        exact repr_of_reads' rd g2 (fun z => by rw [plain_hasDict _ (okd_iff g1).1] at z; cases z) hG (by have := (okd_iff g1).2; omega) (fun _ _ z => z) (fun h' tk tk' hk => ⟨.str _, H, I.kept hk, ⟨_, rfl⟩, q _ H (Evl.Ex.refl H) rfl⟩) (lim_le g3')
      | dict es =>
        have := (okd_iff g1).1
        simp [PyData.plain] at this
    · cases hf
  · cases hf
end
end Tw
set_option Elab.async false
set_option linter.all false
set_option maxRecDepth 100000
set_option maxHeartbeats 4000000
/-! Tw7: new lists of builtins, slices, tests, chains -/
namespace Tw
open PySem PySem.Spec PyProof.Rows L2
section
variable {X : Cx}
/-! ### sorted, list, tuple -/
def sortB (ds : List D) : Bool := (ds.all fun x => ds.all fun y => PySem.W.alike x y) && ((ds.all fun d => match d with | .tuple (_ :: _) => true | _ => false) || ds.all fun d => match d with | .none => false | .tuple _ => false | _ => true)
def kSorted : List D → R D
  | [.list ds] => if okd (.list ds) && sortB ds && decide (ds.length ≤ lim) then .ok (.list (ds.mergeSort (PySem.W.dataLe false id))) else .bad
  | _ => .bad
theorem sortB_iff {ds : List D} (h : sortB ds = true) : PySem.W.AllAlike ds ∧ PySem.W.Sortable ds := by
  unfold sortB at h
  rw [Bool.and_eq_true, Bool.or_eq_true] at h
  refine ⟨fun x hx y hy => List.all_eq_true.mp (List.all_eq_true.mp h.1 x hx) y hy, ?_⟩
  rcases h.2 with z | z
  · left
    intro d hd
    have := List.all_eq_true.mp z d hd
    match d, this with
    | .tuple (x :: r), _ => exact ⟨x, r, rfl⟩
  · right
    intro d hd
    have := List.all_eq_true.mp z d hd
    constructor
    · intro e
      rw [e] at this
      cases this
    · intro xs e
      rw [e] at this
      cases this
theorem k_sorted (hu : X.A.units + 200 < cLine) : CallR X (.builtin "sorted") (rnL X.K kSorted) := by
  intro pins s σ H xs us Q I r ⟨M, as, d, t, ha, hf, q⟩
  unfold kSorted at hf
  split at hf
  · split at hf
    · rename_i ds g
      rw [Bool.and_eq_true, Bool.and_eq_true] at g
      obtain ⟨⟨g1, g2⟩, g3⟩ := g
      have hz : ds.length ≤ lim := of_decide_eq_true g3
      cases hf
      obtain ⟨v, e, a, vs, e2, h1, h2⟩ := at_one ha
      subst e2
      subst e
      obtain ⟨its, rv, hl, _⟩ := I.list (sql_le h1)
      rw [Vals.ref1 r]
      have hp := okd_list g1
      have em : ds.map id = ds := List.map_id ds
      obtain ⟨al, so⟩ := sortB_iff g2
      refine PySem.W.sorted_data (enc := id) (bs := ds) (R := fun u d => ∃ v, RelV v u ∧ At X.K (hid M H) d v) hl.isList (vals_each h2 rv) ?_ (by rw [em]; exact al) (by rw [em]; exact so) (lim_le hz) (fun b hb => ?_) fun out ho hR => ?_
      · have ev := vals_each h2 rv
        refine (PySem.W.each_mem ev).mono fun u d ⟨⟨v, q1, q2⟩, hm⟩ => ?_
        exact At.reads I (PySem.W.plain_mem hp.1 hm) q2 q1
      · have : (id b : D).depth ≤ PyData.depthAll ds := PyData.depth_le_depthAll ds b hb
        have := hp.2
        omega
      · obtain ⟨ws, w1, w2⟩ := each_vals hR
        obtain ⟨ep, he⟩ := PyProof.Rows.sortedAll_at s.heap its out.toArray
        have n : H (s.heap.objs.size + 1) = none := I.hok.fresh (Nat.le_succ _)
        have hlen : ws.length ≤ sizeLine := by
          rw [w1.length, ho]
          exact lim_le hz
        refine ⟨.ref _, upd H (s.heap.objs.size + 1) (.lst ws), I.laid (t' := s.toks) (fun _ _ => PyProof.Rows.sortedAll_old) (Nat.le_succ _) ⟨hlen, out, ep, w1, he⟩, rfl, ?_⟩
        exact q _ _ _ n (Evl.Ex.new n) upd_same (.inl ⟨ws, _, rfl, rfl, AtL.mono (hid_new (Evl.Ex.new n) n) _ _ w2⟩)
    · cases hf
  · cases hf
def kList : List D → R D
  | [.list ds] => .ok (.list ds)
  | [.tuple ds] => .ok (.list ds)
  | _ => .bad
theorem k_list : CallR X (.type "list") (rnL X.K kList) := by
  intro pins s σ H xs us Q I r ⟨M, as, d, t, ha, hf, q⟩
  unfold kList at hf
  split at hf
  · cases hf
    obtain ⟨v, e, a, vs, e2, h1, h2⟩ := at_one ha
    exact call_list_of pins s σ H xs us Q I r ⟨a, vs, by rw [e, e2], .inl (sql_le h1), fun l n => q l _ _ n (Evl.Ex.new n) upd_same (.inl ⟨vs, _, rfl, rfl, AtL.mono (hid_new (Evl.Ex.new n) n) _ _ h2⟩)⟩
  · cases hf
    obtain ⟨v, e, a, vs, e2, h1, h2⟩ := at_one ha
    exact call_list_of pins s σ H xs us Q I r ⟨a, vs, by rw [e, e2], .inr (sqt_le h1), fun l n => q l _ _ n (Evl.Ex.new n) upd_same (.inl ⟨vs, _, rfl, rfl, AtL.mono (hid_new (Evl.Ex.new n) n) _ _ h2⟩)⟩
  · cases hf
def kTuple : List D → R D
  | [.list ds] => .ok (.tuple ds)
  | [.tuple ds] => .ok (.tuple ds)
  | _ => .bad
theorem k_tuple : CallR X (.type "tuple") (rnD X.K kTuple) := by
  intro pins s σ H xs us Q I r ⟨M, as, d, t, ha, hf, q⟩
  unfold kTuple at hf
  split at hf
  · cases hf
    obtain ⟨v, e, a, vs, e2, h1, h2⟩ := at_one ha
    exact call_tuple_of pins s σ H xs us Q I r ⟨a, vs, by rw [e, e2], .inl ⟨sql_le h1, fun l n => q _ _ (Evl.Ex.new n) ⟨l, vs, rfl, SqT.of (hid_of upd_same (t.no n)), AtL.mono (hid_ex (Evl.Ex.new n)) _ _ h2⟩⟩⟩
  · cases hf
    obtain ⟨v, e, a, vs, e2, h1, h2⟩ := at_one ha
    exact call_tuple_of pins s σ H xs us Q I r ⟨a, vs, by rw [e, e2], .inr ⟨sqt_le h1, q _ H (Evl.Ex.refl H) ⟨a, vs, rfl, h1, h2⟩⟩⟩
  · cases hf
theorem call_LD {v : Value} {f : List D → R D} (h : CallR X v (rnL X.K f)) : CallR X v (rnD X.K f) := fun pins s σ H xs us Q I r q => h pins s σ H xs us Q I r (rnL.D q)
end
/-! ### slices -/
def rdO (c : Cf) (m : Nv → R (Option Int)) : TO := fun σ H Q => ∃ ε M, Rel c σ H ε M ∧ ∃ o, m ε = .ok o ∧ ∀ H', Ex H H' → Q o H'
section
variable {X : Cx} {c : Cf} {e a b : Expr} {ma mb me : Nv → R D} {pos : Pos}
def oSome (m : Nv → R D) : Nv → R (Option Int) := fun ε => (m ε).bind fun d => match d with | .int i => .ok (some i) | _ => .bad
def oNone : Nv → R (Option Int) := fun _ => .ok none
theorem po_s (h : PE X e (rdE c ma)) : PO X (some e) (rdO c (oSome ma)) := by
  obtain ⟨run⟩ := po_some h
  refine ⟨fun pins s σ H Q I ⟨ε, M, r, o, hm, q⟩ => run pins s σ H Q I ?_⟩
  obtain ⟨d, h1, h2⟩ := R.bind_ok hm
  cases d with
  | int i =>
    cases h2
    exact ⟨ε, M, r, _, h1, fun v H' e' hv => ⟨i, hv, q H' e'⟩⟩
  | _ => cases h2
theorem po_n : PO X none (rdO c oNone) := by
  obtain ⟨run⟩ := po_none (X := X)
  refine ⟨fun pins s σ H Q I ⟨ε, M, r, o, hm, q⟩ => run pins s σ H Q I ?_⟩
  cases hm
  exact q H (Evl.Ex.refl H)
def cut (xs : List D) (lo hi : Option Int) : List D := (xs.drop (HT.sIx xs.length 0 lo)).take (HT.sIx xs.length xs.length hi - HT.sIx xs.length 0 lo)
def xSl (me : Nv → R D) (lo hi : Nv → R (Option Int)) : Nv → R D := fun ε => (me ε).bind fun d => (lo ε).bind fun l => (hi ε).bind fun h => match d with
  | .list xs => .ok (.list (cut xs l h))
  | _ => .bad
theorem cut_at {K : PySem.W.Frag} {H : Hp} {ds : List D} {vs : List V} (h : AtL K H ds vs) (l u : Option Int) : AtL K H (cut ds l u) (cutV vs l u) := by
  unfold cut cutV
  rw [atL_len h]
  exact AtL.take _ (AtL.drop _ h)
theorem pe_sl {lo hi : Option Expr} {p2 : Pos} {ml mh : Nv → R (Option Int)} (he : PE X e (rdE c me)) (hl : PO X lo (rdO c ml)) (hh : PO X hi (rdO c mh)) (hK : c.K = X.K := by rfl) : PE X (.Subscript e (.Slice lo hi none p2) pos) (rdL c (xSl me ml mh)) :=
  (pe_slice sl_list he hl hh).wk fun σ H Q ⟨ε, M, re, d, hm, q⟩ => by
    obtain ⟨x, h1, h2⟩ := R.bind_ok hm
    obtain ⟨l, h3, h4⟩ := R.bind_ok h2
    obtain ⟨u, h5, h6⟩ := R.bind_ok h4
    refine ⟨ε, M, re, x, h1, fun v H1 e1 hv => ⟨ε, M, re.ex e1, l, h3, fun H2 e2 => ⟨ε, M, re.ex (e1.trans e2), u, h5, fun H3 e3 => ?_⟩⟩⟩
    cases x with
    | list xs =>
      cases h6
      obtain ⟨a, vs, ev, g1, g2⟩ := hv
      have e4 := e2.trans e3
      refine ⟨a, vs, ev, hK ▸ sql_le (Evl.ex_l (hid_ex e4) g1), fun p n => ?_⟩
      have e5 : Ex H (upd H3 p (.lst (cutV vs l u))) := (e1.trans e4).trans (Evl.Ex.new n)
      refine q p _ _ (Evl.fresh_back (e1.trans e4) n) e5 upd_same (.inl ⟨_, _, rfl, rfl, cut_at (AtL.mono ?_ _ _ g2) l u⟩)
      exact Evl.Ex.trans (hid_ex e4) (hid_new (Evl.Ex.new n) n)
    | _ => cases h6
/-- xs[i] -/
theorem pe_i {sl : Expr} {mi : Nv → R D} (he : PE X e (rdE c me)) (hi : PE X sl (rdE c mi)) (hs : PlainIx sl := by exact fun _ _ => rfl) (hK : c.K = X.K := by rfl) : PE X (.Subscript e sl pos) (rdE c (xBin dIx me mi)) :=
  (pe_ix i_x he hi hs).wk (tOp_rd fun _ _ _ _ h => hK ▸ h)
/-! ### truth, tests -/
def truD : D → R Bool
  | .none => .ok false
  | .bool b => .ok b
  | .int i => .ok (i != 0)
  | _ => .bad
def tV (m : Nv → R D) : Nv → R Bool := fun ε => (m ε).bind truD
theorem pt_v (h : PE X a (rdE c ma)) (he : ∀ whole, isTrue a X.env whole = (do let v ← whole; standAt a.pos; holding [v] (truthy v)) := by intro _; rfl) : PT X a (rdT c (tV ma)) :=
  (pt_truth h he).wk fun σ H Q ⟨ε, M, re, k, hm, q⟩ => by
    obtain ⟨d, h1, h2⟩ := R.bind_ok hm
    refine ⟨ε, M, re, d, h1, fun v H' e' hv => ⟨k, ?_, q H' e'⟩⟩
    cases d with
    | none =>
      cases h2
      rw [show v = _ from hv]
      rfl
    | bool b =>
      cases h2
      rw [show v = _ from hv]
      rfl
    | int i =>
      cases h2
      rw [show v = _ from hv]
      rfl
    | _ => cases h2
def tAn (m n : Nv → R Bool) : Nv → R Bool := fun ε => (m ε).bind fun b => if b then n ε else .ok false
def tOrr (m n : Nv → R Bool) : Nv → R Bool := fun ε => (m ε).bind fun b => if b then .ok true else n ε
def tNo (m : Nv → R Bool) : Nv → R Bool := fun ε => (m ε).bind fun b => .ok (!b)
theorem _root_.L2.PW.wk {e : Expr} {t t' : TT} (h : PW X e t) (i : ∀ σ H Q, t' σ H Q → t σ H Q) : PW X e t' := ⟨fun w pins s σ H Q I q => h.run w pins s σ H Q I (i σ H Q q)⟩
variable {m n : Nv → R Bool} {rest : List Expr}
theorem pw_an (ha : PT X a (rdT c m)) (hb : PW X (.BoolOp .And (b :: rest) pos) (rdT c n)) : PW X (.BoolOp .And (a :: b :: rest) pos) (rdT c (tAn m n)) := (pw_and ha hb).wk fun σ H Q ⟨ε, M, re, k, hm, q⟩ => by
  obtain ⟨x, h1, h2⟩ := R.bind_ok hm
  refine ⟨ε, M, re, x, h1, fun H1 e1 => ?_⟩
  cases x with
  | true => exact ⟨ε, M, re.ex e1, k, h2, fun H2 e2 => q H2 (e1.trans e2)⟩
  | false =>
    cases h2
    exact q H1 e1
theorem pw_orr (ha : PT X a (rdT c m)) (hb : PW X (.BoolOp .Or (b :: rest) pos) (rdT c n)) : PW X (.BoolOp .Or (a :: b :: rest) pos) (rdT c (tOrr m n)) := (pw_or ha hb).wk fun σ H Q ⟨ε, M, re, k, hm, q⟩ => by
  obtain ⟨x, h1, h2⟩ := R.bind_ok hm
  refine ⟨ε, M, re, x, h1, fun H1 e1 => ?_⟩
  cases x with
  | false => exact ⟨ε, M, re.ex e1, k, h2, fun H2 e2 => q H2 (e1.trans e2)⟩
  | true =>
    cases h2
    exact q H1 e1
theorem pt_no (ha : PT X a (rdT c m)) : PT X (.UnaryOp .Not a pos) (rdT c (tNo m)) := (pt_not ha).wk fun σ H Q ⟨ε, M, re, k, hm, q⟩ => by
  obtain ⟨x, h1, h2⟩ := R.bind_ok hm
  cases h2
  exact ⟨ε, M, re, x, h1, fun H1 e1 => q H1 e1⟩
/-! ### truth values as values -/
def boD : D → R Bool
  | .bool b => .ok b
  | _ => .bad
def xAn (m n : Nv → R D) : Nv → R D := fun ε => (m ε).bind fun d => (boD d).bind fun b => if b then n ε else .ok (.bool false)
def xOrr (m n : Nv → R D) : Nv → R D := fun ε => (m ε).bind fun d => (boD d).bind fun b => if b then .ok (.bool true) else n ε
def xNo (m : Nv → R D) : Nv → R D := fun ε => (m ε).bind fun d => (boD d).bind fun b => .ok (.bool (!b))
theorem boD_ok {d : D} {b : Bool} (h : boD d = .ok b) : d = .bool b := by
  cases d with
  | bool k =>
    cases h
    rfl
  | _ => cases h
theorem pe_an (ha : PE X a (rdE c ma)) (hb : PE X (.BoolOp .And (b :: rest) pos) (rdE c mb)) : PE X (.BoolOp .And (a :: b :: rest) pos) (rdE c (xAn ma mb)) := (L2.pe_and ha hb).wk fun σ H Q ⟨ε, M, re, d, hm, q⟩ => by
  obtain ⟨x, h1, h2⟩ := R.bind_ok hm
  obtain ⟨k, h3, h4⟩ := R.bind_ok h2
  have := boD_ok h3
  subst this
  refine ⟨ε, M, re, _, h1, fun v H1 e1 hv => ⟨k, hv, ?_⟩⟩
  cases k with
  | true => exact ⟨ε, M, re.ex e1, d, h4, fun v H2 e2 => q v H2 (e1.trans e2)⟩
  | false =>
    cases h4
    exact q _ H1 e1 rfl
theorem pe_orr (ha : PE X a (rdE c ma)) (hb : PE X (.BoolOp .Or (b :: rest) pos) (rdE c mb)) : PE X (.BoolOp .Or (a :: b :: rest) pos) (rdE c (xOrr ma mb)) := (L2.pe_or ha hb).wk fun σ H Q ⟨ε, M, re, d, hm, q⟩ => by
  obtain ⟨x, h1, h2⟩ := R.bind_ok hm
  obtain ⟨k, h3, h4⟩ := R.bind_ok h2
  have := boD_ok h3
  subst this
  refine ⟨ε, M, re, _, h1, fun v H1 e1 hv => ⟨k, hv, ?_⟩⟩
  cases k with
  | false => exact ⟨ε, M, re.ex e1, d, h4, fun v H2 e2 => q v H2 (e1.trans e2)⟩
  | true =>
    cases h4
    exact q _ H1 e1 rfl
theorem pe_no (ha : PE X a (rdE c ma)) : PE X (.UnaryOp .Not a pos) (rdE c (xNo ma)) := (L2.pe_not ha).wk fun σ H Q ⟨ε, M, re, d, hm, q⟩ => by
  obtain ⟨x, h1, h2⟩ := R.bind_ok hm
  obtain ⟨k, h3, h4⟩ := R.bind_ok h2
  have := boD_ok h3
  subst this
  cases h4
  exact ⟨ε, M, re, _, h1, fun v H1 e1 hv => ⟨k, hv, q _ H1 e1 rfl⟩⟩
/-- a if t else b -/
def xIf (t : Nv → R Bool) (ma mb : Nv → R D) : Nv → R D := fun ε => (t ε).bind fun k => if k then ma ε else mb ε
theorem pe_ife {cd : Expr} (hc : PT X cd (rdT c m)) (ha : PE X a (rdE c ma)) (hb : PE X b (rdE c mb)) : PE X (.IfExp cd a b pos) (rdE c (xIf m ma mb)) := (pe_ifExp hc ha hb).wk fun σ H Q ⟨ε, M, re, d, hm, q⟩ => by
  obtain ⟨k, h1, h2⟩ := R.bind_ok hm
  refine ⟨ε, M, re, k, h1, fun H1 e1 => ?_⟩
  cases k with
  | true => exact ⟨ε, M, re.ex e1, d, h2, fun v H2 e2 => q v H2 (e1.trans e2)⟩
  | false => exact ⟨ε, M, re.ex e1, d, h2, fun v H2 e2 => q v H2 (e1.trans e2)⟩
/-- a < b < c -/
def xCh (f g : D → D → R D) (ma mb mc : Nv → R D) : Nv → R D := fun ε => (ma ε).bind fun a => (mb ε).bind fun b => (f a b).bind fun z => (boD z).bind fun k => if k then (mc ε).bind fun d => g b d else .ok (.bool false)
theorem pe_ch {op op' : CmpOp} {f g : D → D → R D} {cc : Expr} {mc : Nv → R D} (ho : OpR X (compareOp op) (r2D X.K f)) (ho' : OpR X (compareOp op') (r2D X.K g)) (ha : PE X a (rdE c ma)) (hb : PE X b (rdE c mb)) (hcc : PE X cc (rdE c mc)) (hmk : lastMarks [op, op'] [b, cc] = false := by with_unfolding_all rfl) (hK : c.K = X.K := by rfl) :
    PE X (.Compare a [op, op'] [b, cc] pos) (rdE c (xCh f g ma mb mc)) := (pe_chain ho ho' ha hb hcc hmk).wk fun σ H Q ⟨ε, M, re, d, hm, q⟩ => by
  obtain ⟨x, h1, h2⟩ := R.bind_ok hm
  obtain ⟨y, h3, h4⟩ := R.bind_ok h2
  obtain ⟨z, h5, h6⟩ := R.bind_ok h4
  obtain ⟨k, h7, h8⟩ := R.bind_ok h6
  have := boD_ok h7
  subst this
  refine ⟨ε, M, re, x, h1, fun v H1 e1 hv => ⟨ε, M, re.ex e1, y, h3, fun w H2 e2 hw => ?_⟩⟩
  have hv2 := At.mono (hid_ex e2) x v hv
  refine ⟨M, x, y, _, Trk.ex re.trk (e1.trans e2), hK ▸ hv2, hK ▸ hw, h5, fun r H3 e3 hr => ⟨k, hr, ?_⟩⟩
  have e13 := (e1.trans e2).trans e3
  cases k with
  | true =>
    obtain ⟨d3, g1, g2⟩ := R.bind_ok h8
    exact ⟨ε, M, re.ex e13, d3, g1, fun u H4 e4 hu => ⟨M, y, d3, d, Trk.ex re.trk (e13.trans e4), hK ▸ At.mono (hid_ex (e3.trans e4)) y w hw, hK ▸ hu, g2, fun r H5 e5 hr => q r H5 ((e13.trans e4).trans e5) (hK ▸ hr)⟩⟩
  | false =>
    cases h8
    exact q _ H3 e13 rfl
end
end Tw
set_option Elab.async false
set_option linter.all false
set_option maxRecDepth 100000
set_option maxHeartbeats 4000000
/-! Tw8: what is walked, targets, comprehensions, statements -/
namespace Tw
open PySem PySem.Spec PyProof.Rows L2
/-! ### what is walked -/
def Wk (K : PySem.W.Frag) (B : Hp) (J : It) (ds : List D) : Prop := ∀ (i : Nat) (H : Hp), Ex B H → (i < ds.length → J.go i H) ∧ (ds.length ≤ i → J.stop i H) ∧
  ∀ x H', J.yld i H x H' → Ex H H' ∧ ∀ d, ds[i]? = some d → ∀ M', Trk M' H → Ex B (hid M' H) → At K (hid M' H') d x
def rdI (c : Cf) (m : Nv → R (List D)) : TI := fun σ H Rr => ∃ ε M, Rel c σ H ε M ∧ ∃ ds, m ε = .ok ds ∧ ∀ J H1, Ex H H1 → Wk c.K (hid M H1) J ds → Rr J H1
theorem _root_.L2.PI.wk {X : Cx} {tg e : Expr} {t t' : TI} (h : PI X tg e t) (i : ∀ σ H Q, t' σ H Q → t σ H Q) : PI X tg e t' := ⟨fun pins s σ H Q I q => h.run pins s σ H Q I (i σ H Q q)⟩
section
variable {X : Cx} {c : Cf} {tg : Expr}
theorem wk_list {K : PySem.W.Frag} {B : Hp} {a : Addr} {vs : List V} {ds : List D} (h : SqL K B a vs) (hd : AtL K B ds vs) : Wk K B (Itl K a) ds := fun i H e => by
  have hs : SqL K H a vs := Evl.ex_l e h
  have n := atL_len hd
  refine ⟨fun hi => ⟨vs, vs[i]'(by omega), hs, List.getElem?_eq_getElem (by omega)⟩, fun hi => ⟨vs, hs, by omega⟩, fun x H' ⟨e1, q⟩ => ?_⟩
  subst e1
  refine ⟨Evl.Ex.refl _, fun d hi M' t e2 => ?_⟩
  obtain ⟨v, h1, h2⟩ := AtL.get hd hi
  have ev : v = x := Option.some.inj (h1.symm.trans (q vs hs))
  rw [← ev]
  exact At.mono e2 d v h2
theorem wk_tup {K : PySem.W.Frag} {B : Hp} {a : Addr} {vs : List V} {ds : List D} (h : SqT K B a vs) (hd : AtL K B ds vs) : Wk K B (Itt K a) ds := fun i H e => by
  have hs : SqT K H a vs := Evl.ex_t e h
  have n := atL_len hd
  refine ⟨fun hi => ⟨vs, vs[i]'(by omega), hs, List.getElem?_eq_getElem (by omega)⟩, fun hi => ⟨vs, hs, by omega⟩, fun x H' ⟨e1, q⟩ => ?_⟩
  subst e1
  refine ⟨Evl.Ex.refl _, fun d hi M' t e2 => ?_⟩
  obtain ⟨v, h1, h2⟩ := AtL.get hd hi
  have ev : v = x := Option.some.inj (h1.symm.trans (q vs hs))
  rw [← ev]
  exact At.mono e2 d v h2
def rangeD (lo : Int) (n : Nat) : List D := (List.range n).map fun (i : Nat) => PyData.int (lo + (i : Int))
theorem wk_range {K : PySem.W.Frag} {B : Hp} (lo : Int) (n : Nat) : Wk K B (Itr lo n) (rangeD lo n) := fun i H e => by
  have l : (rangeD lo n).length = n := by
    unfold rangeD
    rw [List.length_map, List.length_range]
  refine ⟨fun hi => by rw [l] at hi; exact hi, fun hi => by rw [l] at hi; exact hi, fun x H' ⟨e1, e2⟩ => ?_⟩
  subst e1 e2
  refine ⟨Evl.Ex.refl _, fun d hd M' t e2 => ?_⟩
  unfold rangeD at hd
  rw [List.getElem?_map] at hd
  have hi : i < n := by
    cases q : (List.range n)[i]? with
    | none =>
      rw [q] at hd
      cases hd
    | some j =>
      have := (List.getElem?_eq_some_iff.mp q).1
      rwa [List.length_range] at this
  rw [List.getElem?_range hi] at hd
  cases hd
  rfl
def enumG : Nat → List D → List D
  | _, [] => []
  | n, d :: ds => .tuple [.int (n : Int), d] :: enumG (n + 1) ds
theorem enumG_len : ∀ (n : Nat) (ds : List D), (enumG n ds).length = ds.length
  | _, [] => rfl
  | n, d :: ds => by
    show (enumG (n + 1) ds).length + 1 = _
    rw [enumG_len]
    rfl
theorem enumG_get : ∀ (n : Nat) (ds : List D) (i : Nat) (e : D), (enumG n ds)[i]? = some e → ∃ d, ds[i]? = some d ∧ e = .tuple [.int ((n + i : Nat) : Int), d]
  | _, [], i, e, h => by
    have h' : ([] : List D)[i]? = some e := h
    simp at h'
  | n, d :: ds, 0, e, h => by
    have h' : (PyData.tuple [.int (n : Int), d]) = e := by simpa [enumG] using h
    exact ⟨d, rfl, h'.symm⟩
  | n, d :: ds, i + 1, e, h => by
    have h' : (enumG (n + 1) ds)[i]? = some e := by simpa [enumG] using h
    obtain ⟨q, h1, h2⟩ := enumG_get (n + 1) ds i e h'
    refine ⟨q, by simpa using h1, ?_⟩
    rw [h2]
    have : n + 1 + i = n + (i + 1) := by omega
    rw [this]
theorem wk_enum {K : PySem.W.Frag} {B : Hp} {a : Addr} {vs : List V} {ds : List D} (h : SqL K B a vs) (hd : AtL K B ds vs) : Wk K B (Ite K a) (enumG 0 ds) := fun i H e => by
  have hs : SqL K H a vs := Evl.ex_l e h
  have n := atL_len hd
  refine ⟨fun hi => ?_, fun hi => ?_, fun x H' ⟨T, y, e1, nT, e2, q⟩ => ?_⟩
  · rw [enumG_len] at hi
    exact ⟨vs, vs[i]'(by omega), hs, List.getElem?_eq_getElem (by omega)⟩
  · rw [enumG_len] at hi
    exact ⟨vs, hs, by omega⟩
  · subst e1 e2
    refine ⟨Evl.Ex.new nT, fun d hi M' t e2 => ?_⟩
    obtain ⟨f, g1, g2⟩ := enumG_get 0 ds i d hi
    subst g2
    obtain ⟨v, h1, h2⟩ := AtL.get hd g1
    have ev : v = y := Option.some.inj (h1.symm.trans (q vs hs))
    rw [← ev]
    refine ⟨T, _, rfl, SqT.of (hid_of upd_same (t.no nT)), _, _, rfl, ?_, _, _, rfl, At.mono (Evl.Ex.trans e2 (hid_ex (Evl.Ex.new nT))) f v h2, rfl⟩
    show V.int (i : Int) = V.int ((0 + i : Nat) : Int)
    rw [Nat.zero_add]
def zipG : List D → List D → List D
  | d :: ds, e :: es => .tuple [d, e] :: zipG ds es
  | _, _ => []
theorem zipG_len : ∀ (ds es : List D), (zipG ds es).length = min ds.length es.length
  | [], es => by
    show 0 = min 0 es.length
    omega
  | d :: ds, [] => by
    show 0 = min (ds.length + 1) 0
    omega
  | d :: ds, e :: es => by
    show (zipG ds es).length + 1 = min (ds.length + 1) (es.length + 1)
    rw [zipG_len]
    omega
theorem zipG_get : ∀ (ds es : List D) (i : Nat) (f : D), (zipG ds es)[i]? = some f → ∃ d e, ds[i]? = some d ∧ es[i]? = some e ∧ f = .tuple [d, e]
  | [], es, i, f, h => by
    have h' : ([] : List D)[i]? = some f := h
    simp at h'
  | d :: ds, [], i, f, h => by
    have h' : ([] : List D)[i]? = some f := h
    simp at h'
  | d :: ds, e :: es, 0, f, h => by
    have h' : PyData.tuple [d, e] = f := by simpa [zipG] using h
    exact ⟨d, e, rfl, rfl, h'.symm⟩
  | d :: ds, e :: es, i + 1, f, h => by
    obtain ⟨a, b, h1, h2, h3⟩ := zipG_get ds es i f (by simpa [zipG] using h)
    exact ⟨a, b, by simpa using h1, by simpa using h2, h3⟩
theorem wk_zip {K : PySem.W.Frag} {B : Hp} {a b : Addr} {vs ws : List V} {ds es : List D} (h : SqL K B a vs) (hd : AtL K B ds vs) (h' : SqL K B b ws) (hd' : AtL K B es ws) : Wk K B (Itz K a b) (zipG ds es) := fun i H e => by
  have hs : SqL K H a vs := Evl.ex_l e h
  have hs' : SqL K H b ws := Evl.ex_l e h'
  have n := atL_len hd
  have n' := atL_len hd'
  have l := zipG_len ds es
  refine ⟨fun hi => ?_, fun hi => ?_, fun x H' ⟨T, y, z, e1, nT, e2, q, q'⟩ => ?_⟩
  · exact ⟨vs, ws, vs[i]'(by omega), ws[i]'(by omega), hs, hs', List.getElem?_eq_getElem (by omega), List.getElem?_eq_getElem (by omega)⟩
  · exact ⟨vs, ws, hs, hs', by omega⟩
  · subst e1 e2
    refine ⟨Evl.Ex.new nT, fun d hi M' t e2 => ?_⟩
    obtain ⟨f, g, g1, g2, g3⟩ := zipG_get ds es i d hi
    subst g3
    obtain ⟨v, h1, h2⟩ := AtL.get hd g1
    obtain ⟨w, h3, h4⟩ := AtL.get hd' g2
    have t1 : v = y := Option.some.inj (h1.symm.trans (q vs hs))
    have t2 : w = z := Option.some.inj (h3.symm.trans (q' ws hs'))
    rw [← t1, ← t2]
    exact ⟨T, _, rfl, SqT.of (hid_of upd_same (t.no nT)), _, _, rfl, At.mono (Evl.Ex.trans e2 (hid_ex (Evl.Ex.new nT))) f v h2, _, _, rfl, At.mono (Evl.Ex.trans e2 (hid_ex (Evl.Ex.new nT))) g w h4, rfl⟩
/-- a list or a tuple -/
def iSeq (m : Nv → R D) : Nv → R (List D) := fun ε => (m ε).bind fun d => match d with
  | .list ds => .ok ds
  | .tuple ds => .ok ds
  | _ => .bad
def rlim (i : Int) : Bool := decide (-(2 ^ 62) ≤ i) && decide (i < 2 ^ 62)
def iRange1 (m : Nv → R (List D)) : Nv → R (List D) := fun ε => (m ε).bind fun ds => match ds with
  | [.int j] => if rlim j then .ok (rangeD 0 j.toNat) else .bad
  | _ => .bad
def iRange2 (m : Nv → R (List D)) : Nv → R (List D) := fun ε => (m ε).bind fun ds => match ds with
  | [.int i, .int j] => if rlim i && rlim j then .ok (rangeD i (j - i).toNat) else .bad
  | _ => .bad
def iEnu (m : Nv → R (List D)) : Nv → R (List D) := fun ε => (m ε).bind fun ds => match ds with
  | [.list xs] => .ok (enumG 0 xs)
  | _ => .bad
def iZi (m : Nv → R (List D)) : Nv → R (List D) := fun ε => (m ε).bind fun ds => match ds with
  | [.list xs, .list ys] => .ok (zipG xs ys)
  | _ => .bad
variable {l : Expr} {ml : Nv → R D} {ms : Nv → R (List D)} {p pos tpos : Pos}
theorem pi_l (hl : PE X l (rdE c ml)) (hK : c.K = X.K := by rfl) : PI X tg l (rdI c (iSeq ml)) := by
  constructor
  intro pins s σ H Rr I ⟨ε, M, re, ds, hm, q⟩
  obtain ⟨d, h1, h2⟩ := R.bind_ok hm
  apply thn (hl.run pins s σ H (fun v H1 => Ex H H1 ∧ At c.K (hid M H1) d v) I ⟨ε, M, re, d, h1, fun v H' e hv => ⟨e, hv⟩⟩)
  intro u s1 ⟨v, H1, I1, rv, e1, hv⟩
  have fresh : H1 s1.heap.objs.size = none := I1.hok.fresh (Nat.le_refl _)
  have fp : ∀ b ∈ [s1.heap.objs.size], FpOk X pins H1 b := by
    intro b hb
    rw [List.mem_singleton] at hb
    rw [hb]
    exact I1.fpOk (Nat.le_refl _) fresh
  cases d with
  | list xs =>
    cases h2
    obtain ⟨a, vs, ev, g1, g2⟩ := hv
    subst ev
    cases rv
    obtain ⟨its, r2, pl, hz⟩ := I1.list (hK ▸ sql_le g1)
    apply wpAny_pyIter_list pl.isList
    exact ⟨_, _, _, _, H1, rfl, I1.kept (t' := s1.toks) fun b o e => Heap.get?_push_of_some _ e, turn_list a _, ⟨_, Heap.get?_push_size _ rfl, rfl, rfl⟩, fp, q _ H1 e1 (hK ▸ wk_list g1 g2)⟩
  | tuple xs =>
    cases h2
    obtain ⟨a, vs, ev, g1, g2⟩ := hv
    subst ev
    cases rv
    obtain ⟨its, r2, pl, hz⟩ := I1.tuple (hK ▸ sqt_le g1)
    apply wpAny_pyIter_tuple (show s1.heap.IsTuple a its.toArray from pl)
    exact ⟨_, _, _, _, H1, rfl, I1.kept (t' := s1.toks) fun b o e => Heap.get?_push_of_some _ e, turn_tuple a _, ⟨_, Heap.get?_push_size _ rfl, rfl, rfl⟩, fp, q _ H1 e1 (hK ▸ wk_tup g1 g2)⟩
  | _ => cases h2
theorem rlim_iff {i : Int} (h : rlim i = true) : -(2 ^ 62) ≤ i ∧ i < 2 ^ 62 := by
  unfold rlim at h
  rw [Bool.and_eq_true] at h
  exact ⟨of_decide_eq_true h.1, of_decide_eq_true h.2⟩
theorem pi_r1 {a : Expr} (hm : X.mg "range" = none) (ha : PA X [a] (rdA c ms)) (hg : Gl X "range" := by rfl) (hs : starEach [a] X.env = [(false, eval a X.env)] := by rfl) : PI X tg (.Call (.Name "range" p) [a] [] pos) (rdI c (iRange1 ms)) :=
  (pi_range1 hg hm ha hs).wk fun σ H Q ⟨ε, M, re, ds, hm, q⟩ => by
    obtain ⟨as, h1, h2⟩ := R.bind_ok hm
    refine ⟨ε, M, re, as, h1, fun vs H1 e1 hv => ?_⟩
    split at h2
    · split at h2
      · rename_i j g
        cases h2
        obtain ⟨v, ev, w⟩ := at_one hv
        have := rlim_iff g
        exact ⟨j, by rw [ev, show v = _ from w], this.1, this.2, q _ H1 e1 (wk_range 0 _)⟩
      · cases h2
    · cases h2
theorem pi_r2 {a b : Expr} (hm : X.mg "range" = none) (ha : PA X [a, b] (rdA c ms)) (hg : Gl X "range" := by rfl) (hs : starEach [a, b] X.env = [(false, eval a X.env), (false, eval b X.env)] := by rfl) (hs2 : starEach [b] X.env = [(false, eval b X.env)] := by rfl) : PI X tg (.Call (.Name "range" p) [a, b] [] pos) (rdI c (iRange2 ms)) :=
  (pi_range2 hg hm ha hs hs2).wk fun σ H Q ⟨ε, M, re, ds, hm, q⟩ => by
    obtain ⟨as, h1, h2⟩ := R.bind_ok hm
    refine ⟨ε, M, re, as, h1, fun vs H1 e1 hv => ?_⟩
    split at h2
    · split at h2
      · rename_i i j g
        rw [Bool.and_eq_true] at g
        cases h2
        obtain ⟨v, w, ev, g1, g2⟩ := at_two hv
        have a1 := rlim_iff g.1
        have a2 := rlim_iff g.2
        exact ⟨i, j, by rw [ev, show v = _ from g1, show w = _ from g2], ⟨a1.1, a1.2, a2.1, a2.2⟩, q _ H1 e1 (wk_range i _)⟩
      · cases h2
    · cases h2
theorem pi_e {e : Expr} {elts : List Expr} {kk : Nat} (hm : X.mg "enumerate" = none) (ha : PA X [e] (rdA c ms)) (hg : Gl X "enumerate" := by rfl) (hs : starEach [e] X.env = [(false, eval e X.env)] := by rfl) (hK : c.K = X.K := by rfl) :
    PI X (.Tuple elts kk tpos) (.Call (.Name "enumerate" p) [e] [] pos) (rdI c (iEnu ms)) := (pi_enum hg hm ha hs).wk fun σ H Q ⟨ε, M, re, ds, hm, q⟩ => by
    obtain ⟨as, h1, h2⟩ := R.bind_ok hm
    refine ⟨ε, M, re, as, h1, fun vs H1 e1 hv => ?_⟩
    split at h2
    · cases h2
      obtain ⟨v, ev, a, ws, e2, g1, g2⟩ := at_one hv
      exact ⟨a, ws, by rw [ev, e2], hK ▸ sql_le g1, q _ H1 e1 (hK ▸ wk_enum g1 g2)⟩
    · cases h2
theorem pi_z {e e2 : Expr} {elts : List Expr} {kk : Nat} (hm : X.mg "zip" = none) (ha : PA X [e, e2] (rdA c ms)) (hg : Gl X "zip" := by rfl) (hs : starEach [e, e2] X.env = (false, eval e X.env) :: starEach [e2] X.env := by rfl) (hpl : (backTo pos (starEach [e2] X.env)).any (·.1) = false := by rfl) (hK : c.K = X.K := by rfl) :
    PI X (.Tuple elts kk tpos) (.Call (.Name "zip" p) [e, e2] [] pos) (rdI c (iZi ms)) := (pi_zip hg hm ha hs hpl).wk fun σ H Q ⟨ε, M, re, ds, hm, q⟩ => by
    obtain ⟨as, h1, h2⟩ := R.bind_ok hm
    refine ⟨ε, M, re, as, h1, fun vs H1 e1 hv => ?_⟩
    split at h2
    · cases h2
      obtain ⟨v, w, ev, ⟨a, xs, e2, g1, g2⟩, ⟨b, ys, e3, g3, g4⟩⟩ := at_two hv
      exact ⟨a, b, xs, ys, by rw [ev, e2, e3], hK ▸ sql_le g1, hK ▸ sql_le g3, q _ H1 e1 (hK ▸ wk_zip g1 g2 g3 g4)⟩
    · cases h2
end
end Tw
set_option Elab.async false
set_option linter.all false
set_option maxRecDepth 100000
set_option maxHeartbeats 4000000
/-! Tw9: targets, comprehensions -/
namespace Tw
open PySem PySem.Spec PyProof.Rows L2
/-! ### slots wiped -/
theorem wipe_at (σ : L2.St) (i : Nat) : ∀ vs : List Nat, (wipe σ vs)[i]? = if i ∈ vs then (if i < σ.length then some none else none) else σ[i]?
  | [] => by
    rw [if_neg (by simp)]
    rfl
  | v :: vs => by
    show ((wipe σ vs).set v none)[i]? = _
    by_cases e : v = i
    · subst e
      rw [if_pos (by simp)]
      by_cases h : v < σ.length
      · rw [if_pos h, List.getElem?_set_self (by rw [wipe_length]; exact h)]
      · rw [if_neg h]
        exact List.getElem?_eq_none_iff.mpr (by rw [List.length_set, wipe_length]; omega)
    · rw [List.getElem?_set_ne e, wipe_at σ i vs]
      by_cases h : i ∈ vs
      · rw [if_pos h, if_pos (List.mem_cons_of_mem _ h)]
      · rw [if_neg h, if_neg fun z => by
          rcases List.mem_cons.mp z with z | z
          · exact e z.symm
          · exact h z]
theorem wipe_set {σ : L2.St} {j : Nat} {x : Option V} {vs : List Nat} (h : j ∈ vs) : wipe (σ.set j x) vs = wipe σ vs := by
  apply List.ext_getElem?
  intro i
  rw [wipe_at, wipe_at, List.length_set]
  by_cases e : i ∈ vs
  · rw [if_pos e, if_pos e]
  · rw [if_neg e, if_neg e, List.getElem?_set_ne fun z : j = i => e (by rw [← z]; exact h)]
theorem wipe_wipe {σ : L2.St} {vs : List Nat} : wipe (wipe σ vs) vs = wipe σ vs := by
  apply List.ext_getElem?
  intro i
  rw [wipe_at, wipe_length, wipe_at]
  by_cases e : i ∈ vs
  · rw [if_pos e, if_pos e]
  · rw [if_neg e]
section
variable {c : Cf}
theorem Rel.unset {σ : L2.St} {H : Hp} {ε : Nv} {M : List Addr} (r : Rel c σ H ε M) (i : Nat) : Rel c (σ.set i none) H (st ε i .no) M where
  ext := r.ext
  len := by rw [List.length_set, st_len, r.len]
  sub := r.sub
  trk := r.trk
  old := r.old
  im := fun j d h => by
    by_cases q : j = i
    · subst q
      have hl := gt_lt (ε := st ε j .no) (i := j) (by rw [h]; intro z; cases z)
      rw [st_len] at hl
      rw [gt_same hl] at h
      cases h
    · rw [gt_ne q] at h
      obtain ⟨v, h1, h2⟩ := r.im j d h
      exact ⟨v, by rw [List.getElem?_set_ne (Ne.symm q)]; exact h1, h2⟩
  mu := fun j d h => by
    by_cases q : j = i
    · subst q
      have hl := gt_lt (ε := st ε j .no) (i := j) (by rw [h]; intro z; cases z)
      rw [st_len] at hl
      rw [gt_same hl] at h
      cases h
    · rw [gt_ne q] at h
      obtain ⟨a, o, h1, h2⟩ := r.mu j d h
      exact ⟨a, o, by rw [List.getElem?_set_ne (Ne.symm q)]; exact h1, h2⟩
  dis := fun j k d e a b hjk hj hk h1 h2 => by
    by_cases q : j = i
    · subst q
      have hl := gt_lt (ε := st ε j .no) (i := j) (by rw [hj]; intro z; cases z)
      rw [st_len] at hl
      rw [gt_same hl] at hj
      cases hj
    · by_cases q2 : k = i
      · subst q2
        have hl := gt_lt (ε := st ε k .no) (i := k) (by rw [hk]; intro z; cases z)
        rw [st_len] at hl
        rw [gt_same hl] at hk
        cases hk
      · rw [gt_ne q] at hj
        rw [gt_ne q2] at hk
        rw [List.getElem?_set_ne (Ne.symm q)] at h1
        rw [List.getElem?_set_ne (Ne.symm q2)] at h2
        exact r.dis j k d e a b hjk hj hk h1 h2
def wipeE (ε : Nv) : List Nat → Nv
  | [] => ε
  | v :: vs => st (wipeE ε vs) v .no
theorem Rel.wipe {σ : L2.St} {H : Hp} {ε : Nv} {M : List Addr} (r : Rel c σ H ε M) : ∀ vs : List Nat, Rel c (L2.wipe σ vs) H (wipeE ε vs) M
  | [] => r
  | v :: vs => (Rel.wipe r vs).unset v
/-- one more object that is hidden -/
theorem Rel.add {σ : L2.St} {H H' : Hp} {ε : Nv} {M : List Addr} (r : Rel c σ H ε M) {p : Addr} {o : HO} (n : H p = none) (e : Ex H H') (hp : H' p = some o) : Rel c σ H' ε (p :: M) where
  ext := r.ext.trans e
  len := r.len
  sub := fun a h => List.mem_cons_of_mem _ (r.sub a h)
  trk := fun a h => by
    rcases List.mem_cons.mp h with q | q
    · exact ⟨o, by rw [q]; exact hp⟩
    · obtain ⟨u, q⟩ := r.trk a q
      exact ⟨u, e a u q⟩
  old := r.old
  im := fun i d h => let ⟨v, h1, h2⟩ := r.im i d h; ⟨v, h1, At.mono (hid_new e n) d v h2⟩
  mu := fun i d h => let ⟨a, u, h1, h2, h3, h4, h5⟩ := r.mu i d h; ⟨a, u, h1, List.mem_cons_of_mem _ h2, h3, e a u h4, h5.mono (hid_new e n)⟩
  dis := r.dis
/-- a hidden object that is no slot's own is changed -/
theorem Rel.updD {σ : L2.St} {H : Hp} {ε : Nv} {M : List Addr} (r : Rel c σ H ε M) {p : Addr} {o : HO} (hp : p ∈ M) (h0 : c.H0 p = none) (hs : ∀ i d, gt ε i = .mu d → σ[i]? ≠ some (some (.ref p))) : Rel c σ (L2.upd H p o) ε M where
  ext := r.ext.mut h0
  len := r.len
  sub := r.sub
  trk := fun a h => by
    by_cases q : a = p
    · exact ⟨o, by rw [q]; exact upd_same⟩
    · obtain ⟨u, w⟩ := r.trk a h
      exact ⟨u, by rw [upd_ne q]; exact w⟩
  old := r.old
  im := fun i d h => by
    rw [hid_upd hp]
    exact r.im i d h
  mu := fun i d h => by
    obtain ⟨a, u, h1, h2, h3, h4, h5⟩ := r.mu i d h
    have ne : a ≠ p := fun z => hs i d h (z ▸ h1)
    exact ⟨a, u, h1, h2, h3, by rw [upd_ne ne]; exact h4, by rw [hid_upd hp]; exact h5⟩
  dis := r.dis
/-! ### targets that are names -/
def MuK (σ : L2.St) (ε : Nv) (σ' : L2.St) (ε' : Nv) : Prop := ∀ j d, gt ε' j = .mu d → gt ε j = .mu d ∧ σ'[j]? = σ[j]?
def GOk (c : Cf) (g : TG) (m : D → Nv → R Nv) (js : List Nat) : Prop := ∀ (x : V) (σ : L2.St) (H : Hp) (Q : L2.St → Hp → Prop) (ε : Nv) (M : List Addr) (d : D) (ε' : Nv), Rel c σ H ε M → At c.K (hid M H) d x → m d ε = .ok ε' →
  (∀ σ', Rel c σ' H ε' M → (∀ vs : List Nat, (∀ j, j ∈ js → j ∈ vs) → wipe σ' vs = wipe σ vs) → MuK σ ε σ' ε' → Q σ' H) → g x σ H Q
def GsOk (c : Cf) (g : TGs) (m : List D → Nv → R Nv) (js : List Nat) : Prop := ∀ (xs : List V) (σ : L2.St) (H : Hp) (Q : L2.St → Hp → Prop) (ε : Nv) (M : List Addr) (ds : List D) (ε' : Nv), Rel c σ H ε M → AtL c.K (hid M H) ds xs → m ds ε = .ok ε' →
  (∀ σ', Rel c σ' H ε' M → (∀ vs : List Nat, (∀ j, j ∈ js → j ∈ vs) → wipe σ' vs = wipe σ vs) → MuK σ ε σ' ε' → Q σ' H) → g xs σ H Q
def bN (i : Nat) : D → Nv → R Nv := fun d ε => .ok (st ε i (.im d))
theorem gok_n (i : Nat) : GOk c (gName i) (bN i) [i] := fun x σ H Q ε M d ε' r h hm q => by
  cases hm
  refine q _ (r.set h) (fun vs hv => wipe_set (hv i (List.mem_singleton.mpr rfl))) fun j f hj => ?_
  by_cases e : j = i
  · subst e
    have hl : j < ε.length := by
      have := gt_lt (ε := st ε j (.im d)) (i := j) (by rw [hj]; intro z; cases z)
      rwa [st_len] at this
    rw [gt_same hl] at hj
    cases hj
  · rw [gt_ne e] at hj
    exact ⟨hj, List.getElem?_set_ne (Ne.symm e)⟩
def bs0 : List D → Nv → R Nv := fun ds ε => match ds with
  | [] => .ok ε
  | _ => .bad
def bsC (b : D → Nv → R Nv) (bs : List D → Nv → R Nv) : List D → Nv → R Nv := fun ds ε => match ds with
  | d :: r => (b d ε).bind fun ε1 => bs r ε1
  | [] => .bad
def bT (n : Nat) (bs : List D → Nv → R Nv) : D → Nv → R Nv := fun d ε => match d with
  | .tuple ds => if ds.length = n then bs ds ε else .bad
  | _ => .bad
theorem gsok_0 : GsOk c gNil bs0 [] := fun xs σ H Q ε M ds ε' r h hm q => by
  unfold bs0 at hm
  split at hm
  · cases hm
    exact ⟨h, q σ r (fun _ _ => rfl) fun _ _ hj => ⟨hj, rfl⟩⟩
  · cases hm
theorem gsok_c {g : TG} {gs : TGs} {b : D → Nv → R Nv} {bs : List D → Nv → R Nv} {js ks : List Nat} (h1 : GOk c g b js) (h2 : GsOk c gs bs ks) : GsOk c (gCons g gs) (bsC b bs) (js ++ ks) := fun xs σ H Q ε M ds ε' r h hm q => by
  unfold bsC at hm
  split at hm
  · obtain ⟨v, vs, e, a1, a2⟩ := at_cons h
    obtain ⟨ε1, m1, m2⟩ := R.bind_ok hm
    refine ⟨v, vs, e, h1 v σ H _ ε M _ ε1 r a1 m1 fun σ1 r1 w1 k1 => h2 vs σ1 H Q ε1 M _ ε' r1 a2 m2 fun σ2 r2 w2 k2 => q σ2 r2 (fun ws hw => ?_) fun j f hj => ?_⟩
    · rw [w2 ws fun j hj => hw j (List.mem_append_right _ hj), w1 ws fun j hj => hw j (List.mem_append_left _ hj)]
    · obtain ⟨p1, p2⟩ := k2 j f hj
      obtain ⟨p3, p4⟩ := k1 j f p1
      exact ⟨p3, p2.trans p4⟩
  · cases hm
theorem gok_t {n : Nat} {gs : TGs} {bs : List D → Nv → R Nv} {js : List Nat} (h : GsOk c gs bs js) : GOk c (gTup c.K n gs) (bT n bs) js := fun x σ H Q ε M d ε' r hx hm q => by
  unfold bT at hm
  split at hm
  · split at hm
    · rename_i ds hn
      obtain ⟨a, xs, e, h1, h2⟩ := hx
      exact ⟨a, xs, e, sqt_le h1, by rw [atL_len h2]; exact hn, h xs σ H Q ε M ds ε' r h2 hm q⟩
    · cases hm
  · cases hm
end
/-! ### comprehensions -/
def lcG (g : D → Nv → R Nv) (t : Nv → R Bool) (e : Nv → R D) (ε : Nv) : List D → R (List D)
  | [] => .ok []
  | d :: ds => (g d ε).bind fun ε1 => (t ε1).bind fun k => if k then (e ε1).bind fun y => (lcG g t e ε ds).bind fun ys => .ok (y :: ys) else lcG g t e ε ds
def xLc (vs : List Nat) (mi : Nv → R (List D)) (g : D → Nv → R Nv) (t : Nv → R Bool) (e : Nv → R D) : Nv → R D := fun ε => (mi ε).bind fun ds => (lcG g t e (wipeE ε vs) ds).bind fun ys => if ys.length ≤ lim then .ok (.list ys) else .bad
def tYe : Nv → R Bool := fun _ => .ok true
section
variable {X : Cx} {c : Cf}
theorem tYes_rd : ∀ σ H Q, rdT c tYe σ H Q → tYes σ H Q := fun σ H Q ⟨ε, M, r, b, hm, q⟩ => by
  cases hm
  exact q H (Evl.Ex.refl H)
theorem _root_.L2.PTs.wk {ifs : List Expr} {t t' : TT} (h : PTs X ifs t) (i : ∀ σ H Q, t' σ H Q → t σ H Q) : PTs X ifs t' := ⟨fun pins s σ H Q I q => h.run pins s σ H Q I (i σ H Q q)⟩
theorem pts_y : PTs X [] (rdT c tYe) := pts_nil.wk tYes_rd
theorem mu_ne {σ : L2.St} {H : Hp} {ε : Nv} {M : List Addr} (r : Rel c σ H ε M) {p : Addr} (n : p ∉ M) : ∀ i d, gt ε i = .mu d → σ[i]? ≠ some (some (.ref p)) := fun i d h z => by
  obtain ⟨a, o, h1, h2, _⟩ := r.mu i d h
  rw [z] at h1
  cases h1
  exact n h2
theorem tLc_rd {g : TG} {b : D → Nv → R Nv} {js vs : List Nat} {mi : Nv → R (List D)} {t : Nv → R Bool} {e : Nv → R D} (hg : GOk c g b js) (hj : ∀ j, j ∈ js → j ∈ vs) :
    ∀ σ H Q, rdL c (xLc vs mi b t e) σ H Q → tLc (rdI c mi) g (rdT c t) (rdE c e) vs σ H Q := fun σ H Q ⟨ε, M, re, d, hm, q⟩ => by
  obtain ⟨ds, h1, h2⟩ := R.bind_ok hm
  obtain ⟨ys, h3, h4⟩ := R.bind_ok h2
  split at h4
  · rename_i hz
    cases h4
    refine ⟨ε, M, re, ds, h1, fun J H1 e1 wk D nD => ?_⟩
    have nD0 : H D = none := Evl.fresh_back e1 nD
    have nM : D ∉ M := Trk.no re.trk nD0
    have n0 : c.H0 D = none := Evl.fresh_back re.ext nD0
    -- the invariant: what is made so far, what is left
    refine ⟨fun i m H2 => m = ds.length - i ∧ i ≤ ds.length ∧ ∃ acc rest vs0, lcG b t e (wipeE ε vs) (ds.drop i) = .ok rest ∧ acc ++ rest = ys ∧ H2 D = some (.lst vs0) ∧ AtL c.K (hid (D :: M) H2) acc vs0 ∧ Rel c (wipe σ vs) H2 (wipeE ε vs) (D :: M) ∧ Ex H1 H2,
      ⟨ds.length, by omega, Nat.zero_le _, [], ys, [], h3, rfl, upd_same, rfl, ((re.ex e1).wipe vs).add nD (Evl.Ex.new nD) upd_same, Evl.Ex.new nD⟩, ?_⟩
    rintro i m H2 ⟨rfl, hi, acc, rest, vs0, hl, ha, hD, hA, hR, hE⟩
    have hB : Ex (hid M H1) (hid (D :: M) H2) := hid_new hE nD
    have wi := wk i H2 (Evl.Ex.trans hB hid_le)
    by_cases hlt : i < ds.length
    · refine .inr ⟨wi.1 hlt, fun H' => ∃ acc rest vs0, lcG b t e (wipeE ε vs) (ds.drop (i + 1)) = .ok rest ∧ acc ++ rest = ys ∧ H' D = some (.lst vs0) ∧ AtL c.K (hid (D :: M) H') acc vs0 ∧ Rel c (wipe σ vs) H' (wipeE ε vs) (D :: M) ∧ Ex H1 H', fun H' p => ⟨_, by omega, rfl, hlt, p⟩, fun x H' y => ?_⟩
      obtain ⟨ex, item⟩ := wi.2.2 x H' y
      have hx := item ds[i] (List.getElem?_eq_getElem hlt) (D :: M) hR.trk hB
      rw [List.drop_eq_getElem_cons hlt] at hl
      obtain ⟨ε1, l1, l2⟩ := R.bind_ok hl
      obtain ⟨k, l3, l4⟩ := R.bind_ok l2
      refine hg x (wipe σ vs) H' _ _ (D :: M) ds[i] ε1 (hR.ex ex) hx l1 fun σ2 r2 w2 _ => ⟨by rw [w2 vs hj, wipe_wipe], ε1, D :: M, r2, k, l3, fun H3 e3 => ?_⟩
      have exx := Evl.Ex.trans ex e3
      cases k with
      | false =>
        exact ⟨acc, rest, vs0, l4, ha, exx D _ hD, AtL.mono (hid_ex exx) _ _ hA, hR.ex exx, Evl.Ex.trans hE exx⟩
      | true =>
        obtain ⟨y1, l5, l6⟩ := R.bind_ok l4
        obtain ⟨ys', l7, l8⟩ := R.bind_ok l6
        cases l8
        refine ⟨ε1, D :: M, r2.ex e3, y1, l5, fun v H4 e4 hv => ⟨vs0, e4 D _ (exx D _ hD), ?_, ?_⟩⟩
        · rw [atL_len hA]
          refine lim_lt (Nat.le_trans ?_ hz)
          rw [← ha, List.length_append]
          omega
        · have ex4 := Evl.Ex.trans exx e4
          have hm : D ∈ D :: M := List.mem_cons_self
          refine ⟨acc ++ [y1], ys', vs0 ++ [v], l7, by rw [← ha, List.append_assoc]; rfl, upd_same, ?_, ?_, ?_⟩
          · rw [hid_upd hm]
            exact AtL.app (AtL.mono (hid_ex ex4) _ _ hA) ⟨v, [], rfl, hv, rfl⟩
          · refine (hR.ex ex4).updD hm n0 fun j f hj z => ?_
            obtain ⟨w', o', z1, z2, _⟩ := (re.wipe vs).mu j f hj
            rw [z] at z1
            cases z1
            exact nM z2
          · exact Evl.Ex.mut (Evl.Ex.trans hE ex4) nD
    · have ei : i = ds.length := by omega
      subst ei
      refine .inl ⟨wi.2.1 (Nat.le_refl _), ?_⟩
      rw [List.drop_length] at hl
      cases hl
      rw [List.append_nil] at ha
      subst ha
      exact q D _ H2 nD0 (Evl.Ex.trans e1 hE) hD (.inl ⟨vs0, acc, rfl, rfl, hA⟩)
  · cases h4
end
end Tw
set_option Elab.async false
set_option linter.all false
set_option maxRecDepth 100000
set_option maxHeartbeats 4000000
/-! Tw10: statements, defs -/
namespace Tw
open PySem PySem.Spec PyProof.Rows L2
inductive Fl where
  | nx (ε : Nv)
  | rt (d : D)
  | bk (ε : Nv)
  | ct (ε : Nv)
def RtOk (c : Cf) (Q : VK) (d : D) : Prop := match c.fr with
  | true => ∀ p o H', c.H0 p = none → Ex c.H0 H' → H' p = some o → Own c.K (hid (p :: c.M0) H') o d → Q (.ref p) H'
  | false => ∀ v H', Ex c.H0 H' → At c.K (hid c.M0 H') d v → Q v H'
def Fin (c : Cf) (E : Ends) (B : Hp) : R Fl → Prop
  | .ok (.nx ε) => ∀ σ H M, Rel c σ H ε M → Ex B (hid M H) → E.nx σ H
  | .ok (.rt d) => RtOk c E.rt d
  | .ok (.bk ε) => ∀ σ H M, Rel c σ H ε M → Ex B (hid M H) → E.bk σ H
  | .ok (.ct ε) => ∀ σ H M, Rel c σ H ε M → Ex B (hid M H) → E.ct σ H
  | _ => False
def rdS (c : Cf) (m : Nv → R Fl) : TS := fun E σ H => ∃ ε M, Rel c σ H ε M ∧ Fin c E (hid M H) (m ε)
theorem Fin.mono {c : Cf} {E : Ends} {B B' : Hp} (e : Ex B B') : ∀ {r : R Fl}, Fin c E B r → Fin c E B' r
  | .ok (.nx _), h => fun σ H M r x => h σ H M r (Evl.Ex.trans e x)
  | .ok (.rt _), h => h
  | .ok (.bk _), h => fun σ H M r x => h σ H M r (Evl.Ex.trans e x)
  | .ok (.ct _), h => fun σ H M r x => h σ H M r (Evl.Ex.trans e x)
  | .ex _ _, h => h
  | .bad, h => h
section
variable {X : Cx} {c : Cf}
/-! ### one behind the other -/
def sSeq (m n : Nv → R Fl) : Nv → R Fl := fun ε => match m ε with
  | .ok (.nx ε') => n ε'
  | r => r
def sNil : Nv → R Fl := fun ε => .ok (.nx ε)
variable {s : Stmt} {r : List Stmt} {m n : Nv → R Fl}
theorem ss_nil : PSs X [] (rdS c sNil) := pss_nil.wk fun E σ H ⟨ε, M, re, f⟩ => f σ H M re (Evl.Ex.refl _)
theorem tSeq_rd : ∀ E σ H, rdS c (sSeq m n) E σ H → tSeq (rdS c m) (rdS c n) E σ H := fun E σ H ⟨ε, M, re, f⟩ => by
  refine ⟨ε, M, re, ?_⟩
  unfold sSeq at f
  cases q : m ε with
  | bad =>
    rw [q] at f
    exact f
  | ex a b =>
    rw [q] at f
    exact f
  | ok fl =>
    rw [q] at f
    cases fl with
    | nx ε' => exact fun σ' H' M' r' e' => ⟨ε', M', r', Fin.mono e' f⟩
    | rt d => exact f
    | bk ε' => exact f
    | ct ε' => exact f
theorem ss_c (h1 : PS X s (rdS c m)) (h2 : PSs X r (rdS c n)) : PSs X (s :: r) (rdS c (sSeq m n)) := (pss_cons h1 h2).wk tSeq_rd
theorem ss_1 (h1 : PS X s (rdS c m)) : PSs X [s] (rdS c m) := pss_one h1
/-- one's own object is data from here on -/
def sFz (i : Nat) : Nv → R Fl := fun ε => match gt ε i with
  | .mu d => .ok (.nx (st ε i (.im d)))
  | .im _ => .ok (.nx ε)
  | .no => .bad
theorem ss_fz (i : Nat) (h : PSs X r (rdS c n)) : PSs X r (rdS c (sSeq (sFz i) n)) := h.wk fun E σ H ⟨ε, M, re, f⟩ => by
  unfold sSeq sFz at f
  cases g : gt ε i with
  | no =>
    rw [g] at f
    exact f.elim
  | im d =>
    rw [g] at f
    exact ⟨ε, M, re, f⟩
  | mu d =>
    rw [g] at f
    obtain ⟨M', sub, r'⟩ := re.frz g
    exact ⟨_, M', r', Fin.mono (hid_sub sub) f⟩
/-! ### simple statements -/
variable {e : Expr} {me : Nv → R D} {pos : Pos}
theorem ps_ps : PS X (.Pass pos) (rdS c sNil) := ps_pass.wk fun E σ H ⟨ε, M, re, f⟩ => f σ H M re (Evl.Ex.refl _)
def sBk : Nv → R Fl := fun ε => .ok (.bk ε)
def sCt : Nv → R Fl := fun ε => .ok (.ct ε)
theorem ps_bk : PS X (.Break pos) (rdS c sBk) := ps_break.wk fun E σ H ⟨ε, M, re, f⟩ => f σ H M re (Evl.Ex.refl _)
theorem ps_ct : PS X (.Continue pos) (rdS c sCt) := ps_continue.wk fun E σ H ⟨ε, M, re, f⟩ => f σ H M re (Evl.Ex.refl _)
/-- a statement that is never reached -/
def sNo : Nv → R Fl := fun _ => .bad
theorem ps_no : PS X s (rdS c sNo) := (ps_never (st := s)).wk fun E σ H ⟨ε, M, re, f⟩ => f
def sDr (me : Nv → R D) : Nv → R Fl := fun ε => (me ε).bind fun _ => .ok (.nx ε)
theorem ps_dr (h : PE X e (rdE c me)) (hs : swapsWith e none pos.line X.env = pure false := by rfl) : PS X (.Expr e pos) (rdS c (sDr me)) := (ps_expr h hs).wk fun E σ H ⟨ε, M, re, f⟩ => by
  unfold sDr at f
  cases q : me ε with
  | bad => rw [q] at f; exact f.elim
  | ex a b => rw [q] at f; exact f.elim
  | ok d =>
    rw [q] at f
    exact ⟨ε, M, re, d, q, fun v H' e' _ => f σ H' M (re.ex e') (hid_ex e')⟩
def sRt (me : Nv → R D) : Nv → R Fl := fun ε => (me ε).bind fun d => .ok (.rt d)
theorem ps_rt (hf : c.fr = false) (h : PE X e (rdE c me)) : PS X (.Return (some e) pos) (rdS c (sRt me)) := (ps_ret h).wk fun E σ H ⟨ε, M, re, f⟩ => by
  unfold sRt at f
  cases q : me ε with
  | bad => rw [q] at f; exact f.elim
  | ex a b => rw [q] at f; exact f.elim
  | ok d =>
    rw [q] at f
    have f' : RtOk c E.rt d := f
    unfold RtOk at f'
    rw [hf] at f'
    exact ⟨ε, M, re, d, q, fun v H' e' hv => f' v H' (re.ext.trans e') (At.mono (hid_sub re.sub) d v hv)⟩
/-- a new object is handed back -/
theorem ps_rtL (hf : c.fr = true) (h : PE X e (rdL c me)) : PS X (.Return (some e) pos) (rdS c (sRt me)) := (ps_ret h).wk fun E σ H ⟨ε, M, re, f⟩ => by
  unfold sRt at f
  cases q : me ε with
  | bad => rw [q] at f; exact f.elim
  | ex a b => rw [q] at f; exact f.elim
  | ok d =>
    rw [q] at f
    have f' : RtOk c E.rt d := f
    unfold RtOk at f'
    rw [hf] at f'
    refine ⟨ε, M, re, d, q, fun p o H' n e' hp ho => f' p o H' (Evl.fresh_back re.ext n) (re.ext.trans e') hp (ho.mono (hid_sub fun a ha => ?_))⟩
    rcases List.mem_cons.mp ha with z | z
    · rw [z]
      exact List.mem_cons_self
    · exact List.mem_cons_of_mem _ (re.sub a z)
/-- one's own object is handed back, by its name -/
def sRtM (i : Nat) : Nv → R Fl := fun ε => match gt ε i with
  | .mu d => .ok (.rt d)
  | _ => .bad
theorem ps_rtM {i : Nat} (h : PE X e (tVar i)) : PS X (.Return (some e) pos) (rdS c (sRtM i)) := (ps_ret h).wk fun E σ H ⟨ε, M, re, f⟩ => by
  unfold sRtM at f
  cases g : gt ε i with
  | no => rw [g] at f; exact f.elim
  | im d => rw [g] at f; exact f.elim
  | mu d =>
    rw [g] at f
    obtain ⟨a, o, h1, h2, h3, h4, h5⟩ := re.mu i d g
    refine ⟨.ref a, h1, ?_⟩
    have f' : RtOk c E.rt d := f
    unfold RtOk at f'
    cases q : c.fr with
    | true =>
      rw [q] at f'
      refine f' a o H h3 re.ext h4 (h5.mono (hid_sub fun b hb => ?_))
      rcases List.mem_cons.mp hb with z | z
      · rw [z]
        exact h2
      · exact re.sub b z
    | false =>
      rw [q] at f'
      exact f' (.ref a) H re.ext (Own.at (hid_of h4 fun z => re.old a z h3) (h5.mono (hid_sub re.sub)))
def sRt0 : Nv → R Fl := fun _ => .ok (.rt .none)
theorem ps_rt0 (hf : c.fr = false) : PS X (.Return none pos) (rdS c sRt0) := ps_retN.wk fun E σ H ⟨ε, M, re, f⟩ => by
  have f' : RtOk c E.rt .none := f
  unfold RtOk at f'
  rw [hf] at f'
  exact f' .non H re.ext rfl
/-! ### if -/
def sIf (t : Nv → R Bool) (m n : Nv → R Fl) : Nv → R Fl := fun ε => (t ε).bind fun k => if k then m ε else n ε
theorem ps_i {cd : Expr} {a b : List Stmt} {t : Nv → R Bool} (hc : PT X cd (rdT c t)) (ha : PSs X a (rdS c m)) (hb : PSs X b (rdS c n)) : PS X (.If cd a b pos) (rdS c (sIf t m n)) := (ps_if hc ha hb).wk fun E σ H ⟨ε, M, re, f⟩ => by
  unfold sIf at f
  cases q : t ε with
  | bad => rw [q] at f; exact f.elim
  | ex x y => rw [q] at f; exact f.elim
  | ok k =>
    rw [q] at f
    refine ⟨ε, M, re, k, q, fun H' e' => ?_⟩
    cases k with
    | true => exact ⟨ε, M, re.ex e', Fin.mono (hid_ex e') f⟩
    | false => exact ⟨ε, M, re.ex e', Fin.mono (hid_ex e') f⟩
/-! ### assignments -/
def sAs (i : Nat) (me : Nv → R D) : Nv → R Fl := fun ε => (me ε).bind fun d => .ok (.nx (st ε i (.im d)))
def sAsM (i : Nat) (me : Nv → R D) : Nv → R Fl := fun ε => (me ε).bind fun d => .ok (.nx (st ε i (.mu d)))
theorem tAsg_rd {i : Nat} : ∀ E σ H, rdS c (sAs i me) E σ H → tAsg (rdE c me) (gName i) E σ H := fun E σ H ⟨ε, M, re, f⟩ => by
  unfold sAs at f
  cases q : me ε with
  | bad => rw [q] at f; exact f.elim
  | ex a b => rw [q] at f; exact f.elim
  | ok d =>
    rw [q] at f
    exact ⟨ε, M, re, d, q, fun v H' e' hv => f _ H' M ((re.ex e').set hv) (hid_ex e')⟩
theorem tAsg_rdL {i : Nat} : ∀ E σ H, rdS c (sAs i me) E σ H → tAsg (rdL c me) (gName i) E σ H := fun E σ H ⟨ε, M, re, f⟩ => by
  unfold sAs at f
  cases q : me ε with
  | bad => rw [q] at f; exact f.elim
  | ex a b => rw [q] at f; exact f.elim
  | ok d =>
    rw [q] at f
    exact ⟨ε, M, re, d, q, fun p o H' n e' hp ho => f _ H' M ((re.ex e').set (own_new re.trk n hp ho)) (hid_ex e')⟩
theorem tAsg_rdM {i : Nat} : ∀ E σ H, rdS c (sAsM i me) E σ H → tAsg (rdL c me) (gName i) E σ H := fun E σ H ⟨ε, M, re, f⟩ => by
  unfold sAsM at f
  cases q : me ε with
  | bad => rw [q] at f; exact f.elim
  | ex a b => rw [q] at f; exact f.elim
  | ok d =>
    rw [q] at f
    exact ⟨ε, M, re, d, q, fun p o H' n e' hp ho => f _ H' (p :: M) (re.setMu n e' hp ho) (hid_new e' n)⟩
variable {x : Str} {px : Pos}
theorem ps_as {i : Nat} (hN : X.N.Nodup) (he : PE X e (rdE c me)) (hi : X.N[i]? = some x := by rfl) (hx : Loc X.env.scope x := by first | exact Or.inl rfl | exact Or.inr rfl) (hs : swapsWith e (some (.Name x px)) pos.line X.env = pure false := by rfl)
    (hf : X.fn x = true ∨ X.env.scope.names.lookup x = some .local := by first | exact .inl rfl | exact .inr rfl) : PS X (.Assign [.Name x px] e pos) (rdS c (sAs i me)) := (ps_set hN hi hx he hs hf).wk tAsg_rd
theorem ps_asM {i : Nat} (hN : X.N.Nodup) (he : PE X e (rdL c me)) (hi : X.N[i]? = some x := by rfl) (hx : Loc X.env.scope x := by first | exact Or.inl rfl | exact Or.inr rfl) (hs : swapsWith e (some (.Name x px)) pos.line X.env = pure false := by rfl)
    (hf : X.fn x = true ∨ X.env.scope.names.lookup x = some .local := by first | exact .inl rfl | exact .inr rfl) : PS X (.Assign [.Name x px] e pos) (rdS c (sAsM i me)) := (ps_set hN hi hx he hs hf).wk tAsg_rdM
/-- several names from one tuple -/
def sUn (me : Nv → R D) (b : D → Nv → R Nv) : Nv → R Fl := fun ε => (me ε).bind fun d => (b d ε).bind fun ε' => .ok (.nx ε')
theorem ps_un {g : TG} {b : D → Nv → R Nv} {js : List Nat} (h : PS X s (tAsg (rdE c me) g)) (gk : GOk c g b js) : PS X s (rdS c (sUn me b)) :=
  h.wk fun E σ H ⟨ε, M, re, f⟩ => by
    unfold sUn at f
    cases q : me ε with
    | bad => rw [q] at f; exact f.elim
    | ex x y => rw [q] at f; exact f.elim
    | ok d =>
      rw [q] at f
      refine ⟨ε, M, re, d, q, fun v H' e' hv => ?_⟩
      cases q2 : b d ε with
      | bad => simp only [R.bind, q2] at f; exact f.elim
      | ex x y => simp only [R.bind, q2] at f; exact f.elim
      | ok ε' =>
        simp only [R.bind, q2] at f
        exact gk v σ H' _ ε M d ε' (re.ex e') hv q2 fun σ' r' _ _ => f σ' H' M r' (hid_ex e')
/-- a, b = e, f -/
def sPr (i j : Nat) (ms : Nv → R (List D)) : Nv → R Fl := fun ε => (ms ε).bind fun ds => match ds with
  | [a, b] => .ok (.nx (st (st ε i (.im a)) j (.im b)))
  | _ => .bad
theorem ps_pr {i j : Nat} {x y : Str} {a b : Expr} {px py pt : Pos} {kt k2 pt2} {ms : Nv → R (List D)} (hc : X.calm = true) (hN : X.N.Nodup) (ha : PA X [a, b] (rdA c ms)) (hi : X.N[i]? = some x := by rfl) (hj : X.N[j]? = some y := by rfl) (hij : i ≠ j := by decide)
    (hx : X.env.scope.names.lookup x = some .local := by rfl) (hy : X.env.scope.names.lookup y = some .local := by rfl)
    (hw : swappedStores [.Tuple [.Name x px, .Name y py] kt pt] (.Tuple [a, b] k2 pt2) X.env = pure (some [x, y]) := by rfl) (hs : swapsWithSole [.Tuple [.Name x px, .Name y py] kt pt] (.Tuple [a, b] k2 pt2) pos.line X.env = pure false := by rfl) :
    PS X (.Assign [.Tuple [.Name x px, .Name y py] kt pt] (.Tuple [a, b] k2 pt2) pos) (rdS c (sPr i j ms)) := (ps_par hc hN hi hj hij hx hy ha hw hs).wk fun E σ H ⟨ε, M, re, f⟩ => by
  unfold sPr at f
  cases q : ms ε with
  | bad => rw [q] at f; exact f.elim
  | ex x y => rw [q] at f; exact f.elim
  | ok ds =>
    rw [q] at f
    refine ⟨ε, M, re, ds, q, fun vs H' e' hv => ?_⟩
    match ds, f, hv with
    | [d1, d2], f, hv =>
      obtain ⟨v, w, ev, h1, h2⟩ := at_two hv
      exact ⟨v, w, ev, f _ H' M (((re.ex e').set h1).set h2) (hid_ex e')⟩
    | [], f, hv => exact f.elim
    | [_], f, hv => exact f.elim
    | _ :: _ :: _ :: _, f, hv => exact f.elim
/-- x += e -/
def sAu (f : D → D → R D) (i : Nat) (me : Nv → R D) : Nv → R Fl := fun ε => match gt ε i with
  | .im a => (me ε).bind fun b => (f a b).bind fun d => .ok (.nx (st ε i (.im d)))
  | _ => .bad
/-! ### one's own list -/
def sAp (i : Nat) (me : Nv → R D) : Nv → R Fl := fun ε => (me ε).bind fun d => match gt ε i with
  | .mu (.list ds) => if ds.length < lim then .ok (.nx (st ε i (.mu (.list (ds ++ [d]))))) else .bad
  | _ => .bad
theorem own_list {K : PySem.W.Frag} {H : Hp} {o : HO} {ds : List D} (h : Own K H o (.list ds)) : ∃ vs, o = .lst vs ∧ AtL K H ds vs := by
  rcases h with ⟨vs, ds', h1, h2, h3⟩ | ⟨kvs, es, h1, h2, h3⟩ | ⟨kvs, es, h1, h2, h3⟩ | ⟨S, n, xs, h1, h2, h3⟩
  · cases h2
    exact ⟨vs, h1, h3⟩
  · cases h2
  · cases h2
  · cases h2
theorem ps_ap {i : Nat} (h : PS X s (tDrop (tBM X.K "list" rAppend (tVar i) (tCons (rdE c me) tNil)))) : PS X s (rdS c (sAp i me)) :=
  h.wk fun E σ H ⟨ε, M, re, f⟩ => by
    unfold sAp at f
    cases q : me ε with
    | bad => rw [q] at f; exact f.elim
    | ex x y => rw [q] at f; exact f.elim
    | ok d =>
      rw [q] at f
      simp only [R.bind] at f
      split at f
      · rename_i ds g
        split at f
        · rename_i hz
          obtain ⟨a, o, h1, h2, h3, h4, h5⟩ := re.mu i _ g
          obtain ⟨vs, eo, hl⟩ := own_list h5
          subst eo
          refine ⟨.ref a, h1, .inl ⟨rfl, vs, SqL.of h4⟩, ε, M, re, d, q, fun v H' e' hv => ⟨a, vs, v, rfl, rfl, e' a _ h4, ?_, ?_⟩⟩
          · rw [atL_len hl]
            exact lim_lt (Nat.le_of_lt hz)
          · refine f _ _ M ((re.ex e').upd g h1 (.inl ⟨_, _, rfl, rfl, AtL.app (AtL.mono (hid_ex e') _ _ hl) ⟨v, [], rfl, hv, rfl⟩⟩)) ?_
            rw [hid_upd h2]
            exact hid_ex e'
        · exact f.elim
      · exact f.elim
/-- x[i] = e of one's own list -/
def sSt (j : Nat) (mi me : Nv → R D) : Nv → R Fl := fun ε => (me ε).bind fun d => (mi ε).bind fun k => match gt ε j, k with
  | .mu (.list ds), .int z => match ixN ds.length z with
    | some n => .ok (.nx (st ε j (.mu (.list (ds.set n d)))))
    | none => .bad
  | _, _ => .bad
theorem gSub_rd {j : Nat} {σ : L2.St} {H : Hp} {ε : Nv} {M : List Addr} {mi : Nv → R D} {v : V} {d : D} {k : D} {ds : List D} {z : Int} {n : Nat} {Q : L2.St → Hp → Prop} (re : Rel c σ H ε M) (hv : At c.K (hid M H) d v) (hk : mi ε = .ok (.int z)) (g : gt ε j = .mu (.list ds)) (hn : ixN ds.length z = some n)
    (q : ∀ H', Rel c σ H' (st ε j (.mu (.list (ds.set n d)))) M → Ex (hid M H) (hid M H') → Q σ H') : gSub (tVar j) (rdE c mi) rSetL v σ H Q := by
  obtain ⟨a, o, h1, h2, h3, h4, h5⟩ := re.mu j _ g
  obtain ⟨vs, eo, hl⟩ := own_list h5
  subst eo
  refine ⟨.ref a, h1, ε, M, re, _, hk, fun u H' e' hu => ⟨a, vs, z, n, rfl, hu, e' a _ h4, by rw [atL_len hl]; exact hn, ?_⟩⟩
  refine q _ ((re.ex e').upd g h1 (.inl ⟨_, _, rfl, rfl, AtL.set (At.mono (hid_ex e') _ _ hv) n (AtL.mono (hid_ex e') _ _ hl)⟩)) ?_
  rw [hid_upd h2]
  exact hid_ex e'
theorem ps_st {j : Nat} {mi : Nv → R D} (h : PS X s (tAsg (rdE c me) (gSub (tVar j) (rdE c mi) rSetL))) : PS X s (rdS c (sSt j mi me)) := h.wk fun E σ H ⟨ε, M, re, f⟩ => by
  unfold sSt at f
  cases q : me ε with
  | bad => rw [q] at f; exact f.elim
  | ex x y => rw [q] at f; exact f.elim
  | ok d =>
    rw [q] at f
    cases q2 : mi ε with
    | bad => simp only [R.bind, q2] at f; exact f.elim
    | ex x y => simp only [R.bind, q2] at f; exact f.elim
    | ok k =>
      simp only [R.bind, q2] at f
      split at f
      · rename_i ds z g
        split at f
        · rename_i n hn
          exact ⟨ε, M, re, d, q, fun v H' e' hv => gSub_rd (k := .int z) (re.ex e') hv q2 g hn fun H2 r2 e2 => f _ H2 M r2 (Evl.Ex.trans (hid_ex e') e2)⟩
        · exact f.elim
      · exact f.elim
/-! ### loops -/
def forG (g : D → Nv → R Nv) (b : Nv → R Fl) : List D → Nv → R Fl
  | [], ε => .ok (.nx ε)
  | d :: ds, ε => (g d ε).bind fun ε1 => match b ε1 with
    | .ok (.nx ε2) => forG g b ds ε2
    | .ok (.ct ε2) => forG g b ds ε2
    | .ok (.bk ε2) => .ok (.nx ε2)
    | r => r
def sFor (mi : Nv → R (List D)) (g : D → Nv → R Nv) (b : Nv → R Fl) : Nv → R Fl := fun ε => (mi ε).bind fun ds => forG g b ds ε
theorem ps_fr {tg it : Expr} {body : List Stmt} {g : TG} {b : D → Nv → R Nv} {js : List Nat} {mi : Nv → R (List D)} {mb : Nv → R Fl} (hp : PassesOwn (model X.prog X.w) X.A X.env X.xe) (hc : X.calm = true) (hi : PI X tg it (rdI c mi)) (hg : PG X tg g) (gk : GOk c g b js) (hb : PSs X body (rdS c mb))
    (hset : ∀ x, foldedSetIterable it X.env x = pure x := by intro _; rfl) :
    PS X (.For tg it body [] pos) (rdS c (sFor mi b mb)) := (ps_for hp hc hi hg hb hset).wk fun E σ H ⟨ε, M, re, f⟩ => by
  unfold sFor at f
  cases q : mi ε with
  | bad => rw [q] at f; exact f.elim
  | ex x y => rw [q] at f; exact f.elim
  | ok ds =>
    rw [q] at f
    simp only [R.bind] at f
    refine ⟨ε, M, re, ds, q, fun J H1 e1 wk => ?_⟩
    refine ⟨fun i m σ2 H2 => m = ds.length - i ∧ i ≤ ds.length ∧ ∃ ε2 M2, Rel c σ2 H2 ε2 M2 ∧ Ex (hid M H1) (hid M2 H2) ∧ Fin c E (hid M2 H2) (forG b mb (ds.drop i) ε2), ⟨ds.length, by omega, Nat.zero_le _, ε, M, re.ex e1, Evl.Ex.refl _, Fin.mono (hid_ex e1) f⟩, ?_⟩
    rintro i m σ2 H2 ⟨rfl, hi, ε2, M2, r2, hB, f2⟩
    have wi := wk i H2 (Evl.Ex.trans hB hid_le)
    by_cases hlt : i < ds.length
    · refine .inr ⟨wi.1 hlt, fun σ3 H3 => ∃ ε3 M3, Rel c σ3 H3 ε3 M3 ∧ Ex (hid M H1) (hid M3 H3) ∧ Fin c E (hid M3 H3) (forG b mb (ds.drop (i + 1)) ε3), fun σ' H' p => ⟨_, by omega, rfl, hlt, p⟩, fun x H' y => ?_⟩
      obtain ⟨ex, item⟩ := wi.2.2 x H' y
      have hx := item ds[i] (List.getElem?_eq_getElem hlt) M2 r2.trk hB
      rw [List.drop_eq_getElem_cons hlt] at f2
      unfold forG at f2
      cases q2 : b ds[i] ε2 with
      | bad => rw [q2] at f2; exact f2.elim
      | ex x y => rw [q2] at f2; exact f2.elim
      | ok ε3 =>
        rw [q2] at f2
        simp only [R.bind] at f2
        refine gk x σ2 H' _ ε2 M2 ds[i] ε3 (r2.ex ex) hx q2 fun σ3 r3 _ _ => ⟨ε3, M2, r3, ?_⟩
        cases q3 : mb ε3 with
        | bad => rw [q3] at f2; exact f2.elim
        | ex x y => rw [q3] at f2; exact f2.elim
        | ok fl =>
          rw [q3] at f2
          cases fl with
          | nx ε4 => exact fun σ4 H4 M4 r4 e4 => ⟨ε4, M4, r4, Evl.Ex.trans hB (Evl.Ex.trans (hid_ex ex) e4), Fin.mono (Evl.Ex.trans (hid_ex ex) e4) f2⟩
          | ct ε4 => exact fun σ4 H4 M4 r4 e4 => ⟨ε4, M4, r4, Evl.Ex.trans hB (Evl.Ex.trans (hid_ex ex) e4), Fin.mono (Evl.Ex.trans (hid_ex ex) e4) f2⟩
          | bk ε4 => exact fun σ4 H4 M4 r4 e4 => f2 σ4 H4 M4 r4 (Evl.Ex.trans (hid_ex ex) e4)
          | rt d => exact f2
    · have ei : i = ds.length := by omega
      subst ei
      rw [List.drop_length] at f2
      exact .inl ⟨wi.2.1 (Nat.le_refl _), f2 σ2 H2 M2 r2 (Evl.Ex.refl _)⟩
def whG (t : Nv → R Bool) (b : Nv → R Fl) : Nat → Nv → R Fl
  | 0, _ => .bad
  | n + 1, ε => (t ε).bind fun k => if k then (match b ε with
    | .ok (.nx ε2) => whG t b n ε2
    | .ok (.ct ε2) => whG t b n ε2
    | .ok (.bk ε2) => .ok (.nx ε2)
    | r => r) else .ok (.nx ε)
def sWh (n : Nat) (t : Nv → R Bool) (b : Nv → R Fl) : Nv → R Fl := whG t b n
theorem ps_wh {cd : Expr} {body : List Stmt} {t : Nv → R Bool} {mb : Nv → R Fl} (n : Nat) (hp : PassesOwn (model X.prog X.w) X.A X.env X.xe) (hc : PT X cd (rdT c t)) (hb : PSs X body (rdS c mb)) : PS X (.While cd body [] pos) (rdS c (sWh n t mb)) := (ps_while hp hc hb).wk fun E σ H ⟨ε, M, re, f⟩ => by
  refine ⟨fun m σ2 H2 => ∃ ε2 M2, Rel c σ2 H2 ε2 M2 ∧ Fin c E (hid M2 H2) (whG t mb m ε2), ⟨n, ε, M, re, f⟩, ?_⟩
  rintro m σ2 H2 ⟨ε2, M2, r2, f2⟩
  cases m with
  | zero => exact f2.elim
  | succ m =>
    unfold whG at f2
    cases q : t ε2 with
    | bad => rw [q] at f2; exact f2.elim
    | ex x y => rw [q] at f2; exact f2.elim
    | ok k =>
      rw [q] at f2
      simp only [R.bind] at f2
      refine ⟨ε2, M2, r2, k, q, fun H3 e3 => ?_⟩
      cases k with
      | false => exact f2 σ2 H3 M2 (r2.ex e3) (hid_ex e3)
      | true =>
        rw [if_pos rfl] at f2
        refine ⟨fun σ4 H4 => ∃ ε4 M4, Rel c σ4 H4 ε4 M4 ∧ Fin c E (hid M4 H4) (whG t mb m ε4), fun σ' H' p => ⟨m, Nat.lt_succ_self _, p⟩, ε2, M2, r2.ex e3, ?_⟩
        cases q3 : mb ε2 with
        | bad => rw [q3] at f2; exact f2.elim
        | ex x y => rw [q3] at f2; exact f2.elim
        | ok fl =>
          rw [q3] at f2
          cases fl with
          | nx ε4 => exact fun σ4 H4 M4 r4 e4 => ⟨ε4, M4, r4, Fin.mono (Evl.Ex.trans (hid_ex e3) e4) f2⟩
          | ct ε4 => exact fun σ4 H4 M4 r4 e4 => ⟨ε4, M4, r4, Fin.mono (Evl.Ex.trans (hid_ex e3) e4) f2⟩
          | bk ε4 => exact fun σ4 H4 M4 r4 e4 => f2 σ4 H4 M4 r4 (Evl.Ex.trans (hid_ex e3) e4)
          | rt d => exact f2
end
/-! ### comprehensions of the text -/
section
variable {X : Cx} {c : Cf} {elt tg iter : Expr} {ifs : List Expr} {scope : Scope} {own : List (Str × Nat)} {pos spos py : Pos} {g : TG} {b : D → Nv → R Nv} {js : List Nat} {mi : Nv → R (List D)} {t : Nv → R Bool} {me : Nv → R D} {y : Str} {i : Nat}
theorem pe_co (hc : X.calm = true) (hN : X.N.Nodup) (hi : PI X tg iter (rdI c mi)) (ok : BlkOk X.N X.env.scope scope own) (gk : GOk c g b js) (hj : ∀ j, j ∈ js → j ∈ own.map (·.2))
    (hg : ∀ (s : Shared) (H : Hp) (C : Addr) (cl : List (Str × Addr)) (fp : List Addr), PG (X.blk s H scope (compEnvC scope cl C X.env) fp) tg g) (ht : ∀ (s : Shared) (H : Hp) (C : Addr) (cl : List (Str × Addr)) (fp : List Addr), PTs (X.blk s H scope (compEnvC scope cl C X.env) fp) ifs (rdT c t))
    (he : ∀ (s : Shared) (H : Hp) (C : Addr) (cl : List (Str × Addr)) (fp : List Addr), PE (X.blk s H scope (compEnvC scope cl C X.env) fp) elt (rdE c me)) (hs : ∀ x, foldedSetIterable iter X.env x = pure x := by intro _; rfl) :
    PE X (.ListComp elt [⟨tg, iter, ifs, 0⟩] scope pos) (rdL c (xLc (own.map (·.2)) mi b t me)) := (pe_lc hc hN hi ok hg ht he hs).wk (tLc_rd gk hj)
theorem ps_co (hc : X.calm = true) (hN : X.N.Nodup) (hi : PI X tg iter (rdI c mi)) (ok : BlkOk X.N X.env.scope scope own) (gk : GOk c g b js) (hj : ∀ j, j ∈ js → j ∈ own.map (·.2))
    (hg : ∀ (s : Shared) (H : Hp) (C : Addr) (cl : List (Str × Addr)) (fp : List Addr), PG (X.blk s H scope (compEnvC scope cl C X.env) fp) tg g) (ht : ∀ (s : Shared) (H : Hp) (C : Addr) (cl : List (Str × Addr)) (fp : List Addr), PTs (X.blk s H scope (compEnvC scope cl C X.env) fp) ifs (rdT c t))
    (he : ∀ (s : Shared) (H : Hp) (C : Addr) (cl : List (Str × Addr)) (fp : List Addr), PE (X.blk s H scope (compEnvC scope cl C X.env) fp) elt (rdE c me))
    (hsw : swapsWith (.ListComp elt [⟨tg, iter, ifs, 0⟩] scope pos) (some (.Name y py)) spos.line X.env = pure true) (hy : X.N[i]? = some y := by rfl) (hyl : X.env.scope.names.lookup y = some .local := by rfl) (hs : ∀ x, foldedSetIterable iter X.env x = pure x := by intro _; rfl) :
    PS X (.Assign [.Name y py] (.ListComp elt [⟨tg, iter, ifs, 0⟩] scope pos) spos) (rdS c (sAs i (xLc (own.map (·.2)) mi b t me))) :=
  (ps_setLc hc hN hy hyl hsw hi ok hg ht he hs).wk fun E σ H h => (tAsg_rdL (c := c) (i := i) E σ H h : tAsg (rdL c (xLc (own.map (·.2)) mi b t me)) (gName i) E σ H) |> fun q => tLc_rd gk hj σ H _ q
theorem ps_coM (hc : X.calm = true) (hN : X.N.Nodup) (hi : PI X tg iter (rdI c mi)) (ok : BlkOk X.N X.env.scope scope own) (gk : GOk c g b js) (hj : ∀ j, j ∈ js → j ∈ own.map (·.2))
    (hg : ∀ (s : Shared) (H : Hp) (C : Addr) (cl : List (Str × Addr)) (fp : List Addr), PG (X.blk s H scope (compEnvC scope cl C X.env) fp) tg g) (ht : ∀ (s : Shared) (H : Hp) (C : Addr) (cl : List (Str × Addr)) (fp : List Addr), PTs (X.blk s H scope (compEnvC scope cl C X.env) fp) ifs (rdT c t))
    (he : ∀ (s : Shared) (H : Hp) (C : Addr) (cl : List (Str × Addr)) (fp : List Addr), PE (X.blk s H scope (compEnvC scope cl C X.env) fp) elt (rdE c me))
    (hsw : swapsWith (.ListComp elt [⟨tg, iter, ifs, 0⟩] scope pos) (some (.Name y py)) spos.line X.env = pure true) (hy : X.N[i]? = some y := by rfl) (hyl : X.env.scope.names.lookup y = some .local := by rfl) (hs : ∀ x, foldedSetIterable iter X.env x = pure x := by intro _; rfl) :
    PS X (.Assign [.Name y py] (.ListComp elt [⟨tg, iter, ifs, 0⟩] scope pos) spos) (rdS c (sAsM i (xLc (own.map (·.2)) mi b t me))) :=
  (ps_setLc hc hN hy hyl hsw hi ok hg ht he hs).wk fun E σ H h => (tAsg_rdM (c := c) (i := i) E σ H h : tAsg (rdL c (xLc (own.map (·.2)) mi b t me)) (gName i) E σ H) |> fun q => tLc_rd gk hj σ H _ q
end
/-! ### defs -/
def runF (n N : Nat) (m : Nv → R Fl) (ds : List D) : R D := if ds.length = n then (match m (ds.map SV.im ++ List.replicate (N - n) SV.no) with
  | .ok (.nx _) => .ok .none
  | .ok (.rt d) => .ok d
  | .ex c a => .ex c a
  | _ => .bad) else .bad
theorem spF_len {K : PySem.W.Frag} {n N : Nat} {m : Nv → R Fl} {ps : List Str} (h : ps.length = n) : ∀ vs H Q E, spF K (runF n N m) vs H Q E → vs.length = ps.length := fun vs H Q E ⟨M, ds, d, t, ha, hf, q⟩ => by
  unfold runF at hf
  by_cases e : ds.length = n
  · rw [atL_len ha, e, h]
  · rw [if_neg e] at hf
    cases hf
theorem spN_len {K : PySem.W.Frag} {n N : Nat} {m : Nv → R Fl} {ps : List Str} (h : ps.length = n) : ∀ vs H Q E, spN K (runF n N m) vs H Q E → vs.length = ps.length := fun vs H Q E ⟨M, ds, d, t, ha, hf, q⟩ => by
  unfold runF at hf
  by_cases e : ds.length = n
  · rw [atL_len ha, e, h]
  · rw [if_neg e] at hf
    cases hf
theorem gt_app : ∀ (l r : Nv) (i : Nat), gt (l ++ r) i = if i < l.length then gt l i else gt r (i - l.length)
  | [], r, i => by simp
  | x :: l, r, 0 => by simp [gt]
  | x :: l, r, i + 1 => by
    have := gt_app l r i
    show gt (l ++ r) i = _
    rw [this]
    have e2 : i + 1 - (x :: l).length = i - l.length := by simp
    rw [e2]
    by_cases h : i < l.length
    · rw [if_pos h, if_pos (by simpa using h)]
      rfl
    · rw [if_neg h, if_neg (by simpa using h)]
theorem gt_rep : ∀ (n i : Nat), gt (List.replicate n SV.no) i = .no
  | 0, _ => rfl
  | n + 1, 0 => rfl
  | n + 1, i + 1 => gt_rep n i
theorem gt_map : ∀ (ds : List D) (i : Nat), gt (ds.map SV.im) i = match ds[i]? with | some d => .im d | none => .no
  | [], i => rfl
  | d :: ds, 0 => rfl
  | d :: ds, i + 1 => by
    show gt (ds.map SV.im) i = _
    rw [gt_map ds i]
    simp
/-- the entry -/
theorem Rel.start {K : PySem.W.Frag} {fr : Bool} {H : Hp} {M : List Addr} {ds : List D} {vs : List V} {Ns : List Str} {n : Nat} (t : Trk M H) (h : AtL K (hid M H) ds vs) (hn : ds.length = n) (hN : n ≤ Ns.length) :
    Rel ⟨K, H, M, fr⟩ (L2.start Ns vs) H (ds.map SV.im ++ List.replicate (Ns.length - n) SV.no) M where
  ext := Evl.Ex.refl H
  len := by
    unfold L2.start
    rw [List.length_append, List.length_append, List.length_map, List.length_map, List.length_replicate, List.length_replicate, atL_len h, hn]
  sub := fun _ z => z
  trk := t
  old := fun a ha z => by
    obtain ⟨o, q⟩ := t a ha
    have z' : H a = none := z
    rw [q] at z'
    cases z'
  im := fun i d hi => by
    rw [gt_app, List.length_map] at hi
    by_cases e : i < ds.length
    · rw [if_pos e, gt_map, List.getElem?_eq_getElem e] at hi
      cases hi
      obtain ⟨v, h1, h2⟩ := AtL.get h (List.getElem?_eq_getElem e)
      refine ⟨v, ?_, h2⟩
      unfold L2.start
      rw [List.getElem?_append_left (by rw [List.length_map, atL_len h]; exact e), List.getElem?_map, h1]
      rfl
    · rw [if_neg e, gt_rep] at hi
      cases hi
  mu := fun i d hi => by
    rw [gt_app, List.length_map] at hi
    by_cases e : i < ds.length
    · rw [if_pos e, gt_map, List.getElem?_eq_getElem e] at hi
      cases hi
    · rw [if_neg e, gt_rep] at hi
      cases hi
  dis := fun i j d f a b _ hi _ _ _ => by
    rw [gt_app, List.length_map] at hi
    by_cases e : i < ds.length
    · rw [if_pos e, gt_map, List.getElem?_eq_getElem e] at hi
      cases hi
    · rw [if_neg e, gt_rep] at hi
      cases hi
def NNx (m : Nv → R Fl) : Prop := ∀ ε ε', m ε ≠ .ok (.nx ε')
section
variable {P : Program} {w : World} {K : PySem.W.Frag} {mg : Str → Option Value} {base : Heap}
/-- THE RULE: a def by its body's program -/
theorem def_F {x qual : Str} {st : Stmt} {f : Addr} {fd : FuncData} {Ns ps : List Str} {k n : Nat} {m : Nv → R Fl} (F : Fun K x qual st f fd) (S : FnScope Ns ps (defScope st)) (hn : ps.length = n) (hN : n ≤ Ns.length)
    (body : ∀ (cdv : Value) (A : Around) (outer : List PySem.Env) (s : Shared) (H : Hp) (E : XK) (M : List Addr), Room k (A.deeper (envOfC qual (defScope st) s.heap.objs.size f cdv)) → A.guards = some [] →
      PSs (cxOf (L2.CX P w) P w K mg base Ns qual (defScope st) f cdv A outer s H E).nox (defBody st) (rdS ⟨K, H, M, false⟩ m)) : FnG P w K mg base (k + 1) f fd ps (spF K (runF n Ns.length m)) := by
  refine fnG_of F S (spF_len hn) fun cdv A outer s H vs Q E hr hG ⟨M, ds, d, t, ha, hf, q⟩ => ⟨_, (body cdv A outer s H E M hr hG).nox, ?_⟩
  unfold runF at hf
  by_cases e : ds.length = n
  · rw [if_pos e] at hf
    refine ⟨_, M, Rel.start (fr := false) t ha e hN, ?_⟩
    cases g : m (ds.map SV.im ++ List.replicate (Ns.length - n) SV.no) with
    | bad =>
      rw [g] at hf
      cases hf
    | ex a b =>
      rw [g] at hf
      cases hf
    | ok fl =>
      rw [g] at hf
      cases fl with
      | nx ε' =>
        cases hf
        exact fun σ' H' M' r' _ => q .non H' r'.ext rfl
      | rt d' =>
        cases hf
        exact fun v H' e' hv => q v H' e' hv
      | bk _ => cases hf
      | ct _ => cases hf
  · rw [if_neg e] at hf
    cases hf
/-- the same of a def that hands back a new object -/
theorem def_N {x qual : Str} {st : Stmt} {f : Addr} {fd : FuncData} {Ns ps : List Str} {k n : Nat} {m : Nv → R Fl} (F : Fun K x qual st f fd) (S : FnScope Ns ps (defScope st)) (hn : ps.length = n) (hN : n ≤ Ns.length) (hnx : NNx m)
    (body : ∀ (cdv : Value) (A : Around) (outer : List PySem.Env) (s : Shared) (H : Hp) (E : XK) (M : List Addr), Room k (A.deeper (envOfC qual (defScope st) s.heap.objs.size f cdv)) → A.guards = some [] →
      PSs (cxOf (L2.CX P w) P w K mg base Ns qual (defScope st) f cdv A outer s H E).nox (defBody st) (rdS ⟨K, H, M, true⟩ m)) : FnG P w K mg base (k + 1) f fd ps (spN K (runF n Ns.length m)) := by
  refine fnG_of F S (spN_len hn) fun cdv A outer s H vs Q E hr hG ⟨M, ds, d, t, ha, hf, q⟩ => ⟨_, (body cdv A outer s H E M hr hG).nox, ?_⟩
  unfold runF at hf
  by_cases e : ds.length = n
  · rw [if_pos e] at hf
    refine ⟨_, M, Rel.start (fr := true) t ha e hN, ?_⟩
    cases g : m (ds.map SV.im ++ List.replicate (Ns.length - n) SV.no) with
    | bad =>
      rw [g] at hf
      cases hf
    | ex a b =>
      rw [g] at hf
      cases hf
    | ok fl =>
      rw [g] at hf
      cases fl with
      | nx ε' => exact absurd g (hnx _ _)
      | rt d' =>
        cases hf
        exact fun p o H' n e' hp ho => q p o H' n e' hp ho
      | bk _ => cases hf
      | ct _ => cases hf
  · rw [if_neg e] at hf
    cases hf
theorem spN_F {f : Addr} {fd : FuncData} {ps : List Str} {k : Nat} {g : List D → R D} (F : FnG P w K mg base k f fd ps (spN K g)) : FnG P w K mg base k f fd ps (spF K g) :=
  ⟨fun vs H Q E ⟨M, ds, d, t, ha, hf, q⟩ => F.len vs H Q E ⟨M, ds, d, t, ha, hf, fun p o H' n e hp ho => q _ H' e (own_new t n hp ho)⟩,
    fun A outer s H args us vs Q E hr hG he hb hv ⟨M, ds, d, t, ha, hf, q⟩ => F.run A outer s H args us vs Q E hr hG he hb hv ⟨M, ds, d, t, ha, hf, fun p o H' n e hp ho => q _ H' e (own_new t n hp ho)⟩⟩
end
end Tw
namespace Tw
open PySem PySem.Spec PyProof.Rows L2
section
variable {X : Cx} {c : Cf} {e a b : Expr} {ma mb : Nv → R D} {pos : Pos}
/-- x[i], x one's own list -/
def xIm (j : Nat) (mi : Nv → R D) : Nv → R D := fun ε => (mi ε).bind fun k => match gt ε j with
  | .mu (.list ds) => dIx (.list ds) k
  | _ => .bad
theorem pe_im {j : Nat} {sl : Expr} {mi : Nv → R D} (hx : PE X e (tVar j)) (hi : PE X sl (rdE c mi)) (hs : PlainIx sl := by exact fun _ _ => rfl) (hK : c.K = X.K := by rfl) : PE X (.Subscript e sl pos) (rdE c (xIm j mi)) :=
  (pe_ix ix_list hx hi hs).wk fun σ H Q ⟨ε, M, re, d, hm, q⟩ => by
    obtain ⟨k, h1, h2⟩ := R.bind_ok hm
    split at h2
    · rename_i ds g
      obtain ⟨l, o, g1, g2, g3, g4, g5⟩ := re.mu j _ g
      obtain ⟨vs, eo, hl⟩ := own_list g5
      subst eo
      refine ⟨.ref l, g1, ε, M, re, k, h1, fun v H' e' hv => ?_⟩
      unfold dIx at h2
      split at h2
      · rename_i xs i e1
        split at h2
        · rename_i y g
          cases h2
          cases e1
          obtain ⟨w, w1, w2⟩ := atI_at hl g
          exact ⟨l, vs, i, w, rfl, hv, SqL.of (e' l _ g4), w1, q w H' e' (At.mono (hid_ex e') _ _ w2)⟩
        · cases h2
      · rename_i e1
        cases e1
      · cases h2
    · cases h2
/-- [..] * n -/
theorem pe_rep (ha : PE X a (rdL c ma)) (hb : PE X b (rdE c mb)) : PE X (.BinOp a .Mult b pos) (rdL c (xBin dRep ma mb)) := (pe_op op_rep ha hb).wk fun σ H Q ⟨ε, M, re, d, hm, q⟩ => by
  obtain ⟨x, h1, h2⟩ := R.bind_ok hm
  obtain ⟨y, h3, h4⟩ := R.bind_ok h2
  refine ⟨ε, M, re, x, h1, fun p o H1 n e1 hp ho => ⟨ε, M, re.ex e1, y, h3, fun u H2 e2 hu => ?_⟩⟩
  unfold dRep at h4
  split at h4
  · rename_i xs k
    split at h4
    · rename_i hz
      cases h4
      obtain ⟨vs, eo, hl⟩ := own_list ho
      subst eo
      refine ⟨p, k, vs, rfl, hu, e2 p _ hp, by omega, by omega, by rw [atL_len hl]; exact lim_le hz.2.2, fun p' n' => ?_⟩
      have e12 := Evl.Ex.trans e1 e2
      have hl2 : AtL c.K (hid M H2) xs vs := AtL.mono (Evl.Ex.trans (hid_sub fun a ha => List.mem_cons_of_mem _ ha) (hid_ex e2)) _ _ hl
      refine q p' _ _ (Evl.fresh_back e12 n') (Evl.Ex.trans e12 (Evl.Ex.new n')) upd_same (.inl ⟨_, _, rfl, rfl, ?_⟩)
      have rep : ∀ n : Nat, AtL c.K (hid M H2) (List.replicate n xs).flatten (List.replicate n vs).flatten := fun n => by
        induction n with
        | zero => exact rfl
        | succ n ih =>
          rw [List.replicate_succ, List.replicate_succ, List.flatten_cons, List.flatten_cons]
          exact AtL.app hl2 ih
      exact AtL.mono (hid_new (Evl.Ex.new n') n') _ _ (rep _)
    · cases h4
  · cases h4
/-- a def without arguments -/
theorem pf0 {x : Str} {p : Pos} {k : Nat} {f : Addr} {fd : FuncData} {ps : List Str} {g : List D → R D} (F : FnG X.prog X.w X.K X.mg X.base k f fd ps (spF X.K g)) (hr : Room k X.A) (hG : X.A.guards = some []) (hm : X.mg x = some (.ref f)) (hk : PySem.W.keepIn X.K (.ref f) = true) (hb : Binds X.K fd ps [])
    (hg : Gl X x := by rfl) (hdb : (x == ("__debug__" : Str)) = false := by decide) (hK : c.K = X.K := by rfl) : PE X (.Call (.Name x p) [] [] pos) (rdE c (xCall g xNil)) := (pe_callG0 (E := E0') F hr hG hm hk hb pass0' hg hdb).wk fun σ H Q ⟨ε, M, re, d, hm, q⟩ =>
  ⟨M, [], d, re.trk, rfl, hm, fun w H3 e3 hw => q w H3 e3 (hK ▸ hw)⟩
end
end Tw
namespace Tw
open PySem PySem.Spec PyProof.Rows L2
section
variable {X : Cx} {c : Cf} {e a b : Expr} {ma mb : Nv → R D} {pos : Pos}
theorem pk_gi {x : Str} {i : Int} {t : Tok} (hm : X.mg x = some (.int i t)) (hg : Gl X x := by rfl) (hdb : (x == ("__debug__" : Str)) = false := by decide) : PE X (.Name x pos) (rdE c (xC (.int i))) := pk_glob (v := .int i) hg hm ⟨t, rfl⟩ (fun _ _ => rfl) hdb
/-- comparisons as tests -/
def tC' (m : Nv → R D) : Nv → R Bool := fun ε => (m ε).bind boD
theorem tTest_rd {t : TE} {m : Nv → R D} (h : ∀ σ H Q, rdE c m σ H Q → t σ H Q) : ∀ σ H Q, rdT c (tC' m) σ H Q → tTest t σ H Q := fun σ H Q ⟨ε, M, re, k, hm, q⟩ => by
  obtain ⟨d, h1, h2⟩ := R.bind_ok hm
  have := boD_ok h2
  subst this
  exact h σ H _ ⟨ε, M, re, _, h1, fun v H' e' hv => ⟨k, hv, q H' e'⟩⟩
theorem pt_cp {op : CmpOp} {f : D → D → R D} (ho : OpR X (compareOp op) (r2D X.K f)) (ha : PE X a (rdE c ma)) (hb : PE X b (rdE c mb)) (hm : behindInMarks op b = false := by first | exact nomark _ | rfl) (hK : c.K = X.K := by rfl) : PT X (.Compare a [op] [b] pos) (rdT c (tC' (xBin f ma mb))) :=
  (pt_cmpR ho ha hb hm).wk (tTest_rd (tOp_rd fun _ _ _ _ h => hK ▸ h))
theorem tCh_rd {f g : D → D → R D} {mc : Nv → R D} : ∀ σ H Q, rdE c (xCh f g ma mb mc) σ H Q → tChain (r2D c.K f) (r2D c.K g) (rdE c ma) (rdE c mb) (rdE c mc) σ H Q := fun σ H Q ⟨ε, M, re, d, hm, q⟩ => by
  obtain ⟨x, h1, h2⟩ := R.bind_ok hm
  obtain ⟨y, h3, h4⟩ := R.bind_ok h2
  obtain ⟨z, h5, h6⟩ := R.bind_ok h4
  obtain ⟨k, h7, h8⟩ := R.bind_ok h6
  have := boD_ok h7
  subst this
  refine ⟨ε, M, re, x, h1, fun v H1 e1 hv => ⟨ε, M, re.ex e1, y, h3, fun w H2 e2 hw => ?_⟩⟩
  have hv2 := At.mono (hid_ex e2) x v hv
  refine ⟨M, x, y, _, Trk.ex re.trk (e1.trans e2), hv2, hw, h5, fun r H3 e3 hr => ⟨k, hr, ?_⟩⟩
  have e13 := (e1.trans e2).trans e3
  cases k with
  | true =>
    obtain ⟨d3, g1, g2⟩ := R.bind_ok h8
    exact ⟨ε, M, re.ex e13, d3, g1, fun u H4 e4 hu => ⟨M, y, d3, d, Trk.ex re.trk (e13.trans e4), At.mono (hid_ex (e3.trans e4)) y w hw, hu, g2, fun r H5 e5 hr => q r H5 ((e13.trans e4).trans e5) hr⟩⟩
  | false =>
    cases h8
    exact q _ H3 e13 rfl
theorem pt_ch {op op' : CmpOp} {f g : D → D → R D} {cc : Expr} {mc : Nv → R D} (ho : OpR X (compareOp op) (r2D X.K f)) (ho' : OpR X (compareOp op') (r2D X.K g)) (ha : PE X a (rdE c ma)) (hb : PE X b (rdE c mb)) (hcc : PE X cc (rdE c mc)) (hmk : lastMarks [op, op'] [b, cc] = false := by with_unfolding_all rfl) (hK : c.K = X.K := by rfl) :
    PT X (.Compare a [op, op'] [b, cc] pos) (rdT c (tC' (xCh f g ma mb mc))) := (pt_chain ho ho' ha hb hcc hmk).wk (tTest_rd fun σ H Q h => hK ▸ tCh_rd σ H Q h)
end
end Tw
namespace Tw
open PySem PySem.Spec PyProof.Rows L2
/-! ### bodies that end by return -/
theorem nnx_seq {m n : Nv → R Fl} (h : NNx n) : NNx (sSeq m n) := fun ε ε' z => by
  unfold sSeq at z
  split at z
  · exact h _ _ z
  · rename_i q
    exact q ε' z
theorem nnx_rt {me : Nv → R D} : NNx (sRt me) := fun ε ε' z => by
  unfold sRt at z
  cases q : me ε with
  | ok d => rw [q] at z; cases z
  | ex a b => rw [q] at z; cases z
  | bad => rw [q] at z; cases z
theorem nnx_rtM {i : Nat} : NNx (sRtM i) := fun ε ε' z => by
  unfold sRtM at z
  split at z
  · cases z
  · cases z
theorem nnx_no : NNx sNo := fun ε ε' z => by cases z
theorem nnx_if {t : Nv → R Bool} {m n : Nv → R Fl} (h1 : NNx m) (h2 : NNx n) : NNx (sIf t m n) := fun ε ε' z => by
  unfold sIf at z
  cases q : t ε with
  | ok k =>
    rw [q] at z
    cases k with
    | true => exact h1 _ _ z
    | false => exact h2 _ _ z
  | ex a b => rw [q] at z; cases z
  | bad => rw [q] at z; cases z
section
variable {P : Program} {w : World} {K : PySem.W.Frag} {mg : Str → Option Value} {base : Heap}
/-- a def that is never called -/
theorem fn_bad {f : Addr} {fd : FuncData} {ps : List Str} {k : Nat} : FnG P w K mg base k f fd ps (spF K fun _ => .bad) := ⟨fun _ _ _ _ ⟨_, _, _, _, _, hf, _⟩ => (nomatch hf), fun _ _ _ _ _ _ _ _ _ _ _ _ _ _ ⟨_, _, _, _, _, hf, _⟩ => (nomatch hf)⟩
theorem fn_badN {f : Addr} {fd : FuncData} {ps : List Str} {k : Nat} : FnG P w K mg base k f fd ps (spN K fun _ => .bad) := ⟨fun _ _ _ _ ⟨_, _, _, _, _, hf, _⟩ => (nomatch hf), fun _ _ _ _ _ _ _ _ _ _ _ _ _ _ ⟨_, _, _, _, _, hf, _⟩ => (nomatch hf)⟩
end
section
variable {X : Cx} {c : Cf} {e : Expr} {me : Nv → R D}
def xRev (me : Nv → R D) : Nv → R D := fun ε => (me ε).bind fun d => match d with
  | .list xs => .ok (.list xs.reverse)
  | _ => .bad
theorem AtL.rev {K : PySem.W.Frag} {H : Hp} : ∀ {ds : List D} {vs : List V}, AtL K H ds vs → AtL K H ds.reverse vs.reverse
  | [], vs, h => by
    have e : vs = [] := h
    rw [e]
    rfl
  | d :: ds, vs, ⟨v, r, h1, h2, h3⟩ => by
    rw [h1, List.reverse_cons, List.reverse_cons]
    exact AtL.app (AtL.rev h3) ⟨v, [], rfl, h2, rfl⟩
/-- xs[::-1] -/
theorem pe_rv {k : Nat} {p1 p2 p3 pos : Pos} (he : PE X e (rdE c me)) (hK : c.K = X.K := by rfl) : PE X (.Subscript e (.Slice none none (some (.UnaryOp .USub (.Constant (.int 1) k p1) p2)) p3) pos) (rdL c (xRev me)) := (pe_revL he).wk fun σ H Q ⟨ε, M, re, d, hm, q⟩ => by
  obtain ⟨x, h1, h2⟩ := R.bind_ok hm
  refine ⟨ε, M, re, x, h1, fun v H1 e1 hv => ?_⟩
  cases x with
  | list xs =>
    cases h2
    obtain ⟨a, vs, ev, g1, g2⟩ := hv
    refine ⟨a, vs, ev, hK ▸ sql_le g1, fun p n => q p _ _ (Evl.fresh_back e1 n) (e1.trans (Evl.Ex.new n)) upd_same (.inl ⟨_, _, rfl, rfl, AtL.rev (AtL.mono (hid_new (Evl.Ex.new n) n) _ _ g2)⟩)⟩
  | _ => cases h2
end
end Tw
namespace Tw
open PySem PySem.Spec PyProof.Rows L2
theorem ints_at {K : PySem.W.Frag} {H : Hp} : ∀ ns : List Int, AtL K H (ns.map PyData.int) (ns.map V.int)
  | [] => rfl
  | n :: ns => ⟨_, _, rfl, rfl, ints_at ns⟩
theorem hid_nil (H : Hp) : hid [] H = H := by
  funext a
  unfold hid
  rw [if_neg (by simp)]
/-- the law at its script -/
theorem law_in {K : PySem.W.Frag} {H : Hp} {a : Addr} {ns : List Int} {f : List D → R D} (hS : SqL K H a (ns.map V.int)) (h : f [.list (ns.map PyData.int)] = .ok (.bool true)) : spF K f [.ref a] H (fun v _ => v = .bl true) fun _ _ _ => False :=
  ⟨[], [.list (ns.map PyData.int)], .bool true, fun a z => absurd z (List.not_mem_nil), ⟨_, _, rfl, ⟨a, _, rfl, by rw [hid_nil]; exact hS, ints_at ns⟩, rfl⟩, h, fun v H' _ hv => hv⟩
end Tw
set_option Elab.async false
set_option linter.all false
set_option maxRecDepth 100000
set_option maxHeartbeats 4000000
/-! Tw11: starred items, gcd, comprehensions of two clauses, two stores at once -/
namespace Tw
open PySem PySem.Spec PyProof.Rows L2
/-! ### starred items -/
def xStar (m : Nv → R D) (r : Nv → R (List D)) : Nv → R (List D) := fun ε => (m ε).bind fun d => match d with
  | .list xs => (r ε).bind fun ds => .ok (xs ++ ds)
  | .tuple xs => (r ε).bind fun ds => .ok (xs ++ ds)
  | _ => .bad
def xTupS (m : Nv → R (List D)) : Nv → R D := fun ε => (m ε).bind fun ds => if ds.length ≤ lim then .ok (.tuple ds) else .bad
def xLstS (m : Nv → R (List D)) : Nv → R D := fun ε => (m ε).bind fun ds => if ds.length ≤ lim then .ok (.list ds) else .bad
def cGcd : List D → R D
  | [.int a, .int b] => .ok (.int ((Nat.gcd a.natAbs b.natAbs : Nat) : Int))
  | _ => .bad
section
variable {X : Cx} {c : Cf} {e : Expr} {es : List Expr} {m : Nv → R D} {ms : Nv → R (List D)} {p pos : Pos}
theorem pa_s (h : PE X e (rdE c m)) (hs : PA X es (rdA c ms)) (hst : starEach (.Starred e p :: es) X.env = (true, eval e X.env) :: starEach es X.env := by rfl) (hK : c.K = X.K := by rfl) : PA X (.Starred e p :: es) (rdA c (xStar m ms)) :=
  (StX.pa_star h hs hst).wk fun σ H Q ⟨ε, M, re, ds, hm, q⟩ => by
    obtain ⟨d, h1, h2⟩ := R.bind_ok hm
    refine ⟨ε, M, re, d, h1, fun v H1 e1 hv => ?_⟩
    split at h2
    · obtain ⟨dr, h3, h4⟩ := R.bind_ok h2
      cases h4
      obtain ⟨a, xs, ev, g1, g2⟩ := hv
      exact ⟨a, xs, ev, .inr (hK ▸ sql_le g1), ε, M, re.ex e1, dr, h3, fun vs H2 e2 hvs => q _ H2 (e1.trans e2) (AtL.app (AtL.mono (hid_ex e2) _ _ g2) hvs)⟩
    · obtain ⟨dr, h3, h4⟩ := R.bind_ok h2
      cases h4
      obtain ⟨a, xs, ev, g1, g2⟩ := hv
      exact ⟨a, xs, ev, .inl (hK ▸ sqt_le g1), ε, M, re.ex e1, dr, h3, fun vs H2 e2 hvs => q _ H2 (e1.trans e2) (AtL.app (AtL.mono (hid_ex e2) _ _ g2) hvs)⟩
    · cases h2
theorem pe_tuS {x1} (h : PA X es (rdA c ms)) : PE X (.Tuple es x1 pos) (rdE c (xTupS ms)) :=
  (L2.pe_tup h).wk fun σ H Q ⟨ε, M, re, d, hm, q⟩ => by
    obtain ⟨ds, h1, h2⟩ := R.bind_ok hm
    split at h2
    · rename_i hz
      cases h2
      refine ⟨ε, M, re, ds, h1, fun vs H1 e1 hv => ⟨by rw [atL_len hv]; exact lim_le hz, fun p n => ?_⟩⟩
      have np := (Trk.ex re.trk e1).no n
      exact q (.ref p) _ (e1.trans (Evl.Ex.new n)) ⟨p, vs, rfl, SqT.of (hid_of upd_same np), AtL.mono (hid_ex (Evl.Ex.new n)) ds vs hv⟩
    · cases h2
theorem pe_liS (h : PA X es (rdA c ms)) : PE X (.List es pos) (rdL c (xLstS ms)) :=
  (L2.pe_lst h).wk fun σ H Q ⟨ε, M, re, d, hm, q⟩ => by
    obtain ⟨ds, h1, h2⟩ := R.bind_ok hm
    split at h2
    · rename_i hz
      cases h2
      refine ⟨ε, M, re, ds, h1, fun vs H1 e1 hv => ⟨by rw [atL_len hv]; exact lim_le hz, fun p n => ?_⟩⟩
      exact q p (.lst vs) _ (Evl.fresh_back e1 n) (e1.trans (Evl.Ex.new n)) upd_same (.inl ⟨vs, ds, rfl, rfl, AtL.mono (hid_new (Evl.Ex.new n) n) ds vs hv⟩)
    · cases h2
/-! ### gcd -/
theorem k_gcd : CallR X (.builtin "math.gcd") (rnD X.K cGcd) := by
  intro pins s σ H xs us Q I r ⟨M, as, d, t, ha, hf, q⟩
  unfold cGcd at hf
  split at hf
  · cases hf
    obtain ⟨v, vs, e, h1, h2⟩ := at_cons ha
    obtain ⟨v2, e2, h3⟩ := at_one h2
    exact cr_gcd pins s σ H xs us Q I r ⟨_, _, by rw [e, e2, show v = _ from h1, show v2 = _ from h3], q _ H (Evl.Ex.refl H) rfl⟩
  · cases hf
theorem pe_gcd {x : Str} (hm : X.mg x = some (.builtin "math.gcd")) (ha : PA X (e :: es) (rdA c ms)) (hg : Gl X x := by rfl) (hK : c.K = X.K := by rfl) (hd : (x == ("__debug__" : Str)) = false := by decide)
    (hst : starEach (e :: es) X.env = (false, eval e X.env) :: starEach es X.env := by rfl) (hpl : (backTo pos (starEach es X.env)).any (·.1) = false := by rfl) :
    PE X (.Call (.Name x p) (e :: es) [] pos) (rdE c (xCall cGcd ms)) := (pe_callBfun k_gcd hg hm ha hd hst hpl).wk (tCB_rd fun _ _ _ h => hK ▸ h)
end
/-! ### a list is unpacked -/
def bL (n : Nat) (bs : List D → Nv → R Nv) : D → Nv → R Nv := fun d ε => match d with
  | .list ds => if ds.length = n then bs ds ε else .bad
  | _ => .bad
theorem gok_l {c : Cf} {n : Nat} {gs : TGs} {bs : List D → Nv → R Nv} {js : List Nat} (h : GsOk c gs bs js) : GOk c (gLst c.K n gs) (bL n bs) js := fun x σ H Q ε M d ε' r hx hm q => by
  unfold bL at hm
  split at hm
  · split at hm
    · rename_i ds hn
      obtain ⟨a, xs, e, h1, h2⟩ := hx
      exact ⟨a, xs, e, sql_le h1, by rw [atL_len h2]; exact hn, h xs σ H Q ε M ds ε' r h2 hm q⟩
    · cases hm
  · cases hm
/-! ### two clauses -/
def lcG2 (g : D → Nv → R Nv) (t : Nv → R Bool) (mi1 : Nv → R (List D)) (g1 : D → Nv → R Nv) (t1 : Nv → R Bool) (e : Nv → R D) (vs1 : List Nat) (ε : Nv) : List D → R (List D)
  | [] => .ok []
  | d :: ds => (g d ε).bind fun ε1 => (t ε1).bind fun k => if k then (mi1 ε1).bind fun es => (lcG g1 t1 e (wipeE ε1 vs1) es).bind fun y => (lcG2 g t mi1 g1 t1 e vs1 ε ds).bind fun ys => .ok (y ++ ys) else lcG2 g t mi1 g1 t1 e vs1 ε ds
def xLc2 (vs vs1 : List Nat) (mi : Nv → R (List D)) (g : D → Nv → R Nv) (t : Nv → R Bool) (mi1 : Nv → R (List D)) (g1 : D → Nv → R Nv) (t1 : Nv → R Bool) (e : Nv → R D) : Nv → R D := fun ε => (mi ε).bind fun ds => (lcG2 g t mi1 g1 t1 e vs1 (wipeE ε vs) ds).bind fun ys => if ys.length ≤ lim then .ok (.list ys) else .bad
section
variable {X : Cx} {c : Cf}
theorem muK_wipe (σ : L2.St) (ε : Nv) : ∀ vs : List Nat, MuK σ ε (wipe σ vs) (wipeE ε vs)
  | [] => fun j d h => ⟨h, rfl⟩
  | v :: vs => fun j d h => by
    have h' : gt (st (wipeE ε vs) v .no) j = .mu d := h
    by_cases e : j = v
    · subst e
      have hl : j < (wipeE ε vs).length := by
        have := gt_lt (ε := st (wipeE ε vs) j .no) (i := j) (by rw [h']; intro z; cases z)
        rwa [st_len] at this
      rw [gt_same hl] at h'
      cases h'
    · rw [gt_ne e] at h'
      obtain ⟨h1, h2⟩ := muK_wipe σ ε vs j d h'
      refine ⟨h1, ?_⟩
      rw [← h2]
      show ((wipe σ vs).set v none)[j]? = _
      exact List.getElem?_set_ne (Ne.symm e)
theorem tLc2_rd {g g1 : TG} {b b1 : D → Nv → R Nv} {js js1 vs vs1 : List Nat} {mi mi1 : Nv → R (List D)} {t t1 : Nv → R Bool} {e : Nv → R D} (hg : GOk c g b js) (hj : ∀ j, j ∈ js → j ∈ vs) (hg1 : GOk c g1 b1 js1) (hj1 : ∀ j, j ∈ js1 → j ∈ vs1) :
    ∀ σ H Q, rdL c (xLc2 vs vs1 mi b t mi1 b1 t1 e) σ H Q → tLc2 (rdI c mi) g (rdT c t) (rdI c mi1) g1 (rdT c t1) (rdE c e) vs vs1 σ H Q := fun σ H Q ⟨ε, M, re, d, hm, q⟩ => by
  obtain ⟨ds, h1, h2⟩ := R.bind_ok hm
  obtain ⟨ys, h3, h4⟩ := R.bind_ok h2
  split at h4
  · rename_i hz
    cases h4
    refine ⟨ε, M, re, ds, h1, fun J H1 e1 wk D nD => ?_⟩
    have nD0 : H D = none := Evl.fresh_back e1 nD
    have nM : D ∉ M := Trk.no re.trk nD0
    have n0 : c.H0 D = none := Evl.fresh_back re.ext nD0
    refine ⟨fun i m H2 => m = ds.length - i ∧ i ≤ ds.length ∧ ∃ acc rest vs0, lcG2 b t mi1 b1 t1 e vs1 (wipeE ε vs) (ds.drop i) = .ok rest ∧ acc ++ rest = ys ∧ H2 D = some (.lst vs0) ∧ AtL c.K (hid (D :: M) H2) acc vs0 ∧ Rel c (wipe σ vs) H2 (wipeE ε vs) (D :: M) ∧ Ex H1 H2,
      ⟨ds.length, by omega, Nat.zero_le _, [], ys, [], h3, rfl, upd_same, rfl, ((re.ex e1).wipe vs).add nD (Evl.Ex.new nD) upd_same, Evl.Ex.new nD⟩, ?_⟩
    rintro i m H2 ⟨rfl, hi, acc, rest, vs0, hl, ha, hD, hA, hR, hE⟩
    have hB : Ex (hid M H1) (hid (D :: M) H2) := hid_new hE nD
    have wi := wk i H2 (Evl.Ex.trans hB hid_le)
    by_cases hlt : i < ds.length
    · refine .inr ⟨wi.1 hlt, fun H' => ∃ acc rest vs0, lcG2 b t mi1 b1 t1 e vs1 (wipeE ε vs) (ds.drop (i + 1)) = .ok rest ∧ acc ++ rest = ys ∧ H' D = some (.lst vs0) ∧ AtL c.K (hid (D :: M) H') acc vs0 ∧ Rel c (wipe σ vs) H' (wipeE ε vs) (D :: M) ∧ Ex H1 H', fun H' p => ⟨_, by omega, rfl, hlt, p⟩, fun x H' y => ?_⟩
      obtain ⟨ex, item⟩ := wi.2.2 x H' y
      have hx := item ds[i] (List.getElem?_eq_getElem hlt) (D :: M) hR.trk hB
      rw [List.drop_eq_getElem_cons hlt] at hl
      obtain ⟨ε1, l1, l2⟩ := R.bind_ok hl
      obtain ⟨k, l3, l4⟩ := R.bind_ok l2
      refine hg x (wipe σ vs) H' _ _ (D :: M) ds[i] ε1 (hR.ex ex) hx l1 fun σ2 r2 w2 k2 => ⟨by rw [w2 vs hj, wipe_wipe], ε1, D :: M, r2, k, l3, fun H3 e3 => ?_⟩
      have exx := Evl.Ex.trans ex e3
      cases k with
      | false =>
        exact ⟨acc, rest, vs0, l4, ha, exx D _ hD, AtL.mono (hid_ex exx) _ _ hA, hR.ex exx, Evl.Ex.trans hE exx⟩
      | true =>
        obtain ⟨es, l5, l6⟩ := R.bind_ok l4
        obtain ⟨zs, l7, l8⟩ := R.bind_ok l6
        obtain ⟨ys', l9, l10⟩ := R.bind_ok l8
        cases l10
        refine ⟨ε1, D :: M, r2.ex e3, es, l5, fun J1 H4 e4 wk1 => ?_⟩
        have exy := Evl.Ex.trans exx e4
        have r4 := (r2.ex e3).ex e4
        have hm : D ∈ D :: M := List.mem_cons_self
        refine ⟨fun j k H5 => k = es.length - j ∧ j ≤ es.length ∧ ∃ acc1 rest1 vs1', lcG b1 t1 e (wipeE ε1 vs1) (es.drop j) = .ok rest1 ∧ acc ++ (acc1 ++ (rest1 ++ ys')) = ys ∧ H5 D = some (.lst vs1') ∧ AtL c.K (hid (D :: M) H5) (acc ++ acc1) vs1' ∧ Rel c (wipe σ vs) H5 (wipeE ε vs) (D :: M) ∧ Rel c (wipe σ2 vs1) H5 (wipeE ε1 vs1) (D :: M) ∧ Ex H1 H5 ∧ Ex (hid (D :: M) H4) (hid (D :: M) H5),
          ⟨es.length, by omega, Nat.zero_le _, [], zs, vs0, l7, by rw [← ha, List.nil_append], exy D _ hD, by rw [List.append_nil]; exact AtL.mono (hid_ex exy) _ _ hA, hR.ex exy, r4.wipe vs1, Evl.Ex.trans hE exy, Evl.Ex.refl _⟩, ?_⟩
        rintro j k H5 ⟨rfl, hj', acc1, rest1, vs5, hl1, ha1, hD1, hA1, hR1, hR2, hE1, hF1⟩
        have wj := wk1 j H5 (Evl.Ex.trans hF1 hid_le)
        by_cases hlt1 : j < es.length
        · refine .inr ⟨wj.1 hlt1, fun H' => ∃ acc1 rest1 vs1', lcG b1 t1 e (wipeE ε1 vs1) (es.drop (j + 1)) = .ok rest1 ∧ acc ++ (acc1 ++ (rest1 ++ ys')) = ys ∧ H' D = some (.lst vs1') ∧ AtL c.K (hid (D :: M) H') (acc ++ acc1) vs1' ∧ Rel c (wipe σ vs) H' (wipeE ε vs) (D :: M) ∧ Rel c (wipe σ2 vs1) H' (wipeE ε1 vs1) (D :: M) ∧ Ex H1 H' ∧ Ex (hid (D :: M) H4) (hid (D :: M) H'), fun H' p => ⟨_, by omega, rfl, hlt1, p⟩, fun x1 H6 y1 => ?_⟩
          obtain ⟨ex1, item1⟩ := wj.2.2 x1 H6 y1
          have hx1 := item1 es[j] (List.getElem?_eq_getElem hlt1) (D :: M) hR2.trk hF1
          rw [List.drop_eq_getElem_cons hlt1] at hl1
          obtain ⟨ε2, m1, m2⟩ := R.bind_ok hl1
          obtain ⟨k1, m3, m4⟩ := R.bind_ok m2
          refine hg1 x1 (wipe σ2 vs1) H6 _ _ (D :: M) es[j] ε2 (hR2.ex ex1) hx1 m1 fun σ3 r3 w3 _ => ⟨by rw [w3 vs1 hj1, wipe_wipe], ε2, D :: M, r3, k1, m3, fun H7 e7 => ?_⟩
          have ex7 := Evl.Ex.trans ex1 e7
          cases k1 with
          | false =>
            exact ⟨acc1, rest1, vs5, m4, ha1, ex7 D _ hD1, AtL.mono (hid_ex ex7) _ _ hA1, hR1.ex ex7, hR2.ex ex7, Evl.Ex.trans hE1 ex7, Evl.Ex.trans hF1 (hid_ex ex7)⟩
          | true =>
            obtain ⟨y2, m5, m6⟩ := R.bind_ok m4
            obtain ⟨ys2, m7, m8⟩ := R.bind_ok m6
            cases m8
            refine ⟨ε2, D :: M, r3.ex e7, y2, m5, fun v H8 e8 hv => ⟨vs5, e8 D _ (ex7 D _ hD1), ?_, ?_⟩⟩
            · rw [atL_len hA1]
              refine lim_lt (Nat.le_trans ?_ hz)
              rw [← ha1]
              simp only [List.length_append, List.length_cons]
              omega
            · have ex8 := Evl.Ex.trans ex7 e8
              refine ⟨acc1 ++ [y2], ys2, vs5 ++ [v], m7, by rw [← ha1, List.append_assoc]; rfl, upd_same, ?_, ?_, ?_, ?_, ?_⟩
              · rw [hid_upd hm, ← List.append_assoc]
                exact AtL.app (AtL.mono (hid_ex ex8) _ _ hA1) ⟨v, [], rfl, hv, rfl⟩
              · refine (hR1.ex ex8).updD hm n0 fun j f hj z => ?_
                obtain ⟨w', o', z1, z2, _⟩ := (re.wipe vs).mu j f hj
                rw [z] at z1
                cases z1
                exact nM z2
              · refine (hR2.ex ex8).updD hm n0 fun j f hj z => ?_
                obtain ⟨z1, z2⟩ := muK_wipe σ2 ε1 vs1 j f hj
                obtain ⟨z3, z4⟩ := k2 j f z1
                obtain ⟨w', o', z5, z6, _⟩ := (re.wipe vs).mu j f z3
                rw [z2, z4] at z
                rw [z] at z5
                cases z5
                exact nM z6
              · exact Evl.Ex.mut (Evl.Ex.trans hE1 ex8) nD
              · rw [hid_upd hm]
                exact Evl.Ex.trans hF1 (hid_ex ex8)
        · have ej : j = es.length := by omega
          subst ej
          refine .inl ⟨wj.2.1 (Nat.le_refl _), ?_⟩
          rw [List.drop_length] at hl1
          cases hl1
          exact ⟨acc ++ acc1, ys', vs5, l9, by rw [← ha1, List.append_assoc]; rfl, hD1, hA1, hR1, hE1⟩
    · have ei : i = ds.length := by omega
      subst ei
      refine .inl ⟨wi.2.1 (Nat.le_refl _), ?_⟩
      rw [List.drop_length] at hl
      cases hl
      rw [List.append_nil] at ha
      subst ha
      exact q D _ H2 nD0 (Evl.Ex.trans e1 hE) hD (.inl ⟨vs0, acc, rfl, rfl, hA⟩)
  · cases h4
variable {elt tg iter tg1 iter1 : Expr} {ifs ifs1 : List Expr} {scope : Scope} {own : List (Str × Nat)} {vs1 : List Nat} {pos spos py : Pos} {g g1 : TG} {b b1 : D → Nv → R Nv} {js js1 : List Nat} {mi mi1 : Nv → R (List D)} {t t1 : Nv → R Bool} {me : Nv → R D} {y : Str} {i : Nat}
theorem pe_co2 (vs1 : List Nat) (hc : X.calm = true) (hN : X.N.Nodup) (hi : PI X tg iter (rdI c mi)) (ok : BlkOk X.N X.env.scope scope own) (gk : GOk c g b js) (hj : ∀ j, j ∈ js → j ∈ own.map (·.2)) (gk1 : GOk c g1 b1 js1) (hj1 : ∀ j, j ∈ js1 → j ∈ vs1) (hv : ∀ i ∈ vs1, i ∈ own.map (·.2))
    (hg : ∀ (s : Shared) (H : Hp) (C : Addr) (cl : List (Str × Addr)) (fp : List Addr), PG (X.blk s H scope (compEnvC scope cl C X.env) fp) tg g) (ht : ∀ (s : Shared) (H : Hp) (C : Addr) (cl : List (Str × Addr)) (fp : List Addr), PTs (X.blk s H scope (compEnvC scope cl C X.env) fp) ifs (rdT c t))
    (hi1 : ∀ (s : Shared) (H : Hp) (C : Addr) (cl : List (Str × Addr)) (fp : List Addr), PI (X.blk s H scope (compEnvC scope cl C X.env) fp) tg1 iter1 (rdI c mi1))
    (hg1 : ∀ (s : Shared) (H : Hp) (C : Addr) (cl : List (Str × Addr)) (fp : List Addr), PG (X.blk s H scope (compEnvC scope cl C X.env) fp) tg1 g1) (ht1 : ∀ (s : Shared) (H : Hp) (C : Addr) (cl : List (Str × Addr)) (fp : List Addr), PTs (X.blk s H scope (compEnvC scope cl C X.env) fp) ifs1 (rdT c t1))
    (he : ∀ (s : Shared) (H : Hp) (C : Addr) (cl : List (Str × Addr)) (fp : List Addr), PE (X.blk s H scope (compEnvC scope cl C X.env) fp) elt (rdE c me)) (hs : ∀ x, foldedSetIterable iter X.env x = pure x := by intro _; rfl) (hs1 : ∀ env x, foldedSetIterable iter1 env x = pure x := by intro _ _; rfl) :
    PE X (.ListComp elt [⟨tg, iter, ifs, 0⟩, ⟨tg1, iter1, ifs1, 0⟩] scope pos) (rdL c (xLc2 (own.map (·.2)) vs1 mi b t mi1 b1 t1 me)) := (pe_lc2 hc hN hi ok hv hg ht hi1 hg1 ht1 he hs hs1).wk (tLc2_rd gk hj gk1 hj1)
theorem ps_co2 (vs1 : List Nat) (hc : X.calm = true) (hN : X.N.Nodup) (hi : PI X tg iter (rdI c mi)) (ok : BlkOk X.N X.env.scope scope own) (gk : GOk c g b js) (hj : ∀ j, j ∈ js → j ∈ own.map (·.2)) (gk1 : GOk c g1 b1 js1) (hj1 : ∀ j, j ∈ js1 → j ∈ vs1) (hv : ∀ i ∈ vs1, i ∈ own.map (·.2))
    (hg : ∀ (s : Shared) (H : Hp) (C : Addr) (cl : List (Str × Addr)) (fp : List Addr), PG (X.blk s H scope (compEnvC scope cl C X.env) fp) tg g) (ht : ∀ (s : Shared) (H : Hp) (C : Addr) (cl : List (Str × Addr)) (fp : List Addr), PTs (X.blk s H scope (compEnvC scope cl C X.env) fp) ifs (rdT c t))
    (hi1 : ∀ (s : Shared) (H : Hp) (C : Addr) (cl : List (Str × Addr)) (fp : List Addr), PI (X.blk s H scope (compEnvC scope cl C X.env) fp) tg1 iter1 (rdI c mi1))
    (hg1 : ∀ (s : Shared) (H : Hp) (C : Addr) (cl : List (Str × Addr)) (fp : List Addr), PG (X.blk s H scope (compEnvC scope cl C X.env) fp) tg1 g1) (ht1 : ∀ (s : Shared) (H : Hp) (C : Addr) (cl : List (Str × Addr)) (fp : List Addr), PTs (X.blk s H scope (compEnvC scope cl C X.env) fp) ifs1 (rdT c t1))
    (he : ∀ (s : Shared) (H : Hp) (C : Addr) (cl : List (Str × Addr)) (fp : List Addr), PE (X.blk s H scope (compEnvC scope cl C X.env) fp) elt (rdE c me))
    (hsw : swapsWith (.ListComp elt [⟨tg, iter, ifs, 0⟩, ⟨tg1, iter1, ifs1, 0⟩] scope pos) (some (.Name y py)) spos.line X.env = pure true) (hy : X.N[i]? = some y := by rfl) (hyl : X.env.scope.names.lookup y = some .local := by rfl) (hs : ∀ x, foldedSetIterable iter X.env x = pure x := by intro _; rfl) (hs1 : ∀ env x, foldedSetIterable iter1 env x = pure x := by intro _ _; rfl) :
    PS X (.Assign [.Name y py] (.ListComp elt [⟨tg, iter, ifs, 0⟩, ⟨tg1, iter1, ifs1, 0⟩] scope pos) spos) (rdS c (sAs i (xLc2 (own.map (·.2)) vs1 mi b t mi1 b1 t1 me))) :=
  (ps_setLc2 hc hN hy hyl hsw hi ok hv hg ht hi1 hg1 ht1 he hs hs1).wk fun E σ H h => (tAsg_rdL (c := c) (i := i) E σ H h : tAsg (rdL c (xLc2 (own.map (·.2)) vs1 mi b t mi1 b1 t1 me)) (gName i) E σ H) |> fun q => tLc2_rd gk hj gk1 hj1 σ H _ q
theorem ps_co2M (vs1 : List Nat) (hc : X.calm = true) (hN : X.N.Nodup) (hi : PI X tg iter (rdI c mi)) (ok : BlkOk X.N X.env.scope scope own) (gk : GOk c g b js) (hj : ∀ j, j ∈ js → j ∈ own.map (·.2)) (gk1 : GOk c g1 b1 js1) (hj1 : ∀ j, j ∈ js1 → j ∈ vs1) (hv : ∀ i ∈ vs1, i ∈ own.map (·.2))
    (hg : ∀ (s : Shared) (H : Hp) (C : Addr) (cl : List (Str × Addr)) (fp : List Addr), PG (X.blk s H scope (compEnvC scope cl C X.env) fp) tg g) (ht : ∀ (s : Shared) (H : Hp) (C : Addr) (cl : List (Str × Addr)) (fp : List Addr), PTs (X.blk s H scope (compEnvC scope cl C X.env) fp) ifs (rdT c t))
    (hi1 : ∀ (s : Shared) (H : Hp) (C : Addr) (cl : List (Str × Addr)) (fp : List Addr), PI (X.blk s H scope (compEnvC scope cl C X.env) fp) tg1 iter1 (rdI c mi1))
    (hg1 : ∀ (s : Shared) (H : Hp) (C : Addr) (cl : List (Str × Addr)) (fp : List Addr), PG (X.blk s H scope (compEnvC scope cl C X.env) fp) tg1 g1) (ht1 : ∀ (s : Shared) (H : Hp) (C : Addr) (cl : List (Str × Addr)) (fp : List Addr), PTs (X.blk s H scope (compEnvC scope cl C X.env) fp) ifs1 (rdT c t1))
    (he : ∀ (s : Shared) (H : Hp) (C : Addr) (cl : List (Str × Addr)) (fp : List Addr), PE (X.blk s H scope (compEnvC scope cl C X.env) fp) elt (rdE c me))
    (hsw : swapsWith (.ListComp elt [⟨tg, iter, ifs, 0⟩, ⟨tg1, iter1, ifs1, 0⟩] scope pos) (some (.Name y py)) spos.line X.env = pure true) (hy : X.N[i]? = some y := by rfl) (hyl : X.env.scope.names.lookup y = some .local := by rfl) (hs : ∀ x, foldedSetIterable iter X.env x = pure x := by intro _; rfl) (hs1 : ∀ env x, foldedSetIterable iter1 env x = pure x := by intro _ _; rfl) :
    PS X (.Assign [.Name y py] (.ListComp elt [⟨tg, iter, ifs, 0⟩, ⟨tg1, iter1, ifs1, 0⟩] scope pos) spos) (rdS c (sAsM i (xLc2 (own.map (·.2)) vs1 mi b t mi1 b1 t1 me))) :=
  (ps_setLc2 hc hN hy hyl hsw hi ok hv hg ht hi1 hg1 ht1 he hs hs1).wk fun E σ H h => (tAsg_rdM (c := c) (i := i) E σ H h : tAsg (rdL c (xLc2 (own.map (·.2)) vs1 mi b t mi1 b1 t1 me)) (gName i) E σ H) |> fun q => tLc2_rd gk hj gk1 hj1 σ H _ q
end
/-! ### two stores into own lists at once -/
def stl (j : Nat) (mi : Nv → R D) (d : D) : Nv → R Nv := fun ε => (mi ε).bind fun k => match gt ε j, k with
  | .mu (.list ds), .int z => match ixN ds.length z with
    | some n => .ok (st ε j (.mu (.list (ds.set n d))))
    | none => .bad
  | _, _ => .bad
theorem stl_ok {j : Nat} {mi : Nv → R D} {d : D} {ε ε' : Nv} (h : stl j mi d ε = .ok ε') : ∃ ds z n, mi ε = .ok (.int z) ∧ gt ε j = .mu (.list ds) ∧ ixN ds.length z = some n ∧ ε' = st ε j (.mu (.list (ds.set n d))) := by
  obtain ⟨k, h1, h2⟩ := R.bind_ok h
  split at h2
  · rename_i ds z g
    split at h2
    · rename_i n hn
      cases h2
      exact ⟨ds, z, n, h1, g, hn, rfl⟩
    · cases h2
  · cases h2
def sSt2 (j : Nat) (mi : Nv → R D) (j2 : Nat) (mi2 me : Nv → R D) : Nv → R Fl := fun ε => (me ε).bind fun d => match d with
  | .tuple [a, b] => (stl j mi a ε).bind fun ε1 => (stl j2 mi2 b ε1).bind fun ε2 => .ok (.nx ε2)
  | _ => .bad
section
variable {X : Cx} {c : Cf} {s : Stmt} {me : Nv → R D}
theorem ps_st2 {j j2 : Nat} {mi mi2 : Nv → R D} (h : PS X s (tAsg (rdE c me) (gTup X.K 2 (gCons (gSub (tVar j) (rdE c mi) rSetL) (gCons (gSub (tVar j2) (rdE c mi2) rSetL) gNil))))) (hK : c.K = X.K := by rfl) : PS X s (rdS c (sSt2 j mi j2 mi2 me)) := h.wk fun E σ H ⟨ε, M, re, f⟩ => by
  unfold sSt2 at f
  cases q : me ε with
  | bad => rw [q] at f; exact f.elim
  | ex x y => rw [q] at f; exact f.elim
  | ok d =>
    rw [q] at f
    refine ⟨ε, M, re, d, q, fun v H' e' hv => ?_⟩
    simp only [R.bind] at f
    split at f
    · rename_i x a b
      cases q2 : stl j mi a ε with
      | bad => simp only [R.bind, q2] at f; exact f.elim
      | ex x y => simp only [R.bind, q2] at f; exact f.elim
      | ok ε1 =>
        cases q3 : stl j2 mi2 b ε1 with
        | bad => simp only [R.bind, q2, q3] at f; exact f.elim
        | ex x y => simp only [R.bind, q2, q3] at f; exact f.elim
        | ok ε2 =>
          simp only [R.bind, q2, q3] at f
          obtain ⟨p, vs, ev, g1, va, vr, ev2, ha, vb, vr2, ev3, hb, ev4⟩ := hv
          obtain ⟨ds, z, n, m1, m2, m3, m4⟩ := stl_ok q2
          obtain ⟨ds', z', n', m1', m2', m3', m4'⟩ := stl_ok q3
          have ev4' : vr2 = [] := ev4
          subst ev ev2 ev3 ev4' m4 m4'
          refine ⟨p, _, rfl, hK ▸ sqt_le g1, rfl, va, [vb], rfl, gSub_rd (k := .int z) (re.ex e') ha m1 m2 m3 fun H2 r2 e2 => ⟨vb, [], rfl, gSub_rd (k := .int z') r2 (At.mono e2 _ _ hb) m1' m2' m3' fun H3 r3 e3 => ⟨rfl, f _ H3 M r3 (Evl.Ex.trans (hid_ex e') (Evl.Ex.trans e2 e3))⟩⟩⟩
    · exact f.elim
end
end Tw
set_option Elab.async false
set_option linter.all false
set_option maxRecDepth 100000
set_option maxHeartbeats 4000000
set_option exponentiation.threshold 1000000
/-! Pl1: the programs over data, in plain Lean -/
namespace Tw
open PySem
/-! ### environments -/
theorem gt_z {s : SV} {r : Nv} : gt (s :: r) 0 = s := rfl
theorem gt_s {s : SV} {r : Nv} {i : Nat} : gt (s :: r) (i + 1) = gt r i := rfl
theorem st_z {s x : SV} {r : Nv} : st (s :: r) 0 x = x :: r := rfl
theorem st_s {s x : SV} {r : Nv} {i : Nat} : st (s :: r) (i + 1) x = s :: st r i x := rfl
theorem bind_ok {α β : Type} {a : α} {f : α → R β} : (R.ok a).bind f = f a := rfl
/-! ### small facts of data -/
theorem okd_int (i : Int) : okd (.int i) = true := rfl
theorem okd_bool (b : Bool) : okd (.bool b) = true := rfl
theorem okd_none : okd (.none) = true := rfl
theorem okd_str (x : Str) : okd (.str x) = true := rfl
theorem plain_ints : ∀ l : List Int, PyData.plainAll (l.map PyData.int) = true
  | [] => rfl
  | _ :: r => by
    show (true && PyData.plainAll (r.map PyData.int)) = true
    rw [plain_ints r]
    rfl
theorem okd_of {d : D} (h1 : d.plain = true) (h2 : d.depth ≤ 60) : okd d = true := by
  unfold okd
  rw [h1, decide_eq_true h2]
  rfl
theorem okd_ints (l : List Int) : okd (.list (l.map PyData.int)) = true := okd_of (by simp only [PyData.plain]; exact plain_ints l) (by simp only [PyData.depth, PySem.W.depth_ints]; decide)
theorem eqv_int (i j : Int) : PyData.eqv (.int i) (.int j) = decide (i = j) := by
  rw [PyData.eqv, Bool.beq_eq_decide_eq]
theorem eqv_str (x y : Str) : PyData.eqv (.str x) (.str y) = decide (x = y) := by
  rw [PyData.eqv]
  by_cases h : x = y
  · subst h
    simp
  · rw [decide_eq_false h]
    exact beq_eq_false_iff_ne.mpr h
theorem dEq_int (i j : Int) : dEq (.int i) (.int j) = .ok (.bool (decide (i = j))) := by
  unfold dEq
  rw [okd_int, okd_int, eqv_int]
  rfl
theorem dNe_int (i j : Int) : dNe (.int i) (.int j) = .ok (.bool (!decide (i = j))) := by
  unfold dNe
  rw [okd_int, okd_int, eqv_int]
  rfl
theorem dNe_str (i j : Str) : dNe (.str i) (.str j) = .ok (.bool (!decide (i = j))) := by
  unfold dNe
  rw [okd_str, okd_str, eqv_str]
  rfl
theorem dNe_same {d : D} (h : okd d = true) : dNe d d = .ok (.bool false) := by
  unfold dNe
  rw [h, SeqAt.eqv_refl_plain d (okd_iff h).1]
  rfl
theorem dEq_same {d : D} (h : okd d = true) : dEq d d = .ok (.bool true) := by
  unfold dEq
  rw [h, SeqAt.eqv_refl_plain d (okd_iff h).1]
  rfl
/-! ### loops -/
/-- a loop that is gone through -/
theorem forG_inv {g : D → Nv → R Nv} {b : Nv → R Fl} (P : Nat → Nv → Prop) : ∀ (ds : List D) (k : Nat) (ε : Nv), P k ε →
    (∀ i d ε, ds[i]? = some d → P (k + i) ε → ∃ ε1, g d ε = .ok ε1 ∧ ∃ ε2, (b ε1 = .ok (.nx ε2) ∨ b ε1 = .ok (.ct ε2)) ∧ P (k + i + 1) ε2) → ∃ ε', forG g b ds ε = .ok (.nx ε') ∧ P (k + ds.length) ε'
  | [], k, ε, h0, _ => ⟨ε, rfl, h0⟩
  | d :: ds, k, ε, h0, hs => by
    obtain ⟨ε1, h1, ε2, h2, h3⟩ := hs 0 d ε rfl h0
    obtain ⟨ε', h4, h5⟩ := forG_inv P ds (k + 1) ε2 h3 fun i e η hi hp => by
      have e1 : k + 1 + i = k + (i + 1) := by omega
      rw [e1] at hp ⊢
      exact hs (i + 1) e η (by simpa using hi) hp
    refine ⟨ε', ?_, ?_⟩
    · unfold forG
      rw [h1, bind_ok]
      rcases h2 with h2 | h2
      · rw [h2]
        exact h4
      · rw [h2]
        exact h4
    · rw [List.length_cons]
      have e1 : k + (ds.length + 1) = k + 1 + ds.length := by omega
      rw [e1]
      exact h5
/-- a loop that may end by return: by what holds of the answer -/
theorem forG_ret {g : D → Nv → R Nv} {b : Nv → R Fl} (P : Nat → Nv → Prop) (Q : D → Prop) : ∀ (ds : List D) (k : Nat) (ε : Nv), P k ε →
    (∀ i d ε, ds[i]? = some d → P (k + i) ε → ∃ ε1, g d ε = .ok ε1 ∧ ((∃ ε2, (b ε1 = .ok (.nx ε2) ∨ b ε1 = .ok (.ct ε2)) ∧ P (k + i + 1) ε2) ∨ ∃ a, b ε1 = .ok (.rt a) ∧ Q a)) →
    (∃ ε', forG g b ds ε = .ok (.nx ε') ∧ P (k + ds.length) ε') ∨ ∃ a, forG g b ds ε = .ok (.rt a) ∧ Q a
  | [], k, ε, h0, _ => .inl ⟨ε, rfl, h0⟩
  | d :: ds, k, ε, h0, hs => by
    obtain ⟨ε1, h1, h2⟩ := hs 0 d ε rfl h0
    rcases h2 with ⟨ε2, h2, h3⟩ | ⟨a, h2, h3⟩
    · have := forG_ret P Q ds (k + 1) ε2 h3 fun i e η hi hp => by
        have e1 : k + 1 + i = k + (i + 1) := by omega
        rw [e1] at hp ⊢
        exact hs (i + 1) e η (by simpa using hi) hp
      have e2 : forG g b (d :: ds) ε = forG g b ds ε2 := by
        show (g d ε).bind _ = _
        rw [h1, bind_ok]
        rcases h2 with h2 | h2
        · rw [h2]
        · rw [h2]
      rw [e2, List.length_cons]
      have e1 : k + (ds.length + 1) = k + 1 + ds.length := by omega
      rw [e1]
      exact this
    · refine .inr ⟨a, ?_, h3⟩
      show (g d ε).bind _ = _
      rw [h1, bind_ok, h2]
/-- a comprehension -/
theorem lcG_map {g : D → Nv → R Nv} {t : Nv → R Bool} {e : Nv → R D} {ε : Nv} (p : D → Bool) (v : D → D) : ∀ (ds : List D),
    (∀ d, d ∈ ds → ∃ ε1, g d ε = .ok ε1 ∧ t ε1 = .ok (p d) ∧ (p d = true → e ε1 = .ok (v d))) → lcG g t e ε ds = .ok ((ds.filter p).map v)
  | [], _ => rfl
  | d :: ds, h => by
    obtain ⟨ε1, h1, h2, h3⟩ := h d List.mem_cons_self
    have ih := lcG_map p v ds fun x hx => h x (List.mem_cons_of_mem _ hx)
    unfold lcG
    rw [h1, bind_ok, h2, bind_ok]
    cases hp : p d with
    | true =>
      rw [if_pos rfl, h3 hp, bind_ok, ih, bind_ok, List.filter_cons, hp, if_pos rfl]
      rfl
    | false =>
      rw [if_neg Bool.false_ne_true, ih, List.filter_cons, hp, if_neg Bool.false_ne_true]
/-- one over typed items, no test -/
theorem lcG_all {α : Type} {g : D → Nv → R Nv} {e : Nv → R D} {ε : Nv} (enc : α → D) (v : α → D) : ∀ (xs : List α), (∀ x, x ∈ xs → ∃ ε1, g (enc x) ε = .ok ε1 ∧ e ε1 = .ok (v x)) → lcG g tYe e ε (xs.map enc) = .ok (xs.map v)
  | [], _ => rfl
  | x :: xs, h => by
    obtain ⟨ε1, h1, h2⟩ := h x List.mem_cons_self
    have ih := lcG_all enc v xs fun y hy => h y (List.mem_cons_of_mem _ hy)
    show (g (enc x) ε).bind _ = _
    rw [h1, bind_ok]
    show (e ε1).bind _ = _
    rw [h2, bind_ok, ih, bind_ok]
    rfl
/-- .. with a test -/
theorem lcG_if {α : Type} {g : D → Nv → R Nv} {t : Nv → R Bool} {e : Nv → R D} {ε : Nv} (enc : α → D) (p : α → Bool) (v : α → D) : ∀ (xs : List α), (∀ x, x ∈ xs → ∃ ε1, g (enc x) ε = .ok ε1 ∧ t ε1 = .ok (p x) ∧ (p x = true → e ε1 = .ok (v x))) → lcG g t e ε (xs.map enc) = .ok ((xs.filter p).map v)
  | [], _ => rfl
  | x :: xs, h => by
    obtain ⟨ε1, h1, h2, h3⟩ := h x List.mem_cons_self
    have ih := lcG_if enc p v xs fun y hy => h y (List.mem_cons_of_mem _ hy)
    show (g (enc x) ε).bind _ = _
    rw [h1, bind_ok, h2, bind_ok]
    cases hp : p x with
    | true =>
      rw [if_pos rfl, h3 hp, bind_ok, ih, bind_ok, List.filter_cons, hp, if_pos rfl]
      rfl
    | false =>
      rw [if_neg Bool.false_ne_true, ih, List.filter_cons, hp, if_neg Bool.false_ne_true]
/-- a while: by a measure -/
theorem whG_inv {t : Nv → R Bool} {b : Nv → R Fl} (P : Nat → Nv → Prop) (Q : Nv → Prop) : ∀ (n : Nat) (ε : Nv), P n ε →
    (∀ n ε, P n ε → (t ε = .ok false ∧ Q ε) ∨ (t ε = .ok true ∧ ∃ ε2 n', n' < n ∧ (b ε = .ok (.nx ε2) ∨ b ε = .ok (.ct ε2)) ∧ P n' ε2)) → ∀ m, n < m → ∃ ε', whG t b m ε = .ok (.nx ε') ∧ Q ε' := by
  intro n
  induction n using Nat.strongRecOn with
  | _ n ih =>
    intro ε h hs m hm
    cases m with
    | zero => exact absurd hm (Nat.not_lt_zero _)
    | succ m =>
      rcases hs n ε h with ⟨h1, h2⟩ | ⟨h1, ε2, n', hn, h2, h3⟩
      · refine ⟨ε, ?_, h2⟩
        unfold whG
        rw [h1]
        rfl
      · obtain ⟨ε', h4, h5⟩ := ih n' hn ε2 h3 hs m (by omega)
        refine ⟨ε', ?_, h5⟩
        unfold whG
        rw [h1, bind_ok, if_pos rfl]
        rcases h2 with h2 | h2
        · rw [h2]
          exact h4
        · rw [h2]
          exact h4
/-! ### ranges, items -/
theorem rangeD_get {lo : Int} {n i : Nat} {d : D} (h : (rangeD lo n)[i]? = some d) : i < n ∧ d = .int (lo + (i : Int)) := by
  unfold rangeD at h
  rw [List.getElem?_map] at h
  by_cases hi : i < n
  · rw [List.getElem?_range hi] at h
    exact ⟨hi, (Option.some.inj h).symm⟩
  · rw [List.getElem?_eq_none_iff.mpr (by rw [List.length_range]; omega)] at h
    cases h
theorem rangeD_len (lo : Int) (n : Nat) : (rangeD lo n).length = n := by
  unfold rangeD
  rw [List.length_map, List.length_range]
theorem atI_map {α β : Type} (f : α → β) (xs : List α) (i : Int) : L2.atI (xs.map f) i = (L2.atI xs i).map f := by
  unfold L2.atI
  rw [List.length_map]
  cases L2.ixN xs.length i with
  | none => rfl
  | some j =>
    show (xs.map f)[j]? = (xs[j]?).map f
    rw [List.getElem?_map]
theorem atI_of {α : Type} {xs : List α} {i : Int} (h0 : 0 ≤ i) (h : i < xs.length) : ∃ x, xs[i.toNat]? = some x ∧ L2.atI xs i = some x := by
  have hi : i.toNat < xs.length := by omega
  refine ⟨xs[i.toNat], List.getElem?_eq_getElem hi, ?_⟩
  have := L2.atI_nat (xs := xs) (j := i.toNat) (List.getElem?_eq_getElem hi)
  rwa [Int.toNat_of_nonneg h0] at this
theorem dIx_list {xs : List D} {i : Int} {x : D} (h : L2.atI xs i = some x) : dIx (.list xs) (.int i) = .ok x := by
  show (match L2.atI xs i with | some d => R.ok d | none => R.bad) = _
  rw [h]
theorem dIx_tuple {xs : List D} {i : Int} {x : D} (h : L2.atI xs i = some x) : dIx (.tuple xs) (.int i) = .ok x := by
  show (match L2.atI xs i with | some d => R.ok d | none => R.bad) = _
  rw [h]
/-- an item of a list of ints -/
theorem dIx_ints {l : List Int} {i : Int} (h0 : 0 ≤ i) (h : i < l.length) : dIx (.list (l.map PyData.int)) (.int i) = .ok (.int (l.getD i.toNat 0)) := by
  obtain ⟨x, h1, h2⟩ := atI_of (xs := l) h0 h
  refine dIx_list ?_
  rw [atI_map, h2, List.getD_eq_getElem?_getD, h1]
  rfl
theorem ixN_of {n : Nat} {i : Int} (h0 : 0 ≤ i) (h : i < n) : L2.ixN n i = some i.toNat := by
  unfold L2.ixN
  rw [if_pos h0, if_pos h]
/-! ### arithmetic -/
theorem log2_lt {n k : Nat} (h : n < 2 ^ k) (hk : 0 < k) : n.log2 < k := PySem.Flt.log2_lt_of hk h
theorem dMul_ok {i j : Int} (hi : i.natAbs < 2 ^ 400000) (hj : j.natAbs < 2 ^ 400000) : dMul (.int i) (.int j) = .ok (.int (i * j)) := by
  have h1 := log2_lt hi (by decide)
  have h2 := log2_lt hj (by decide)
  show (if i.natAbs.log2 + j.natAbs.log2 < 1000000 then R.ok (PyData.int (i * j)) else R.bad) = _
  rw [if_pos (by omega)]
theorem lt_pow {n k m : Nat} (h : n < 2 ^ k) (hk : k ≤ m) : n < 2 ^ m := Nat.lt_of_lt_of_le h (Nat.pow_le_pow_right (by decide) hk)
theorem dMul_small {i j : Int} (hi : i.natAbs < 2 ^ 64) (hj : j.natAbs < 2 ^ 64) : dMul (.int i) (.int j) = .ok (.int (i * j)) := dMul_ok (lt_pow hi (by decide)) (lt_pow hj (by decide))
theorem dDiv_ok {i j : Int} (h0 : 0 < j) (hj : j.natAbs < 2 ^ 8999) : dDiv (.int i) (.int j) = .ok (.int (i / j)) := by
  have h2 := log2_lt hj (by decide)
  show (if 0 < j ∧ j.natAbs.log2 < 9000 then R.ok (PyData.int (i / j)) else R.bad) = _
  rw [if_pos ⟨h0, by omega⟩]
theorem dDiv_small {i j : Int} (h0 : 0 < j) (hj : j.natAbs < 2 ^ 64) : dDiv (.int i) (.int j) = .ok (.int (i / j)) := dDiv_ok h0 (lt_pow hj (by decide))
theorem dMod_ok {i j : Int} (h0 : 0 < j) : dMod (.int i) (.int j) = .ok (.int (i % j)) := by
  show (if 0 < j then R.ok (PyData.int (i % j)) else R.bad) = _
  rw [if_pos h0]
theorem cRepr_ok {d : D} (h1 : okd d = true) (h2 : d.showable = true) (h3 : d.shown.length ≤ lim) : cRepr [d] = .ok (.str d.shown) := by
  show (if okd d && d.showable && decide (d.shown.length ≤ lim) then R.ok (PyData.str d.shown) else R.bad) = _
  rw [h1, h2, decide_eq_true h3]
  rfl
/-! ### how long texts of data are -/
mutual
/-- an upper bound of a datum's text: ints below 10 ^ 12 -/
def tw : D → Nat
  | .none => 13
  | .bool _ => 13
  | .int _ => 13
  | .str x => (reprText x).length
  | .list xs => twAll xs + 3
  | .tuple xs => twAll xs + 3
  | .dict _ => 0
def twAll : List D → Nat
  | [] => 0
  | x :: xs => tw x + 2 + twAll xs
end
mutual
def smI : D → Bool
  | .int i => decide (i.natAbs < 10 ^ 12)
  | .list xs => smIAll xs
  | .tuple xs => smIAll xs
  | .dict _ => false
  | _ => true
def smIAll : List D → Bool
  | [] => true
  | x :: xs => smI x && smIAll xs
end
mutual
theorem shown_tw : ∀ d : D, smI d = true → d.shown.length ≤ tw d ∧ d.showable = true
  | .none, _ => by
    refine ⟨?_, rfl⟩
    simp only [PyData.shown, tw]
    decide
  | .bool b, _ => by
    refine ⟨?_, rfl⟩
    cases b <;> simp only [PyData.shown, tw] <;> decide
  | .int i, h => by
    simp only [smI] at h
    have h' := of_decide_eq_true h
    refine ⟨by simp only [tw]; exact PyData.shown_int_le h', ?_⟩
    simp only [PyData.showable]
    refine decide_eq_true ?_
    have := log2_lt (n := i.natAbs) (k := 64) (by omega) (by decide)
    omega
  | .str x, _ => by
    refine ⟨?_, rfl⟩
    simp only [PyData.shown, tw]
    exact Nat.le_refl _
  | .list xs, h => by
    simp only [smI] at h
    obtain ⟨h1, h2⟩ := shown_twAll xs h
    simp only [PyData.shown, tw, PyData.showable]
    refine ⟨?_, h2⟩
    have := listText_len_le (PyData.shownAll xs)
    rw [PyData.shownAll_length] at this
    omega
  | .tuple xs, h => by
    simp only [smI] at h
    obtain ⟨h1, h2⟩ := shown_twAll xs h
    simp only [PyData.shown, tw, PyData.showable]
    refine ⟨?_, h2⟩
    have := tupleText_len_le (PyData.shownAll xs)
    rw [PyData.shownAll_length] at this
    omega
  | .dict _, h => by simp only [smI] at h; cases h
theorem shown_twAll : ∀ xs : List D, smIAll xs = true → ((PyData.shownAll xs).map (·.length)).sum + 2 * xs.length ≤ twAll xs ∧ PyData.showableAll xs = true
  | [], _ => ⟨by simp [PyData.shownAll, twAll], by simp [PyData.showableAll]⟩
  | x :: xs, h => by
    simp only [smIAll, Bool.and_eq_true] at h
    obtain ⟨h1, h2⟩ := shown_tw x h.1
    obtain ⟨h3, h4⟩ := shown_twAll xs h.2
    simp only [PyData.shownAll, twAll, PyData.showableAll, h2, h4, List.map_cons, List.sum_cons, List.length_cons, Bool.and_self]
    refine ⟨?_, trivial⟩
    omega
end
theorem cRepr_tw {d : D} (h1 : okd d = true) (h2 : smI d = true) (h3 : tw d ≤ lim) : cRepr [d] = .ok (.str d.shown) :=
  cRepr_ok h1 (shown_tw d h2).2 (Nat.le_trans (shown_tw d h2).1 h3)
theorem tw_ints : ∀ l : List Int, twAll (l.map PyData.int) = 15 * l.length
  | [] => rfl
  | i :: r => by
    show 13 + 2 + twAll (r.map PyData.int) = _
    rw [tw_ints r, List.length_cons]
    omega
theorem smI_ints : ∀ l : List Int, (∀ i, i ∈ l → i.natAbs < 10 ^ 12) → smIAll (l.map PyData.int) = true
  | [], _ => rfl
  | i :: r, h => by
    show (decide (i.natAbs < 10 ^ 12) && smIAll (r.map PyData.int)) = true
    rw [decide_eq_true (h i List.mem_cons_self), smI_ints r fun j hj => h j (List.mem_cons_of_mem _ hj)]
    rfl
theorem cRepr_int {i : Int} (h : i.natAbs < 10 ^ 12) : cRepr [.int i] = .ok (.str (PyData.int i).shown) := cRepr_tw rfl (by simp only [smI]; exact decide_eq_true h) (by show 13 ≤ 1000000; decide)
theorem cRepr_ints {l : List Int} (h : ∀ i, i ∈ l → i.natAbs < 10 ^ 12) (hl : l.length ≤ 60000) : cRepr [.list (l.map PyData.int)] = .ok (.str (PyData.list (l.map PyData.int)).shown) :=
  cRepr_tw (okd_ints l) (by simp only [smI]; exact smI_ints l h) (by simp only [tw, tw_ints]; have : lim = 1000000 := rfl; omega)
end Tw
namespace Tw
open PySem
/-! ### runs of statements -/
def Runs (m : Nv → R Fl) (ε : Nv) (post : Fl → Prop) : Prop := ∃ fl, m ε = .ok fl ∧ post fl
theorem Runs.mono {m : Nv → R Fl} {ε : Nv} {p q : Fl → Prop} (h : Runs m ε p) (i : ∀ fl, p fl → q fl) : Runs m ε q := let ⟨fl, h1, h2⟩ := h; ⟨fl, h1, i fl h2⟩
theorem runs_eq {m : Nv → R Fl} {ε : Nv} {post : Fl → Prop} {fl : Fl} (h : m ε = .ok fl) (q : post fl) : Runs m ε post := ⟨fl, h, q⟩
/-- m, then n -/
theorem runs_seq {m n : Nv → R Fl} {ε : Nv} {post : Fl → Prop} (h : Runs m ε fun fl => match fl with | .nx ε' => Runs n ε' post | fl => post fl) : Runs (sSeq m n) ε post := by
  obtain ⟨fl, h1, h2⟩ := h
  have e : sSeq m n ε = match m ε with | .ok (.nx ε') => n ε' | r => r := rfl
  rw [h1] at e
  cases fl with
  | nx ε' =>
    obtain ⟨fl, h3, h4⟩ := h2
    exact ⟨fl, e.trans h3, h4⟩
  | rt d => exact ⟨_, e, h2⟩
  | bk ε' => exact ⟨_, e, h2⟩
  | ct ε' => exact ⟨_, e, h2⟩
/-- m goes through, then n -/
theorem runs_sn {m n : Nv → R Fl} {ε ε' : Nv} {post : Fl → Prop} (h : m ε = .ok (.nx ε')) (q : Runs n ε' post) : Runs (sSeq m n) ε post := runs_seq ⟨_, h, q⟩
theorem sAs_ok {i : Nat} {me : Nv → R D} {ε : Nv} {d : D} (h : me ε = .ok d) : sAs i me ε = .ok (.nx (st ε i (.im d))) := by
  unfold sAs
  rw [h, bind_ok]
theorem sAsM_ok {i : Nat} {me : Nv → R D} {ε : Nv} {d : D} (h : me ε = .ok d) : sAsM i me ε = .ok (.nx (st ε i (.mu d))) := by
  unfold sAsM
  rw [h, bind_ok]
theorem sDr_ok {me : Nv → R D} {ε : Nv} {d : D} (h : me ε = .ok d) : sDr me ε = .ok (.nx ε) := by
  unfold sDr
  rw [h, bind_ok]
theorem sRt_ok {me : Nv → R D} {ε : Nv} {d : D} (h : me ε = .ok d) : sRt me ε = .ok (.rt d) := by
  unfold sRt
  rw [h, bind_ok]
theorem sIf_t {t : Nv → R Bool} {m n : Nv → R Fl} {ε : Nv} (h : t ε = .ok true) : sIf t m n ε = m ε := by
  unfold sIf
  rw [h, bind_ok, if_pos rfl]
theorem sIf_f {t : Nv → R Bool} {m n : Nv → R Fl} {ε : Nv} (h : t ε = .ok false) : sIf t m n ε = n ε := by
  unfold sIf
  rw [h, bind_ok, if_neg Bool.false_ne_true]
theorem runs_if {t : Nv → R Bool} {m n : Nv → R Fl} {ε : Nv} {post : Fl → Prop} {b : Bool} (h : t ε = .ok b) (h1 : b = true → Runs m ε post) (h2 : b = false → Runs n ε post) : Runs (sIf t m n) ε post := by
  cases b with
  | true =>
    unfold Runs
    rw [sIf_t h]
    exact h1 rfl
  | false =>
    unfold Runs
    rw [sIf_f h]
    exact h2 rfl
/-- a loop by an invariant; answers inside by what is wanted -/
theorem runs_for {mi : Nv → R (List D)} {g : D → Nv → R Nv} {b : Nv → R Fl} {ε : Nv} {post : Fl → Prop} {ds : List D} (P : Nat → Nv → Prop) (h : mi ε = .ok ds) (h0 : P 0 ε)
    (hs : ∀ i d ε, ds[i]? = some d → P i ε → ∃ ε1, g d ε = .ok ε1 ∧ Runs b ε1 fun fl => match fl with | .nx ε2 => P (i + 1) ε2 | .ct ε2 => P (i + 1) ε2 | .bk _ => False | .rt a => post (.rt a))
    (hd : ∀ ε', P ds.length ε' → post (.nx ε')) : Runs (sFor mi g b) ε post := by
  unfold Runs sFor
  rw [h, bind_ok]
  have := forG_ret (g := g) (b := b) P (fun a => post (.rt a)) ds 0 ε h0 fun i d η hi hp => by
    rw [Nat.zero_add] at hp ⊢
    obtain ⟨ε1, h1, fl, h2, h3⟩ := hs i d η hi hp
    refine ⟨ε1, h1, ?_⟩
    cases fl with
    | nx ε2 => exact .inl ⟨ε2, .inl h2, h3⟩
    | ct ε2 => exact .inl ⟨ε2, .inr h2, h3⟩
    | bk ε2 => exact h3.elim
    | rt a => exact .inr ⟨a, h2, h3⟩
  rcases this with ⟨ε', h1, h2⟩ | ⟨a, h1, h2⟩
  · rw [Nat.zero_add] at h2
    exact ⟨_, h1, hd ε' h2⟩
  · exact ⟨_, h1, h2⟩
theorem runs_wh {t : Nv → R Bool} {b : Nv → R Fl} {ε : Nv} {post : Fl → Prop} {m : Nat} (P : Nat → Nv → Prop) (n : Nat) (h0 : P n ε) (hm : n < m)
    (hs : ∀ n ε, P n ε → (t ε = .ok false ∧ post (.nx ε)) ∨ (t ε = .ok true ∧ Runs b ε fun fl => match fl with | .nx ε2 => ∃ n', n' < n ∧ P n' ε2 | .ct ε2 => ∃ n', n' < n ∧ P n' ε2 | _ => False)) : Runs (sWh m t b) ε post := by
  obtain ⟨ε', h1, h2⟩ := whG_inv (t := t) (b := b) P (fun ε => post (.nx ε)) n ε h0 (fun n η hp => by
    rcases hs n η hp with h | ⟨h1, fl, h2, h3⟩
    · exact .inl h
    · refine .inr ⟨h1, ?_⟩
      cases fl with
      | nx ε2 =>
        obtain ⟨n', a, b⟩ := h3
        exact ⟨ε2, n', a, .inl h2, b⟩
      | ct ε2 =>
        obtain ⟨n', a, b⟩ := h3
        exact ⟨ε2, n', a, .inr h2, b⟩
      | bk ε2 => exact h3.elim
      | rt a => exact h3.elim) m hm
  exact ⟨_, h1, h2⟩
/-- the def's answer -/
theorem runF_rt {n N : Nat} {m : Nv → R Fl} {ds : List D} {d : D} (hn : ds.length = n) (h : Runs m (ds.map SV.im ++ List.replicate (N - n) SV.no) fun fl => fl = .rt d) : runF n N m ds = .ok d := by
  obtain ⟨fl, h1, h2⟩ := h
  unfold runF
  rw [if_pos hn, h1, h2]
theorem runF_some {n N : Nat} {m : Nv → R Fl} {ds : List D} {Q : D → Prop} (hn : ds.length = n) (h : Runs m (ds.map SV.im ++ List.replicate (N - n) SV.no) fun fl => ∃ d, fl = .rt d ∧ Q d) : ∃ d, runF n N m ds = .ok d ∧ Q d := by
  obtain ⟨fl, h1, d, h2, h3⟩ := h
  refine ⟨d, ?_, h3⟩
  unfold runF
  rw [if_pos hn, h1, h2]
theorem runF_nx {n N : Nat} {m : Nv → R Fl} {ds : List D} (hn : ds.length = n) (h : Runs m (ds.map SV.im ++ List.replicate (N - n) SV.no) fun fl => ∃ ε, fl = .nx ε) : runF n N m ds = .ok .none := by
  obtain ⟨fl, h1, ε, h2⟩ := h
  unfold runF
  rw [if_pos hn, h1, h2]
/-! ### operators at ints -/
theorem dAdd_i {i j : Int} : dAdd (.int i) (.int j) = .ok (.int (i + j)) := rfl
theorem dSub_i {i j : Int} : dSub (.int i) (.int j) = .ok (.int (i - j)) := rfl
theorem dNeg_i {i : Int} : dNeg (.int i) = .ok (.int (-i)) := rfl
theorem dLt_i {i j : Int} : dLt (.int i) (.int j) = .ok (.bool (decide (i < j))) := rfl
theorem dLe_i {i j : Int} : dLe (.int i) (.int j) = .ok (.bool (decide (i ≤ j))) := rfl
theorem dGt_i {i j : Int} : dGt (.int i) (.int j) = .ok (.bool (decide (j < i))) := rfl
theorem dGe_i {i j : Int} : dGe (.int i) (.int j) = .ok (.bool (decide (j ≤ i))) := rfl
theorem cLen_l {xs : List D} : cLen [.list xs] = .ok (.int xs.length) := rfl
theorem cLen_t {xs : List D} : cLen [.tuple xs] = .ok (.int xs.length) := rfl
theorem cInt_i {i : Int} : cInt [.int i] = .ok (.int i) := rfl
theorem cInt_b {b : Bool} : cInt [.bool b] = .ok (.int (if b then 1 else 0)) := rfl
theorem cAbs_i {i : Int} : cAbs [.int i] = .ok (.int (if i < 0 then -i else i)) := rfl
theorem kMax_i {i j : Int} : kMax [.int i, .int j] = .ok (.int (if j > i then j else i)) := rfl
theorem kMin_i {i j : Int} : kMin [.int i, .int j] = .ok (.int (if j < i then j else i)) := rfl
theorem cSum_ints (l : List Int) : cSum [.list (l.map PyData.int)] = .ok (.int l.sum) := by
  show (match intsOf (l.map PyData.int) with | some l => R.ok (PyData.int l.sum) | none => R.bad) = _
  rw [intsOf_map]
theorem cAll_bools (l : List Bool) : cAll [.list (l.map PyData.bool)] = .ok (.bool (l.all id)) := by
  show (match boolsOf (l.map PyData.bool) with | some l => R.ok (PyData.bool (l.all id)) | none => R.bad) = _
  rw [boolsOf_map]
theorem cAny_bools (l : List Bool) : cAny [.list (l.map PyData.bool)] = .ok (.bool (l.any id)) := by
  show (match boolsOf (l.map PyData.bool) with | some l => R.ok (PyData.bool (l.any id)) | none => R.bad) = _
  rw [boolsOf_map]
theorem dPow_i {i j : Int} (h0 : 0 ≤ j) (h1 : j ≤ 1000000) (hi : i.natAbs < 2 ^ 64) : dPow (.int i) (.int j) = .ok (.int (i ^ j.toNat)) := by
  show (if 0 ≤ j ∧ j ≤ 1000000 ∧ i.natAbs < 2 ^ 64 then R.ok (PyData.int (i ^ j.toNat)) else R.bad) = _
  rw [if_pos ⟨h0, h1, hi⟩]
theorem iRange1_ok {ms : Nv → R (List D)} {ε : Nv} {j : Int} (h : ms ε = .ok [.int j]) (h0 : -(2 ^ 62) ≤ j) (h1 : j < 2 ^ 62) : iRange1 ms ε = .ok (rangeD 0 j.toNat) := by
  unfold iRange1
  rw [h, bind_ok]
  show (if rlim j then R.ok (rangeD 0 j.toNat) else R.bad) = _
  have : rlim j = true := by
    unfold rlim
    rw [decide_eq_true h0, decide_eq_true h1]
    rfl
  rw [if_pos this]
theorem iRange2_ok {ms : Nv → R (List D)} {ε : Nv} {i j : Int} (h : ms ε = .ok [.int i, .int j]) (h0 : -(2 ^ 62) ≤ i) (h1 : i < 2 ^ 62) (h2 : -(2 ^ 62) ≤ j) (h3 : j < 2 ^ 62) : iRange2 ms ε = .ok (rangeD i (j - i).toNat) := by
  unfold iRange2
  rw [h, bind_ok]
  show (if rlim i && rlim j then R.ok (rangeD i (j - i).toNat) else R.bad) = _
  have a : rlim i = true := by
    unfold rlim
    rw [decide_eq_true h0, decide_eq_true h1]
    rfl
  have b : rlim j = true := by
    unfold rlim
    rw [decide_eq_true h2, decide_eq_true h3]
    rfl
  rw [a, b]
  rfl
theorem sAp_ok {i : Nat} {me : Nv → R D} {ε : Nv} {d : D} {ds : List D} (h : me ε = .ok d) (g : gt ε i = .mu (.list ds)) (hl : ds.length < lim) : sAp i me ε = .ok (.nx (st ε i (.mu (.list (ds ++ [d]))))) := by
  unfold sAp
  rw [h, bind_ok, g]
  show (if ds.length < lim then R.ok (Fl.nx (st ε i (.mu (.list (ds ++ [d]))))) else R.bad) = _
  rw [if_pos hl]
end Tw
namespace Tw
open PySem
theorem xLc_ok {vs : List Nat} {mi : Nv → R (List D)} {g : D → Nv → R Nv} {t : Nv → R Bool} {e : Nv → R D} {ε : Nv} {ds ys : List D} (hi : mi ε = .ok ds) (hm : lcG g t e (wipeE ε vs) ds = .ok ys) (hlen : ys.length ≤ lim) : xLc vs mi g t e ε = .ok (.list ys) := by
  unfold xLc
  rw [hi, bind_ok, hm, bind_ok, if_pos hlen]
end Tw
set_option Elab.async false
set_option linter.all false
set_option maxRecDepth 100000
set_option maxHeartbeats 4000000
set_option exponentiation.threshold 1000000
/-! Pl2: a program's value step by step, by unification -/
namespace Tw
open PySem
theorem xV_0 {d : D} {r : Nv} : xV 0 (.im d :: r) = .ok d := rfl
theorem xV_n {i : Nat} {x : SV} {r : Nv} {d : D} (h : xV i r = .ok d) : xV (i + 1) (x :: r) = .ok d := h
theorem xC_o {d : D} {ε : Nv} : xC d ε = .ok d := rfl
theorem xBin_o {f : D → D → R D} {ma mb : Nv → R D} {ε : Nv} {a b d : D} (h1 : ma ε = .ok a) (h2 : mb ε = .ok b) (h3 : f a b = .ok d) : xBin f ma mb ε = .ok d := by
  unfold xBin
  rw [h1, bind_ok, h2, bind_ok, h3]
theorem xUn_o {f : D → R D} {ma : Nv → R D} {ε : Nv} {a d : D} (h1 : ma ε = .ok a) (h3 : f a = .ok d) : xUn f ma ε = .ok d := by
  unfold xUn
  rw [h1, bind_ok, h3]
theorem xCall_o {f : List D → R D} {ms : Nv → R (List D)} {ε : Nv} {ds : List D} {d : D} (h1 : ms ε = .ok ds) (h3 : f ds = .ok d) : xCall f ms ε = .ok d := by
  unfold xCall
  rw [h1, bind_ok, h3]
theorem xNil_o {ε : Nv} : xNil ε = .ok [] := rfl
theorem xCons_o {m : Nv → R D} {ms : Nv → R (List D)} {ε : Nv} {d : D} {ds : List D} (h1 : m ε = .ok d) (h2 : ms ε = .ok ds) : xCons m ms ε = .ok (d :: ds) := by
  unfold xCons
  rw [h1, bind_ok, h2, bind_ok]
theorem xTup_o {ms : Nv → R (List D)} {ε : Nv} {ds : List D} (h : ms ε = .ok ds) : xTup ms ε = .ok (.tuple ds) := by
  unfold xTup
  rw [h, bind_ok]
theorem xLst_o {ms : Nv → R (List D)} {ε : Nv} {ds : List D} (h : ms ε = .ok ds) : xLst ms ε = .ok (.list ds) := by
  unfold xLst
  rw [h, bind_ok]
theorem xIf_t {t : Nv → R Bool} {ma mb : Nv → R D} {ε : Nv} {d : D} (h : t ε = .ok true) (h1 : ma ε = .ok d) : xIf t ma mb ε = .ok d := by
  unfold xIf
  rw [h, bind_ok, if_pos rfl, h1]
theorem xIf_f {t : Nv → R Bool} {ma mb : Nv → R D} {ε : Nv} {d : D} (h : t ε = .ok false) (h1 : mb ε = .ok d) : xIf t ma mb ε = .ok d := by
  unfold xIf
  rw [h, bind_ok, if_neg Bool.false_ne_true, h1]
theorem tC_o {m : Nv → R D} {ε : Nv} {b : Bool} (h : m ε = .ok (.bool b)) : tC' m ε = .ok b := by
  unfold tC'
  rw [h, bind_ok]
  rfl
theorem tNo_o {m : Nv → R Bool} {ε : Nv} {b : Bool} (h : m ε = .ok b) : tNo m ε = .ok (!b) := by
  unfold tNo
  rw [h, bind_ok]
theorem tOrr_o {m n : Nv → R Bool} {ε : Nv} (h1 : m ε = .ok false) (h2 : n ε = .ok false) : tOrr m n ε = .ok false := by
  unfold tOrr
  rw [h1, bind_ok, if_neg Bool.false_ne_true, h2]
theorem tOrr_t {m n : Nv → R Bool} {ε : Nv} (h1 : m ε = .ok true) : tOrr m n ε = .ok true := by
  unfold tOrr
  rw [h1, bind_ok, if_pos rfl]
theorem tOrr_2 {m n : Nv → R Bool} {ε : Nv} {b : Bool} (h1 : m ε = .ok false) (h2 : n ε = .ok b) : tOrr m n ε = .ok b := by
  unfold tOrr
  rw [h1, bind_ok, if_neg Bool.false_ne_true, h2]
theorem tAn_f {m n : Nv → R Bool} {ε : Nv} (h1 : m ε = .ok false) : tAn m n ε = .ok false := by
  unfold tAn
  rw [h1, bind_ok, if_neg Bool.false_ne_true]
theorem tAn_2 {m n : Nv → R Bool} {ε : Nv} {b : Bool} (h1 : m ε = .ok true) (h2 : n ε = .ok b) : tAn m n ε = .ok b := by
  unfold tAn
  rw [h1, bind_ok, if_pos rfl, h2]
theorem xTh_o {m : Nv → R D} {ε : Nv} {d : D} (h : m (th ε) = .ok d) (hf : flat d = true) : xTh m ε = .ok d := by
  unfold xTh
  rw [h, bind_ok, if_pos hf]
theorem tTh_o {m : Nv → R Bool} {ε : Nv} {b : Bool} (h : m (th ε) = .ok b) : tTh m ε = .ok b := h
theorem tYe_o {ε : Nv} : tYe ε = .ok true := rfl
/-- two that are the same -/
theorem ne_o {ma mb : Nv → R D} {ε : Nv} {d : D} (h1 : ma ε = .ok d) (h2 : mb ε = .ok d) (hd : okd d = true) : tC' (xBin dNe ma mb) ε = .ok false := tC_o (xBin_o h1 h2 (dNe_same hd))
theorem iSeq_o {m : Nv → R D} {ε : Nv} {xs : List D} (h : m ε = .ok (.list xs)) : iSeq m ε = .ok xs := by
  unfold iSeq
  rw [h, bind_ok]
theorem xIm_o {i : Nat} {m : Nv → R D} {ε : Nv} {ds : List D} {z : Int} {d : D} (g : gt ε i = .mu (.list ds)) (h : m ε = .ok (.int z)) (hd : dIx (.list ds) (.int z) = .ok d) : xIm i m ε = .ok d := by
  unfold xIm
  rw [h, bind_ok, g]
  exact hd
theorem dCat_o {xs ys : List D} (h : xs.length + ys.length ≤ lim) : dCat (.list xs) (.list ys) = .ok (.list (xs ++ ys)) := by
  show (if xs.length + ys.length ≤ lim then R.ok (PyData.list (xs ++ ys)) else R.bad) = _
  rw [if_pos h]
theorem dAdd_t {xs ys : List D} (h : xs.length + ys.length ≤ lim) : dAdd (.tuple xs) (.tuple ys) = .ok (.tuple (xs ++ ys)) := by
  show (if xs.length + ys.length ≤ lim then R.ok (PyData.tuple (xs ++ ys)) else R.bad) = _
  rw [if_pos h]
theorem sPr_o {i j : Nat} {ms : Nv → R (List D)} {ε : Nv} {a b : D} (h : ms ε = .ok [a, b]) : sPr i j ms ε = .ok (.nx (st (st ε i (.im a)) j (.im b))) := by
  unfold sPr
  rw [h, bind_ok]
theorem sUn_o {me : Nv → R D} {g : D → Nv → R Nv} {ε ε' : Nv} {d : D} (h : me ε = .ok d) (h2 : g d ε = .ok ε') : sUn me g ε = .ok (.nx ε') := by
  unfold sUn
  rw [h, bind_ok, h2, bind_ok]
theorem bL_2 {i j : Nat} {a b : D} {ε : Nv} : bL 2 (bsC (bN i) (bsC (bN j) bs0)) (.list [a, b]) ε = .ok (st (st ε i (.im a)) j (.im b)) := rfl
theorem bT_2 {i j : Nat} {a b : D} {ε : Nv} : bT 2 (bsC (bN i) (bsC (bN j) bs0)) (.tuple [a, b]) ε = .ok (st (st ε i (.im a)) j (.im b)) := rfl
theorem cGcd_o {a b : Int} : cGcd [.int a, .int b] = .ok (.int ((Nat.gcd a.natAbs b.natAbs : Nat) : Int)) := rfl
theorem dIx_t0 {a : D} {r : List D} : dIx (.tuple (a :: r)) (.int 0) = .ok a := by
  refine dIx_tuple ?_
  exact L2.atI_nat (xs := a :: r) (j := 0) rfl
theorem dIx_t1 {a b : D} {r : List D} : dIx (.tuple (a :: b :: r)) (.int 1) = .ok b := by
  refine dIx_tuple ?_
  exact L2.atI_nat (xs := a :: b :: r) (j := 1) rfl
/-! ### how large integers are -/
def sz (k : Nat) (i : Int) : Prop := i.natAbs < 2 ^ k
theorem sz.mono {k m : Nat} {i : Int} (h : sz k i) (hk : k ≤ m) : sz m i := lt_pow h hk
theorem sz.mul {k m : Nat} {i j : Int} (h : sz k i) (g : sz m j) : sz (k + m) (i * j) := by
  unfold sz at *
  rw [Int.natAbs_mul, Nat.pow_add]
  exact Nat.mul_lt_mul'' h g
theorem sz.add {k : Nat} {i j : Int} (h : sz k i) (g : sz k j) : sz (k + 1) (i + j) := by
  unfold sz at *
  have := Int.natAbs_add_le i j
  rw [Nat.pow_succ]
  omega
theorem sz.neg {k : Nat} {i : Int} (h : sz k i) : sz k (-i) := by
  unfold sz at *
  rwa [Int.natAbs_neg]
theorem sz.sub {k : Nat} {i j : Int} (h : sz k i) (g : sz k j) : sz (k + 1) (i - j) := by
  rw [Int.sub_eq_add_neg]
  exact h.add g.neg
theorem dMul_z {k m : Nat} {i j : Int} (h : sz k i) (g : sz m j) (hk : k ≤ 400000) (hm : m ≤ 400000) : dMul (.int i) (.int j) = .ok (.int (i * j)) := dMul_ok (lt_pow h hk) (lt_pow g hm)
theorem dDiv_z {k : Nat} {i j : Int} (h0 : 0 < j) (g : sz k j) (hk : k ≤ 8999) : dDiv (.int i) (.int j) = .ok (.int (i / j)) := dDiv_ok h0 (lt_pow g hk)
end Tw
set_option Elab.async false
set_option linter.all false
set_option maxRecDepth 100000
set_option maxHeartbeats 4000000
set_option exponentiation.threshold 1000000
/-! PlFr: fractions as data -/
namespace Tw
open PySem
def fr (q : Rat) : D := .tuple [.int q.num, .int (q.den : Int)]
theorem dIx_f0 {q : Rat} : dIx (fr q) (.int 0) = .ok (.int q.num) := dIx_t0
theorem dIx_f1 {q : Rat} : dIx (fr q) (.int 1) = .ok (.int (q.den : Int)) := dIx_t1
theorem divInt_pos {n d : Int} (hd : 0 < d) : Rat.divInt n d = Rat.normalize n d.toNat (by omega) := by
  obtain ⟨k, rfl⟩ : ∃ k : Nat, d = (k : Int) := ⟨d.toNat, by omega⟩
  have : k ≠ 0 := by omega
  rw [Rat.normalize_eq_mkRat, Rat.divInt_ofNat]
  rfl
/-- the two numbers that the text makes are the fraction's own -/
theorem fr_low {n d : Int} (hd : 0 < d) : PyData.tuple [.int (n / ((Nat.gcd n.natAbs d.natAbs : Nat) : Int)), .int (d / ((Nat.gcd n.natAbs d.natAbs : Nat) : Int))] = fr (Rat.divInt n d) := by
  have hk : d.toNat ≠ 0 := by omega
  have e : (d.toNat : Int) = d := by omega
  have e2 : d.natAbs = d.toNat := by omega
  have h1 : (Rat.divInt n d).num = n / ((Nat.gcd n.natAbs d.natAbs : Nat) : Int) := by rw [divInt_pos hd, Rat.normalize_eq, e2]
  have h2 : (Rat.divInt n d).den = d.toNat / Nat.gcd n.natAbs d.natAbs := by rw [divInt_pos hd, Rat.normalize_eq, e2]
  unfold fr
  rw [h1, h2, Int.natCast_ediv, e]
theorem divInt_nn (n d : Int) : Rat.divInt (-n) (-d) = Rat.divInt n d := Rat.neg_divInt_neg n d
theorem fr_add (p q : Rat) : Rat.divInt (p.num * q.den + q.num * p.den) ((p.den : Int) * q.den) = p + q := by
  rw [← Rat.divInt_add_divInt _ _ (by have := p.den_nz; omega) (by have := q.den_nz; omega), Rat.num_divInt_den, Rat.num_divInt_den]
theorem fr_sub (p q : Rat) : Rat.divInt (p.num * q.den - q.num * p.den) ((p.den : Int) * q.den) = p - q := by
  rw [← Rat.divInt_sub_divInt _ _ (by have := p.den_nz; omega) (by have := q.den_nz; omega), Rat.num_divInt_den, Rat.num_divInt_den]
theorem fr_mul (p q : Rat) : Rat.divInt (p.num * q.num) ((p.den : Int) * q.den) = p * q := by
  rw [← Rat.divInt_mul_divInt, Rat.num_divInt_den, Rat.num_divInt_den]
theorem fr_div (p q : Rat) : Rat.divInt (p.num * q.den) ((p.den : Int) * q.num) = p / q := by
  rw [Rat.div_def, Rat.inv_def, ← Rat.divInt_mul_divInt, Rat.num_divInt_den]
theorem den_pos (q : Rat) : 0 < (q.den : Int) := by
  have := q.den_nz
  omega
/-! ### how large -/
structure Sm (k : Nat) (q : Rat) : Prop where
  n : sz k q.num
  d : sz k (q.den : Int)
theorem Sm.mono {k m : Nat} {q : Rat} (h : Sm k q) (hk : k ≤ m) : Sm m q := ⟨h.n.mono hk, h.d.mono hk⟩
/-- denominators that divide L, at most N -/
structure Bd (L N : Nat) (q : Rat) : Prop where
  ex : ∃ a : Int, q * (L : Rat) = (a : Rat)
  le : q ≤ (N : Rat)
  ge : -(N : Rat) ≤ q
theorem Bd.add {L N M : Nat} {p q : Rat} (h : Bd L N p) (g : Bd L M q) : Bd L (N + M) (p + q) := by
  obtain ⟨a, ha⟩ := h.ex
  obtain ⟨b, hb⟩ := g.ex
  have h1 := h.le
  have h2 := g.le
  have h3 := h.ge
  have h4 := g.ge
  refine ⟨⟨a + b, ?_⟩, ?_, ?_⟩
  · rw [Rat.intCast_add]
    grind
  · rw [Rat.natCast_add]
    grind
  · rw [Rat.natCast_add]
    grind
theorem Bd.neg {L N : Nat} {p : Rat} (h : Bd L N p) : Bd L N (-p) := by
  obtain ⟨a, ha⟩ := h.ex
  have h1 := h.le
  have h3 := h.ge
  refine ⟨⟨-a, ?_⟩, ?_, ?_⟩
  · rw [Rat.intCast_neg]
    grind
  · grind
  · grind
theorem Bd.sub {L N M : Nat} {p q : Rat} (h : Bd L N p) (g : Bd L M q) : Bd L (N + M) (p - q) := by
  have := h.add g.neg
  rwa [← Rat.sub_eq_add_neg] at this
theorem Bd.mono {L N M : Nat} {p : Rat} (h : Bd L N p) (hm : N ≤ M) : Bd L M p := by
  have h1 := h.le
  have h3 := h.ge
  have e : (N : Rat) ≤ (M : Rat) := Rat.natCast_le_natCast.mpr hm
  exact ⟨h.ex, by grind, by grind⟩
theorem Bd.mul {L L' N M : Nat} {p q : Rat} (h : Bd L N p) (g : Bd L' M q) : Bd (L * L') (N * M) (p * q) := by
  obtain ⟨a, ha⟩ := h.ex
  obtain ⟨b, hb⟩ := g.ex
  have h1 := h.le
  have h2 := g.le
  have h3 := h.ge
  have h4 := g.ge
  refine ⟨⟨a * b, ?_⟩, ?_, ?_⟩
  · rw [Rat.intCast_mul, Rat.natCast_mul, ← ha, ← hb]
    grind
  · rw [Rat.natCast_mul]
    have x1 : 0 ≤ ((N : Rat) - p) * ((M : Rat) + q) := Rat.mul_nonneg (by grind) (by grind)
    have x2 : 0 ≤ ((N : Rat) + p) * ((M : Rat) - q) := Rat.mul_nonneg (by grind) (by grind)
    grind
  · rw [Rat.natCast_mul]
    have x1 : 0 ≤ ((N : Rat) - p) * ((M : Rat) - q) := Rat.mul_nonneg (by grind) (by grind)
    have x2 : 0 ≤ ((N : Rat) + p) * ((M : Rat) + q) := Rat.mul_nonneg (by grind) (by grind)
    grind
theorem num_den (q : Rat) : (q.num : Rat) = q * ((q.den : Int) : Rat) := by
  have h : (q.num : Rat) / ((q.den : Int) : Rat) = q := by
    rw [← Rat.divInt_eq_div, Rat.num_divInt_den]
  have h2 : ((q.den : Int) : Rat) ≠ 0 := fun z => by
    have := Rat.intCast_inj.mp (z.trans Rat.intCast_zero.symm)
    have := q.den_nz
    omega
  grind
theorem Bd.den {L N : Nat} {q : Rat} (h : Bd L N q) : q.den ∣ L := by
  obtain ⟨a, ha⟩ := h.ex
  have e : q.num * (L : Int) = a * (q.den : Int) := by
    apply Rat.intCast_inj.mp
    rw [Rat.intCast_mul, Rat.intCast_mul, num_den, ← ha, Rat.intCast_natCast L]
    grind
  have d1 : (q.den : Int) ∣ q.num * (L : Int) := ⟨a, by rw [e, Int.mul_comm]⟩
  have d2 : q.den ∣ q.num.natAbs * L := by
    have := Int.natAbs_dvd_natAbs.mpr d1
    rwa [Int.natAbs_mul, Int.natAbs_natCast, Int.natAbs_natCast] at this
  exact (Nat.Coprime.symm q.reduced).dvd_of_dvd_mul_left d2
theorem Bd.num {L N : Nat} {q : Rat} (h : Bd L N q) : q.num.natAbs ≤ N * q.den := by
  have h1 := h.le
  have h2 := h.ge
  have e := num_den q
  have p : (0 : Rat) ≤ ((q.den : Int) : Rat) := by
    have := Rat.intCast_le_intCast.mpr (show (0 : Int) ≤ (q.den : Int) by omega)
    rwa [Rat.intCast_zero] at this
  have a1 : 0 ≤ ((N : Rat) - q) * ((q.den : Int) : Rat) := Rat.mul_nonneg (by grind) p
  have a2 : 0 ≤ ((N : Rat) + q) * ((q.den : Int) : Rat) := Rat.mul_nonneg (by grind) p
  have eN : ((N : Int) : Rat) = (N : Rat) := Rat.intCast_natCast N
  have b1 : (q.num : Rat) ≤ (((N : Int) * (q.den : Int) : Int) : Rat) := by
    rw [Rat.intCast_mul, eN, e]
    grind
  have b2 : ((-((N : Int) * (q.den : Int)) : Int) : Rat) ≤ (q.num : Rat) := by
    rw [Rat.intCast_neg, Rat.intCast_mul, eN, e]
    grind
  have c1 := Rat.intCast_le_intCast.mp b1
  have c2 := Rat.intCast_le_intCast.mp b2
  have e3 : ((N * q.den : Nat) : Int) = (N : Int) * (q.den : Int) := Int.natCast_mul _ _
  omega
theorem Bd.sm {L N k : Nat} {q : Rat} (h : Bd L N q) (hL : 0 < L) (h1 : L < 2 ^ k) (h2 : N * L < 2 ^ k) : Sm k q := by
  have hd := Nat.le_of_dvd hL h.den
  have hn := h.num
  have := Nat.mul_le_mul_left N hd
  refine ⟨?_, ?_⟩
  · unfold sz
    omega
  · unfold sz
    rw [Int.natAbs_natCast]
    omega
theorem Bd.int (L : Nat) {N : Nat} {i : Int} (h : i.natAbs ≤ N) : Bd L N (i : Rat) := by
  have h1 := Rat.intCast_le_intCast.mpr (show i ≤ (N : Int) by omega)
  have h2 := Rat.intCast_le_intCast.mpr (show -(N : Int) ≤ i by omega)
  rw [Rat.intCast_natCast] at h1
  rw [Rat.intCast_neg, Rat.intCast_natCast] at h2
  exact ⟨⟨i * L, by rw [Rat.intCast_mul, Rat.intCast_natCast]⟩, h1, h2⟩
theorem fr_int (i : Int) : fr (i : Rat) = .tuple [.int i, .int 1] := rfl
/-! ### Euclid -/
/-- two numbers that are divided in turn -/
theorem low_wh (fuel : Nat) (x y : SV) (a b : Nat) (hf : (a * b + 1).log2 + 1 < fuel) : whG (tC' (xBin dNe (xV 3) (xC (.int 0)))) (sUn (xLst (xCons (xV 3) (xCons (xBin dMod (xCall cInt (xCons (xV 2) xNil)) (xV 3)) xNil))) (bL 2 (bsC (bN 2) (bsC (bN 3) bs0)))) fuel
    [x, y, .im (.int (a : Int)), .im (.int (b : Int))] = .ok (.nx [x, y, .im (.int ((Nat.gcd a b : Nat) : Int)), .im (.int 0)]) := by
  obtain ⟨ε', h1, h2⟩ := whG_inv (t := tC' (xBin dNe (xV 3) (xC (.int 0)))) (b := sUn (xLst (xCons (xV 3) (xCons (xBin dMod (xCall cInt (xCons (xV 2) xNil)) (xV 3)) xNil))) (bL 2 (bsC (bN 2) (bsC (bN 3) bs0))))
    (fun n ε => ∃ c d : Nat, ε = [x, y, .im (.int (c : Int)), .im (.int (d : Int))] ∧ Nat.gcd c d = Nat.gcd a b ∧ n = (c * d + 1).log2 + (if c < d then 1 else 0))
    (fun ε => ε = [x, y, .im (.int ((Nat.gcd a b : Nat) : Int)), .im (.int 0)]) _ _ ⟨a, b, rfl, rfl, rfl⟩ (by
      rintro n ε ⟨c, d, rfl, hg, rfl⟩
      by_cases hd : d = 0
      · subst hd
        left
        refine ⟨tC_o (xBin_o (xV_n (xV_n (xV_n xV_0))) xC_o (dNe_int _ _)), ?_⟩
        rw [← hg, Nat.gcd_zero_right]
        rfl
      · right
        refine ⟨?_, [x, y, .im (.int (d : Int)), .im (.int ((c % d : Nat) : Int))], (d * (c % d) + 1).log2 + (if d < c % d then 1 else 0), ?_, .inl ?_, d, c % d, rfl, ?_, rfl⟩
        · refine (tC_o (xBin_o (xV_n (xV_n (xV_n xV_0))) xC_o (dNe_int _ _))).trans ?_
          rw [decide_eq_false (by omega)]
          rfl
        · have hlt : c % d < d := Nat.mod_lt _ (Nat.pos_of_ne_zero hd)
          rw [if_neg (by omega)]
          by_cases hcd : c < d
          · rw [if_pos hcd, Nat.mod_eq_of_lt hcd, Nat.mul_comm d c]
            omega
          · rw [if_neg hcd]
            have h2 : 2 * (c % d) < c := by
              have := Nat.mod_le c d
              have e := Nat.div_add_mod c d
              have q : 1 ≤ c / d := Nat.div_pos (by omega) (Nat.pos_of_ne_zero hd)
              have := Nat.mul_le_mul_left d q
              omega
            have h3 : 2 * (d * (c % d)) + 1 ≤ c * d := by
              have := Nat.mul_lt_mul_of_pos_right h2 (Nat.pos_of_ne_zero hd)
              rw [Nat.mul_comm d (c % d), ← Nat.mul_assoc]
              omega
            have h4 : (d * (c % d) + 1).log2 + 1 ≤ (c * d + 1).log2 := by
              refine (Nat.le_log2 (by omega)).mpr ?_
              have := Nat.log2_self_le (n := d * (c % d) + 1) (by omega)
              rw [Nat.pow_succ]
              omega
            omega
        · refine sUn_o (xLst_o (xCons_o (xV_n (xV_n (xV_n xV_0))) (xCons_o (xBin_o (xCall_o (xCons_o (xV_n (xV_n xV_0)) xNil_o) cInt_i) (xV_n (xV_n (xV_n xV_0))) (dMod_ok (by omega))) xNil_o))) ?_
          rw [← Int.natCast_emod]
          rfl
        · rw [← hg, Nat.gcd_comm d, ← Nat.gcd_rec, Nat.gcd_comm]) fuel (by split <;> omega)
  rw [h1, h2]
end Tw
set_option Elab.async false
set_option linter.all false
set_option maxRecDepth 100000
set_option maxHeartbeats 4000000
/-! the programs over data of each def -/
namespace My
open PySem PySem.Spec PyProof.Rows L2 Tw
def fuel : Nat := 100000
/-- is_word (factors, word): 0 factors 1 word 2 one 3 two -/
def m_is_word : Nv → R Fl :=
  (sRt (xAn (xCall cAll (xCons (xLc [2] (iSeq (xV 1)) (bN 2) tYe (xCh dLe dLt (xC (.int 0)) (xV 2) (xV 0))) xNil)) (xCall cAll (xCons (xLc [2, 3] (iZi (xCons (xV 1) (xCons (xSl (xV 1) (oSome (xC (.int 1))) oNone) xNil))) (bT 2 (bsC (bN 2) (bsC (bN 3) bs0))) tYe (xBin dLt (xV 2) (xV 3))) xNil))))
def f_is_word : List D → R D := runF 2 4 m_is_word
/-- is_even (word, run): 0 word 1 run 2 factor -/
def m_is_even : Nv → R Fl :=
  (sRt (xBin dEq (xBin dMod (xCall cSum (xCons (xLc [2] (iSeq (xV 0)) (bN 2) tYe (xBin dIx (xV 1) (xV 2))) xNil)) (xC (.int 2))) (xC (.int 0))))
def f_is_even : List D → R D := runF 2 3 m_is_even
/-- sign (word, run): 0 word 1 run -/
def m_sign : Nv → R Fl :=
  (sRt (xIf (tV (xCall f_is_even (xCons (xV 0) (xCons (xV 1) xNil)))) (xC (.int 1)) (xUn dNeg (xC (.int 1)))))
def f_sign : List D → R D := runF 2 2 m_sign
/-- all_rows (factors): 0 factors 1 found 2 _ 3 told 4 level -/
def m_all_rows : Nv → R Fl :=
  (sSeq (sAs 1 (xLst (xCons (xTup xNil) xNil)))
  (sSeq (sFor (iRange1 (xCons (xV 0) xNil)) (bN 2)
  (sAs 1 (xLc2 [3, 4] [4] (iSeq (xV 1)) (bN 3) tYe (iSeq (xTup (xCons (xC (.int 0)) (xCons (xC (.int 1)) xNil)))) (bN 4) tYe (xTupS (xStar (xV 3) (xCons (xV 4) xNil))))))
  (sRt (xV 1))))
def f_all_rows : List D → R D := runF 1 5 m_all_rows
/-- is_fraction (told): 0 told -/
def m_is_fraction : Nv → R Fl :=
  (sRt (xAn (xBin dGt (xBin dIx (xV 0) (xC (.int 1))) (xC (.int 0))) (xBin dEq (xCall cGcd (xCons (xBin dIx (xV 0) (xC (.int 0))) (xCons (xBin dIx (xV 0) (xC (.int 1))) xNil))) (xC (.int 1)))))
def f_is_fraction : List D → R D := runF 1 1 m_is_fraction
/-- fraction (number, by): 0 number 1 by 2 common -/
def m_fraction : Nv → R Fl :=
  (sSeq (sIf (tC' (xBin dLt (xV 1) (xC (.int 0))))
  (sPr 0 1 (xCons (xUn dNeg (xV 0)) (xCons (xUn dNeg (xV 1)) xNil)))
  sNil)
  (sSeq (sAs 2 (xCall cGcd (xCons (xV 0) (xCons (xV 1) xNil))))
  (sRt (xTup (xCons (xBin dDiv (xV 0) (xV 2)) (xCons (xBin dDiv (xV 1) (xV 2)) xNil))))))
def f_fraction : List D → R D := runF 2 3 m_fraction
/-- plus (one, two): 0 one 1 two -/
def m_plus : Nv → R Fl :=
  (sRt (xCall f_fraction (xCons (xBin dAdd (xBin dMul (xBin dIx (xV 0) (xC (.int 0))) (xBin dIx (xV 1) (xC (.int 1)))) (xBin dMul (xBin dIx (xV 1) (xC (.int 0))) (xBin dIx (xV 0) (xC (.int 1))))) (xCons (xBin dMul (xBin dIx (xV 0) (xC (.int 1))) (xBin dIx (xV 1) (xC (.int 1)))) xNil))))
def f_plus : List D → R D := runF 2 2 m_plus
/-- minus (one, two): 0 one 1 two -/
def m_minus : Nv → R Fl :=
  (sRt (xCall f_fraction (xCons (xBin dSub (xBin dMul (xBin dIx (xV 0) (xC (.int 0))) (xBin dIx (xV 1) (xC (.int 1)))) (xBin dMul (xBin dIx (xV 1) (xC (.int 0))) (xBin dIx (xV 0) (xC (.int 1))))) (xCons (xBin dMul (xBin dIx (xV 0) (xC (.int 1))) (xBin dIx (xV 1) (xC (.int 1)))) xNil))))
def f_minus : List D → R D := runF 2 2 m_minus
/-- times (one, two): 0 one 1 two -/
def m_times : Nv → R Fl :=
  (sRt (xCall f_fraction (xCons (xBin dMul (xBin dIx (xV 0) (xC (.int 0))) (xBin dIx (xV 1) (xC (.int 0)))) (xCons (xBin dMul (xBin dIx (xV 0) (xC (.int 1))) (xBin dIx (xV 1) (xC (.int 1)))) xNil))))
def f_times : List D → R D := runF 2 2 m_times
/-- over (one, two): 0 one 1 two -/
def m_over : Nv → R Fl :=
  (sRt (xCall f_fraction (xCons (xBin dMul (xBin dIx (xV 0) (xC (.int 0))) (xBin dIx (xV 1) (xC (.int 1)))) (xCons (xBin dMul (xBin dIx (xV 0) (xC (.int 1))) (xBin dIx (xV 1) (xC (.int 0)))) xNil))))
def f_over : List D → R D := runF 2 2 m_over
/-- check_factors (factors): 0 factors -/
def m_check_factors : Nv → R Fl :=
  (sIf (tNo (tC' (xCh dLe dLe (xC (.int 1)) (xV 0) (xC (.int 5)))))
  sNo
  sNil)
def f_check_factors : List D → R D := runF 1 1 m_check_factors
/-- check_fractions (told, many): 0 told 1 many 2 k 3 one -/
def m_check_fractions : Nv → R Fl :=
  (sSeq (sIf (tC' (xBin dNe (xCall cLen (xCons (xV 0) xNil)) (xV 1)))
  sNo
  sNil)
  (sFor (iEnu (xCons (xV 0) xNil)) (bT 2 (bsC (bN 2) (bsC (bN 3) bs0)))
  (sIf (tNo (tV (xCall f_is_fraction (xCons (xV 3) xNil))))
    sNo
    sNil)))
def f_check_fractions : List D → R D := runF 2 4 m_check_fractions
/-- check_results (factors, results): 0 factors 1 results -/
def m_check_results : Nv → R Fl :=
  (sSeq (sDr (xCall f_check_factors (xCons (xV 0) xNil)))
  (sDr (xCall f_check_fractions (xCons (xV 1) (xCons (xCall cLen (xCons (xCall f_all_rows (xCons (xV 0) xNil)) xNil)) xNil)))))
def f_check_results : List D → R D := runF 2 2 m_check_results
/-- contrast (factors, results, word): 0 factors 1 results 2 word 3 found 4 run 5 result -/
def m_contrast : Nv → R Fl :=
  (sSeq (sDr (xCall f_check_results (xCons (xV 0) (xCons (xV 1) xNil))))
  (sSeq (sIf (tNo (tV (xCall f_is_word (xCons (xV 0) (xCons (xV 2) xNil)))))
  sNo
  sNil)
  (sSeq (sAs 3 (xTup (xCons (xC (.int 0)) (xCons (xC (.int 1)) xNil))))
  (sSeq (sFor (iZi (xCons (xCall f_all_rows (xCons (xV 0) xNil)) (xCons (xV 1) xNil))) (bT 2 (bsC (bN 4) (bsC (bN 5) bs0)))
  (sAs 3 (xCall f_plus (xCons (xV 3) (xCons (xCall f_times (xCons (xTup (xCons (xCall f_sign (xCons (xV 2) (xCons (xV 4) xNil))) (xCons (xC (.int 1)) xNil))) (xCons (xV 5) xNil))) xNil)))))
  (sRt (xV 3))))))
def f_contrast : List D → R D := runF 3 6 m_contrast
/-- yates (factors, told): 0 factors 1 told 2 found 3 step 4 _ 5 k 6 one 7 two -/
def m_yates : Nv → R Fl :=
  (sSeq (sAsM 2 (xCall kList (xCons (xV 1) xNil)))
  (sSeq (sAs 3 (xC (.int 1)))
  (sSeq (sFor (iRange1 (xCons (xV 0) xNil)) (bN 4)
  (sSeq (sFor (iRange1 (xCons (xTh (xCall cLen (xCons (xV 2) xNil))) xNil)) (bN 5)
    (sIf (tC' (xBin dEq (xBin dMod (xBin dDiv (xV 5) (xV 3)) (xC (.int 2))) (xC (.int 0))))
      (sSeq (sPr 6 7 (xCons (xIm 2 (xV 5)) (xCons (xIm 2 (xBin dAdd (xV 5) (xV 3))) xNil)))
        (sSt2 2 (xV 5) 2 (xBin dAdd (xV 5) (xV 3)) (xTup (xCons (xCall f_plus (xCons (xV 6) (xCons (xV 7) xNil))) (xCons (xCall f_minus (xCons (xV 6) (xCons (xV 7) xNil))) xNil)))))
      sNil))
    (sAs 3 (xBin dMul (xC (.int 2)) (xV 3)))))
  (sRtM 2))))
def f_yates : List D → R D := runF 2 8 m_yates
/-- all_contrasts (factors, results): 0 factors 1 results -/
def m_all_contrasts : Nv → R Fl :=
  (sSeq (sDr (xCall f_check_results (xCons (xV 0) (xCons (xV 1) xNil))))
  (sRt (xCall f_yates (xCons (xV 0) (xCons (xV 1) xNil)))))
def f_all_contrasts : List D → R D := runF 2 2 m_all_contrasts
/-- results_of (factors, told): 0 factors 1 told 2 one -/
def m_results_of : Nv → R Fl :=
  (sSeq (sDr (xCall f_check_results (xCons (xV 0) (xCons (xV 1) xNil))))
  (sRt (xLc [2] (iSeq (xCall f_yates (xCons (xV 0) (xCons (xV 1) xNil)))) (bN 2) tYe (xCall f_over (xCons (xV 2) (xCons (xTup (xCons (xCall cLen (xCons (xV 1) xNil)) (xCons (xC (.int 1)) xNil))) xNil))))))
def f_results_of : List D → R D := runF 2 3 m_results_of
/-- _law_draws (script): 0 script 1 draws 2 k 3 rest 4 turn 5 mixed -/
def m__law_draws : Nv → R Fl :=
  (sSeq (sAsM 1 (xLst xNil))
  (sSeq (sFor (iRange1 (xCons (xCall kMin (xCons (xC (.int 63)) (xCons (xCall cLen (xCons (xV 0) xNil)) xNil))) xNil)) (bN 2)
  (sSeq (sAs 3 (xCall cAbs (xCons (xBin dIx (xV 0) (xV 2)) xNil)))
    (sIf (tC' (xBin dGe (xV 3) (xBin dPow (xC (.int 10)) (xC (.int 18)))))
    (sFor (iRange1 (xCons (xC (.int 60)) xNil)) (bN 4)
      (sIf (tC' (xBin dGt (xV 3) (xC (.int 0))))
        (sSeq (sAp 1 (xBin dMod (xCall cInt (xCons (xV 3) xNil)) (xC (.int 65536))))
          (sAs 3 (xBin dDiv (xV 3) (xC (.int 65536)))))
        sNil))
    (sSeq (sAs 5 (xBin dMod (xCall cInt (xCons (xBin dAdd (xBin dMul (xV 3) (xC (.int 48271))) (xBin dMul (xBin dAdd (xV 2) (xC (.int 1))) (xC (.int 69621)))) xNil)) (xC (.int 2147483647))))
      (sSeq (sAs 5 (xBin dMod (xCall cInt (xCons (xBin dAdd (xBin dAdd (xBin dMul (xV 5) (xC (.int 16807))) (xBin dMul (xC (.int 11)) (xV 2))) (xC (.int 5))) xNil)) (xC (.int 2147483629))))
      (sSeq (sAp 1 (xBin dMod (xCall cInt (xCons (xV 5) xNil)) (xC (.int 65536))))
      (sAp 1 (xBin dMod (xCall cInt (xCons (xBin dDiv (xV 5) (xC (.int 65536))) xNil)) (xC (.int 32768))))))))))
  (sRtM 1)))
def f__law_draws : List D → R D := runF 1 6 m__law_draws
/-- _law_mix (draws, k, many): 0 draws 1 k 2 many 3 value -/
def m__law_mix : Nv → R Fl :=
  (sSeq (sAs 3 (xC (.int 0)))
  (sSeq (sIf (tC' (xBin dGt (xCall cLen (xCons (xV 0) xNil)) (xC (.int 0))))
  (sAs 3 (xBin dIx (xV 0) (xBin dMod (xCall cInt (xCons (xV 1) xNil)) (xCall cLen (xCons (xV 0) xNil)))))
  sNil)
  (sSeq (sIf (tC' (xBin dLt (xV 1) (xCall cLen (xCons (xV 0) xNil))))
  (sRt (xBin dMod (xCall cInt (xCons (xV 3) xNil)) (xV 2)))
  sNil)
  (sRt (xBin dMod (xCall cInt (xCons (xBin dDiv (xCall cInt (xCons (xBin dAdd (xBin dMul (xV 3) (xC (.int 7919))) (xBin dMul (xV 1) (xC (.int 104729)))) xNil)) (xC (.int 3))) xNil)) (xV 2))))))
def f__law_mix : List D → R D := runF 3 4 m__law_mix
/-- _law_low (number, by): 0 number 1 by 2 one 3 two -/
def m__law_low : Nv → R Fl :=
  (sSeq (sPr 2 3 (xCons (xCall cAbs (xCons (xV 0) xNil)) (xCons (xV 1) xNil)))
  (sSeq (sWh fuel (tC' (xBin dNe (xV 3) (xC (.int 0))))
  (sUn (xLst (xCons (xV 3) (xCons (xBin dMod (xCall cInt (xCons (xV 2) xNil)) (xV 3)) xNil))) (bL 2 (bsC (bN 2) (bsC (bN 3) bs0)))))
  (sRt (xTup (xCons (xBin dDiv (xV 0) (xV 2)) (xCons (xBin dDiv (xV 1) (xV 2)) xNil))))))
def f__law_low : List D → R D := runF 2 4 m__law_low
/-- _law_plus (one, two): 0 one 1 two -/
def m__law_plus : Nv → R Fl :=
  (sRt (xCall f__law_low (xCons (xBin dAdd (xBin dMul (xBin dIx (xV 0) (xC (.int 0))) (xBin dIx (xV 1) (xC (.int 1)))) (xBin dMul (xBin dIx (xV 1) (xC (.int 0))) (xBin dIx (xV 0) (xC (.int 1))))) (xCons (xBin dMul (xBin dIx (xV 0) (xC (.int 1))) (xBin dIx (xV 1) (xC (.int 1)))) xNil))))
def f__law_plus : List D → R D := runF 2 2 m__law_plus
/-- _law_times (one, two): 0 one 1 two -/
def m__law_times : Nv → R Fl :=
  (sRt (xCall f__law_low (xCons (xBin dMul (xBin dIx (xV 0) (xC (.int 0))) (xBin dIx (xV 1) (xC (.int 0)))) (xCons (xBin dMul (xBin dIx (xV 0) (xC (.int 1))) (xBin dIx (xV 1) (xC (.int 1)))) xNil))))
def f__law_times : List D → R D := runF 2 2 m__law_times
/-- _law_total (told): 0 told 1 found 2 one -/
def m__law_total : Nv → R Fl :=
  (sSeq (sAs 1 (xTup (xCons (xC (.int 0)) (xCons (xC (.int 1)) xNil))))
  (sSeq (sFor (iSeq (xV 0)) (bN 2)
  (sAs 1 (xCall f__law_plus (xCons (xV 1) (xCons (xV 2) xNil)))))
  (sRt (xV 1))))
def f__law_total : List D → R D := runF 1 3 m__law_total
/-- _law_rows (factors): 0 factors 1 found 2 v 3 longer 4 told -/
def m__law_rows : Nv → R Fl :=
  (sSeq (sAs 1 (xLst (xCons (xTup xNil) xNil)))
  (sSeq (sFor (iRange1 (xCons (xV 0) xNil)) (bN 2)
  (sSeq (sAs 3 (xLst xNil))
    (sSeq (sFor (iSeq (xV 1)) (bN 4)
    (sAs 3 (xBin dCat (xV 3) (xLst (xCons (xBin dAdd (xV 4) (xTup (xCons (xC (.int 0)) xNil))) (xCons (xBin dAdd (xV 4) (xTup (xCons (xC (.int 1)) xNil))) xNil))))))
    (sAs 1 (xV 3)))))
  (sRt (xV 1))))
def f__law_rows : List D → R D := runF 1 5 m__law_rows
/-- _law_sign (word, run): 0 word 1 run 2 v -/
def m__law_sign : Nv → R Fl :=
  (sRt (xBin dSub (xC (.int 1)) (xBin dMul (xC (.int 2)) (xBin dMod (xCall cInt (xCons (xCall cSum (xCons (xLc [2] (iSeq (xV 0)) (bN 2) tYe (xBin dIx (xV 1) (xV 2))) xNil)) xNil)) (xC (.int 2))))))
def f__law_sign : List D → R D := runF 2 3 m__law_sign
/-- _law_numbers (draws, k, many): 0 draws 1 k 2 many 3 t -/
def m__law_numbers : Nv → R Fl :=
  (sRt (xLc [3] (iRange1 (xCons (xV 2) xNil)) (bN 3) tYe (xCall f__law_low (xCons (xBin dSub (xCall f__law_mix (xCons (xV 0) (xCons (xBin dAdd (xV 1) (xBin dMul (xC (.int 2)) (xV 3))) (xCons (xC (.int 13)) xNil)))) (xC (.int 6))) (xCons (xBin dAdd (xC (.int 1)) (xCall f__law_mix (xCons (xV 0) (xCons (xBin dAdd (xBin dAdd (xV 1) (xBin dMul (xC (.int 2)) (xV 3))) (xC (.int 1))) (xCons (xC (.int 3)) xNil))))) xNil)))))
def f__law_numbers : List D → R D := runF 3 4 m__law_numbers
/-- _law_sum (one, two): 0 one 1 two 2 t -/
def m__law_sum : Nv → R Fl :=
  (sRt (xCall f__law_total (xCons (xLc [2] (iRange1 (xCons (xCall cLen (xCons (xV 0) xNil)) xNil)) (bN 2) tYe (xCall f__law_times (xCons (xBin dIx (xV 0) (xV 2)) (xCons (xBin dIx (xV 1) (xV 2)) xNil)))) xNil)))
def f__law_sum : List D → R D := runF 2 3 m__law_sum
/-- law (script): 0 script 1 draws 2 turn 3 factors 4 runs 5 one 6 two 7 kept 8 due 9 run 10 told 11 by 12 both 13 other 14 word 15 t 16 v -/
def m_law : Nv → R Fl :=
  (sSeq (sAs 1 (xCall f__law_draws (xCons (xV 0) xNil)))
  (sSeq (sFor (iRange1 (xCons (xC (.int 2)) xNil)) (bN 2)
  (sSeq (sAs 3 (xBin dAdd (xC (.int 1)) (xCall f__law_mix (xCons (xV 1) (xCons (xV 2) (xCons (xC (.int 5)) xNil))))))
    (sSeq (sAs 4 (xCall f__law_rows (xCons (xV 3) xNil)))
    (sSeq (sAs 5 (xCall f__law_numbers (xCons (xV 1) (xCons (xBin dAdd (xC (.int 10)) (xBin dMul (xC (.int 140)) (xV 2))) (xCons (xCall cLen (xCons (xV 4) xNil)) xNil)))))
    (sSeq (sAs 6 (xCall f__law_numbers (xCons (xV 1) (xCons (xBin dAdd (xC (.int 80)) (xBin dMul (xC (.int 140)) (xV 2))) (xCons (xCall cLen (xCons (xV 4) xNil)) xNil)))))
    (sSeq (sAs 7 (xCall cRepr (xCons (xTup (xCons (xV 5) (xCons (xV 6) xNil))) xNil)))
    (sSeq (sAsM 8 (xLst xNil))
    (sSeq (sFor (iSeq (xV 4)) (bN 9)
    (sSeq (sAs 14 (xLc [16] (iRange1 (xCons (xV 3) xNil)) (bN 16) (tC' (xBin dEq (xBin dIx (xV 9) (xV 16)) (xC (.int 1)))) (xV 16)))
      (sSeq (sAp 8 (xCall f__law_sum (xCons (xLc [13] (iSeq (xV 4)) (bN 13) tYe (xTup (xCons (xCall f__law_sign (xCons (xV 14) (xCons (xV 13) xNil))) (xCons (xC (.int 1)) xNil)))) (xCons (xV 5) xNil))))
      (sIf (tAn (tTh (tC' (xBin dEq (xCall f__law_mix (xCons (xV 1) (xCons (xBin dAdd (xC (.int 300)) (xCall cLen (xCons (xV 8) xNil))) (xCons (xC (.int 4)) xNil)))) (xC (.int 0))))) (tC' (xBin dNe (xCall cRepr (xCons (xCall f_contrast (xCons (xV 3) (xCons (xV 5) (xCons (xV 14) xNil)))) xNil)) (xCall cRepr (xCons (xIm 8 (xUn dNeg (xC (.int 1)))) xNil)))))
      (sRt (xC (.bool false)))
      sNil))))
    (sSeq (sFz 8) (sSeq (sAsM 10 (xCall f_all_contrasts (xCons (xV 3) (xCons (xV 5) xNil))))
    (sSeq (sIf (tOrr (tTh (tC' (xBin dNe (xCall cRepr (xCons (xV 10) xNil)) (xCall cRepr (xCons (xV 8) xNil))))) (tTh (tC' (xBin dNe (xCall cRepr (xCons (xCall f_results_of (xCons (xV 3) (xCons (xV 10) xNil))) xNil)) (xCall cRepr (xCons (xV 5) xNil))))))
    (sRt (xC (.bool false)))
    sNil)
    (sSeq (sIf (tTh (tC' (xBin dNe (xCall f__law_sum (xCons (xV 10) (xCons (xV 10) xNil))) (xCall f__law_times (xCons (xTup (xCons (xCall cLen (xCons (xV 4) xNil)) (xCons (xC (.int 1)) xNil))) (xCons (xCall f__law_sum (xCons (xV 5) (xCons (xV 5) xNil))) xNil))))))
    (sRt (xC (.bool false)))
    sNil)
    (sSeq (sAs 11 (xCall f__law_low (xCons (xBin dSub (xCall f__law_mix (xCons (xV 1) (xCons (xBin dAdd (xC (.int 340)) (xV 2)) (xCons (xC (.int 9)) xNil)))) (xC (.int 4))) (xCons (xC (.int 3)) xNil))))
    (sSeq (sAs 12 (xLc [15] (iRange1 (xCons (xCall cLen (xCons (xV 4) xNil)) xNil)) (bN 15) tYe (xCall f__law_plus (xCons (xBin dIx (xV 5) (xV 15)) (xCons (xCall f__law_times (xCons (xV 11) (xCons (xBin dIx (xV 6) (xV 15)) xNil))) xNil)))))
    (sSeq (sAs 13 (xCall f_all_contrasts (xCons (xV 3) (xCons (xV 6) xNil))))
    (sSeq (sIf (tC' (xBin dNe (xCall f_all_contrasts (xCons (xV 3) (xCons (xV 12) xNil))) (xLc [15] (iRange1 (xCons (xCall cLen (xCons (xV 4) xNil)) xNil)) (bN 15) tYe (xCall f__law_plus (xCons (xIm 10 (xV 15)) (xCons (xCall f__law_times (xCons (xV 11) (xCons (xBin dIx (xV 13) (xV 15)) xNil))) xNil))))))
    (sRt (xC (.bool false)))
    sNil)
    (sSeq (sAp 10 (xTup (xCons (xC (.int 0)) (xCons (xC (.int 1)) xNil))))
    (sIf (tOrr (tC' (xBin dNe (xCall cRepr (xCons (xCall f_all_contrasts (xCons (xV 3) (xCons (xV 5) xNil))) xNil)) (xCall cRepr (xCons (xV 8) xNil)))) (tC' (xBin dNe (xCall cRepr (xCons (xTup (xCons (xV 5) (xCons (xV 6) xNil))) xNil)) (xV 7))))
    (sRt (xC (.bool false)))
    sNil))))))))))))))))))
  (sRt (xC (.bool true)))))
def f_law : List D → R D := runF 1 17 m_law
end My
set_option Elab.async false
set_option linter.all false
set_option maxRecDepth 100000
set_option maxHeartbeats 4000000
/-! PlDraws: the draws and their mixing, the same in every law -/
namespace My
open PySem Tw
local macro_rules | `(tactic| walk_at "ev") => `(tactic| simp only [xCall, xCons, xNil, xBin, xUn, xV, xC, xTup, xLst, xIm, gt, st, bind_ok, R.bind, bN, bT, bsC, bs0, tC', tV, tNo, tAn, tOrr, boD, truD, iSeq, dAdd_i, dSub_i, dNeg_i, dLt_i, dLe_i, dGt_i, dGe_i, dEq_int, dNe_int, cLen_l, cLen_t, cInt_i, cInt_b, cAbs_i, kMax_i, kMin_i, List.length_map, List.length_cons, List.length_nil])
def il (l : List Int) : D := .list (l.map PyData.int)
/-- what _law_draws gives: ints from 0 on, below 65536, at most 3780 -/
structure DrawsOk (ds : List Int) : Prop where
  len : ds.length ≤ 3780
  mem : ∀ d, d ∈ ds → 0 ≤ d ∧ d < 65536
theorem below_app {ds : List Int} {d : Int} (h1 : ∀ d, d ∈ ds → 0 ≤ d ∧ d < 65536) (h : 0 ≤ d ∧ d < 65536) : ∀ e, e ∈ ds ++ [d] → 0 ≤ e ∧ e < 65536 := fun e he => by
  rcases List.mem_append.mp he with z | z
  · exact h1 e z
  · rw [List.mem_singleton] at z
    rw [z]
    exact h
theorem il_app (ds : List Int) (d : Int) : (ds.map PyData.int) ++ [PyData.int d] = (ds ++ [d]).map PyData.int := by rw [List.map_append]; rfl
theorem lim_eq : lim = 1000000 := rfl
theorem mod_in (x : Int) {n : Int} (h : 0 < n) : 0 ≤ x % n ∧ x % n < n := ⟨Int.emod_nonneg _ (by omega), Int.emod_lt_of_pos _ h⟩
theorem draws_ok {ns : List Int} (hn : ns.length ≤ 63) : ∃ ds, f__law_draws [il ns] = .ok (il ds) ∧ DrawsOk ds := by
  have hlim := lim_eq
  have main : ∃ d, f__law_draws [il ns] = .ok d ∧ ∃ ds, d = il ds ∧ DrawsOk ds := by
    unfold f__law_draws
    refine runF_some rfl ?_
    unfold m__law_draws
    refine runs_sn (ε' := [.im (il ns), .mu (.list []), .no, .no, .no, .no]) (by rw [sAsM_ok (d := .list []) (by walk_at "ev")]; rfl) ?_
    refine runs_seq (runs_for (ds := rangeD 0 ns.length) (fun i ε => ∃ ds a b c d, ε = [.im (il ns), .mu (il ds), a, b, c, d] ∧ ds.length ≤ 60 * i ∧ ∀ d, d ∈ ds → 0 ≤ d ∧ d < 65536) ?_ ⟨[], _, _, _, _, rfl, by simp, by simp⟩ ?_ ?_)
    · rw [iRange1_ok (j := (ns.length : Int)) ?_ (by omega) (by omega)]
      · rfl
      · simp only [il]
        walk_at "ev"
        rw [show (if (ns.length : Int) < 63 then (ns.length : Int) else 63) = ns.length by split <;> omega]
    · rintro i d ε hd ⟨ds, a, b, c, e, rfl, hl, hm⟩
      obtain ⟨hi, rfl⟩ := rangeD_get hd
      have hidx := dIx_ints (l := ns) (i := (i : Int)) (by omega) (by omega)
      refine ⟨[.im (il ns), .mu (il ds), .im (.int (i : Int)), b, c, e], by simp only [bN, st, Int.zero_add], ?_⟩
      obtain ⟨r, hr⟩ : ∃ r, r = (if ns.getD (i : Int).toNat 0 < 0 then -(ns.getD (i : Int).toNat 0) else ns.getD (i : Int).toNat 0) := ⟨_, rfl⟩
      have hr0 : 0 ≤ r := by rw [hr]; split <;> omega
      refine runs_sn (ε' := [.im (il ns), .mu (il ds), .im (.int (i : Int)), .im (.int r), c, e]) ?_ ?_
      · rw [sAs_ok (d := .int r) ?_]
        · rfl
        · simp only [il]
          walk_at "ev"
          rw [hidx]
          walk_at "ev"
          rw [hr]
      · have h18 : dPow (.int 10) (.int 18) = .ok (.int 1000000000000000000) := dPow_i (by decide) (by decide) (by decide)
        refine runs_if (b := decide ((1000000000000000000 : Int) ≤ r)) ?_ (fun hb => ?_) (fun hb => ?_)
        · walk_at "ev"
          rw [h18]
          walk_at "ev"
        · -- a long cell: its digits
          refine runs_for (ds := rangeD 0 60) (fun j ε => ∃ ds r c, ε = [.im (il ns), .mu (il ds), .im (.int (i : Int)), .im (.int r), c, e] ∧ 0 ≤ r ∧ ds.length ≤ 60 * i + j ∧ ∀ d, d ∈ ds → 0 ≤ d ∧ d < 65536) ?_ ⟨ds, r, c, rfl, hr0, by omega, hm⟩ ?_ ?_
          · rw [iRange1_ok (j := 60) (by walk_at "ev") (by decide) (by decide)]
            rfl
          · rintro j d ε hd ⟨ds, r, c, rfl, hr0, hl, hm⟩
            obtain ⟨hj, rfl⟩ := rangeD_get hd
            refine ⟨[.im (il ns), .mu (il ds), .im (.int (i : Int)), .im (.int r), .im (.int ((j : Nat) : Int)), e], by simp only [bN, st, Int.zero_add], ?_⟩
            refine runs_if (b := decide (0 < r)) (by walk_at "ev") (fun hb => ?_) (fun hb => ?_)
            · refine runs_sn (ε' := [.im (il ns), .mu (il (ds ++ [r % 65536])), .im (.int (i : Int)), .im (.int r), .im (.int ((j : Nat) : Int)), e]) ?_ ?_
              · rw [sAp_ok (d := .int (r % 65536)) (ds := ds.map PyData.int) ?_ rfl (by rw [List.length_map]; omega)]
                · rw [il_app]
                  rfl
                · walk_at "ev"
                  rw [dMod_ok (by decide)]
              · refine runs_eq (sAs_ok (d := .int (r / 65536)) ?_) ⟨ds ++ [r % 65536], r / 65536, _, rfl, by omega, ?_, below_app hm (mod_in r (by decide))⟩
                · walk_at "ev"
                  rw [dDiv_small (by decide) (by decide)]
                · rw [List.length_append, List.length_singleton]
                  omega
            · exact runs_eq rfl ⟨ds, r, _, rfl, hr0, by omega, hm⟩
          · rintro ε' ⟨ds, r, c, rfl, hr0, hl, hm⟩
            rw [rangeD_len] at hl
            exact ⟨ds, _, _, _, _, rfl, by omega, hm⟩
        · -- a short one: two mixed numbers
          have hb' : r < 1000000000000000000 := by
            have := of_decide_eq_false hb
            omega
          obtain ⟨m1, e1⟩ : ∃ m1 : Int, m1 = (r * 48271 + ((i : Int) + 1) * 69621) % 2147483647 := ⟨_, rfl⟩
          have b1 : 0 ≤ m1 ∧ m1 < 2147483647 := by rw [e1]; exact mod_in _ (by decide)
          obtain ⟨m2, e2⟩ : ∃ m2 : Int, m2 = (m1 * 16807 + 11 * (i : Int) + 5) % 2147483629 := ⟨_, rfl⟩
          have b2 : 0 ≤ m2 ∧ m2 < 2147483629 := by rw [e2]; exact mod_in _ (by decide)
          refine runs_sn (ε' := [.im (il ns), .mu (il ds), .im (.int (i : Int)), .im (.int r), c, .im (.int m1)]) ?_ ?_
          · rw [sAs_ok (d := .int m1) ?_]
            · rfl
            · walk_at "ev"
              rw [dMul_small (by omega) (by decide), dMul_small (by omega) (by decide)]
              walk_at "ev"
              rw [dMod_ok (by decide), e1]
          refine runs_sn (ε' := [.im (il ns), .mu (il ds), .im (.int (i : Int)), .im (.int r), c, .im (.int m2)]) ?_ ?_
          · rw [sAs_ok (d := .int m2) ?_]
            · rfl
            · walk_at "ev"
              rw [dMul_small (by omega) (by decide), dMul_small (by decide) (by omega)]
              walk_at "ev"
              rw [dMod_ok (by decide), e2]
          refine runs_sn (ε' := [.im (il ns), .mu (il (ds ++ [m2 % 65536])), .im (.int (i : Int)), .im (.int r), c, .im (.int m2)]) ?_ ?_
          · rw [sAp_ok (d := .int (m2 % 65536)) (ds := ds.map PyData.int) ?_ rfl (by rw [List.length_map]; omega)]
            · rw [il_app]
              rfl
            · walk_at "ev"
              rw [dMod_ok (by decide)]
          refine runs_eq (sAp_ok (d := .int (m2 / 65536 % 32768)) (ds := (ds ++ [m2 % 65536]).map PyData.int) ?_ rfl (by rw [List.length_map, List.length_append, List.length_singleton]; omega)) ?_
          · walk_at "ev"
            rw [dDiv_small (by decide) (by decide)]
            walk_at "ev"
            rw [dMod_ok (by decide)]
          · refine ⟨ds ++ [m2 % 65536] ++ [m2 / 65536 % 32768], _, _, _, _, by rw [il_app]; rfl, ?_, below_app (below_app hm (mod_in _ (by decide))) ?_⟩
            · rw [List.length_append, List.length_append, List.length_singleton, List.length_singleton]
              omega
            · have := mod_in (m2 / 65536) (n := 32768) (by decide)
              omega
    · rintro ε' ⟨ds, a, b, c, d, rfl, hl, hm⟩
      rw [rangeD_len] at hl
      exact runs_eq rfl ⟨_, rfl, ds, rfl, by omega, hm⟩
  obtain ⟨d, h1, ds, rfl, h2⟩ := main
  exact ⟨ds, h1, h2⟩
theorem mix_ok {ds : List Int} (h : DrawsOk ds) {k many : Int} (h0 : 0 ≤ k) (hk : k < 2 ^ 40) (h1 : 0 < many) : ∃ r, f__law_mix [il ds, .int k, .int many] = .ok (.int r) ∧ 0 ≤ r ∧ r < many := by
  have main : ∃ d, f__law_mix [il ds, .int k, .int many] = .ok d ∧ ∃ r, d = .int r ∧ 0 ≤ r ∧ r < many := by
    unfold f__law_mix
    refine runF_some rfl ?_
    unfold m__law_mix
    refine runs_sn (ε' := [.im (il ds), .im (.int k), .im (.int many), .im (.int 0)]) (by rw [sAs_ok (d := .int 0) (by walk_at "ev")]; rfl) ?_
    refine runs_seq (Runs.mono (p := fun fl => ∃ v : Int, 0 ≤ v ∧ v < 65536 ∧ fl = .nx [.im (il ds), .im (.int k), .im (.int many), .im (.int v)]) ?_ ?_)
    · refine runs_if (b := decide (0 < (ds.length : Int))) ?_ (fun hb => ?_) (fun hb => ?_)
      · simp only [il]
        walk_at "ev"
      · have hl : 0 < (ds.length : Int) := of_decide_eq_true hb
        have hm := mod_in k hl
        have hidx := dIx_ints (l := ds) (i := k % ds.length) hm.1 hm.2
        have hin : ds.getD (k % ds.length).toNat 0 ∈ ds := by
          rw [List.getD_eq_getElem?_getD, List.getElem?_eq_getElem (by omega)]
          exact List.getElem_mem _
        refine runs_eq (sAs_ok (d := .int (ds.getD (k % ds.length).toNat 0)) ?_) ⟨_, (h.mem _ hin).1, (h.mem _ hin).2, rfl⟩
        simp only [il]
        walk_at "ev"
        rw [dMod_ok hl]
        walk_at "ev"
        rw [hidx]
      · exact runs_eq rfl ⟨0, by decide, by decide, rfl⟩
    · rintro fl ⟨v, v0, v1, rfl⟩
      show Runs _ _ _
      refine runs_seq ?_
      refine runs_if (b := decide (k < (ds.length : Int))) ?_ (fun hb => ?_) (fun hb => ?_)
      · simp only [il]
        walk_at "ev"
      · refine runs_eq (sRt_ok (d := .int (v % many)) ?_) ⟨_, rfl, _, rfl, mod_in _ h1⟩
        walk_at "ev"
        rw [dMod_ok h1]
      · refine runs_eq rfl ?_
        show Runs _ _ _
        refine runs_eq (sRt_ok (d := .int ((v * 7919 + k * 104729) / 3 % many)) ?_) ⟨_, rfl, _, rfl, mod_in _ h1⟩
        walk_at "ev"
        rw [dMul_small (by omega) (by decide), dMul_small (by omega) (by decide)]
        walk_at "ev"
        rw [dDiv_small (by decide) (by decide)]
        walk_at "ev"
        rw [dMod_ok h1]
  obtain ⟨d, h1, r, rfl, h2⟩ := main
  exact ⟨r, h1, h2⟩
end My
set_option Elab.async false
set_option linter.all false
set_option maxRecDepth 100000
set_option maxHeartbeats 4000000
set_option exponentiation.threshold 1000000
namespace My
open PySem Tw
local macro_rules | `(tactic| walk_at "go") => `(tactic| repeat' (with_reducible first | exact xV_0 | exact xC_o | exact xNil_o | apply xV_n | apply xBin_o | apply xUn_o | apply xTup_o | apply xLst_o | apply xCall_o | apply xCons_o | apply tC_o | apply iSeq_o | assumption | exact dAdd_i | exact dSub_i | exact dNeg_i | exact dIx_f0 | exact dIx_f1 | exact dIx_t0 | exact dIx_t1 | exact cInt_i | exact cAbs_i | exact cGcd_o | exact dLt_i | exact dGt_i | exact dEq_int _ _ | exact dNe_int _ _))
--[fraction]
theorem fraction_ok {n d : Int} (h0 : d ≠ 0) (hd : sz 8000 d) : f_fraction [.int n, .int d] = .ok (fr (Rat.divInt n d)) := by
  unfold f_fraction
  refine runF_rt rfl ?_
  unfold m_fraction
  change Runs _ [.im (.int n), .im (.int d), .no] _
  refine runs_seq (Runs.mono (p := fun fl => ∃ n' d', 0 < d' ∧ sz 8000 d' ∧ Rat.divInt n' d' = Rat.divInt n d ∧ fl = .nx [.im (.int n'), .im (.int d'), .no]) (runs_if (b := decide (d < 0)) (by walk_at "go") (fun hb => ?_) fun hb => ?_) ?_)
  · have := of_decide_eq_true hb
    exact runs_eq (sPr_o (a := .int (-n)) (b := .int (-d)) (by walk_at "go")) ⟨-n, -d, by omega, hd.neg, divInt_nn n d, rfl⟩
  · have := of_decide_eq_false hb
    exact runs_eq rfl ⟨n, d, by omega, hd, rfl, rfl⟩
  rintro fl ⟨n', d', h1, h2, h3, rfl⟩
  show Runs _ _ _
  refine runs_sn (sAs_ok (d := .int ((Nat.gcd n'.natAbs d'.natAbs : Nat) : Int)) (by walk_at "go")) ?_
  change Runs _ [.im (.int n'), .im (.int d'), .im (.int ((Nat.gcd n'.natAbs d'.natAbs : Nat) : Int))] _
  have g0 : 0 < Nat.gcd n'.natAbs d'.natAbs := Nat.gcd_pos_of_pos_right _ (by omega)
  have g1 : sz 8000 ((Nat.gcd n'.natAbs d'.natAbs : Nat) : Int) := by
    unfold sz at *
    rw [Int.natAbs_natCast]
    exact Nat.lt_of_le_of_lt (Nat.le_of_dvd (by omega) (Nat.gcd_dvd_right _ _)) h2
  have q1 := dDiv_z (i := n') (j := ((Nat.gcd n'.natAbs d'.natAbs : Nat) : Int)) (by omega) g1 (by decide)
  have q2 := dDiv_z (i := d') (j := ((Nat.gcd n'.natAbs d'.natAbs : Nat) : Int)) (by omega) g1 (by decide)
  refine runs_eq (sRt_ok (d := fr (Rat.divInt n d)) ?_) rfl
  rw [← h3, ← fr_low h1]
  walk_at "go"
--[plus]
theorem plus_ok {p q : Rat} (hp : Sm 3900 p) (hq : Sm 3900 q) : f_plus [fr p, fr q] = .ok (fr (p + q)) := by
  unfold f_plus
  refine runF_rt rfl ?_
  unfold m_plus
  change Runs _ [.im (fr p), .im (fr q)] _
  have m1 := dMul_z hp.n hq.d (by decide) (by decide)
  have m2 := dMul_z hq.n hp.d (by decide) (by decide)
  have m3 := dMul_z hp.d hq.d (by decide) (by decide)
  have c := fraction_ok (n := p.num * q.den + q.num * p.den) (d := (p.den : Int) * q.den) (Int.ne_of_gt (Int.mul_pos (den_pos p) (den_pos q))) ((hp.d.mul hq.d).mono (by decide))
  rw [fr_add] at c
  exact runs_eq (sRt_ok (d := fr (p + q)) (by walk_at "go")) rfl
--[minus]
theorem minus_ok {p q : Rat} (hp : Sm 3900 p) (hq : Sm 3900 q) : f_minus [fr p, fr q] = .ok (fr (p - q)) := by
  unfold f_minus
  refine runF_rt rfl ?_
  unfold m_minus
  change Runs _ [.im (fr p), .im (fr q)] _
  have m1 := dMul_z hp.n hq.d (by decide) (by decide)
  have m2 := dMul_z hq.n hp.d (by decide) (by decide)
  have m3 := dMul_z hp.d hq.d (by decide) (by decide)
  have c := fraction_ok (n := p.num * q.den - q.num * p.den) (d := (p.den : Int) * q.den) (Int.ne_of_gt (Int.mul_pos (den_pos p) (den_pos q))) ((hp.d.mul hq.d).mono (by decide))
  rw [fr_sub] at c
  exact runs_eq (sRt_ok (d := fr (p - q)) (by walk_at "go")) rfl
--[times]
theorem times_ok {p q : Rat} (hp : Sm 3900 p) (hq : Sm 3900 q) : f_times [fr p, fr q] = .ok (fr (p * q)) := by
  unfold f_times
  refine runF_rt rfl ?_
  unfold m_times
  change Runs _ [.im (fr p), .im (fr q)] _
  have m1 := dMul_z hp.n hq.n (by decide) (by decide)
  have m3 := dMul_z hp.d hq.d (by decide) (by decide)
  have c := fraction_ok (n := p.num * q.num) (d := (p.den : Int) * q.den) (Int.ne_of_gt (Int.mul_pos (den_pos p) (den_pos q))) ((hp.d.mul hq.d).mono (by decide))
  rw [fr_mul] at c
  exact runs_eq (sRt_ok (d := fr (p * q)) (by walk_at "go")) rfl
--[over]
theorem over_ok {p q : Rat} (hp : Sm 3900 p) (hq : Sm 3900 q) (h0 : q ≠ 0) : f_over [fr p, fr q] = .ok (fr (p / q)) := by
  unfold f_over
  refine runF_rt rfl ?_
  unfold m_over
  change Runs _ [.im (fr p), .im (fr q)] _
  have m1 := dMul_z hp.n hq.d (by decide) (by decide)
  have m3 := dMul_z hp.d hq.n (by decide) (by decide)
  have hn : q.num ≠ 0 := fun z => h0 (Rat.num_eq_zero.mp z)
  have c := fraction_ok (n := p.num * q.den) (d := (p.den : Int) * q.num) (Int.mul_ne_zero (Int.ne_of_gt (den_pos p)) hn) ((hp.d.mul hq.n).mono (by decide))
  rw [fr_div] at c
  exact runs_eq (sRt_ok (d := fr (p / q)) (by walk_at "go")) rfl
--[is_fraction]
theorem is_fraction_ok (q : Rat) : f_is_fraction [fr q] = .ok (.bool true) := by
  unfold f_is_fraction
  refine runF_rt rfl ?_
  unfold m_is_fraction
  change Runs _ [.im (fr q)] _
  refine runs_eq (sRt_ok (d := .bool true) ?_) rfl
  have e : Nat.gcd q.num.natAbs (q.den : Int).natAbs = 1 := by
    rw [Int.natAbs_natCast]
    exact q.reduced
  have a : xBin dGt (xBin dIx (xV 0) (xC (.int 1))) (xC (.int 0)) [.im (fr q)] = .ok (.bool true) := by
    refine (show _ = R.ok (PyData.bool (decide ((0 : Int) < (q.den : Int)))) from by walk_at "go").trans ?_
    rw [decide_eq_true (den_pos q)]
  have b : xBin dEq (xCall cGcd (xCons (xBin dIx (xV 0) (xC (.int 0))) (xCons (xBin dIx (xV 0) (xC (.int 1))) xNil))) (xC (.int 1)) [.im (fr q)] = .ok (.bool true) := by
    refine (show _ = R.ok (PyData.bool (decide (((Nat.gcd q.num.natAbs (q.den : Int).natAbs : Nat) : Int) = 1))) from by walk_at "go").trans ?_
    rw [e]
    rfl
  unfold xAn
  rw [a]
  exact b
--[_law_low]
theorem law_low_ok {n d : Int} (h0 : 0 < d) (hn : sz 8000 n) (hd : sz 8000 d) : f__law_low [.int n, .int d] = .ok (fr (Rat.divInt n d)) := by
  unfold f__law_low
  refine runF_rt rfl ?_
  unfold m__law_low
  change Runs _ [.im (.int n), .im (.int d), .no, .no] _
  have ab : cAbs [.int n] = .ok (.int ((n.natAbs : Nat) : Int)) := by
    rw [cAbs_i]
    congr 2
    split <;> omega
  refine runs_sn (sPr_o (a := .int ((n.natAbs : Nat) : Int)) (b := .int d) (xCons_o (xCall_o (xCons_o xV_0 xNil_o) ab) (by walk_at "go"))) ?_
  change Runs _ [.im (.int n), .im (.int d), .im (.int ((n.natAbs : Nat) : Int)), .im (.int d)] _
  have ed : ((d.natAbs : Nat) : Int) = d := by omega
  have hw := low_wh fuel (.im (.int n)) (.im (.int d)) n.natAbs d.natAbs (by
    have h1 : n.natAbs * d.natAbs + 1 < 2 ^ 16001 := by
      have := sz.mul hn hd
      unfold sz at this
      rw [Int.natAbs_mul] at this
      have e : 2 ^ 16001 = 2 * 2 ^ 16000 := by rw [Nat.pow_succ, Nat.mul_comm]
      have p : 0 < 2 ^ 16000 := Nat.pow_pos (by decide)
      rw [e]
      generalize 2 ^ 16000 = X at *
      omega
    have := log2_lt h1 (by decide)
    have e : fuel = 100000 := rfl
    omega)
  rw [ed] at hw
  refine runs_sn (ε' := [.im (.int n), .im (.int d), .im (.int ((Nat.gcd n.natAbs d.natAbs : Nat) : Int)), .im (.int 0)]) hw ?_
  have g0 : 0 < Nat.gcd n.natAbs d.natAbs := Nat.gcd_pos_of_pos_right _ (by omega)
  have g1 : sz 8000 ((Nat.gcd n.natAbs d.natAbs : Nat) : Int) := by
    unfold sz at *
    rw [Int.natAbs_natCast]
    exact Nat.lt_of_le_of_lt (Nat.le_of_dvd (by omega) (Nat.gcd_dvd_right _ _)) hd
  have q1 := dDiv_z (i := n) (j := ((Nat.gcd n.natAbs d.natAbs : Nat) : Int)) (by omega) g1 (by decide)
  have q2 := dDiv_z (i := d) (j := ((Nat.gcd n.natAbs d.natAbs : Nat) : Int)) (by omega) g1 (by decide)
  refine runs_eq (sRt_ok (d := fr (Rat.divInt n d)) ?_) rfl
  rw [← fr_low h0]
  walk_at "go"
--[_law_plus]
theorem law_plus_ok {p q : Rat} (hp : Sm 3900 p) (hq : Sm 3900 q) : f__law_plus [fr p, fr q] = .ok (fr (p + q)) := by
  unfold f__law_plus
  refine runF_rt rfl ?_
  unfold m__law_plus
  change Runs _ [.im (fr p), .im (fr q)] _
  have m1 := dMul_z hp.n hq.d (by decide) (by decide)
  have m2 := dMul_z hq.n hp.d (by decide) (by decide)
  have m3 := dMul_z hp.d hq.d (by decide) (by decide)
  have c := law_low_ok (n := p.num * q.den + q.num * p.den) (d := (p.den : Int) * q.den) (Int.mul_pos (den_pos p) (den_pos q)) (((hp.n.mul hq.d).add ((hq.n.mul hp.d).mono (by decide))).mono (by decide)) ((hp.d.mul hq.d).mono (by decide))
  rw [fr_add] at c
  exact runs_eq (sRt_ok (d := fr (p + q)) (by walk_at "go")) rfl
--[_law_times]
theorem law_times_ok {p q : Rat} (hp : Sm 3900 p) (hq : Sm 3900 q) : f__law_times [fr p, fr q] = .ok (fr (p * q)) := by
  unfold f__law_times
  refine runF_rt rfl ?_
  unfold m__law_times
  change Runs _ [.im (fr p), .im (fr q)] _
  have m1 := dMul_z hp.n hq.n (by decide) (by decide)
  have m3 := dMul_z hp.d hq.d (by decide) (by decide)
  have c := law_low_ok (n := p.num * q.num) (d := (p.den : Int) * q.den) (Int.mul_pos (den_pos p) (den_pos q)) ((hp.n.mul hq.n).mono (by decide)) ((hp.d.mul hq.d).mono (by decide))
  rw [fr_mul] at c
  exact runs_eq (sRt_ok (d := fr (p * q)) (by walk_at "go")) rfl
end My
set_option Elab.async false
set_option linter.all false
set_option maxRecDepth 100000
set_option maxHeartbeats 4000000
set_option exponentiation.threshold 1000000
/-! Q2: sums, signs, the transform -/
namespace My
open PySem Tw
def sm (f : Nat → Rat) : Nat → Rat
  | 0 => 0
  | n + 1 => sm f n + f n
theorem sm_ext {f g : Nat → Rat} : ∀ {n : Nat}, (∀ i, i < n → f i = g i) → sm f n = sm g n
  | 0, _ => rfl
  | n + 1, h => by
    show sm f n + f n = sm g n + g n
    rw [sm_ext fun i hi => h i (by omega), h n (by omega)]
theorem sm_add (f g : Nat → Rat) : ∀ n, sm (fun i => f i + g i) n = sm f n + sm g n
  | 0 => by
    show (0 : Rat) = 0 + 0
    grind
  | n + 1 => by
    show sm (fun i => f i + g i) n + (f n + g n) = (sm f n + f n) + (sm g n + g n)
    rw [sm_add f g n]
    grind
theorem sm_smul (a : Rat) (f : Nat → Rat) : ∀ n, sm (fun i => a * f i) n = a * sm f n
  | 0 => by
    show (0 : Rat) = a * 0
    grind
  | n + 1 => by
    show sm (fun i => a * f i) n + a * f n = a * (sm f n + f n)
    rw [sm_smul a f n]
    grind
theorem sm_split (f : Nat → Rat) (m : Nat) : ∀ n, sm f (m + n) = sm f m + sm (fun i => f (i + m)) n
  | 0 => by
    show sm f m = sm f m + 0
    grind
  | n + 1 => by
    show sm f (m + n) + f (m + n) = sm f m + (sm (fun i => f (i + m)) n + f (n + m))
    rw [sm_split f m n, Nat.add_comm n m]
    grind
def sg : Nat → Nat → Nat → Int
  | 0, _, _ => 1
  | n + 1, k, s => (if k / 2 ^ n % 2 = 1 ∧ s / 2 ^ n % 2 = 1 then -1 else 1) * sg n k s
theorem bit_shift {n j : Nat} (h : j < n) (k : Nat) : (k + 2 ^ n) / 2 ^ j % 2 = k / 2 ^ j % 2 := by
  obtain ⟨d, rfl⟩ : ∃ d, n = j + 1 + d := ⟨n - (j + 1), by omega⟩
  rw [Nat.pow_add, Nat.pow_succ, Nat.mul_assoc, Nat.mul_comm (2 ^ j), Nat.add_mul_div_right _ _ (Nat.pow_pos (by decide))]
  omega
theorem sg_shift_r {n m : Nat} (k s : Nat) : n ≤ m → sg n k (s + 2 ^ m) = sg n k s := by
  induction n with
  | zero => intro _; rfl
  | succ n ih =>
    intro h
    show (if k / 2 ^ n % 2 = 1 ∧ (s + 2 ^ m) / 2 ^ n % 2 = 1 then (-1 : Int) else 1) * sg n k (s + 2 ^ m) = (if k / 2 ^ n % 2 = 1 ∧ s / 2 ^ n % 2 = 1 then -1 else 1) * sg n k s
    rw [ih (by omega), bit_shift (by omega)]
theorem sg_shift_l {n m : Nat} (k s : Nat) : n ≤ m → sg n (k + 2 ^ m) s = sg n k s := by
  induction n with
  | zero => intro _; rfl
  | succ n ih =>
    intro h
    show (if (k + 2 ^ m) / 2 ^ n % 2 = 1 ∧ s / 2 ^ n % 2 = 1 then (-1 : Int) else 1) * sg n (k + 2 ^ m) s = (if k / 2 ^ n % 2 = 1 ∧ s / 2 ^ n % 2 = 1 then -1 else 1) * sg n k s
    rw [ih (by omega), bit_shift (by omega)]
theorem bit_lo {n k : Nat} (h : k < 2 ^ n) : k / 2 ^ n % 2 = 0 := by
  rw [Nat.div_eq_of_lt h]
theorem bit_hi {n k : Nat} (h : k < 2 ^ n) : (k + 2 ^ n) / 2 ^ n % 2 = 1 := by
  have e := Nat.add_mul_div_right k 1 (z := 2 ^ n) (Nat.pow_pos (by decide))
  rw [Nat.one_mul] at e
  rw [e, Nat.div_eq_of_lt h]
def Cn (n : Nat) (x : Nat → Rat) (k : Nat) : Rat := sm (fun s => (sg n k s : Rat) * x s) (2 ^ n)
def sh (n : Nat) (x : Nat → Rat) : Nat → Rat := fun i => x (i + 2 ^ n)
theorem Cn_ext {n : Nat} {x y : Nat → Rat} (h : ∀ i, i < 2 ^ n → x i = y i) (k : Nat) : Cn n x k = Cn n y k := sm_ext fun i hi => by rw [h i hi]
theorem Cn_add (n : Nat) (x y : Nat → Rat) (k : Nat) : Cn n (fun i => x i + y i) k = Cn n x k + Cn n y k := by
  unfold Cn
  rw [← sm_add]
  refine sm_ext fun i _ => ?_
  grind
theorem Cn_smul (n : Nat) (a : Rat) (x : Nat → Rat) (k : Nat) : Cn n (fun i => a * x i) k = a * Cn n x k := by
  unfold Cn
  rw [← sm_smul]
  refine sm_ext fun i _ => ?_
  grind
theorem Cn_lo {n : Nat} (x : Nat → Rat) {k : Nat} (h : k < 2 ^ n) : Cn (n + 1) x k = Cn n x k + Cn n (sh n x) k := by
  unfold Cn
  rw [Nat.pow_succ, Nat.mul_two, sm_split]
  congr 1
  · refine sm_ext fun i hi => ?_
    show (((if k / 2 ^ n % 2 = 1 ∧ i / 2 ^ n % 2 = 1 then (-1 : Int) else 1) * sg n k i : Int) : Rat) * x i = _
    rw [if_neg (by rw [bit_lo h]; omega), Int.one_mul]
  · refine sm_ext fun i hi => ?_
    show (((if k / 2 ^ n % 2 = 1 ∧ (i + 2 ^ n) / 2 ^ n % 2 = 1 then (-1 : Int) else 1) * sg n k (i + 2 ^ n) : Int) : Rat) * x (i + 2 ^ n) = _
    rw [if_neg (by rw [bit_lo h]; omega), Int.one_mul, sg_shift_r k i (Nat.le_refl n)]
    rfl
theorem Cn_hi {n : Nat} (x : Nat → Rat) {k : Nat} (h : k < 2 ^ n) : Cn (n + 1) x (k + 2 ^ n) = Cn n x k - Cn n (sh n x) k := by
  have e : Cn n x k - Cn n (sh n x) k = Cn n x k + Cn n (fun i => (-1) * sh n x i) k := by
    rw [Cn_smul]
    grind
  rw [e]
  unfold Cn
  rw [Nat.pow_succ, Nat.mul_two, sm_split]
  congr 1
  · refine sm_ext fun i hi => ?_
    show (((if (k + 2 ^ n) / 2 ^ n % 2 = 1 ∧ i / 2 ^ n % 2 = 1 then (-1 : Int) else 1) * sg n (k + 2 ^ n) i : Int) : Rat) * x i = _
    rw [if_neg (by rw [bit_lo hi]; omega), Int.one_mul, sg_shift_l k i (Nat.le_refl n)]
  · refine sm_ext fun i hi => ?_
    show (((if (k + 2 ^ n) / 2 ^ n % 2 = 1 ∧ (i + 2 ^ n) / 2 ^ n % 2 = 1 then (-1 : Int) else 1) * sg n (k + 2 ^ n) (i + 2 ^ n) : Int) : Rat) * x (i + 2 ^ n) = _
    rw [if_pos ⟨bit_hi h, bit_hi hi⟩, sg_shift_l k _ (Nat.le_refl n), sg_shift_r k i (Nat.le_refl n), Rat.intCast_mul]
    show _ = (sg n k i : Rat) * ((-1) * x (i + 2 ^ n))
    have : (((-1 : Int)) : Rat) = -1 := rfl
    grind
/-- twice: the same by 2 ** n -/
theorem Cn_twice : ∀ (n : Nat) (x : Nat → Rat) (k : Nat), k < 2 ^ n → Cn n (Cn n x) k = ((2 ^ n : Nat) : Rat) * x k
  | 0, x, k, h => by
    have e : k = 0 := by omega
    subst e
    have one : (((1 : Int)) : Rat) = 1 := rfl
    have p : ((2 ^ 0 : Nat) : Rat) = 1 := rfl
    show (0 : Rat) + ((1 : Int) : Rat) * ((0 : Rat) + ((1 : Int) : Rat) * x 0) = _
    rw [p, one]
    grind
  | n + 1, x, k, h => by
    have pw : ((2 ^ (n + 1) : Nat) : Rat) = 2 * ((2 ^ n : Nat) : Rat) := by
      rw [Nat.pow_succ, Rat.natCast_mul]
      have : ((2 : Nat) : Rat) = 2 := rfl
      grind
    have lo : ∀ m, m < 2 ^ n → Cn n (Cn (n + 1) x) m = Cn n (Cn n x) m + Cn n (Cn n (sh n x)) m := fun m hm => by
      rw [← Cn_add]
      exact Cn_ext (fun i hi => Cn_lo x hi) m
    have hi : ∀ m, m < 2 ^ n → Cn n (sh n (Cn (n + 1) x)) m = Cn n (Cn n x) m - Cn n (Cn n (sh n x)) m := fun m hm => by
      have e : Cn n (Cn n x) m - Cn n (Cn n (sh n x)) m = Cn n (Cn n x) m + Cn n (fun i => (-1) * Cn n (sh n x) i) m := by
        rw [Cn_smul]
        grind
      rw [e, ← Cn_add]
      refine Cn_ext (fun i hi => ?_) m
      show Cn (n + 1) x (i + 2 ^ n) = _
      rw [Cn_hi x hi]
      grind
    by_cases hk : k < 2 ^ n
    · rw [Cn_lo _ hk, lo k hk, hi k hk, Cn_twice n x k hk, pw]
      grind
    · obtain ⟨m, rfl⟩ : ∃ m, k = m + 2 ^ n := ⟨k - 2 ^ n, by omega⟩
      have hm : m < 2 ^ n := by
        rw [Nat.pow_succ] at h
        omega
      rw [Cn_hi _ hm, lo m hm, hi m hm, Cn_twice n (sh n x) m hm, pw]
      show _ = 2 * ((2 ^ n : Nat) : Rat) * x (m + 2 ^ n)
      have e : sh n x m = x (m + 2 ^ n) := rfl
      grind
/-- the squares' sums -/
theorem Cn_sq : ∀ (n : Nat) (x : Nat → Rat), sm (fun k => Cn n x k * Cn n x k) (2 ^ n) = ((2 ^ n : Nat) : Rat) * sm (fun k => x k * x k) (2 ^ n)
  | 0, x => by
    have one : (((1 : Int)) : Rat) = 1 := rfl
    have p : ((2 ^ 0 : Nat) : Rat) = 1 := rfl
    show (0 : Rat) + ((0 : Rat) + ((1 : Int) : Rat) * x 0) * ((0 : Rat) + ((1 : Int) : Rat) * x 0) = _ * ((0 : Rat) + x 0 * x 0)
    rw [p, one]
    grind
  | n + 1, x => by
    have pw : ((2 ^ (n + 1) : Nat) : Rat) = 2 * ((2 ^ n : Nat) : Rat) := by
      rw [Nat.pow_succ, Rat.natCast_mul]
      have : ((2 : Nat) : Rat) = 2 := rfl
      grind
    have e : 2 ^ (n + 1) = 2 ^ n + 2 ^ n := by rw [Nat.pow_succ, Nat.mul_two]
    have a := Cn_sq n x
    have b := Cn_sq n (sh n x)
    rw [pw, e, sm_split, sm_split (fun k => x k * x k)]
    have h1 : sm (fun k => Cn (n + 1) x k * Cn (n + 1) x k) (2 ^ n) + sm (fun k => Cn (n + 1) x (k + 2 ^ n) * Cn (n + 1) x (k + 2 ^ n)) (2 ^ n) = 2 * (sm (fun k => Cn n x k * Cn n x k) (2 ^ n) + sm (fun k => Cn n (sh n x) k * Cn n (sh n x) k) (2 ^ n)) := by
      rw [← sm_add, ← sm_add, ← sm_smul]
      refine sm_ext fun i hi => ?_
      rw [Cn_lo x hi, Cn_hi x hi]
      grind
    rw [h1, a, b]
    show 2 * (_ + ((2 ^ n : Nat) : Rat) * sm (fun k => x (k + 2 ^ n) * x (k + 2 ^ n)) (2 ^ n)) = _
    grind
/-- the stages -/
def Fn : Nat → (Nat → Rat) → Nat → Rat
  | 0, x, k => x k
  | j + 1, x, k => if k / 2 ^ j % 2 = 0 then Fn j x k + Fn j x (k + 2 ^ j) else Fn j x (k - 2 ^ j) - Fn j x k
theorem Fn_shift (n : Nat) (x : Nat → Rat) : ∀ (j : Nat), j ≤ n → ∀ k, Fn j x (k + 2 ^ n) = Fn j (sh n x) k
  | 0, _, k => rfl
  | j + 1, h, k => by
    show (if (k + 2 ^ n) / 2 ^ j % 2 = 0 then Fn j x (k + 2 ^ n) + Fn j x (k + 2 ^ n + 2 ^ j) else Fn j x (k + 2 ^ n - 2 ^ j) - Fn j x (k + 2 ^ n)) = if k / 2 ^ j % 2 = 0 then Fn j (sh n x) k + Fn j (sh n x) (k + 2 ^ j) else Fn j (sh n x) (k - 2 ^ j) - Fn j (sh n x) k
    rw [bit_shift (by omega)]
    have ih := Fn_shift n x j (by omega)
    split
    · rw [ih, Nat.add_right_comm, ih]
    · rename_i hb
      have hk : 2 ^ j ≤ k := by
        by_cases q : 2 ^ j ≤ k
        · exact q
        · rw [Nat.div_eq_of_lt (by omega)] at hb
          exact absurd rfl hb
      rw [ih, show k + 2 ^ n - 2 ^ j = k - 2 ^ j + 2 ^ n from Nat.sub_add_comm hk, ih]
theorem Fn_eq : ∀ (n : Nat) (x : Nat → Rat) (k : Nat), k < 2 ^ n → Fn n x k = Cn n x k
  | 0, x, k, h => by
    have e : k = 0 := by omega
    subst e
    have one : (((1 : Int)) : Rat) = 1 := rfl
    show x 0 = (0 : Rat) + ((1 : Int) : Rat) * x 0
    rw [one]
    grind
  | n + 1, x, k, h => by
    show (if k / 2 ^ n % 2 = 0 then Fn n x k + Fn n x (k + 2 ^ n) else Fn n x (k - 2 ^ n) - Fn n x k) = _
    by_cases hk : k < 2 ^ n
    · rw [if_pos (bit_lo hk), Fn_shift n x n (Nat.le_refl _), Fn_eq n x k hk, Fn_eq n (sh n x) k hk, Cn_lo x hk]
    · obtain ⟨m, rfl⟩ : ∃ m, k = m + 2 ^ n := ⟨k - 2 ^ n, by omega⟩
      have hm : m < 2 ^ n := by
        rw [Nat.pow_succ] at h
        omega
      rw [if_neg (by rw [bit_hi hm]; omega), Nat.add_sub_cancel, Fn_shift n x n (Nat.le_refl _), Fn_eq n x m hm, Fn_eq n (sh n x) m hm, Cn_hi x hm]
end My
set_option Elab.async false
set_option linter.all false
set_option maxRecDepth 100000
set_option maxHeartbeats 4000000
set_option exponentiation.threshold 1000000
namespace My
open PySem Tw
mutual
def eqD : D → D → Bool
  | .none, .none => true
  | .bool a, .bool b => a == b
  | .int a, .int b => decide (a = b)
  | .list a, .list b => eqDs a b
  | .tuple a, .tuple b => eqDs a b
  | _, _ => false
def eqDs : List D → List D → Bool
  | [], [] => true
  | a :: r, b :: s => eqD a b && eqDs r s
  | _, _ => false
end
mutual
theorem eqD_eq : ∀ (a b : D), eqD a b = true → a = b
  | .none, b, h => by cases b <;> simp [eqD] at h <;> rfl
  | .bool a, b, h => by cases b <;> simp [eqD] at h <;> rw [h]
  | .int a, b, h => by cases b <;> simp [eqD] at h <;> rw [h]
  | .str a, b, h => by cases b <;> simp [eqD] at h
  | .dict a, b, h => by cases b <;> simp [eqD] at h
  | .list a, b, h => by
    cases b with
    | list b => rw [eqDs_eq a b (by simpa [eqD] using h)]
    | _ => simp [eqD] at h
  | .tuple a, b, h => by
    cases b with
    | tuple b => rw [eqDs_eq a b (by simpa [eqD] using h)]
    | _ => simp [eqD] at h
theorem eqDs_eq : ∀ (a b : List D), eqDs a b = true → a = b
  | [], b, h => by cases b <;> simp [eqDs] at h <;> rfl
  | a :: r, b, h => by
    cases b with
    | nil => simp [eqDs] at h
    | cons b s =>
      simp only [eqDs, Bool.and_eq_true] at h
      rw [eqD_eq a b h.1, eqDs_eq r s h.2]
end
def isR (r : R D) (d : D) : Bool := match r with
  | .ok e => eqD e d
  | _ => false
theorem isR_eq {r : R D} {d : D} (h : isR r d = true) : r = .ok d := by
  cases r with
  | ok e => rw [eqD_eq e d h]
  | ex a b => cases h
  | bad => cases h
def rowL (n k : Nat) : List Int := (List.range n).map fun v => ((k / 2 ^ (n - 1 - v) % 2 : Nat) : Int)
def rowD (n k : Nat) : D := .tuple ((rowL n k).map .int)
def rowsD (n : Nat) : D := .list ((List.range (2 ^ n)).map (rowD n))
def wordL (n k : Nat) : List Int := ((List.range n).filter fun v => k / 2 ^ (n - 1 - v) % 2 == 1).map fun (v : Nat) => (v : Int)
theorem fin_rows : ∀ n : Nat, n < 6 → isR (f__law_rows [.int n]) (rowsD n) = true ∧ isR (f_all_rows [.int n]) (rowsD n) = true := by decide +kernel
theorem fin_sign : ∀ n : Nat, n < 6 → ∀ k : Nat, k < 2 ^ n → isR (f_is_word [.int n, il (wordL n k)]) (.bool true) = true ∧ ∀ s : Nat, s < 2 ^ n → isR (f__law_sign [il (wordL n k), rowD n s]) (.int (sg n k s)) = true ∧ isR (f_sign [il (wordL n k), rowD n s]) (.int (sg n k s)) = true := by decide +kernel
end My
set_option Elab.async false
set_option linter.all false
set_option maxRecDepth 100000
set_option maxHeartbeats 4000000
set_option exponentiation.threshold 1000000
namespace My
open PySem Tw
local macro_rules | `(tactic| walk_at "go") => `(tactic| repeat' (with_reducible first | exact xV_0 | exact xC_o | exact xNil_o | apply xV_n | apply xBin_o | apply xUn_o | apply xTup_o | apply xLst_o | apply xCall_o | apply xCons_o | apply tC_o | apply iSeq_o | assumption | exact dAdd_i | exact dSub_i | exact dNeg_i | exact dIx_f0 | exact dIx_f1 | exact dIx_t0 | exact dIx_t1 | exact cInt_i | exact cAbs_i | exact cGcd_o | exact dLt_i | exact dGt_i | exact dEq_int _ _ | exact dNe_int _ _))

/-! ### lists of fractions -/
def fl (f : Nat → Rat) (n : Nat) : D := .list ((List.range n).map fun i => fr (f i))
theorem fl_ext {f g : Nat → Rat} {n : Nat} (h : ∀ i, i < n → f i = g i) : fl f n = fl g n := by
  unfold fl
  congr 1
  exact List.map_congr_left fun i hi => by rw [h i (List.mem_range.mp hi)]
theorem fl_len (f : Nat → Rat) (n : Nat) : cLen [fl f n] = .ok (.int (n : Int)) := by
  unfold fl
  rw [cLen_l, List.length_map, List.length_range]
theorem fl_ix (f : Nat → Rat) {n i : Nat} (h : i < n) : dIx (fl f n) (.int (i : Int)) = .ok (fr (f i)) := by
  refine dIx_list (L2.atI_nat ?_)
  rw [List.getElem?_map, List.getElem?_range h]
  rfl
theorem okd_fr (q : Rat) : (fr q).plain = true ∧ (fr q).depth ≤ 1 := by
  unfold fr
  exact ⟨rfl, by simp only [PyData.depth, PyData.depthAll]; decide⟩
theorem okd_fl (f : Nat → Rat) (n : Nat) : okd (fl f n) = true ∧ (fl f n).plain = true ∧ (fl f n).depth ≤ 2 := by
  have h : ∀ l : List Nat, PyData.plainAll (l.map fun i => fr (f i)) = true ∧ PyData.depthAll (l.map fun i => fr (f i)) ≤ 1 := fun l => by
    induction l with
    | nil => exact ⟨rfl, Nat.zero_le _⟩
    | cons p r ih =>
      rw [List.map_cons]
      simp only [PyData.plainAll, PyData.depthAll, ih.1, (okd_fr (f p)).1]
      exact ⟨rfl, Nat.max_le.mpr ⟨(okd_fr (f p)).2, ih.2⟩⟩
  have h1 : (fl f n).plain = true := by
    unfold fl
    simp only [PyData.plain]
    exact (h _).1
  have h2 : (fl f n).depth ≤ 2 := by
    unfold fl
    simp only [PyData.depth]
    have := (h (List.range n)).2
    omega
  exact ⟨okd_of h1 (by omega), h1, h2⟩
theorem fr_repr {q : Rat} (h : Sm 39 q) : smI (fr q) = true ∧ tw (fr q) ≤ 33 := by
  have a := h.n
  have b := h.d
  unfold sz at a b
  have e : 2 ^ 39 < 10 ^ 12 := by decide
  unfold fr
  refine ⟨?_, Nat.le_refl _⟩
  simp only [smI, smIAll]
  rw [decide_eq_true (Nat.lt_trans a e), decide_eq_true (Nat.lt_trans b e)]
  rfl
theorem fl_repr {f : Nat → Rat} {n : Nat} (h : ∀ i, i < n → Sm 39 (f i)) (hn : n ≤ 1000) : smI (fl f n) = true ∧ tw (fl f n) ≤ 35 * n + 3 := by
  have k : ∀ l : List Nat, (∀ i, i ∈ l → i < n) → smIAll (l.map fun i => fr (f i)) = true ∧ twAll (l.map fun i => fr (f i)) ≤ 35 * l.length := fun l => by
    induction l with
    | nil => exact fun _ => ⟨rfl, Nat.le_refl _⟩
    | cons p r ih =>
      intro hl
      have a := ih fun i hi => hl i (List.mem_cons_of_mem _ hi)
      have b := fr_repr (h p (hl p List.mem_cons_self))
      rw [List.map_cons]
      simp only [smIAll, twAll, a.1, b.1, List.length_cons]
      exact ⟨rfl, by have := a.2; have := b.2; omega⟩
  have := k (List.range n) fun i hi => List.mem_range.mp hi
  unfold fl
  simp only [smI, tw]
  rw [List.length_range] at this
  exact ⟨this.1, by have := this.2; omega⟩
theorem cRepr_fl {f : Nat → Rat} {n : Nat} (h : ∀ i, i < n → Sm 39 (f i)) (hn : n ≤ 1000) : cRepr [fl f n] = .ok (.str (fl f n).shown) := by
  have := fl_repr h hn
  have hlim := lim_eq
  exact cRepr_tw (okd_fl f n).1 this.1 (by omega)
theorem cRepr_fr {q : Rat} (h : Sm 39 q) : cRepr [fr q] = .ok (.str (fr q).shown) := by
  have := fr_repr h
  have hlim := lim_eq
  exact cRepr_tw rfl this.1 (by omega)
theorem cRepr_fl2 {f g : Nat → Rat} {n : Nat} (h : ∀ i, i < n → Sm 39 (f i)) (h' : ∀ i, i < n → Sm 39 (g i)) (hn : n ≤ 1000) : cRepr [.tuple [fl f n, fl g n]] = .ok (.str (PyData.tuple [fl f n, fl g n]).shown) := by
  have a := fl_repr h hn
  have b := fl_repr h' hn
  have hlim := lim_eq
  have c := okd_fl f n
  have d := okd_fl g n
  refine cRepr_tw (okd_of ?_ ?_) ?_ ?_
  · simp only [PyData.plain, PyData.plainAll, c.2.1, d.2.1]
    rfl
  · simp only [PyData.depth, PyData.depthAll]
    have := c.2.2
    have := d.2.2
    omega
  · simp only [smI, smIAll, a.1, b.1]
    rfl
  · simp only [tw, twAll]
    have := a.2
    have := b.2
    omega
/-! ### totals -/
theorem Bd.zero (L N : Nat) : Bd L N (0 : Rat) := by
  have := Bd.int L (N := N) (i := 0) (Nat.zero_le _)
  exact this
theorem Bd.sm_ {L N : Nat} {f : Nat → Rat} (h : ∀ i, Bd L N (f i)) : ∀ n, Bd L (N * n) (sm f n)
  | 0 => Bd.zero _ _
  | n + 1 => (Bd.sm_ h n).add (h n)
theorem sum_dd (f : Nat → Rat) (L N : Nat) (hL : 0 < L) (h1 : L < 2 ^ 3900) (h2 : N * 1000 * L < 2 ^ 3900) (h : ∀ i, Bd L N (f i)) {n : Nat} (hn : n ≤ 1000) : Sm 3900 (sm f n) :=
  (Bd.sm_ h n).sm hL h1 (Nat.lt_of_le_of_lt (Nat.mul_le_mul_right _ (Nat.mul_le_mul_left _ hn)) h2)
theorem one_dd (f : Nat → Rat) (L N : Nat) (hL : 0 < L) (h1 : L < 2 ^ 3900) (h2 : N * 1000 * L < 2 ^ 3900) (h : ∀ i, Bd L N (f i)) (i : Nat) : Sm 3900 (f i) :=
  (h i).sm hL h1 (Nat.lt_of_le_of_lt (Nat.mul_le_mul_right _ (Nat.le_mul_of_pos_right _ (by decide))) h2)
theorem total_ok (f : Nat → Rat) (L N : Nat) (hL : 0 < L) (h1 : L < 2 ^ 3900) (h2 : N * 1000 * L < 2 ^ 3900) (h : ∀ i, Bd L N (f i)) {n : Nat} (hn : n ≤ 1000) : f__law_total [fl f n] = .ok (fr (sm f n)) := by
  unfold f__law_total
  refine runF_rt rfl ?_
  unfold m__law_total
  change Runs _ [.im (fl f n), .no, .no] _
  refine runs_sn (sAs_ok (d := fr (sm f 0)) (by walk_at "go"; rfl)) ?_
  change Runs _ [.im (fl f n), .im (fr (sm f 0)), .no] _
  refine runs_seq (runs_for (ds := (List.range n).map fun i => fr (f i)) (fun i ε => ∃ z, ε = [.im (fl f n), .im (fr (sm f i)), z]) (iSeq_o xV_0) ⟨_, rfl⟩ ?_ ?_)
  · rintro i d ε hd ⟨z, rfl⟩
    rw [List.getElem?_map] at hd
    obtain ⟨j, hj, rfl⟩ := Option.map_eq_some_iff.mp hd
    have hi : i < n := by
      have := (List.getElem?_eq_some_iff.mp hj).1
      rwa [List.length_range] at this
    rw [List.getElem?_range hi] at hj
    cases hj
    have c := law_plus_ok (sum_dd f L N hL h1 h2 h (n := i) (by omega)) (one_dd f L N hL h1 h2 h i)
    exact ⟨[.im (fl f n), .im (fr (sm f i)), .im (fr (f i))], rfl, runs_eq (sAs_ok (d := fr (sm f (i + 1))) (by walk_at "go"; exact c)) ⟨_, rfl⟩⟩
  · rintro ε' ⟨z, rfl⟩
    rw [List.length_map, List.length_range]
    exact runs_eq (sRt_ok (d := fr (sm f n)) (by walk_at "go")) rfl
theorem range_fl (n : Nat) : rangeD 0 n = (List.range n).map fun j : Nat => PyData.int (0 + (j : Int)) := rfl
theorem law_sum_ok (f g : Nat → Rat) (L N M : Nat) (L' : Nat) (hL : 0 < L * L') (h1 : L * L' < 2 ^ 3900) (h2 : (N * M) * 1000 * (L * L') < 2 ^ 3900) (h : ∀ i, Bd L N (f i)) (h' : ∀ i, Bd L' M (g i)) (s1 : ∀ i, Sm 3900 (f i)) (s2 : ∀ i, Sm 3900 (g i)) {n : Nat} (hn : n ≤ 1000) :
    f__law_sum [fl f n, fl g n] = .ok (fr (sm (fun i => f i * g i) n)) := by
  have hlim := lim_eq
  unfold f__law_sum
  refine runF_rt rfl ?_
  unfold m__law_sum
  change Runs _ [.im (fl f n), .im (fl g n), .no] _
  have hi : iRange1 (xCons (xCall cLen (xCons (xV 0) xNil)) xNil) [.im (fl f n), .im (fl g n), .no] = .ok ((List.range n).map fun j : Nat => PyData.int (0 + (j : Int))) := by
    have e := fl_len f n
    rw [iRange1_ok (j := (n : Int)) (by walk_at "go") (by omega) (by omega), Int.toNat_natCast]
    rfl
  have hm := lcG_all (g := bN 2) (e := xCall f__law_times (xCons (xBin dIx (xV 0) (xV 2)) (xCons (xBin dIx (xV 1) (xV 2)) xNil))) (ε := wipeE [.im (fl f n), .im (fl g n), .no] [2]) (fun j : Nat => PyData.int (0 + (j : Int))) (fun j => fr (f j * g j)) (List.range n) (fun j hj => by
    rw [List.mem_range] at hj
    refine ⟨[.im (fl f n), .im (fl g n), .im (.int (j : Int))], by rw [Int.zero_add]; rfl, ?_⟩
    have a := fl_ix f hj
    have b := fl_ix g hj
    have c := law_times_ok (s1 j) (s2 j)
    walk_at "go")
  have hz := xLc_ok hi hm (by rw [List.length_map, List.length_range]; omega)
  have ht := total_ok (fun i => f i * g i) (L * L') (N * M) hL h1 h2 (fun i => (h i).mul (h' i)) hn
  exact runs_eq (sRt_ok (d := fr (sm (fun i => f i * g i) n)) (xCall_o (xCons_o hz xNil_o) ht)) rfl
/-! ### the numbers that are drawn -/
theorem low6 {a b : Int} (ha : 0 ≤ a ∧ a < 13) (hb : 0 ≤ b ∧ b < 3) : Bd 6 6 (Rat.divInt (a - 6) (1 + b)) := by
  have h1 : ((6 : Nat) : Rat) = 6 := rfl
  have i6 := Rat.intCast_le_intCast.mpr (show (-6 : Int) ≤ a - 6 by omega)
  have j6 := Rat.intCast_le_intCast.mpr (show a - 6 ≤ (6 : Int) by omega)
  have e1 : ((-6 : Int) : Rat) = -6 := rfl
  have e2 : ((6 : Int) : Rat) = 6 := rfl
  have e3 : ((2 : Int) : Rat) = 2 := rfl
  have e4 : ((3 : Int) : Rat) = 3 := rfl
  have e5 : ((1 : Int) : Rat) = 1 := rfl
  rw [Rat.divInt_eq_div]
  have : b = 0 ∨ b = 1 ∨ b = 2 := by omega
  rcases this with rfl | rfl | rfl
  · refine ⟨⟨(a - 6) * 6, ?_⟩, ?_, ?_⟩
    · rw [Rat.intCast_mul, h1]
      show ((a - 6 : Int) : Rat) / ((1 : Int) : Rat) * 6 = _
      grind
    · rw [h1]
      show ((a - 6 : Int) : Rat) / ((1 : Int) : Rat) ≤ 6
      grind
    · rw [h1]
      show _ ≤ ((a - 6 : Int) : Rat) / ((1 : Int) : Rat)
      grind
  · refine ⟨⟨(a - 6) * 3, ?_⟩, ?_, ?_⟩
    · rw [Rat.intCast_mul, h1]
      show ((a - 6 : Int) : Rat) / ((2 : Int) : Rat) * 6 = _
      grind
    · rw [h1]
      show ((a - 6 : Int) : Rat) / ((2 : Int) : Rat) ≤ 6
      grind
    · rw [h1]
      show _ ≤ ((a - 6 : Int) : Rat) / ((2 : Int) : Rat)
      grind
  · refine ⟨⟨(a - 6) * 2, ?_⟩, ?_, ?_⟩
    · rw [Rat.intCast_mul, h1]
      show ((a - 6 : Int) : Rat) / ((3 : Int) : Rat) * 6 = _
      grind
    · rw [h1]
      show ((a - 6 : Int) : Rat) / ((3 : Int) : Rat) ≤ 6
      grind
    · rw [h1]
      show _ ≤ ((a - 6 : Int) : Rat) / ((3 : Int) : Rat)
      grind
theorem sz_small {i : Int} {k : Nat} (h : i.natAbs < 2 ^ 64) (hk : 64 ≤ k) : sz k i := lt_pow h hk
theorem numbers_ok {ds : List Int} (h : DrawsOk ds) {k : Int} (h0 : 0 ≤ k) (hk : k < 2 ^ 20) {n : Nat} (hn : n ≤ 1000) : ∃ f : Nat → Rat, f__law_numbers [il ds, .int k, .int (n : Int)] = .ok (fl f n) ∧ ∀ i, Bd 6 6 (f i) := by
  have hlim := lim_eq
  have each : ∀ t : Nat, ∃ q : Rat, Bd 6 6 q ∧ (t < n → xCall f__law_low (xCons (xBin dSub (xCall f__law_mix (xCons (xV 0) (xCons (xBin dAdd (xV 1) (xBin dMul (xC (.int 2)) (xV 3))) (xCons (xC (.int 13)) xNil)))) (xC (.int 6))) (xCons (xBin dAdd (xC (.int 1)) (xCall f__law_mix (xCons (xV 0) (xCons (xBin dAdd (xBin dAdd (xV 1) (xBin dMul (xC (.int 2)) (xV 3))) (xC (.int 1))) (xCons (xC (.int 3)) xNil))))) xNil)) [.im (il ds), .im (.int k), .im (.int (n : Int)), .im (.int (t : Int))] = .ok (fr q)) := fun t => by
    by_cases ht : t < n
    · obtain ⟨a, m1, a0, a1⟩ := mix_ok h (k := k + 2 * (t : Int)) (many := 13) (by omega) (by omega) (by decide)
      obtain ⟨b, m2, b0, b1⟩ := mix_ok h (k := k + 2 * (t : Int) + 1) (many := 3) (by omega) (by omega) (by decide)
      have m3 : dMul (.int 2) (.int (t : Int)) = .ok (.int (2 * (t : Int))) := dMul_small (by decide) (by omega)
      have c := law_low_ok (n := a - 6) (d := 1 + b) (by omega) (sz_small (by omega) (by decide)) (sz_small (by omega) (by decide))
      exact ⟨_, low6 ⟨a0, a1⟩ ⟨b0, b1⟩, fun _ => by walk_at "go"⟩
    · exact ⟨0, Bd.zero _ _, fun z => absurd z ht⟩
  obtain ⟨f, hf⟩ := Classical.skolem.mp each
  refine ⟨f, ?_, fun i => (hf i).1⟩
  unfold f__law_numbers
  refine runF_rt rfl ?_
  unfold m__law_numbers
  change Runs _ [.im (il ds), .im (.int k), .im (.int (n : Int)), .no] _
  have hi : iRange1 (xCons (xV 2) xNil) [.im (il ds), .im (.int k), .im (.int (n : Int)), .no] = .ok ((List.range n).map fun j : Nat => PyData.int (0 + (j : Int))) := by
    rw [iRange1_ok (j := (n : Int)) (by walk_at "go") (by omega) (by omega), Int.toNat_natCast]
    rfl
  have hm := lcG_all (g := bN 3) (e := xCall f__law_low (xCons (xBin dSub (xCall f__law_mix (xCons (xV 0) (xCons (xBin dAdd (xV 1) (xBin dMul (xC (.int 2)) (xV 3))) (xCons (xC (.int 13)) xNil)))) (xC (.int 6))) (xCons (xBin dAdd (xC (.int 1)) (xCall f__law_mix (xCons (xV 0) (xCons (xBin dAdd (xBin dAdd (xV 1) (xBin dMul (xC (.int 2)) (xV 3))) (xC (.int 1))) (xCons (xC (.int 3)) xNil))))) xNil))) (ε := wipeE [.im (il ds), .im (.int k), .im (.int (n : Int)), .no] [3]) (fun j : Nat => PyData.int (0 + (j : Int))) (fun j => fr (f j)) (List.range n) (fun j hj => by
    rw [List.mem_range] at hj
    exact ⟨[.im (il ds), .im (.int k), .im (.int (n : Int)), .im (.int (j : Int))], by rw [Int.zero_add]; rfl, (hf j).2 hj⟩)
  have hz := xLc_ok hi hm (by rw [List.length_map, List.length_range]; omega)
  exact runs_eq (sRt_ok (d := fl f n) hz) rfl
end My
set_option Elab.async false
set_option linter.all false
set_option maxRecDepth 100000
set_option maxHeartbeats 4000000
set_option exponentiation.threshold 1000000
namespace My
open PySem Tw
local macro_rules | `(tactic| walk_at "go") => `(tactic| repeat' (with_reducible first | exact xV_0 | exact xC_o | exact xNil_o | apply xV_n | apply xBin_o | apply xUn_o | apply xTup_o | apply xLst_o | apply xCall_o | apply xCons_o | apply tC_o | apply iSeq_o | assumption | exact dAdd_i | exact dSub_i | exact dNeg_i | exact dIx_f0 | exact dIx_f1 | exact dIx_t0 | exact dIx_t1 | exact cInt_i | exact cAbs_i | exact cGcd_o | exact dLt_i | exact dGt_i | exact dEq_int _ _ | exact dNe_int _ _))

theorem rows_ok {n : Nat} (hn : n < 6) : f__law_rows [.int (n : Int)] = .ok (rowsD n) := isR_eq (fin_rows n hn).1
theorem all_rows_ok {n : Nat} (hn : n < 6) : f_all_rows [.int (n : Int)] = .ok (rowsD n) := isR_eq (fin_rows n hn).2
theorem sign_ok {n k s : Nat} (hn : n < 6) (hk : k < 2 ^ n) (hs : s < 2 ^ n) : f_sign [il (wordL n k), rowD n s] = .ok (.int (sg n k s)) := isR_eq ((fin_sign n hn k hk).2 s hs).2
theorem law_sign_ok {n k s : Nat} (hn : n < 6) (hk : k < 2 ^ n) (hs : s < 2 ^ n) : f__law_sign [il (wordL n k), rowD n s] = .ok (.int (sg n k s)) := isR_eq ((fin_sign n hn k hk).2 s hs).1
theorem pw_le {n : Nat} (hn : n < 6) : 2 ^ n ≤ 32 := Nat.pow_le_pow_right (n := 2) (by decide) (show n ≤ 5 by omega)
theorem rowsD_len {n : Nat} : cLen [rowsD n] = .ok (.int ((2 ^ n : Nat) : Int)) := by
  unfold rowsD
  rw [cLen_l, List.length_map, List.length_range]
theorem check_factors_ok {n : Nat} (h1 : 1 ≤ n) (hn : n < 6) : f_check_factors [.int (n : Int)] = .ok .none := by
  unfold f_check_factors
  refine runF_nx rfl ?_
  unfold m_check_factors
  change Runs _ [.im (.int (n : Int))] _
  refine runs_if (b := false) ?_ (fun z => by cases z) (fun _ => runs_eq rfl ⟨_, rfl⟩)
  simp only [tNo, tC', xCh, xC, xV, gt, bind_ok, R.bind, dLe_i, boD, truD]
  rw [decide_eq_true (show (1 : Int) ≤ (n : Int) by omega)]
  simp only [if_true]
  rw [decide_eq_true (show (n : Int) ≤ 5 by omega)]
  rfl
theorem tV_o {m : Nv → R D} {ε : Nv} {b : Bool} (h : m ε = .ok (.bool b)) : tV m ε = .ok b := by
  unfold tV
  rw [h, bind_ok]
  rfl
theorem check_fractions_ok (f : Nat → Rat) {n : Nat} (hn : n ≤ 1000) : f_check_fractions [fl f n, .int (n : Int)] = .ok .none := by
  unfold f_check_fractions
  refine runF_nx rfl ?_
  unfold m_check_fractions
  change Runs _ [.im (fl f n), .im (.int (n : Int)), .no, .no] _
  have hl := fl_len f n
  refine runs_seq (runs_if (b := false) ?_ (fun z => by cases z) (fun _ => runs_eq rfl ?_))
  · exact ne_o (d := .int (n : Int)) (by walk_at "go") (by walk_at "go") rfl
  show Runs _ _ _
  refine runs_for (ds := enumG 0 ((List.range n).map fun i => fr (f i))) (fun i ε => ∃ a b, ε = [.im (fl f n), .im (.int (n : Int)), a, b]) ?_ ⟨_, _, rfl⟩ ?_ (fun ε' _ => ⟨ε', rfl⟩)
  · rfl
  · rintro i d ε hd ⟨a, b, rfl⟩
    obtain ⟨e, h1, rfl⟩ := enumG_get 0 _ i d hd
    rw [List.getElem?_map] at h1
    obtain ⟨x, hx, rfl⟩ := Option.map_eq_some_iff.mp h1
    refine ⟨[.im (fl f n), .im (.int (n : Int)), .im (.int ((0 + i : Nat) : Int)), .im (fr (f x))], rfl, ?_⟩
    refine runs_if (b := false) ?_ (fun z => by cases z) (fun _ => runs_eq rfl ⟨_, _, rfl⟩)
    have c := is_fraction_ok (f x)
    exact tNo_o (tV_o (b := true) (by walk_at "go"))
theorem check_results_ok (f : Nat → Rat) {n : Nat} (h1 : 1 ≤ n) (hn : n < 6) : f_check_results [.int (n : Int), fl f (2 ^ n)] = .ok .none := by
  have hp := pw_le hn
  unfold f_check_results
  refine runF_nx rfl ?_
  unfold m_check_results
  change Runs _ [.im (.int (n : Int)), .im (fl f (2 ^ n))] _
  have a := check_factors_ok h1 hn
  have b := check_fractions_ok f (n := 2 ^ n) (by omega)
  have c := all_rows_ok hn
  have d := rowsD_len (n := n)
  refine runs_sn (sDr_ok (d := .none) (by walk_at "go")) ?_
  exact runs_eq (sDr_ok (d := .none) (by walk_at "go")) ⟨_, rfl⟩
/-! ### one contrast -/
theorem zipG_fl (f : Nat → Rat) (n : Nat) : ∀ l : List Nat, zipG (l.map (rowD n)) (l.map fun i => fr (f i)) = l.map fun s => PyData.tuple [rowD n s, fr (f s)]
  | [] => rfl
  | a :: r => by
    show PyData.tuple [rowD n a, fr (f a)] :: zipG (r.map (rowD n)) (r.map fun i => fr (f i)) = _
    rw [zipG_fl f n r]
    rfl
theorem sg_abs : ∀ n k s, (sg n k s).natAbs = 1
  | 0, _, _ => rfl
  | n + 1, k, s => by
    show ((if k / 2 ^ n % 2 = 1 ∧ s / 2 ^ n % 2 = 1 then (-1 : Int) else 1) * sg n k s).natAbs = 1
    rw [Int.natAbs_mul, sg_abs n k s]
    split <;> rfl
theorem sg_bd (n k s : Nat) : Bd 1 1 ((sg n k s : Int) : Rat) := Bd.int 1 (by rw [sg_abs]; exact Nat.le_refl _)
structure Xs (x : Nat → Rat) : Prop where
  bd : ∀ i, Bd 18 200 (x i)
theorem Xs.sm {x : Nat → Rat} (h : Xs x) (i : Nat) : Sm 3900 (x i) := (h.bd i).sm (by decide) (Nat.lt_of_lt_of_le (by decide : 18 < 2 ^ 10) (Nat.pow_le_pow_right (by decide) (by decide))) (Nat.lt_of_lt_of_le (by decide : 200 * 18 < 2 ^ 20) (Nat.pow_le_pow_right (by decide) (by decide)))
theorem term_bd {x : Nat → Rat} (h : Xs x) (n k i : Nat) : Bd 18 200 ((sg n k i : Rat) * x i) := by
  have := (sg_bd n k i).mul (h.bd i)
  simpa using this
theorem big (a k : Nat) (h : a < 2 ^ k) (hk : k ≤ 3900) : a < 2 ^ 3900 := Nat.lt_of_lt_of_le h (Nat.pow_le_pow_right (by decide) hk)
theorem word_ok {n k : Nat} (hn : n < 6) (hk : k < 2 ^ n) : f_is_word [.int (n : Int), il (wordL n k)] = .ok (.bool true) := isR_eq (fin_sign n hn k hk).1
theorem contrast_ok {x : Nat → Rat} (h : Xs x) {n k : Nat} (h1 : 1 ≤ n) (hn : n < 6) (hk : k < 2 ^ n) : f_contrast [.int (n : Int), fl x (2 ^ n), il (wordL n k)] = .ok (fr (Cn n x k)) := by
  have hp := pw_le hn
  have hlim := lim_eq
  unfold f_contrast
  refine runF_rt rfl ?_
  unfold m_contrast
  change Runs _ [.im (.int (n : Int)), .im (fl x (2 ^ n)), .im (il (wordL n k)), .no, .no, .no] _
  have a := check_results_ok x h1 hn
  have b := word_ok hn hk
  refine runs_sn (sDr_ok (d := .none) (by walk_at "go")) ?_
  refine runs_seq (runs_if (b := false) ?_ (fun z => by cases z) (fun _ => runs_eq rfl ?_))
  · exact tNo_o (tV_o (b := true) (by walk_at "go"))
  show Runs _ _ _
  refine runs_sn (sAs_ok (d := fr (sm (fun s => (sg n k s : Rat) * x s) 0)) (by walk_at "go"; rfl)) ?_
  change Runs _ [.im (.int (n : Int)), .im (fl x (2 ^ n)), .im (il (wordL n k)), .im (fr (sm (fun s => (sg n k s : Rat) * x s) 0)), .no, .no] _
  refine runs_seq (runs_for (ds := (List.range (2 ^ n)).map fun s => PyData.tuple [rowD n s, fr (x s)]) (fun i ε => ∃ u v, ε = [.im (.int (n : Int)), .im (fl x (2 ^ n)), .im (il (wordL n k)), .im (fr (sm (fun s => (sg n k s : Rat) * x s) i)), u, v]) ?_ ⟨_, _, rfl⟩ ?_ ?_)
  · have c := all_rows_ok hn
    have e : xCons (xCall f_all_rows (xCons (xV 0) xNil)) (xCons (xV 1) xNil) [.im (.int (n : Int)), .im (fl x (2 ^ n)), .im (il (wordL n k)), .im (fr (sm (fun s => (sg n k s : Rat) * x s) 0)), .no, .no] = .ok [rowsD n, fl x (2 ^ n)] := by walk_at "go"
    unfold iZi
    rw [e, bind_ok]
    unfold rowsD fl
    show R.ok (zipG _ _) = _
    rw [zipG_fl]
  · rintro i d ε hd ⟨u, v, rfl⟩
    rw [List.getElem?_map] at hd
    obtain ⟨j, hj, rfl⟩ := Option.map_eq_some_iff.mp hd
    have hi : i < 2 ^ n := by
      have := (List.getElem?_eq_some_iff.mp hj).1
      rwa [List.length_range] at this
    rw [List.getElem?_range hi] at hj
    cases hj
    have s1 := sign_ok hn hk hi
    have s2 := times_ok (p := ((sg n k i : Int) : Rat)) (q := x i) ((sg_bd n k i).sm (by decide) (big _ 10 (by decide) (by decide)) (big _ 10 (by decide) (by decide))) (h.sm i)
    rw [fr_int] at s2
    have s3 := plus_ok (sum_dd _ 18 200 (by decide) (big _ 10 (by decide) (by decide)) (big _ 30 (by decide) (by decide)) (term_bd h n k) (n := i) (by omega)) (one_dd _ 18 200 (by decide) (big _ 10 (by decide) (by decide)) (big _ 30 (by decide) (by decide)) (term_bd h n k) i)
    exact ⟨[.im (.int (n : Int)), .im (fl x (2 ^ n)), .im (il (wordL n k)), .im (fr (sm (fun s => (sg n k s : Rat) * x s) i)), .im (rowD n i), .im (fr (x i))], rfl, runs_eq (sAs_ok (d := fr (sm (fun s => (sg n k s : Rat) * x s) (i + 1))) (by walk_at "go"; exact s3)) ⟨_, _, rfl⟩⟩
  · rintro ε' ⟨u, v, rfl⟩
    rw [List.length_map, List.length_range]
    exact runs_eq (sRt_ok (d := fr (sm (fun s => (sg n k s : Rat) * x s) (2 ^ n))) (by walk_at "go")) rfl
/-! ### all at once -/
/-- the entries when the pairs with a first place below i are done -/
def Gn (j i : Nat) (x : Nat → Rat) (m : Nat) : Rat := if (if m / 2 ^ j % 2 = 0 then m else m - 2 ^ j) < i then Fn (j + 1) x m else Fn j x m
theorem bit_set {j i : Nat} (h : i / 2 ^ j % 2 = 0) : (i + 2 ^ j) / 2 ^ j % 2 = 1 := by
  have e := Nat.add_mul_div_right i 1 (z := 2 ^ j) (Nat.pow_pos (by decide))
  rw [Nat.one_mul] at e
  rw [e]
  omega
theorem bit_room {n j i : Nat} (hj : j < n) (hi : i < 2 ^ n) (h : i / 2 ^ j % 2 = 0) : i + 2 ^ j < 2 ^ n := by
  obtain ⟨d, rfl⟩ : ∃ d, n = j + (d + 1) := ⟨n - j - 1, by omega⟩
  have p : 0 < 2 ^ j := Nat.pow_pos (by decide)
  rw [Nat.pow_add] at hi ⊢
  have q : i / 2 ^ j < 2 ^ (d + 1) := Nat.div_lt_of_lt_mul hi
  have e : 2 ^ (d + 1) = 2 * 2 ^ d := by rw [Nat.pow_succ, Nat.mul_comm]
  have q2 : i / 2 ^ j + 2 ≤ 2 ^ (d + 1) := by omega
  have m := Nat.mul_le_mul_left (2 ^ j) q2
  have dm := Nat.div_add_mod i (2 ^ j)
  have ml := Nat.mod_lt i p
  rw [Nat.mul_add] at m
  omega
theorem Fn_bd {x : Nat → Rat} (h : Xs x) : ∀ j k, Bd 18 (200 * 2 ^ j) (Fn j x k)
  | 0, k => h.bd k
  | j + 1, k => by
    have e : 200 * 2 ^ (j + 1) = 200 * 2 ^ j + 200 * 2 ^ j := by rw [Nat.pow_succ]; omega
    rw [e]
    show Bd 18 _ (if k / 2 ^ j % 2 = 0 then Fn j x k + Fn j x (k + 2 ^ j) else Fn j x (k - 2 ^ j) - Fn j x k)
    split
    · exact (Fn_bd h j _).add (Fn_bd h j _)
    · exact (Fn_bd h j _).sub (Fn_bd h j _)
theorem Fn_sm {x : Nat → Rat} (h : Xs x) {j : Nat} (hj : j < 7) (k : Nat) : Sm 39 (Fn j x k) := by
  have p : 2 ^ j ≤ 64 := Nat.pow_le_pow_right (n := 2) (by decide) (show j ≤ 6 by omega)
  exact (Fn_bd h j k).sm (by decide) (by decide) (Nat.lt_of_le_of_lt (Nat.mul_le_mul_right 18 (Nat.mul_le_mul_left 200 p)) (by decide))
theorem set_range (g g' : Nat → Rat) (n i : Nat) (h : ∀ m, m < n → m ≠ i → g m = g' m) (v : Rat) (hv : g' i = v) : (((List.range n).map fun m => fr (g m)).set i (fr v)) = (List.range n).map fun m => fr (g' m) := by
  refine List.ext_getElem? fun m => ?_
  rw [List.getElem?_set]
  by_cases hm : m < n
  · by_cases e : i = m
    · subst e
      rw [if_pos rfl, List.length_map, List.length_range, if_pos hm, List.getElem?_map, List.getElem?_range hm, ← hv]
      rfl
    · rw [if_neg e, List.getElem?_map, List.getElem?_map, List.getElem?_range hm]
      show some (fr (g m)) = some (fr (g' m))
      rw [h m hm (Ne.symm e)]
  · by_cases e : i = m
    · subst e
      rw [if_pos rfl, List.length_map, List.length_range, if_neg hm, List.getElem?_eq_none (by rw [List.length_map, List.length_range]; omega)]
    · rw [if_neg e, List.getElem?_eq_none (by rw [List.length_map, List.length_range]; omega), List.getElem?_eq_none (by rw [List.length_map, List.length_range]; omega)]
theorem Gn_zero (j : Nat) (x : Nat → Rat) (m : Nat) : Gn j 0 x m = Fn j x m := by
  unfold Gn
  rw [if_neg (Nat.not_lt_zero _)]
theorem Gn_end {n j : Nat} (x : Nat → Rat) {m : Nat} (hm : m < 2 ^ n) : Gn j (2 ^ n) x m = Fn (j + 1) x m := by
  unfold Gn
  rw [if_pos]
  split
  · exact hm
  · exact Nat.lt_of_le_of_lt (Nat.sub_le _ _) hm
theorem Gn_skip {j i : Nat} (x : Nat → Rat) (h : ¬ i / 2 ^ j % 2 = 0) (m : Nat) : Gn j (i + 1) x m = Gn j i x m := by
  unfold Gn
  have : ∀ b : Nat, b ≠ i → (b < i + 1 ↔ b < i) := fun b hb => by omega
  by_cases hm : m / 2 ^ j % 2 = 0
  · rw [if_pos hm]
    have ne : m ≠ i := fun z => h (z ▸ hm)
    simp only [this m ne]
  · rw [if_neg hm]
    have ge : 2 ^ j ≤ m := by
      by_cases q : 2 ^ j ≤ m
      · exact q
      · rw [Nat.div_eq_of_lt (by omega)] at hm
        exact absurd rfl hm
    have ne : m - 2 ^ j ≠ i := fun z => by
      have e : m = i + 2 ^ j := by omega
      have e2 := Nat.add_mul_div_right i 1 (z := 2 ^ j) (Nat.pow_pos (by decide))
      rw [Nat.one_mul] at e2
      rw [e, e2] at hm
      omega
    simp only [this _ ne]
/-- the two places that turn i sets; the others stay -/
theorem Gn_step {j i : Nat} (x : Nat → Rat) (h : i / 2 ^ j % 2 = 0) : Gn j (i + 1) x i = Fn j x i + Fn j x (i + 2 ^ j) ∧ Gn j (i + 1) x (i + 2 ^ j) = Fn j x i - Fn j x (i + 2 ^ j) ∧ Gn j i x i = Fn j x i ∧ Gn j i x (i + 2 ^ j) = Fn j x (i + 2 ^ j) ∧ ∀ m, m ≠ i → m ≠ i + 2 ^ j → Gn j (i + 1) x m = Gn j i x m := by
  have b1 := bit_set h
  have nb : ¬ (i + 2 ^ j) / 2 ^ j % 2 = 0 := by omega
  refine ⟨?_, ?_, ?_, ?_, fun m h1 h2 => ?_⟩
  · unfold Gn
    rw [if_pos h, if_pos (Nat.lt_succ_self i)]
    show (if i / 2 ^ j % 2 = 0 then _ else _) = _
    rw [if_pos h]
  · unfold Gn
    rw [if_neg nb, Nat.add_sub_cancel, if_pos (Nat.lt_succ_self i)]
    show (if (i + 2 ^ j) / 2 ^ j % 2 = 0 then _ else _) = _
    rw [if_neg nb, Nat.add_sub_cancel]
  · unfold Gn
    rw [if_pos h, if_neg (Nat.lt_irrefl i)]
  · unfold Gn
    rw [if_neg nb, Nat.add_sub_cancel, if_neg (Nat.lt_irrefl i)]
  · unfold Gn
    have : ∀ b : Nat, b ≠ i → (b < i + 1 ↔ b < i) := fun b hb => by omega
    by_cases hm : m / 2 ^ j % 2 = 0
    · rw [if_pos hm]
      simp only [this m h1]
    · rw [if_neg hm]
      have ge : 2 ^ j ≤ m := by
        by_cases q : 2 ^ j ≤ m
        · exact q
        · rw [Nat.div_eq_of_lt (by omega)] at hm
          exact absurd rfl hm
      simp only [this (m - 2 ^ j) (by omega)]
end My
set_option Elab.async false
set_option linter.all false
set_option maxRecDepth 100000
set_option maxHeartbeats 4000000
set_option exponentiation.threshold 1000000
namespace My
open PySem Tw
local macro_rules | `(tactic| walk_at "go") => `(tactic| repeat' (with_reducible first | exact xV_0 | exact xC_o | exact xNil_o | apply xV_n | apply xBin_o | apply xUn_o | apply xTup_o | apply xLst_o | apply xCall_o | apply xCons_o | apply tC_o | apply iSeq_o | assumption | exact dAdd_i | exact dSub_i | exact dNeg_i | exact dIx_f0 | exact dIx_f1 | exact dIx_t0 | exact dIx_t1 | exact cInt_i | exact cAbs_i | exact cGcd_o | exact dLt_i | exact dGt_i | exact dEq_int _ _ | exact dNe_int _ _))

theorem stl_o {j : Nat} {mi : Nv → R D} {d : D} {ε : Nv} {z : Int} {ds : List D} {n : Nat} (h : mi ε = .ok (.int z)) (g : gt ε j = .mu (.list ds)) (hn : L2.ixN ds.length z = some n) : stl j mi d ε = .ok (st ε j (.mu (.list (ds.set n d)))) := by
  unfold stl
  rw [h, bind_ok, g]
  show (match L2.ixN ds.length z with | some n => R.ok (st ε j (.mu (.list (ds.set n d)))) | none => R.bad) = _
  rw [hn]
theorem sSt2_o {j j2 : Nat} {mi mi2 me : Nv → R D} {ε ε1 ε2 : Nv} {a b : D} (h : me ε = .ok (.tuple [a, b])) (h1 : stl j mi a ε = .ok ε1) (h2 : stl j2 mi2 b ε1 = .ok ε2) : sSt2 j mi j2 mi2 me ε = .ok (.nx ε2) := by
  unfold sSt2
  rw [h, bind_ok]
  show (stl j mi a ε).bind _ = _
  rw [h1, bind_ok, h2, bind_ok]
theorem yates_ok {x : Nat → Rat} (h : Xs x) {n : Nat} (hn : n < 6) : f_yates [.int (n : Int), fl x (2 ^ n)] = .ok (fl (Fn n x) (2 ^ n)) := by
  have hp := pw_le hn
  have hp0 : 0 < 2 ^ n := Nat.pow_pos (by decide)
  have hlim := lim_eq
  unfold f_yates
  refine runF_rt rfl ?_
  unfold m_yates
  change Runs _ [.im (.int (n : Int)), .im (fl x (2 ^ n)), .no, .no, .no, .no, .no, .no] _
  refine runs_sn (sAsM_ok (d := fl (Fn 0 x) (2 ^ n)) (xCall_o (ds := [fl x (2 ^ n)]) (by walk_at "go") rfl)) ?_
  refine runs_sn (sAs_ok (d := .int ((2 ^ 0 : Nat) : Int)) (by walk_at "go"; rfl)) ?_
  change Runs _ [.im (.int (n : Int)), .im (fl x (2 ^ n)), .mu (fl (Fn 0 x) (2 ^ n)), .im (.int ((2 ^ 0 : Nat) : Int)), .no, .no, .no, .no] _
  refine runs_seq (runs_for (ds := rangeD 0 n) (fun j ε => ∃ a b c d, ε = [.im (.int (n : Int)), .im (fl x (2 ^ n)), .mu (fl (Fn j x) (2 ^ n)), .im (.int ((2 ^ j : Nat) : Int)), a, b, c, d]) ?_ ⟨_, _, _, _, rfl⟩ ?_ ?_)
  · rw [iRange1_ok (j := (n : Int)) (by walk_at "go") (by omega) (by omega), Int.toNat_natCast]
  · rintro j d ε hd ⟨a, b, c, e, rfl⟩
    obtain ⟨hj, rfl⟩ := rangeD_get hd
    have p0 : 0 < 2 ^ j := Nat.pow_pos (by decide)
    have p1 : 2 ^ j ≤ 32 := Nat.pow_le_pow_right (n := 2) (by decide) (show j ≤ 5 by omega)
    refine ⟨[.im (.int (n : Int)), .im (fl x (2 ^ n)), .mu (fl (Fn j x) (2 ^ n)), .im (.int ((2 ^ j : Nat) : Int)), .im (.int (0 + (j : Int))), b, c, e], rfl, ?_⟩
    refine runs_seq (runs_for (ds := rangeD 0 (2 ^ n)) (fun i ε => ∃ b c d, ε = [.im (.int (n : Int)), .im (fl x (2 ^ n)), .mu (fl (Gn j i x) (2 ^ n)), .im (.int ((2 ^ j : Nat) : Int)), .im (.int (0 + (j : Int))), b, c, d]) ?_ ?_ ?_ ?_)
    · have hl := fl_len (Fn j x) (2 ^ n)
      rw [iRange1_ok (j := ((2 ^ n : Nat) : Int)) (xCons_o (xTh_o (xCall_o (ds := [fl (Fn j x) (2 ^ n)]) rfl hl) rfl) xNil_o) (by omega) (by omega), Int.toNat_natCast]
    · exact ⟨b, c, e, by rw [fl_ext fun m _ => Gn_zero j x m]⟩
    · rintro i d ε hd ⟨b, c, e, rfl⟩
      obtain ⟨hi, rfl⟩ := rangeD_get hd
      refine ⟨[.im (.int (n : Int)), .im (fl x (2 ^ n)), .mu (fl (Gn j i x) (2 ^ n)), .im (.int ((2 ^ j : Nat) : Int)), .im (.int (0 + (j : Int))), .im (.int (i : Int)), c, e], by rw [Int.zero_add]; rfl, ?_⟩
      have q1 : dDiv (.int (i : Int)) (.int ((2 ^ j : Nat) : Int)) = .ok (.int ((i / 2 ^ j : Nat) : Int)) := by
        rw [dDiv_small (by omega) (by omega), ← Int.natCast_ediv]
      have q2 : dMod (.int ((i / 2 ^ j : Nat) : Int)) (.int 2) = .ok (.int ((i / 2 ^ j % 2 : Nat) : Int)) := by
        rw [dMod_ok (by decide)]
        rfl
      refine runs_if (b := decide (((i / 2 ^ j % 2 : Nat) : Int) = 0)) (by walk_at "go") (fun hb => ?_) fun hb => ?_
      · have h0 : i / 2 ^ j % 2 = 0 := by
          have := of_decide_eq_true hb
          omega
        have room := bit_room hj hi h0
        obtain ⟨g1, g2, g3, g4, g5⟩ := Gn_step x h0
        have ea : (i : Int) + ((2 ^ j : Nat) : Int) = ((i + 2 ^ j : Nat) : Int) := (Int.natCast_add _ _).symm
        have i1 := fl_ix (Gn j i x) hi
        have i2 := fl_ix (Gn j i x) room
        rw [g3] at i1
        rw [g4, ← ea] at i2
        have pq := plus_ok ((Fn_sm h (j := j) (by omega) i).mono (by decide)) ((Fn_sm h (j := j) (by omega) (i + 2 ^ j)).mono (by decide))
        have mq := minus_ok ((Fn_sm h (j := j) (by omega) i).mono (by decide)) ((Fn_sm h (j := j) (by omega) (i + 2 ^ j)).mono (by decide))
        refine runs_sn (sPr_o (a := fr (Fn j x i)) (b := fr (Fn j x (i + 2 ^ j))) (xCons_o (xIm_o rfl (by walk_at "go") i1) (xCons_o (xIm_o rfl (z := (i : Int) + ((2 ^ j : Nat) : Int)) (by walk_at "go") i2) xNil_o))) ?_
        change Runs _ [.im (.int (n : Int)), .im (fl x (2 ^ n)), .mu (fl (Gn j i x) (2 ^ n)), .im (.int ((2 ^ j : Nat) : Int)), .im (.int (0 + (j : Int))), .im (.int (i : Int)), .im (fr (Fn j x i)), .im (fr (Fn j x (i + 2 ^ j)))] _
        refine runs_eq (sSt2_o (a := fr (Fn j x i + Fn j x (i + 2 ^ j))) (b := fr (Fn j x i - Fn j x (i + 2 ^ j))) (by walk_at "go") (stl_o (z := (i : Int)) (by walk_at "go") rfl (ixN_of (by omega) (by rw [List.length_map, List.length_range]; omega)))
          (stl_o (z := (i : Int) + ((2 ^ j : Nat) : Int)) (show xBin dAdd (xV 5) (xV 3) [.im (.int (n : Int)), .im (fl x (2 ^ n)), .mu (.list (List.set ((List.range (2 ^ n)).map fun m => fr (Gn j i x m)) (i : Int).toNat (fr (Fn j x i + Fn j x (i + 2 ^ j))))), .im (.int ((2 ^ j : Nat) : Int)), .im (.int (0 + (j : Int))), .im (.int (i : Int)), .im (fr (Fn j x i)), .im (fr (Fn j x (i + 2 ^ j)))] = _ from by walk_at "go") rfl (ixN_of (by omega) (by rw [List.length_set, List.length_map, List.length_range]; omega)))) ⟨.im (.int (i : Int)), .im (fr (Fn j x i)), .im (fr (Fn j x (i + 2 ^ j))), ?_⟩
        have en : (List.set (List.set ((List.range (2 ^ n)).map fun m => fr (Gn j i x m)) (i : Int).toNat (fr (Fn j x i + Fn j x (i + 2 ^ j)))) ((i : Int) + ((2 ^ j : Nat) : Int)).toNat (fr (Fn j x i - Fn j x (i + 2 ^ j)))) = (List.range (2 ^ n)).map fun m => fr (Gn j (i + 1) x m) := by
          rw [ea, Int.toNat_natCast, Int.toNat_natCast, set_range (Gn j i x) (fun m => if m = i then Fn j x i + Fn j x (i + 2 ^ j) else Gn j i x m) (2 ^ n) i (fun m _ hm => by rw [if_neg hm]) _ (by rw [if_pos rfl])]
          refine set_range _ (Gn j (i + 1) x) (2 ^ n) (i + 2 ^ j) (fun m _ hm => ?_) _ g2
          by_cases e : m = i
          · subst e
            rw [if_pos rfl, g1]
          · rw [if_neg e, g5 m e hm]
        show [_, _, SV.mu (.list _), _, _, _, _, _] = [_, _, SV.mu (.list _), _, _, _, _, _]
        rw [en]
      · have h0 : ¬ i / 2 ^ j % 2 = 0 := by
          have := of_decide_eq_false hb
          omega
        exact runs_eq rfl ⟨_, _, _, by rw [fl_ext fun m _ => Gn_skip x h0 m]⟩
    · rintro ε' ⟨b, c, e, rfl⟩
      rw [rangeD_len]
      show Runs _ _ _
      have m2 : dMul (.int 2) (.int ((2 ^ j : Nat) : Int)) = .ok (.int ((2 ^ (j + 1) : Nat) : Int)) := by
        rw [dMul_small (by decide) (by omega), Nat.pow_succ, Nat.mul_comm, Int.natCast_mul]
        rfl
      refine runs_eq (sAs_ok (d := .int ((2 ^ (j + 1) : Nat) : Int)) (by walk_at "go")) ⟨.im (.int (0 + (j : Int))), b, c, e, ?_⟩
      rw [fl_ext fun m hm => Gn_end (n := n) (j := j) x hm]
      rfl
  · rintro ε' ⟨a, b, c, e, rfl⟩
    rw [rangeD_len]
    exact runs_eq rfl rfl
theorem all_contrasts_ok {x : Nat → Rat} (h : Xs x) {n : Nat} (h1 : 1 ≤ n) (hn : n < 6) : f_all_contrasts [.int (n : Int), fl x (2 ^ n)] = .ok (fl (Cn n x) (2 ^ n)) := by
  unfold f_all_contrasts
  refine runF_rt rfl ?_
  unfold m_all_contrasts
  change Runs _ [.im (.int (n : Int)), .im (fl x (2 ^ n))] _
  have a := check_results_ok x h1 hn
  have b := yates_ok h hn
  refine runs_sn (sDr_ok (d := .none) (by walk_at "go")) ?_
  refine runs_eq (sRt_ok (d := fl (Fn n x) (2 ^ n)) (by walk_at "go")) ?_
  rw [fl_ext fun k hk => Fn_eq n x k hk]
/-- of numbers that may be large -/
theorem results_of_ok {x : Nat → Rat} (h : Xs x) {n : Nat} (h1 : 1 ≤ n) (hn : n < 6) : f_results_of [.int (n : Int), fl x (2 ^ n)] = .ok (fl (fun k => Cn n x k / ((2 ^ n : Nat) : Rat)) (2 ^ n)) := by
  have hp := pw_le hn
  have hlim := lim_eq
  have p0 : 0 < 2 ^ n := Nat.pow_pos (by decide)
  unfold f_results_of
  refine runF_rt rfl ?_
  unfold m_results_of
  change Runs _ [.im (.int (n : Int)), .im (fl x (2 ^ n)), .no] _
  have a := check_results_ok x h1 hn
  have b := yates_ok h hn
  have c := fl_len x (2 ^ n)
  refine runs_sn (sDr_ok (d := .none) (by walk_at "go")) ?_
  have hz := xLc_ok (vs := [2]) (mi := iSeq (xCall f_yates (xCons (xV 0) (xCons (xV 1) xNil)))) (ε := [.im (.int (n : Int)), .im (fl x (2 ^ n)), .no]) (ds := (List.range (2 ^ n)).map fun k => fr (Fn n x k)) (iSeq_o (xCall_o (ds := [.int (n : Int), fl x (2 ^ n)]) (by walk_at "go") b)) (lcG_all (g := bN 2) (e := xCall f_over (xCons (xV 2) (xCons (xTup (xCons (xCall cLen (xCons (xV 1) xNil)) (xCons (xC (.int 1)) xNil))) xNil))) (fun k => fr (Fn n x k)) (fun k => fr (Fn n x k / ((2 ^ n : Nat) : Rat))) (List.range (2 ^ n)) (fun k hk => by
    refine ⟨[.im (.int (n : Int)), .im (fl x (2 ^ n)), .im (fr (Fn n x k))], rfl, ?_⟩
    have nz : ((2 ^ n : Nat) : Rat) ≠ 0 := fun z => Nat.ne_of_gt p0 (Rat.natCast_inj.mp (z.trans (rfl : (0 : Rat) = ((0 : Nat) : Rat))))
    have o := over_ok ((Fn_sm h (j := n) (by omega) k).mono (by decide)) (q := ((2 ^ n : Nat) : Rat)) (by
      have := Bd.int 1 (N := 32) (i := ((2 ^ n : Nat) : Int)) (by omega)
      exact this.sm (by decide) (big _ 10 (by decide) (by decide)) (big _ 10 (by decide) (by decide))) nz
    have e : fr ((2 ^ n : Nat) : Rat) = .tuple [.int ((2 ^ n : Nat) : Int), .int 1] := fr_int _
    rw [e] at o
    walk_at "go")) (by rw [List.length_map, List.length_range]; omega)
  have e : PyData.list ((List.range (2 ^ n)).map fun k => fr (Fn n x k / ((2 ^ n : Nat) : Rat))) = fl (fun k => Cn n x k / ((2 ^ n : Nat) : Rat)) (2 ^ n) := congrArg PyData.list (List.map_congr_left fun k hk => congrArg (fun q : Rat => fr (q / ((2 ^ n : Nat) : Rat))) (Fn_eq n x k (List.mem_range.mp hk)))
  rw [e] at hz
  exact runs_eq (sRt_ok hz) rfl
end My
set_option Elab.async false
set_option linter.all false
set_option maxRecDepth 100000
set_option maxHeartbeats 4000000
set_option exponentiation.threshold 1000000
namespace My
open PySem Tw
local macro_rules | `(tactic| walk_at "go") => `(tactic| repeat' (with_reducible first | exact xV_0 | exact xC_o | exact xNil_o | apply xV_n | apply xBin_o | apply xUn_o | apply xTup_o | apply xLst_o | apply xCall_o | apply xCons_o | apply tC_o | apply iSeq_o | assumption | exact dAdd_i | exact dSub_i | exact dNeg_i | exact dIx_f0 | exact dIx_f1 | exact dIx_t0 | exact dIx_t1 | exact cInt_i | exact cAbs_i | exact cGcd_o | exact dLt_i | exact dGt_i | exact dEq_int _ _ | exact dNe_int _ _))

theorem row_ix {n k v : Nat} (h : v < n) : dIx (rowD n k) (.int (v : Int)) = .ok (.int ((k / 2 ^ (n - 1 - v) % 2 : Nat) : Int)) := by
  refine dIx_tuple (L2.atI_nat ?_)
  unfold rowL
  rw [List.getElem?_map, List.getElem?_map, List.getElem?_range h]
  rfl
theorem fl_last (f : Nat → Rat) (k : Nat) : dIx (fl f (k + 1)) (.int (-1)) = .ok (fr (f k)) := by
  refine dIx_list ?_
  unfold L2.atI
  have e : L2.ixN ((List.range (k + 1)).map fun i => fr (f i)).length (-1) = some k := by
    rw [List.length_map, List.length_range]
    unfold L2.ixN
    rw [if_neg (by decide), if_pos (by omega)]
    congr 1
    omega
  rw [e]
  show ((List.range (k + 1)).map fun i => fr (f i))[k]? = _
  rw [List.getElem?_map, List.getElem?_range (Nat.lt_succ_self k)]
  rfl
theorem fl_app (f : Nat → Rat) (k : Nat) : ((List.range k).map fun i => fr (f i)) ++ [fr (f k)] = (List.range (k + 1)).map fun i => fr (f i) := by
  rw [List.range_succ, List.map_append]
  rfl
theorem Bd.lmul {L N : Nat} {q : Rat} (m : Nat) (h : Bd L N q) : Bd (L * m) N q := by
  obtain ⟨a, ha⟩ := h.ex
  refine ⟨⟨a * m, ?_⟩, h.le, h.ge⟩
  rw [Rat.intCast_mul, Rat.natCast_mul, ← ha, Rat.intCast_natCast]
  grind
theorem low3 {a : Int} (ha : 0 ≤ a ∧ a < 9) : Bd 3 2 (Rat.divInt (a - 4) 3) := by
  have h1 : ((3 : Nat) : Rat) = 3 := rfl
  have h2 : ((2 : Nat) : Rat) = 2 := rfl
  have i6 := Rat.intCast_le_intCast.mpr (show (-4 : Int) ≤ a - 4 by omega)
  have j6 := Rat.intCast_le_intCast.mpr (show a - 4 ≤ (4 : Int) by omega)
  have e1 : ((-4 : Int) : Rat) = -4 := rfl
  have e2 : ((4 : Int) : Rat) = 4 := rfl
  have e4 : ((3 : Int) : Rat) = 3 := rfl
  rw [Rat.divInt_eq_div]
  refine ⟨⟨a - 4, ?_⟩, ?_, ?_⟩
  · rw [h1]
    grind
  · rw [h2]
    grind
  · rw [h2]
    grind
theorem word_lc {n k : Nat} (hn : n < 6) (a0 a1 a2 a4 a5 a6 a7 a8 a10 a11 a12 a13 a14 a15 a16 : SV) :
    xLc [16] (iRange1 (xCons (xV 3) xNil)) (bN 16) (tC' (xBin dEq (xBin dIx (xV 9) (xV 16)) (xC (.int 1)))) (xV 16) [a0, a1, a2, .im (.int (n : Int)), a4, a5, a6, a7, a8, .im (rowD n k), a10, a11, a12, a13, a14, a15, a16] = .ok (il (wordL n k)) := by
  have hlim := lim_eq
  have hi : iRange1 (xCons (xV 3) xNil) [a0, a1, a2, .im (.int (n : Int)), a4, a5, a6, a7, a8, .im (rowD n k), a10, a11, a12, a13, a14, a15, a16] = .ok ((List.range n).map fun j : Nat => PyData.int (0 + (j : Int))) := by
    rw [iRange1_ok (j := (n : Int)) (by walk_at "go") (by omega) (by omega), Int.toNat_natCast]
    rfl
  have hz := xLc_ok (vs := [16]) hi (lcG_if (g := bN 16) (t := tC' (xBin dEq (xBin dIx (xV 9) (xV 16)) (xC (.int 1)))) (e := xV 16) (fun j : Nat => PyData.int (0 + (j : Int))) (fun v => k / 2 ^ (n - 1 - v) % 2 == 1) (fun v : Nat => PyData.int (v : Int)) (List.range n) (fun v hv => by
    rw [List.mem_range] at hv
    refine ⟨[a0, a1, a2, .im (.int (n : Int)), a4, a5, a6, a7, a8, .im (rowD n k), a10, a11, a12, a13, a14, a15, .im (.int (v : Int))], by rw [Int.zero_add]; rfl, ?_, fun _ => by walk_at "go"⟩
    have r := row_ix (k := k) hv
    refine (show _ = R.ok (decide (((k / 2 ^ (n - 1 - v) % 2 : Nat) : Int) = 1)) from by walk_at "go").trans ?_
    refine congrArg R.ok ?_
    rw [Bool.beq_eq_decide_eq]
    exact decide_eq_decide.mpr (by omega))) (by
      rw [List.length_map]
      have := List.length_filter_le (fun v => k / 2 ^ (n - 1 - v) % 2 == 1) (List.range n)
      rw [List.length_range] at this
      omega)
  rw [hz]
  unfold wordL il
  rw [List.map_map]
  rfl
theorem signs_lc {n k : Nat} (hn : n < 6) (hk : k < 2 ^ n) (a0 a1 a2 a3 a5 a6 a7 a8 a9 a10 a11 a12 a13 a15 a16 : SV) :
    xLc [13] (iSeq (xV 4)) (bN 13) tYe (xTup (xCons (xCall f__law_sign (xCons (xV 14) (xCons (xV 13) xNil))) (xCons (xC (.int 1)) xNil))) [a0, a1, a2, a3, .im (rowsD n), a5, a6, a7, a8, a9, a10, a11, a12, a13, .im (il (wordL n k)), a15, a16] = .ok (fl (fun s => ((sg n k s : Int) : Rat)) (2 ^ n)) := by
  have hlim := lim_eq
  have hp := pw_le hn
  exact xLc_ok (vs := [13]) (mi := iSeq (xV 4)) (ε := [a0, a1, a2, a3, .im (rowsD n), a5, a6, a7, a8, a9, a10, a11, a12, a13, .im (il (wordL n k)), a15, a16]) rfl (lcG_all (g := bN 13) (e := xTup (xCons (xCall f__law_sign (xCons (xV 14) (xCons (xV 13) xNil))) (xCons (xC (.int 1)) xNil))) (rowD n) (fun s => fr ((sg n k s : Int) : Rat)) (List.range (2 ^ n)) (fun s hs => by
    rw [List.mem_range] at hs
    refine ⟨[a0, a1, a2, a3, .im (rowsD n), a5, a6, a7, a8, a9, a10, a11, a12, .im (rowD n s), .im (il (wordL n k)), a15, a16], rfl, ?_⟩
    have r := law_sign_ok hn hk hs
    rw [fr_int]
    walk_at "go")) (by rw [List.length_map, List.length_range]; omega)
theorem both_lc (x y : Nat → Rat) (b : Rat) {n : Nat} (hn : n < 6) (hx : ∀ i, Sm 3900 (x i)) (hy : ∀ i, Sm 3900 (y i)) (hb : Sm 3900 b) (hby : ∀ i, Sm 3900 (b * y i)) (a0 a1 a2 a3 a7 a8 a9 a10 a12 a13 a14 a15 a16 : SV) :
    xLc [15] (iRange1 (xCons (xCall cLen (xCons (xV 4) xNil)) xNil)) (bN 15) tYe (xCall f__law_plus (xCons (xBin dIx (xV 5) (xV 15)) (xCons (xCall f__law_times (xCons (xV 11) (xCons (xBin dIx (xV 6) (xV 15)) xNil))) xNil))) [a0, a1, a2, a3, .im (rowsD n), .im (fl x (2 ^ n)), .im (fl y (2 ^ n)), a7, a8, a9, a10, .im (fr b), a12, a13, a14, a15, a16] = .ok (fl (fun i => x i + b * y i) (2 ^ n)) := by
  have hlim := lim_eq
  have hp := pw_le hn
  have hl := rowsD_len (n := n)
  have hi : iRange1 (xCons (xCall cLen (xCons (xV 4) xNil)) xNil) [a0, a1, a2, a3, .im (rowsD n), .im (fl x (2 ^ n)), .im (fl y (2 ^ n)), a7, a8, a9, a10, .im (fr b), a12, a13, a14, a15, a16] = .ok ((List.range (2 ^ n)).map fun j : Nat => PyData.int (0 + (j : Int))) := by
    have p0 : 0 < 2 ^ n := Nat.pow_pos (by decide)
    rw [iRange1_ok (j := ((2 ^ n : Nat) : Int)) (by walk_at "go") (by omega) (by omega), Int.toNat_natCast]
    rfl
  exact xLc_ok (vs := [15]) hi (lcG_all (g := bN 15) (e := xCall f__law_plus (xCons (xBin dIx (xV 5) (xV 15)) (xCons (xCall f__law_times (xCons (xV 11) (xCons (xBin dIx (xV 6) (xV 15)) xNil))) xNil))) (fun j : Nat => PyData.int (0 + (j : Int))) (fun j => fr (x j + b * y j)) (List.range (2 ^ n)) (fun j hj => by
    rw [List.mem_range] at hj
    refine ⟨[a0, a1, a2, a3, .im (rowsD n), .im (fl x (2 ^ n)), .im (fl y (2 ^ n)), a7, a8, a9, a10, .im (fr b), a12, a13, a14, .im (.int (j : Int)), a16], by rw [Int.zero_add]; rfl, ?_⟩
    have c1 := fl_ix x hj
    have c2 := fl_ix y hj
    have c3 := law_times_ok hb (hy j)
    have c4 := law_plus_ok (hx j) (hby j)
    walk_at "go")) (by rw [List.length_map, List.length_range]; omega)
theorem told_lc (x y : Nat → Rat) (b : Rat) {n : Nat} (hn : n < 6) (hx : ∀ i, Sm 3900 (x i)) (hy : ∀ i, Sm 3900 (y i)) (hb : Sm 3900 b) (hby : ∀ i, Sm 3900 (b * y i)) (a0 a1 a2 a3 a5 a6 a7 a8 a9 a12 a14 a15 a16 : SV) :
    xLc [15] (iRange1 (xCons (xCall cLen (xCons (xV 4) xNil)) xNil)) (bN 15) tYe (xCall f__law_plus (xCons (xIm 10 (xV 15)) (xCons (xCall f__law_times (xCons (xV 11) (xCons (xBin dIx (xV 13) (xV 15)) xNil))) xNil))) [a0, a1, a2, a3, .im (rowsD n), a5, a6, a7, a8, a9, .mu (fl x (2 ^ n)), .im (fr b), a12, .im (fl y (2 ^ n)), a14, a15, a16] = .ok (fl (fun i => x i + b * y i) (2 ^ n)) := by
  have hlim := lim_eq
  have hp := pw_le hn
  have hl := rowsD_len (n := n)
  have hi : iRange1 (xCons (xCall cLen (xCons (xV 4) xNil)) xNil) [a0, a1, a2, a3, .im (rowsD n), a5, a6, a7, a8, a9, .mu (fl x (2 ^ n)), .im (fr b), a12, .im (fl y (2 ^ n)), a14, a15, a16] = .ok ((List.range (2 ^ n)).map fun j : Nat => PyData.int (0 + (j : Int))) := by
    have p0 : 0 < 2 ^ n := Nat.pow_pos (by decide)
    rw [iRange1_ok (j := ((2 ^ n : Nat) : Int)) (by walk_at "go") (by omega) (by omega), Int.toNat_natCast]
    rfl
  exact xLc_ok (vs := [15]) hi (lcG_all (g := bN 15) (e := xCall f__law_plus (xCons (xIm 10 (xV 15)) (xCons (xCall f__law_times (xCons (xV 11) (xCons (xBin dIx (xV 13) (xV 15)) xNil))) xNil))) (fun j : Nat => PyData.int (0 + (j : Int))) (fun j => fr (x j + b * y j)) (List.range (2 ^ n)) (fun j hj => by
    rw [List.mem_range] at hj
    refine ⟨[a0, a1, a2, a3, .im (rowsD n), a5, a6, a7, a8, a9, .mu (fl x (2 ^ n)), .im (fr b), a12, .im (fl y (2 ^ n)), a14, .im (.int (j : Int)), a16], by rw [Int.zero_add]; rfl, ?_⟩
    have c1 := fl_ix x hj
    have c2 := fl_ix y hj
    have c3 := law_times_ok hb (hy j)
    have c4 := law_plus_ok (hx j) (hby j)
    refine xCall_o (xCons_o (xIm_o rfl (by walk_at "go") c1) (by walk_at "go")) c4)) (by rw [List.length_map, List.length_range]; omega)
theorem Cn_bd {x : Nat → Rat} (h : ∀ i, Bd 6 6 (x i)) {n : Nat} (hn : n < 6) (k : Nat) : Bd 18 200 (Cn n x k) := by
  have hp := pw_le hn
  have a := Bd.sm_ (L := 6) (N := 6) (f := fun s => (sg n k s : Rat) * x s) (fun i => by
    have := (sg_bd n k i).mul (h i)
    simpa using this) (2 ^ n)
  exact (Bd.lmul 3 a).mono (by omega)
end My
set_option Elab.async false
set_option linter.all false
set_option maxRecDepth 100000
set_option maxHeartbeats 4000000
set_option exponentiation.threshold 1000000
namespace My
open PySem Tw
local macro_rules | `(tactic| walk_at "go") => `(tactic| repeat' (with_reducible first | exact xV_0 | exact xC_o | exact xNil_o | apply xV_n | apply xBin_o | apply xUn_o | apply xTup_o | apply xLst_o | apply xCall_o | apply xCons_o | apply tC_o | apply iSeq_o | assumption | exact dAdd_i | exact dSub_i | exact dNeg_i | exact dIx_f0 | exact dIx_f1 | exact dIx_t0 | exact dIx_t1 | exact cInt_i | exact cAbs_i | exact cGcd_o | exact dLt_i | exact dGt_i | exact dEq_int _ _ | exact dNe_int _ _))

theorem sm30 {L N : Nat} {q : Rat} (h : Bd L N q) (hL : 0 < L) (h1 : L < 2 ^ 30) (h2 : N * L < 2 ^ 39) : Sm 39 q := h.sm hL (Nat.lt_of_lt_of_le h1 (Nat.pow_le_pow_right (by decide) (by decide))) h2
theorem sm39 {L N : Nat} {q : Rat} (h : Bd L N q) (hL : 0 < L) (h1 : L < 2 ^ 30) (h2 : N * L < 2 ^ 39) : Sm 3900 q := (sm30 h hL h1 h2).mono (by decide)
theorem turn_body {ds : List Int} (h : DrawsOk ds) {i : Nat} (hi : i < 2) (s a3 a4 a5 a6 a7 a8 a9 a10 a11 a12 a13 a14 a15 a16 : SV) : Runs
  (sSeq (sAs 3 (xBin dAdd (xC (.int 1)) (xCall f__law_mix (xCons (xV 1) (xCons (xV 2) (xCons (xC (.int 5)) xNil))))))
    (sSeq (sAs 4 (xCall f__law_rows (xCons (xV 3) xNil)))
    (sSeq (sAs 5 (xCall f__law_numbers (xCons (xV 1) (xCons (xBin dAdd (xC (.int 10)) (xBin dMul (xC (.int 140)) (xV 2))) (xCons (xCall cLen (xCons (xV 4) xNil)) xNil)))))
    (sSeq (sAs 6 (xCall f__law_numbers (xCons (xV 1) (xCons (xBin dAdd (xC (.int 80)) (xBin dMul (xC (.int 140)) (xV 2))) (xCons (xCall cLen (xCons (xV 4) xNil)) xNil)))))
    (sSeq (sAs 7 (xCall cRepr (xCons (xTup (xCons (xV 5) (xCons (xV 6) xNil))) xNil)))
    (sSeq (sAsM 8 (xLst xNil))
    (sSeq (sFor (iSeq (xV 4)) (bN 9)
    (sSeq (sAs 14 (xLc [16] (iRange1 (xCons (xV 3) xNil)) (bN 16) (tC' (xBin dEq (xBin dIx (xV 9) (xV 16)) (xC (.int 1)))) (xV 16)))
      (sSeq (sAp 8 (xCall f__law_sum (xCons (xLc [13] (iSeq (xV 4)) (bN 13) tYe (xTup (xCons (xCall f__law_sign (xCons (xV 14) (xCons (xV 13) xNil))) (xCons (xC (.int 1)) xNil)))) (xCons (xV 5) xNil))))
      (sIf (tAn (tTh (tC' (xBin dEq (xCall f__law_mix (xCons (xV 1) (xCons (xBin dAdd (xC (.int 300)) (xCall cLen (xCons (xV 8) xNil))) (xCons (xC (.int 4)) xNil)))) (xC (.int 0))))) (tC' (xBin dNe (xCall cRepr (xCons (xCall f_contrast (xCons (xV 3) (xCons (xV 5) (xCons (xV 14) xNil)))) xNil)) (xCall cRepr (xCons (xIm 8 (xUn dNeg (xC (.int 1)))) xNil)))))
      (sRt (xC (.bool false)))
      sNil))))
    (sSeq (sFz 8) (sSeq (sAsM 10 (xCall f_all_contrasts (xCons (xV 3) (xCons (xV 5) xNil))))
    (sSeq (sIf (tOrr (tTh (tC' (xBin dNe (xCall cRepr (xCons (xV 10) xNil)) (xCall cRepr (xCons (xV 8) xNil))))) (tTh (tC' (xBin dNe (xCall cRepr (xCons (xCall f_results_of (xCons (xV 3) (xCons (xV 10) xNil))) xNil)) (xCall cRepr (xCons (xV 5) xNil))))))
    (sRt (xC (.bool false)))
    sNil)
    (sSeq (sIf (tTh (tC' (xBin dNe (xCall f__law_sum (xCons (xV 10) (xCons (xV 10) xNil))) (xCall f__law_times (xCons (xTup (xCons (xCall cLen (xCons (xV 4) xNil)) (xCons (xC (.int 1)) xNil))) (xCons (xCall f__law_sum (xCons (xV 5) (xCons (xV 5) xNil))) xNil))))))
    (sRt (xC (.bool false)))
    sNil)
    (sSeq (sAs 11 (xCall f__law_low (xCons (xBin dSub (xCall f__law_mix (xCons (xV 1) (xCons (xBin dAdd (xC (.int 340)) (xV 2)) (xCons (xC (.int 9)) xNil)))) (xC (.int 4))) (xCons (xC (.int 3)) xNil))))
    (sSeq (sAs 12 (xLc [15] (iRange1 (xCons (xCall cLen (xCons (xV 4) xNil)) xNil)) (bN 15) tYe (xCall f__law_plus (xCons (xBin dIx (xV 5) (xV 15)) (xCons (xCall f__law_times (xCons (xV 11) (xCons (xBin dIx (xV 6) (xV 15)) xNil))) xNil)))))
    (sSeq (sAs 13 (xCall f_all_contrasts (xCons (xV 3) (xCons (xV 6) xNil))))
    (sSeq (sIf (tC' (xBin dNe (xCall f_all_contrasts (xCons (xV 3) (xCons (xV 12) xNil))) (xLc [15] (iRange1 (xCons (xCall cLen (xCons (xV 4) xNil)) xNil)) (bN 15) tYe (xCall f__law_plus (xCons (xIm 10 (xV 15)) (xCons (xCall f__law_times (xCons (xV 11) (xCons (xBin dIx (xV 13) (xV 15)) xNil))) xNil))))))
    (sRt (xC (.bool false)))
    sNil)
    (sSeq (sAp 10 (xTup (xCons (xC (.int 0)) (xCons (xC (.int 1)) xNil))))
    (sIf (tOrr (tC' (xBin dNe (xCall cRepr (xCons (xCall f_all_contrasts (xCons (xV 3) (xCons (xV 5) xNil))) xNil)) (xCall cRepr (xCons (xV 8) xNil)))) (tC' (xBin dNe (xCall cRepr (xCons (xTup (xCons (xV 5) (xCons (xV 6) xNil))) xNil)) (xV 7))))
    (sRt (xC (.bool false)))
    sNil)))))))))))))))))
  [s, .im (il ds), .im (.int (i : Int)), a3, a4, a5, a6, a7, a8, a9, a10, a11, a12, a13, a14, a15, a16]
  fun fl => ∃ a3 a4 a5 a6 a7 a8 a9 a10 a11 a12 a13 a14 a15 a16, fl = .nx [s, .im (il ds), .im (.int (i : Int)), a3, a4, a5, a6, a7, a8, a9, a10, a11, a12, a13, a14, a15, a16] := by
  have hlim := lim_eq
  obtain ⟨r, hr, r0, r1⟩ := mix_ok h (k := (i : Int)) (many := 5) (by omega) (by omega) (by decide)
  obtain ⟨n, en⟩ : ∃ n : Nat, (n : Int) = 1 + r := ⟨(1 + r).toNat, by omega⟩
  have hn1 : 1 ≤ n := by omega
  have hn : n < 6 := by omega
  have hp := pw_le hn
  have p0 : 0 < 2 ^ n := Nat.pow_pos (by decide)
  obtain ⟨x, hx, bx⟩ := numbers_ok h (k := 10 + 140 * (i : Int)) (by omega) (by omega) (n := 2 ^ n) (by omega)
  obtain ⟨y, hy, bY⟩ := numbers_ok h (k := 80 + 140 * (i : Int)) (by omega) (by omega) (n := 2 ^ n) (by omega)
  have X : Xs x := ⟨fun i => (Bd.lmul 3 (bx i)).mono (by decide)⟩
  have Y : Xs y := ⟨fun i => (Bd.lmul 3 (bY i)).mono (by decide)⟩
  have CX : Xs (Cn n x) := ⟨Cn_bd bx hn⟩
  have CY : Xs (Cn n y) := ⟨Cn_bd bY hn⟩
  have x39 : ∀ {z : Nat → Rat}, Xs z → ∀ i, Sm 39 (z i) := fun Z i => (Z.bd i).sm (by decide) (by decide) (by decide)
  have m140 : dMul (.int 140) (.int (i : Int)) = .ok (.int (140 * (i : Int))) := dMul_small (by decide) (by omega)
  have rl := rowsD_len (n := n)
  refine runs_sn (sAs_ok (d := .int (n : Int)) ?_) ?_
  · as_aux_lemma =>
      rw [en]
      walk_at "go"
  change Runs _ [s, .im (il ds), .im (.int (i : Int)), .im (.int (n : Int)), a4, a5, a6, a7, a8, a9, a10, a11, a12, a13, a14, a15, a16] _
  have rw1 := rows_ok hn
  refine runs_sn (sAs_ok (d := rowsD n) (by walk_at "go")) ?_
  change Runs _ [s, .im (il ds), .im (.int (i : Int)), .im (.int (n : Int)), .im (rowsD n), a5, a6, a7, a8, a9, a10, a11, a12, a13, a14, a15, a16] _
  refine runs_sn (sAs_ok (d := fl x (2 ^ n)) (by walk_at "go")) ?_
  change Runs _ [s, .im (il ds), .im (.int (i : Int)), .im (.int (n : Int)), .im (rowsD n), .im (fl x (2 ^ n)), a6, a7, a8, a9, a10, a11, a12, a13, a14, a15, a16] _
  refine runs_sn (sAs_ok (d := fl y (2 ^ n)) (by walk_at "go")) ?_
  change Runs _ [s, .im (il ds), .im (.int (i : Int)), .im (.int (n : Int)), .im (rowsD n), .im (fl x (2 ^ n)), .im (fl y (2 ^ n)), a7, a8, a9, a10, a11, a12, a13, a14, a15, a16] _
  have rk := cRepr_fl2 (n := 2 ^ n) (fun i _ => x39 X i) (fun i _ => x39 Y i) (by omega)
  refine runs_sn (sAs_ok (d := .str (PyData.tuple [fl x (2 ^ n), fl y (2 ^ n)]).shown) (by walk_at "go")) ?_
  obtain ⟨kept, hkept⟩ : ∃ k, k = PyData.str (PyData.tuple [fl x (2 ^ n), fl y (2 ^ n)]).shown := ⟨_, rfl⟩
  rw [← hkept] at rk ⊢
  change Runs _ [s, .im (il ds), .im (.int (i : Int)), .im (.int (n : Int)), .im (rowsD n), .im (fl x (2 ^ n)), .im (fl y (2 ^ n)), .im kept, a8, a9, a10, a11, a12, a13, a14, a15, a16] _
  refine runs_sn (sAsM_ok (d := fl (Cn n x) 0) (by walk_at "go"; rfl)) ?_
  change Runs _ [s, .im (il ds), .im (.int (i : Int)), .im (.int (n : Int)), .im (rowsD n), .im (fl x (2 ^ n)), .im (fl y (2 ^ n)), .im kept, .mu (fl (Cn n x) 0), a9, a10, a11, a12, a13, a14, a15, a16] _
  refine runs_seq (runs_for (ds := (List.range (2 ^ n)).map (rowD n)) (fun k ε => ∃ a9 a14, ε = [s, .im (il ds), .im (.int (i : Int)), .im (.int (n : Int)), .im (rowsD n), .im (fl x (2 ^ n)), .im (fl y (2 ^ n)), .im kept, .mu (fl (Cn n x) k), a9, a10, a11, a12, a13, a14, a15, a16]) rfl ⟨_, _, rfl⟩ ?_ ?_)
  · rintro k d ε hd ⟨a9, a14, rfl⟩
    rw [List.getElem?_map] at hd
    obtain ⟨j, hj, rfl⟩ := Option.map_eq_some_iff.mp hd
    have hk : k < 2 ^ n := by
      have := (List.getElem?_eq_some_iff.mp hj).1
      rwa [List.length_range] at this
    rw [List.getElem?_range hk] at hj
    cases hj
    refine ⟨[s, .im (il ds), .im (.int (i : Int)), .im (.int (n : Int)), .im (rowsD n), .im (fl x (2 ^ n)), .im (fl y (2 ^ n)), .im kept, .mu (fl (Cn n x) k), .im (rowD n k), a10, a11, a12, a13, a14, a15, a16], rfl, ?_⟩
    refine runs_sn (sAs_ok (word_lc hn _ _ _ _ _ _ _ _ _ _ _ _ _ _ _)) ?_
    change Runs _ [s, .im (il ds), .im (.int (i : Int)), .im (.int (n : Int)), .im (rowsD n), .im (fl x (2 ^ n)), .im (fl y (2 ^ n)), .im kept, .mu (fl (Cn n x) k), .im (rowD n k), a10, a11, a12, a13, .im (il (wordL n k)), a15, a16] _
    have hs := law_sum_ok (fun s => ((sg n k s : Int) : Rat)) x 1 1 6 6 (by decide) (big _ 10 (by decide) (by decide)) (big _ 30 (by decide) (by decide)) (sg_bd n k) bx (fun i => sm39 (sg_bd n k i) (by decide) (by decide) (by decide)) X.sm (n := 2 ^ n) (by omega)
    refine runs_sn (sAp_ok (d := fr (Cn n x k)) (ds := (List.range k).map fun i => fr (Cn n x i)) (xCall_o (xCons_o (signs_lc hn hk _ _ _ _ _ _ _ _ _ _ _ _ _ _ _) (by walk_at "go")) hs) rfl (by rw [List.length_map, List.length_range]; omega)) ?_
    rw [fl_app]
    change Runs _ [s, .im (il ds), .im (.int (i : Int)), .im (.int (n : Int)), .im (rowsD n), .im (fl x (2 ^ n)), .im (fl y (2 ^ n)), .im kept, .mu (fl (Cn n x) (k + 1)), .im (rowD n k), a10, a11, a12, a13, .im (il (wordL n k)), a15, a16] _
    obtain ⟨q, hq, q0, q1⟩ := mix_ok h (k := 300 + ((k + 1 : Nat) : Int)) (many := 4) (by omega) (by omega) (by decide)
    have ll := fl_len (Cn n x) (k + 1)
    have t1 : tTh (tC' (xBin dEq (xCall f__law_mix (xCons (xV 1) (xCons (xBin dAdd (xC (.int 300)) (xCall cLen (xCons (xV 8) xNil))) (xCons (xC (.int 4)) xNil)))) (xC (.int 0)))) [s, .im (il ds), .im (.int (i : Int)), .im (.int (n : Int)), .im (rowsD n), .im (fl x (2 ^ n)), .im (fl y (2 ^ n)), .im kept, .mu (fl (Cn n x) (k + 1)), .im (rowD n k), a10, a11, a12, a13, .im (il (wordL n k)), a15, a16] = .ok (decide (q = 0)) := by
      refine tTh_o ?_
      refine tC_o (xBin_o (xCall_o (ds := [il ds, .int (300 + ((k + 1 : Nat) : Int)), .int 4]) ?_ hq) xC_o (dEq_int _ _))
      refine xCons_o rfl (xCons_o (xBin_o xC_o (xCall_o (ds := [fl (Cn n x) (k + 1)]) rfl ll) dAdd_i) (xCons_o xC_o xNil_o))
    refine runs_if (b := false) ?_ (fun z => by cases z) (fun _ => runs_eq rfl ⟨_, _, rfl⟩)
    by_cases hq0 : q = 0
    · rw [decide_eq_true hq0] at t1
      have c1 := contrast_ok X hn1 hn hk
      have c2 := cRepr_fr (x39 CX k)
      exact tAn_2 t1 (ne_o (d := .str (fr (Cn n x k)).shown) (by walk_at "go") (xCall_o (xCons_o (xIm_o rfl (z := -1) (by walk_at "go") (fl_last (Cn n x) k)) xNil_o) c2) rfl)
    · rw [decide_eq_false hq0] at t1
      exact tAn_f t1
  rintro ε' ⟨a9, a14, rfl⟩
  rw [List.length_map, List.length_range]
  show Runs _ _ _
  refine runs_sn (ε' := [s, .im (il ds), .im (.int (i : Int)), .im (.int (n : Int)), .im (rowsD n), .im (fl x (2 ^ n)), .im (fl y (2 ^ n)), .im kept, .im (fl (Cn n x) (2 ^ n)), a9, a10, a11, a12, a13, a14, a15, a16]) rfl ?_
  have ac := all_contrasts_ok X hn1 hn
  refine runs_sn (sAsM_ok (d := fl (Cn n x) (2 ^ n)) (by walk_at "go")) ?_
  change Runs _ [s, .im (il ds), .im (.int (i : Int)), .im (.int (n : Int)), .im (rowsD n), .im (fl x (2 ^ n)), .im (fl y (2 ^ n)), .im kept, .im (fl (Cn n x) (2 ^ n)), a9, .mu (fl (Cn n x) (2 ^ n)), a11, a12, a13, a14, a15, a16] _
  have rd := cRepr_fl (f := Cn n x) (n := 2 ^ n) (fun i _ => x39 CX i) (by omega)
  have rx := cRepr_fl (f := x) (n := 2 ^ n) (fun i _ => x39 X i) (by omega)
  have ro := results_of_ok CX hn1 hn
  have nz : ((2 ^ n : Nat) : Rat) ≠ 0 := fun z => Nat.ne_of_gt p0 (Rat.natCast_inj.mp (z.trans (rfl : (0 : Rat) = ((0 : Nat) : Rat))))
  rw [fl_ext (f := fun k => Cn n (Cn n x) k / ((2 ^ n : Nat) : Rat)) (g := x) fun k hk => by
    show Cn n (Cn n x) k / ((2 ^ n : Nat) : Rat) = x k
    rw [Cn_twice n x k hk]
    grind] at ro
  refine runs_seq (runs_if (b := false) ?_ (fun z => by cases z) (fun _ => runs_eq rfl ?_))
  · as_aux_lemma =>
      refine tOrr_o (tTh_o ?_) (tTh_o ?_)
      · show tC' _ [_, _, _, _, _, _, _, _, .im (fl (Cn n x) (2 ^ n)), _, .im (fl (Cn n x) (2 ^ n)), _, _, _, _, _, _] = _
        exact ne_o (d := .str (fl (Cn n x) (2 ^ n)).shown) (by walk_at "go") (by walk_at "go") rfl
      · show tC' _ [_, _, _, .im (.int (n : Int)), _, .im (fl x (2 ^ n)), _, _, _, _, .im (fl (Cn n x) (2 ^ n)), _, _, _, _, _, _] = _
        exact ne_o (d := .str (fl x (2 ^ n)).shown) (by walk_at "go") (by walk_at "go") rfl
  show Runs _ _ _
  have s1 := law_sum_ok (Cn n x) (Cn n x) 18 200 200 18 (by decide) (big _ 10 (by decide) (by decide)) (big _ 40 (by decide) (by decide)) CX.bd CX.bd CX.sm CX.sm (n := 2 ^ n) (by omega)
  have s2 := law_sum_ok x x 6 6 6 6 (by decide) (big _ 10 (by decide) (by decide)) (big _ 40 (by decide) (by decide)) bx bx X.sm X.sm (n := 2 ^ n) (by omega)
  have s3 := law_times_ok (p := ((2 ^ n : Nat) : Rat)) (q := sm (fun i => x i * x i) (2 ^ n)) (by
      have := Bd.int 1 (N := 32) (i := ((2 ^ n : Nat) : Int)) (by omega)
      exact this.sm (by decide) (big _ 10 (by decide) (by decide)) (big _ 10 (by decide) (by decide)))
    (sum_dd _ (6 * 6) (6 * 6) (by decide) (big _ 10 (by decide) (by decide)) (big _ 40 (by decide) (by decide)) (fun i => (bx i).mul (bx i)) (n := 2 ^ n) (by omega))
  rw [← Cn_sq, show fr ((2 ^ n : Nat) : Rat) = .tuple [.int ((2 ^ n : Nat) : Int), .int 1] from fr_int _] at s3
  refine runs_seq (runs_if (b := false) ?_ (fun z => by cases z) (fun _ => runs_eq rfl ?_))
  · as_aux_lemma =>
      refine tTh_o ?_
      show tC' _ [_, _, _, .im (.int (n : Int)), .im (rowsD n), .im (fl x (2 ^ n)), _, _, _, _, .im (fl (Cn n x) (2 ^ n)), _, _, _, _, _, _] = _
      exact ne_o (d := fr (sm (fun i => Cn n x i * Cn n x i) (2 ^ n))) (by walk_at "go") (by walk_at "go") rfl
  show Runs _ _ _
  obtain ⟨q, hq, q0, q1⟩ := mix_ok h (k := 340 + (i : Int)) (many := 9) (by omega) (by omega) (by decide)
  have lb := law_low_ok (n := q - 4) (d := 3) (by decide) (sz_small (by omega) (by decide)) (sz_small (by decide) (by decide))
  have bb := low3 (a := q) ⟨q0, q1⟩
  obtain ⟨b, eb⟩ : ∃ b, b = Rat.divInt (q - 4) 3 := ⟨_, rfl⟩
  rw [← eb] at lb bb
  refine runs_sn (sAs_ok (d := fr b) (by walk_at "go")) ?_
  change Runs _ [s, .im (il ds), .im (.int (i : Int)), .im (.int (n : Int)), .im (rowsD n), .im (fl x (2 ^ n)), .im (fl y (2 ^ n)), .im kept, .im (fl (Cn n x) (2 ^ n)), a9, .mu (fl (Cn n x) (2 ^ n)), .im (fr b), a12, a13, a14, a15, a16] _
  have sb : Sm 3900 b := sm39 bb (by decide) (by decide) (by decide)
  have BY : Xs (fun i => x i + b * y i) := ⟨fun i => ((Bd.lmul 3 (bx i)).add (bb.mul (bY i))).mono (by decide)⟩
  refine runs_sn (sAs_ok (both_lc x y b hn X.sm Y.sm sb (fun i => sm39 (bb.mul (bY i)) (by decide) (by decide) (by decide)) _ _ _ _ _ _ _ _ _ _ _ _ _)) ?_
  change Runs _ [s, .im (il ds), .im (.int (i : Int)), .im (.int (n : Int)), .im (rowsD n), .im (fl x (2 ^ n)), .im (fl y (2 ^ n)), .im kept, .im (fl (Cn n x) (2 ^ n)), a9, .mu (fl (Cn n x) (2 ^ n)), .im (fr b), .im (fl (fun i => x i + b * y i) (2 ^ n)), a13, a14, a15, a16] _
  have ay := all_contrasts_ok Y hn1 hn
  refine runs_sn (sAs_ok (d := fl (Cn n y) (2 ^ n)) (by walk_at "go")) ?_
  change Runs _ [s, .im (il ds), .im (.int (i : Int)), .im (.int (n : Int)), .im (rowsD n), .im (fl x (2 ^ n)), .im (fl y (2 ^ n)), .im kept, .im (fl (Cn n x) (2 ^ n)), a9, .mu (fl (Cn n x) (2 ^ n)), .im (fr b), .im (fl (fun i => x i + b * y i) (2 ^ n)), .im (fl (Cn n y) (2 ^ n)), a14, a15, a16] _
  have aB := all_contrasts_ok BY hn1 hn
  rw [fl_ext (f := Cn n fun i => x i + b * y i) (g := fun k => Cn n x k + b * Cn n y k) fun k hk => by rw [Cn_add n x (fun i => b * y i), Cn_smul]] at aB
  refine runs_seq (runs_if (b := false) ?_ (fun z => by cases z) (fun _ => runs_eq rfl ?_))
  · exact ne_o (d := fl (fun k => Cn n x k + b * Cn n y k) (2 ^ n)) (xCall_o (ds := [.int (n : Int), fl (fun i => x i + b * y i) (2 ^ n)]) (by walk_at "go") aB) (told_lc (Cn n x) (Cn n y) b hn CX.sm CY.sm sb (fun i => sm39 (bb.mul (CY.bd i)) (by decide) (by decide) (by decide)) _ _ _ _ _ _ _ _ _ _ _ _ _) (okd_fl _ _).1
  show Runs _ _ _
  refine runs_sn (sAp_ok (d := .tuple [.int 0, .int 1]) (ds := (List.range (2 ^ n)).map fun i => fr (Cn n x i)) (by walk_at "go") rfl (by rw [List.length_map, List.length_range]; omega)) ?_
  obtain ⟨x10, hx10⟩ : ∃ z, z = SV.mu (.list ((List.range (2 ^ n)).map (fun i => fr (Cn n x i)) ++ [.tuple [.int 0, .int 1]])) := ⟨_, rfl⟩
  rw [← hx10]
  change Runs _ [s, .im (il ds), .im (.int (i : Int)), .im (.int (n : Int)), .im (rowsD n), .im (fl x (2 ^ n)), .im (fl y (2 ^ n)), .im kept, .im (fl (Cn n x) (2 ^ n)), a9, x10, .im (fr b), .im (fl (fun i => x i + b * y i) (2 ^ n)), .im (fl (Cn n y) (2 ^ n)), a14, a15, a16] _
  refine runs_if (b := false) ?_ (fun z => by cases z) (fun _ => runs_eq rfl ⟨_, _, _, _, _, _, _, _, _, _, _, _, _, _, rfl⟩)
  refine tOrr_o (ne_o (d := .str (fl (Cn n x) (2 ^ n)).shown) (by walk_at "go") (by walk_at "go") rfl) (ne_o (d := kept) (by walk_at "go") (by walk_at "go") ?_)
  rw [hkept]
  rfl
theorem law_true (ns : List Int) (hn : ns.length ≤ 63) : f_law [.list (ns.map PyData.int)] = .ok (.bool true) := by
  obtain ⟨ds, hds, h⟩ := draws_ok hn
  unfold f_law
  refine runF_rt rfl ?_
  unfold m_law
  change Runs _ [.im (il ns), .no, .no, .no, .no, .no, .no, .no, .no, .no, .no, .no, .no, .no, .no, .no, .no] _
  refine runs_sn (sAs_ok (xCall_o (ds := [il ns]) (by walk_at "go") hds)) ?_
  change Runs _ [.im (il ns), .im (il ds), .no, .no, .no, .no, .no, .no, .no, .no, .no, .no, .no, .no, .no, .no, .no] _
  refine runs_seq (runs_for (ds := rangeD 0 2) (fun _ ε => ∃ a2 a3 a4 a5 a6 a7 a8 a9 a10 a11 a12 a13 a14 a15 a16, ε = [.im (il ns), .im (il ds), a2, a3, a4, a5, a6, a7, a8, a9, a10, a11, a12, a13, a14, a15, a16]) ?_ ⟨_, _, _, _, _, _, _, _, _, _, _, _, _, _, _, rfl⟩ ?_ ?_)
  · rw [iRange1_ok (j := 2) (by walk_at "go") (by decide) (by decide)]
    rfl
  · rintro i d ε hd ⟨a2, a3, a4, a5, a6, a7, a8, a9, a10, a11, a12, a13, a14, a15, a16, rfl⟩
    obtain ⟨hi, rfl⟩ := rangeD_get hd
    refine ⟨[.im (il ns), .im (il ds), .im (.int (i : Int)), a3, a4, a5, a6, a7, a8, a9, a10, a11, a12, a13, a14, a15, a16], by simp only [Int.zero_add]; rfl, ?_⟩
    refine Runs.mono (turn_body h hi _ _ _ _ _ _ _ _ _ _ _ _ _ _ _) ?_
    rintro fl ⟨b3, b4, b5, b6, b7, b8, b9, b10, b11, b12, b13, b14, b15, b16, rfl⟩
    exact ⟨_, _, _, _, _, _, _, _, _, _, _, _, _, _, _, rfl⟩
  rintro ε' ⟨a2, a3, a4, a5, a6, a7, a8, a9, a10, a11, a12, a13, a14, a15, a16, rfl⟩
  show Runs _ _ _
  exact runs_eq (sRt_ok (d := .bool true) (by walk_at "go")) rfl
end My
set_option Elab.async false
set_option linter.all false
set_option maxRecDepth 100000
set_option maxHeartbeats 4000000
/-! the text's defs are these programs -/
namespace My
open PySem PySem.Spec PyProof.Rows L2 Tw
def topS (i : Nat) : Stmt := PySem.Challenge.pw_triedwares_k25_whole_contrasts_at_once.main.body.getD i (.Pass ⟨0, 0, 0, 0⟩)
abbrev s_is_word : Stmt := topS 8
theorem sc_is_word : FnScope ["factors", "word", "one", "two"] ["factors", "word"] (defScope s_is_word) := ⟨rfl, rfl, rfl, by decide +kernel, rfl, by decide +kernel, by decide +kernel⟩
abbrev s_is_even : Stmt := topS 9
theorem sc_is_even : FnScope ["word", "run", "factor"] ["word", "run"] (defScope s_is_even) := ⟨rfl, rfl, rfl, by decide +kernel, rfl, by decide +kernel, by decide +kernel⟩
abbrev s_sign : Stmt := topS 10
theorem sc_sign : FnScope ["word", "run"] ["word", "run"] (defScope s_sign) := ⟨rfl, rfl, rfl, by decide +kernel, rfl, by decide +kernel, by decide +kernel⟩
abbrev s_all_rows : Stmt := topS 11
theorem sc_all_rows : FnScope ["factors", "found", "_", "told", "level"] ["factors"] (defScope s_all_rows) := ⟨rfl, rfl, rfl, by decide +kernel, rfl, by decide +kernel, by decide +kernel⟩
abbrev s_is_fraction : Stmt := topS 13
theorem sc_is_fraction : FnScope ["told"] ["told"] (defScope s_is_fraction) := ⟨rfl, rfl, rfl, by decide +kernel, rfl, by decide +kernel, by decide +kernel⟩
abbrev s_fraction : Stmt := topS 14
theorem sc_fraction : FnScope ["number", "by", "common"] ["number", "by"] (defScope s_fraction) := ⟨rfl, rfl, rfl, by decide +kernel, rfl, by decide +kernel, by decide +kernel⟩
abbrev s_plus : Stmt := topS 15
theorem sc_plus : FnScope ["one", "two"] ["one", "two"] (defScope s_plus) := ⟨rfl, rfl, rfl, by decide +kernel, rfl, by decide +kernel, by decide +kernel⟩
abbrev s_minus : Stmt := topS 16
theorem sc_minus : FnScope ["one", "two"] ["one", "two"] (defScope s_minus) := ⟨rfl, rfl, rfl, by decide +kernel, rfl, by decide +kernel, by decide +kernel⟩
abbrev s_times : Stmt := topS 17
theorem sc_times : FnScope ["one", "two"] ["one", "two"] (defScope s_times) := ⟨rfl, rfl, rfl, by decide +kernel, rfl, by decide +kernel, by decide +kernel⟩
abbrev s_over : Stmt := topS 18
theorem sc_over : FnScope ["one", "two"] ["one", "two"] (defScope s_over) := ⟨rfl, rfl, rfl, by decide +kernel, rfl, by decide +kernel, by decide +kernel⟩
abbrev s_check_factors : Stmt := topS 21
theorem sc_check_factors : FnScope ["factors"] ["factors"] (defScope s_check_factors) := ⟨rfl, rfl, rfl, by decide +kernel, rfl, by decide +kernel, by decide +kernel⟩
abbrev s_check_fractions : Stmt := topS 22
theorem sc_check_fractions : FnScope ["told", "many", "k", "one"] ["told", "many"] (defScope s_check_fractions) := ⟨rfl, rfl, rfl, by decide +kernel, rfl, by decide +kernel, by decide +kernel⟩
abbrev s_check_results : Stmt := topS 23
theorem sc_check_results : FnScope ["factors", "results"] ["factors", "results"] (defScope s_check_results) := ⟨rfl, rfl, rfl, by decide +kernel, rfl, by decide +kernel, by decide +kernel⟩
abbrev s_contrast : Stmt := topS 24
theorem sc_contrast : FnScope ["factors", "results", "word", "found", "run", "result"] ["factors", "results", "word"] (defScope s_contrast) := ⟨rfl, rfl, rfl, by decide +kernel, rfl, by decide +kernel, by decide +kernel⟩
abbrev s_yates : Stmt := topS 25
theorem sc_yates : FnScope ["factors", "told", "found", "step", "_", "k", "one", "two"] ["factors", "told"] (defScope s_yates) := ⟨rfl, rfl, rfl, by decide +kernel, rfl, by decide +kernel, by decide +kernel⟩
abbrev s_all_contrasts : Stmt := topS 26
theorem sc_all_contrasts : FnScope ["factors", "results"] ["factors", "results"] (defScope s_all_contrasts) := ⟨rfl, rfl, rfl, by decide +kernel, rfl, by decide +kernel, by decide +kernel⟩
abbrev s_results_of : Stmt := topS 27
theorem sc_results_of : FnScope ["factors", "told", "one"] ["factors", "told"] (defScope s_results_of) := ⟨rfl, rfl, rfl, by decide +kernel, rfl, by decide +kernel, by decide +kernel⟩
abbrev s__law_draws : Stmt := topS 29
theorem sc__law_draws : FnScope ["script", "draws", "k", "rest", "turn", "mixed"] ["script"] (defScope s__law_draws) := ⟨rfl, rfl, rfl, by decide +kernel, rfl, by decide +kernel, by decide +kernel⟩
abbrev s__law_mix : Stmt := topS 30
theorem sc__law_mix : FnScope ["draws", "k", "many", "value"] ["draws", "k", "many"] (defScope s__law_mix) := ⟨rfl, rfl, rfl, by decide +kernel, rfl, by decide +kernel, by decide +kernel⟩
abbrev s__law_low : Stmt := topS 31
theorem sc__law_low : FnScope ["number", "by", "one", "two"] ["number", "by"] (defScope s__law_low) := ⟨rfl, rfl, rfl, by decide +kernel, rfl, by decide +kernel, by decide +kernel⟩
abbrev s__law_plus : Stmt := topS 32
theorem sc__law_plus : FnScope ["one", "two"] ["one", "two"] (defScope s__law_plus) := ⟨rfl, rfl, rfl, by decide +kernel, rfl, by decide +kernel, by decide +kernel⟩
abbrev s__law_times : Stmt := topS 33
theorem sc__law_times : FnScope ["one", "two"] ["one", "two"] (defScope s__law_times) := ⟨rfl, rfl, rfl, by decide +kernel, rfl, by decide +kernel, by decide +kernel⟩
abbrev s__law_total : Stmt := topS 34
theorem sc__law_total : FnScope ["told", "found", "one"] ["told"] (defScope s__law_total) := ⟨rfl, rfl, rfl, by decide +kernel, rfl, by decide +kernel, by decide +kernel⟩
abbrev s__law_rows : Stmt := topS 35
theorem sc__law_rows : FnScope ["factors", "found", "v", "longer", "told"] ["factors"] (defScope s__law_rows) := ⟨rfl, rfl, rfl, by decide +kernel, rfl, by decide +kernel, by decide +kernel⟩
abbrev s__law_sign : Stmt := topS 36
theorem sc__law_sign : FnScope ["word", "run", "v"] ["word", "run"] (defScope s__law_sign) := ⟨rfl, rfl, rfl, by decide +kernel, rfl, by decide +kernel, by decide +kernel⟩
abbrev s__law_numbers : Stmt := topS 37
theorem sc__law_numbers : FnScope ["draws", "k", "many", "t"] ["draws", "k", "many"] (defScope s__law_numbers) := ⟨rfl, rfl, rfl, by decide +kernel, rfl, by decide +kernel, by decide +kernel⟩
abbrev s__law_sum : Stmt := topS 38
theorem sc__law_sum : FnScope ["one", "two", "t"] ["one", "two"] (defScope s__law_sum) := ⟨rfl, rfl, rfl, by decide +kernel, rfl, by decide +kernel, by decide +kernel⟩
abbrev s_law : Stmt := topS 39
theorem sc_law : FnScope ["script", "draws", "turn", "factors", "runs", "one", "two", "kept", "due", "run", "told", "by", "both", "other", "word", "t", "v"] ["script"] (defScope s_law) := ⟨rfl, rfl, rfl, by decide +kernel, rfl, by decide +kernel, by decide +kernel⟩
/-- what the top has left -/
structure Top (K : PySem.W.Frag) (mg : Str → Option Value) : Type where
  a_is_word : Addr
  d_is_word : FuncData
  F_is_word : Fun K "is_word" "is_word" s_is_word a_is_word d_is_word
  g_is_word : mg "is_word" = some (.ref a_is_word)
  b_is_word : Binds K d_is_word ["factors", "word"] []
  a_is_even : Addr
  d_is_even : FuncData
  F_is_even : Fun K "is_even" "is_even" s_is_even a_is_even d_is_even
  g_is_even : mg "is_even" = some (.ref a_is_even)
  b_is_even : Binds K d_is_even ["word", "run"] []
  a_sign : Addr
  d_sign : FuncData
  F_sign : Fun K "sign" "sign" s_sign a_sign d_sign
  g_sign : mg "sign" = some (.ref a_sign)
  b_sign : Binds K d_sign ["word", "run"] []
  a_all_rows : Addr
  d_all_rows : FuncData
  F_all_rows : Fun K "all_rows" "all_rows" s_all_rows a_all_rows d_all_rows
  g_all_rows : mg "all_rows" = some (.ref a_all_rows)
  b_all_rows : Binds K d_all_rows ["factors"] []
  a_is_fraction : Addr
  d_is_fraction : FuncData
  F_is_fraction : Fun K "is_fraction" "is_fraction" s_is_fraction a_is_fraction d_is_fraction
  g_is_fraction : mg "is_fraction" = some (.ref a_is_fraction)
  b_is_fraction : Binds K d_is_fraction ["told"] []
  a_fraction : Addr
  d_fraction : FuncData
  F_fraction : Fun K "fraction" "fraction" s_fraction a_fraction d_fraction
  g_fraction : mg "fraction" = some (.ref a_fraction)
  b_fraction : Binds K d_fraction ["number", "by"] []
  a_plus : Addr
  d_plus : FuncData
  F_plus : Fun K "plus" "plus" s_plus a_plus d_plus
  g_plus : mg "plus" = some (.ref a_plus)
  b_plus : Binds K d_plus ["one", "two"] []
  a_minus : Addr
  d_minus : FuncData
  F_minus : Fun K "minus" "minus" s_minus a_minus d_minus
  g_minus : mg "minus" = some (.ref a_minus)
  b_minus : Binds K d_minus ["one", "two"] []
  a_times : Addr
  d_times : FuncData
  F_times : Fun K "times" "times" s_times a_times d_times
  g_times : mg "times" = some (.ref a_times)
  b_times : Binds K d_times ["one", "two"] []
  a_over : Addr
  d_over : FuncData
  F_over : Fun K "over" "over" s_over a_over d_over
  g_over : mg "over" = some (.ref a_over)
  b_over : Binds K d_over ["one", "two"] []
  a_check_factors : Addr
  d_check_factors : FuncData
  F_check_factors : Fun K "check_factors" "check_factors" s_check_factors a_check_factors d_check_factors
  g_check_factors : mg "check_factors" = some (.ref a_check_factors)
  b_check_factors : Binds K d_check_factors ["factors"] []
  a_check_fractions : Addr
  d_check_fractions : FuncData
  F_check_fractions : Fun K "check_fractions" "check_fractions" s_check_fractions a_check_fractions d_check_fractions
  g_check_fractions : mg "check_fractions" = some (.ref a_check_fractions)
  b_check_fractions : Binds K d_check_fractions ["told", "many"] []
  a_check_results : Addr
  d_check_results : FuncData
  F_check_results : Fun K "check_results" "check_results" s_check_results a_check_results d_check_results
  g_check_results : mg "check_results" = some (.ref a_check_results)
  b_check_results : Binds K d_check_results ["factors", "results"] []
  a_contrast : Addr
  d_contrast : FuncData
  F_contrast : Fun K "contrast" "contrast" s_contrast a_contrast d_contrast
  g_contrast : mg "contrast" = some (.ref a_contrast)
  b_contrast : Binds K d_contrast ["factors", "results", "word"] []
  a_yates : Addr
  d_yates : FuncData
  F_yates : Fun K "yates" "yates" s_yates a_yates d_yates
  g_yates : mg "yates" = some (.ref a_yates)
  b_yates : Binds K d_yates ["factors", "told"] []
  a_all_contrasts : Addr
  d_all_contrasts : FuncData
  F_all_contrasts : Fun K "all_contrasts" "all_contrasts" s_all_contrasts a_all_contrasts d_all_contrasts
  g_all_contrasts : mg "all_contrasts" = some (.ref a_all_contrasts)
  b_all_contrasts : Binds K d_all_contrasts ["factors", "results"] []
  a_results_of : Addr
  d_results_of : FuncData
  F_results_of : Fun K "results_of" "results_of" s_results_of a_results_of d_results_of
  g_results_of : mg "results_of" = some (.ref a_results_of)
  b_results_of : Binds K d_results_of ["factors", "told"] []
  a__law_draws : Addr
  d__law_draws : FuncData
  F__law_draws : Fun K "_law_draws" "_law_draws" s__law_draws a__law_draws d__law_draws
  g__law_draws : mg "_law_draws" = some (.ref a__law_draws)
  b__law_draws : Binds K d__law_draws ["script"] []
  a__law_mix : Addr
  d__law_mix : FuncData
  F__law_mix : Fun K "_law_mix" "_law_mix" s__law_mix a__law_mix d__law_mix
  g__law_mix : mg "_law_mix" = some (.ref a__law_mix)
  b__law_mix : Binds K d__law_mix ["draws", "k", "many"] []
  a__law_low : Addr
  d__law_low : FuncData
  F__law_low : Fun K "_law_low" "_law_low" s__law_low a__law_low d__law_low
  g__law_low : mg "_law_low" = some (.ref a__law_low)
  b__law_low : Binds K d__law_low ["number", "by"] []
  a__law_plus : Addr
  d__law_plus : FuncData
  F__law_plus : Fun K "_law_plus" "_law_plus" s__law_plus a__law_plus d__law_plus
  g__law_plus : mg "_law_plus" = some (.ref a__law_plus)
  b__law_plus : Binds K d__law_plus ["one", "two"] []
  a__law_times : Addr
  d__law_times : FuncData
  F__law_times : Fun K "_law_times" "_law_times" s__law_times a__law_times d__law_times
  g__law_times : mg "_law_times" = some (.ref a__law_times)
  b__law_times : Binds K d__law_times ["one", "two"] []
  a__law_total : Addr
  d__law_total : FuncData
  F__law_total : Fun K "_law_total" "_law_total" s__law_total a__law_total d__law_total
  g__law_total : mg "_law_total" = some (.ref a__law_total)
  b__law_total : Binds K d__law_total ["told"] []
  a__law_rows : Addr
  d__law_rows : FuncData
  F__law_rows : Fun K "_law_rows" "_law_rows" s__law_rows a__law_rows d__law_rows
  g__law_rows : mg "_law_rows" = some (.ref a__law_rows)
  b__law_rows : Binds K d__law_rows ["factors"] []
  a__law_sign : Addr
  d__law_sign : FuncData
  F__law_sign : Fun K "_law_sign" "_law_sign" s__law_sign a__law_sign d__law_sign
  g__law_sign : mg "_law_sign" = some (.ref a__law_sign)
  b__law_sign : Binds K d__law_sign ["word", "run"] []
  a__law_numbers : Addr
  d__law_numbers : FuncData
  F__law_numbers : Fun K "_law_numbers" "_law_numbers" s__law_numbers a__law_numbers d__law_numbers
  g__law_numbers : mg "_law_numbers" = some (.ref a__law_numbers)
  b__law_numbers : Binds K d__law_numbers ["draws", "k", "many"] []
  a__law_sum : Addr
  d__law_sum : FuncData
  F__law_sum : Fun K "_law_sum" "_law_sum" s__law_sum a__law_sum d__law_sum
  g__law_sum : mg "_law_sum" = some (.ref a__law_sum)
  b__law_sum : Binds K d__law_sum ["one", "two"] []
  a_law : Addr
  d_law : FuncData
  F_law : Fun K "law" "law" s_law a_law d_law
  g_law : mg "law" = some (.ref a_law)
  b_law : Binds K d_law ["script"] []
  t_MOST_FACTORS : Tok
  c_MOST_FACTORS : mg "MOST_FACTORS" = some (.int 5 t_MOST_FACTORS)
  z_abs : mg "abs" = none
  z_all : mg "all" = none
  z_enumerate : mg "enumerate" = none
  z_int : mg "int" = none
  z_len : mg "len" = none
  z_list : mg "list" = none
  z_min : mg "min" = none
  z_range : mg "range" = none
  z_repr : mg "repr" = none
  z_sum : mg "sum" = none
  z_zip : mg "zip" = none
  m_gcd : mg "gcd" = some (.builtin "math.gcd")
section
variable {P : Program} {w : World} {K : PySem.W.Frag} {mg : Str → Option Value} {base : Heap}
theorem ok_is_word (T : Top K mg) : FnG P w K mg base 1 T.a_is_word T.d_is_word ["factors", "word"] (spF K f_is_word) :=
  def_F T.F_is_word sc_is_word rfl (by decide) fun cdv A outer s H E M hr hG =>
  (ss_1 (ps_rt rfl (pe_an (pe_bi (k_all rfl) T.z_all (by decide +kernel) (pa_c (PE.lE (pe_co (own := [("one", 2)]) rfl sc_is_word.nd (pi_l (pe_v (pv 1))) (blkOk_by (N := ["factors", "word", "one", "two"]) (sc := defScope s_is_word) (by decide +kernel)) (gok_n 2) (by decide) (fun _ _ _ _ _ => (pg_name (i := 2) sc_is_word.nd rfl (by first | exact Or.inl rfl | exact Or.inr rfl))) (fun _ _ _ _ _ => pts_y) (fun _ _ _ _ _ => (pe_ch (o_le (units_of hr)) (o_lt (units_of hr)) pk_int (pe_v (pv 2)) (pe_v (pv 0)))))) pa_n)) (L2.pe_one (pe_bi (k_all rfl) T.z_all (by decide +kernel) (pa_c (PE.lE (pe_co (own := [("one", 2), ("two", 3)]) rfl sc_is_word.nd (pi_z T.z_zip (pa_c (pe_v (pv 1)) (pa_c (PE.lE (pe_sl (pe_v (pv 1)) (po_s pk_int) po_n)) pa_n))) (blkOk_by (N := ["factors", "word", "one", "two"]) (sc := defScope s_is_word) (by decide +kernel)) (gok_t (gsok_c (gok_n 2) (gsok_c (gok_n 3) gsok_0))) (by decide) (fun _ _ _ _ _ => (pg_tup (n := 2) rfl (pgs_cons (pg_name (i := 2) sc_is_word.nd rfl (by first | exact Or.inl rfl | exact Or.inr rfl)) (pgs_cons (pg_name (i := 3) sc_is_word.nd rfl (by first | exact Or.inl rfl | exact Or.inr rfl)) pgs_nil)))) (fun _ _ _ _ _ => pts_y) (fun _ _ _ _ _ => (pe_cp (o_lt (units_of hr)) (pe_v (pv 2)) (pe_v (pv 3)))))) pa_n))))))
theorem ok_is_even (T : Top K mg) : FnG P w K mg base 1 T.a_is_even T.d_is_even ["word", "run"] (spF K f_is_even) :=
  def_F T.F_is_even sc_is_even rfl (by decide) fun cdv A outer s H E M hr hG =>
  (ss_1 (ps_rt rfl (pe_cp (o_eq (units_of hr)) (pe_bin o_mod (pe_bi (k_sum rfl) T.z_sum (by decide +kernel) (pa_c (PE.lE (pe_co (own := [("factor", 2)]) rfl sc_is_even.nd (pi_l (pe_v (pv 0))) (blkOk_by (N := ["word", "run", "factor"]) (sc := defScope s_is_even) (by decide +kernel)) (gok_n 2) (by decide) (fun _ _ _ _ _ => (pg_name (i := 2) sc_is_even.nd rfl (by first | exact Or.inl rfl | exact Or.inr rfl))) (fun _ _ _ _ _ => pts_y) (fun _ _ _ _ _ => (pe_i (pe_v (pv 1)) (pe_v (pv 2)))))) pa_n)) pk_int) pk_int)))
theorem ok_sign (T : Top K mg) (G_is_even : FnG P w K mg base 1 T.a_is_even T.d_is_even ["word", "run"] (spF K f_is_even)) : FnG P w K mg base 2 T.a_sign T.d_sign ["word", "run"] (spF K f_sign) :=
  def_F T.F_sign sc_sign rfl (by decide) fun cdv A outer s H E M hr hG =>
  (ss_1 (ps_rt rfl (pe_ife (pt_v (pf G_is_even (hr.mono (by decide)) hG T.g_is_even T.F_is_even.kp T.b_is_even (pa_c (pe_v (pv 0)) (pa_c (pe_v (pv 1)) pa_n)))) pk_int (pe_un1 o_neg pk_int))))
theorem ok_all_rows (T : Top K mg) : FnG P w K mg base 1 T.a_all_rows T.d_all_rows ["factors"] (spF K f_all_rows) :=
  def_F T.F_all_rows sc_all_rows rfl (by decide) fun cdv A outer s H E M hr hG =>
  (ss_c (ps_as (i := 1) sc_all_rows.nd (PE.lE (pe_li (pa_c (pe_tu pa_n (hl := xNil_len)) pa_n) (hl := (xCons_len xNil_len)))))
  (ss_c (ps_fr PassesOwn.never rfl (pi_r1 T.z_range (pa_c (pe_v (pv 0)) pa_n)) (pg_name (i := 2) sc_all_rows.nd rfl (by first | exact Or.inl rfl | exact Or.inr rfl)) (gok_n 2)
  (ss_1 (ps_co2 (i := 1) (own := [("told", 3), ("level", 4)]) [4] rfl sc_all_rows.nd (pi_l (pe_v (pv 1))) (blkOk_by (N := ["factors", "found", "_", "told", "level"]) (sc := defScope s_all_rows) (by decide +kernel)) (gok_n 3) (by decide) (gok_n 4) (by decide) (by decide) (fun _ _ _ _ _ => (pg_name (i := 3) sc_all_rows.nd rfl (by first | exact Or.inl rfl | exact Or.inr rfl))) (fun _ _ _ _ _ => pts_y) (fun _ _ _ _ _ => (pi_l (pe_tu (pa_c pk_int (pa_c pk_int pa_n)) (hl := (xCons_len (xCons_len xNil_len)))))) (fun _ _ _ _ _ => (pg_name (i := 4) sc_all_rows.nd rfl (by first | exact Or.inl rfl | exact Or.inr rfl))) (fun _ _ _ _ _ => pts_y) (fun _ _ _ _ _ => (pe_tuS (pa_s (pe_v (pv 3)) (pa_c (pe_v (pv 4)) pa_n)))) (sw_true rfl rfl rfl (by decide +kernel)))))
  (ss_1 (ps_rt rfl (pe_v (pv 1))))))
theorem ok_is_fraction (T : Top K mg) : FnG P w K mg base 1 T.a_is_fraction T.d_is_fraction ["told"] (spF K f_is_fraction) :=
  def_F T.F_is_fraction sc_is_fraction rfl (by decide) fun cdv A outer s H E M hr hG =>
  (ss_1 (ps_rt rfl (pe_an (pe_cp (o_gt (units_of hr)) (pe_i (pe_v (pv 0)) pk_int) pk_int) (L2.pe_one (pe_cp (o_eq (units_of hr)) (pe_gcd T.m_gcd (pa_c (pe_i (pe_v (pv 0)) pk_int) (pa_c (pe_i (pe_v (pv 0)) pk_int) pa_n))) pk_int)))))
theorem ok_fraction (T : Top K mg) : FnG P w K mg base 1 T.a_fraction T.d_fraction ["number", "by"] (spF K f_fraction) :=
  def_F T.F_fraction sc_fraction rfl (by decide) fun cdv A outer s H E M hr hG =>
  (ss_c (ps_i (pt_cp (o_lt (units_of hr)) (pe_v (pv 1)) pk_int)
  (ss_1 (ps_pr (i := 0) (j := 1) rfl sc_fraction.nd (pa_c (pe_un1 o_neg (pe_v (pv 0))) (pa_c (pe_un1 o_neg (pe_v (pv 1))) pa_n))))
  ss_nil)
  (ss_c (ps_as (i := 2) sc_fraction.nd (pe_gcd T.m_gcd (pa_c (pe_v (pv 0)) (pa_c (pe_v (pv 1)) pa_n))))
  (ss_1 (ps_rt rfl (pe_tu (pa_c (pe_bin o_div (pe_v (pv 0)) (pe_v (pv 2))) (pa_c (pe_bin o_div (pe_v (pv 1)) (pe_v (pv 2))) pa_n)) (hl := (xCons_len (xCons_len xNil_len))))))))
theorem ok_plus (T : Top K mg) (G_fraction : FnG P w K mg base 1 T.a_fraction T.d_fraction ["number", "by"] (spF K f_fraction)) : FnG P w K mg base 2 T.a_plus T.d_plus ["one", "two"] (spF K f_plus) :=
  def_F T.F_plus sc_plus rfl (by decide) fun cdv A outer s H E M hr hG =>
  (ss_1 (ps_rt rfl (pf G_fraction (hr.mono (by decide)) hG T.g_fraction T.F_fraction.kp T.b_fraction (pa_c (pe_bin o_add (pe_bin o_mul (pe_i (pe_v (pv 0)) pk_int) (pe_i (pe_v (pv 1)) pk_int)) (pe_bin o_mul (pe_i (pe_v (pv 1)) pk_int) (pe_i (pe_v (pv 0)) pk_int))) (pa_c (pe_bin o_mul (pe_i (pe_v (pv 0)) pk_int) (pe_i (pe_v (pv 1)) pk_int)) pa_n)))))
theorem ok_minus (T : Top K mg) (G_fraction : FnG P w K mg base 1 T.a_fraction T.d_fraction ["number", "by"] (spF K f_fraction)) : FnG P w K mg base 2 T.a_minus T.d_minus ["one", "two"] (spF K f_minus) :=
  def_F T.F_minus sc_minus rfl (by decide) fun cdv A outer s H E M hr hG =>
  (ss_1 (ps_rt rfl (pf G_fraction (hr.mono (by decide)) hG T.g_fraction T.F_fraction.kp T.b_fraction (pa_c (pe_bin o_sub (pe_bin o_mul (pe_i (pe_v (pv 0)) pk_int) (pe_i (pe_v (pv 1)) pk_int)) (pe_bin o_mul (pe_i (pe_v (pv 1)) pk_int) (pe_i (pe_v (pv 0)) pk_int))) (pa_c (pe_bin o_mul (pe_i (pe_v (pv 0)) pk_int) (pe_i (pe_v (pv 1)) pk_int)) pa_n)))))
theorem ok_times (T : Top K mg) (G_fraction : FnG P w K mg base 1 T.a_fraction T.d_fraction ["number", "by"] (spF K f_fraction)) : FnG P w K mg base 2 T.a_times T.d_times ["one", "two"] (spF K f_times) :=
  def_F T.F_times sc_times rfl (by decide) fun cdv A outer s H E M hr hG =>
  (ss_1 (ps_rt rfl (pf G_fraction (hr.mono (by decide)) hG T.g_fraction T.F_fraction.kp T.b_fraction (pa_c (pe_bin o_mul (pe_i (pe_v (pv 0)) pk_int) (pe_i (pe_v (pv 1)) pk_int)) (pa_c (pe_bin o_mul (pe_i (pe_v (pv 0)) pk_int) (pe_i (pe_v (pv 1)) pk_int)) pa_n)))))
theorem ok_over (T : Top K mg) (G_fraction : FnG P w K mg base 1 T.a_fraction T.d_fraction ["number", "by"] (spF K f_fraction)) : FnG P w K mg base 2 T.a_over T.d_over ["one", "two"] (spF K f_over) :=
  def_F T.F_over sc_over rfl (by decide) fun cdv A outer s H E M hr hG =>
  (ss_1 (ps_rt rfl (pf G_fraction (hr.mono (by decide)) hG T.g_fraction T.F_fraction.kp T.b_fraction (pa_c (pe_bin o_mul (pe_i (pe_v (pv 0)) pk_int) (pe_i (pe_v (pv 1)) pk_int)) (pa_c (pe_bin o_mul (pe_i (pe_v (pv 0)) pk_int) (pe_i (pe_v (pv 1)) pk_int)) pa_n)))))
theorem ok_check_factors (T : Top K mg) : FnG P w K mg base 1 T.a_check_factors T.d_check_factors ["factors"] (spF K f_check_factors) :=
  def_F T.F_check_factors sc_check_factors rfl (by decide) fun cdv A outer s H E M hr hG =>
  (ss_1 (ps_i (pt_no (pt_ch (o_le (units_of hr)) (o_le (units_of hr)) pk_int (pe_v (pv 0)) (pk_gi T.c_MOST_FACTORS)))
  (ss_1 ps_no)
  ss_nil))
theorem ok_check_fractions (T : Top K mg) (G_is_fraction : FnG P w K mg base 1 T.a_is_fraction T.d_is_fraction ["told"] (spF K f_is_fraction)) : FnG P w K mg base 2 T.a_check_fractions T.d_check_fractions ["told", "many"] (spF K f_check_fractions) :=
  def_F T.F_check_fractions sc_check_fractions rfl (by decide) fun cdv A outer s H E M hr hG =>
  (ss_c (ps_i (pt_cp (o_ne (units_of hr)) (pe_bi k_len T.z_len (by decide +kernel) (pa_c (pe_v (pv 0)) pa_n)) (pe_v (pv 1)))
  (ss_1 ps_no)
  ss_nil)
  (ss_1 (ps_fr PassesOwn.never rfl (pi_e T.z_enumerate (pa_c (pe_v (pv 0)) pa_n)) (pg_tup (n := 2) rfl (pgs_cons (pg_name (i := 2) sc_check_fractions.nd rfl (by first | exact Or.inl rfl | exact Or.inr rfl)) (pgs_cons (pg_name (i := 3) sc_check_fractions.nd rfl (by first | exact Or.inl rfl | exact Or.inr rfl)) pgs_nil))) (gok_t (gsok_c (gok_n 2) (gsok_c (gok_n 3) gsok_0)))
  (ss_1 (ps_i (pt_no (pt_v (pf G_is_fraction (hr.mono (by decide)) hG T.g_is_fraction T.F_is_fraction.kp T.b_is_fraction (pa_c (pe_v (pv 3)) pa_n))))
    (ss_1 ps_no)
    ss_nil)))))
theorem ok_check_results (T : Top K mg) (G_check_factors : FnG P w K mg base 1 T.a_check_factors T.d_check_factors ["factors"] (spF K f_check_factors)) (G_check_fractions : FnG P w K mg base 2 T.a_check_fractions T.d_check_fractions ["told", "many"] (spF K f_check_fractions)) (G_all_rows : FnG P w K mg base 1 T.a_all_rows T.d_all_rows ["factors"] (spF K f_all_rows)) : FnG P w K mg base 3 T.a_check_results T.d_check_results ["factors", "results"] (spF K f_check_results) :=
  def_F T.F_check_results sc_check_results rfl (by decide) fun cdv A outer s H E M hr hG =>
  (ss_c (ps_dr (pf G_check_factors (hr.mono (by decide)) hG T.g_check_factors T.F_check_factors.kp T.b_check_factors (pa_c (pe_v (pv 0)) pa_n)))
  (ss_1 (ps_dr (pf G_check_fractions (hr.mono (by decide)) hG T.g_check_fractions T.F_check_fractions.kp T.b_check_fractions (pa_c (pe_v (pv 1)) (pa_c (pe_bi k_len T.z_len (by decide +kernel) (pa_c (pf G_all_rows (hr.mono (by decide)) hG T.g_all_rows T.F_all_rows.kp T.b_all_rows (pa_c (pe_v (pv 0)) pa_n)) pa_n)) pa_n))))))
theorem ok_contrast (T : Top K mg) (G_check_results : FnG P w K mg base 3 T.a_check_results T.d_check_results ["factors", "results"] (spF K f_check_results)) (G_is_word : FnG P w K mg base 1 T.a_is_word T.d_is_word ["factors", "word"] (spF K f_is_word)) (G_all_rows : FnG P w K mg base 1 T.a_all_rows T.d_all_rows ["factors"] (spF K f_all_rows)) (G_plus : FnG P w K mg base 2 T.a_plus T.d_plus ["one", "two"] (spF K f_plus)) (G_times : FnG P w K mg base 2 T.a_times T.d_times ["one", "two"] (spF K f_times)) (G_sign : FnG P w K mg base 2 T.a_sign T.d_sign ["word", "run"] (spF K f_sign)) : FnG P w K mg base 4 T.a_contrast T.d_contrast ["factors", "results", "word"] (spF K f_contrast) :=
  def_F T.F_contrast sc_contrast rfl (by decide) fun cdv A outer s H E M hr hG =>
  (ss_c (ps_dr (pf G_check_results (hr.mono (by decide)) hG T.g_check_results T.F_check_results.kp T.b_check_results (pa_c (pe_v (pv 0)) (pa_c (pe_v (pv 1)) pa_n))))
  (ss_c (ps_i (pt_no (pt_v (pf G_is_word (hr.mono (by decide)) hG T.g_is_word T.F_is_word.kp T.b_is_word (pa_c (pe_v (pv 0)) (pa_c (pe_v (pv 2)) pa_n)))))
  (ss_1 ps_no)
  ss_nil)
  (ss_c (ps_as (i := 3) sc_contrast.nd (pe_tu (pa_c pk_int (pa_c pk_int pa_n)) (hl := (xCons_len (xCons_len xNil_len)))))
  (ss_c (ps_fr PassesOwn.never rfl (pi_z T.z_zip (pa_c (pf G_all_rows (hr.mono (by decide)) hG T.g_all_rows T.F_all_rows.kp T.b_all_rows (pa_c (pe_v (pv 0)) pa_n)) (pa_c (pe_v (pv 1)) pa_n))) (pg_tup (n := 2) rfl (pgs_cons (pg_name (i := 4) sc_contrast.nd rfl (by first | exact Or.inl rfl | exact Or.inr rfl)) (pgs_cons (pg_name (i := 5) sc_contrast.nd rfl (by first | exact Or.inl rfl | exact Or.inr rfl)) pgs_nil))) (gok_t (gsok_c (gok_n 4) (gsok_c (gok_n 5) gsok_0)))
  (ss_1 (ps_as (i := 3) sc_contrast.nd (pf G_plus (hr.mono (by decide)) hG T.g_plus T.F_plus.kp T.b_plus (pa_c (pe_v (pv 3)) (pa_c (pf G_times (hr.mono (by decide)) hG T.g_times T.F_times.kp T.b_times (pa_c (pe_tu (pa_c (pf G_sign (hr.mono (by decide)) hG T.g_sign T.F_sign.kp T.b_sign (pa_c (pe_v (pv 2)) (pa_c (pe_v (pv 4)) pa_n))) (pa_c pk_int pa_n)) (hl := (xCons_len (xCons_len xNil_len)))) (pa_c (pe_v (pv 5)) pa_n))) pa_n))))))
  (ss_1 (ps_rt rfl (pe_v (pv 3))))))))
theorem ok_yates (T : Top K mg) (G_plus : FnG P w K mg base 2 T.a_plus T.d_plus ["one", "two"] (spF K f_plus)) (G_minus : FnG P w K mg base 2 T.a_minus T.d_minus ["one", "two"] (spF K f_minus)) : FnG P w K mg base 3 T.a_yates T.d_yates ["factors", "told"] (spN K f_yates) :=
  def_N T.F_yates sc_yates rfl (by decide) (by unfold m_yates; repeat first | exact nnx_rt | exact nnx_rtM | exact nnx_no | refine nnx_seq ?_ | refine nnx_if ?_ ?_) fun cdv A outer s H E M hr hG =>
  (ss_c (ps_asM (i := 2) sc_yates.nd (pe_tyL k_list T.z_list (by decide +kernel) (pa_c (pe_v (pv 1)) pa_n)))
  (ss_c (ps_as (i := 3) sc_yates.nd pk_int)
  (ss_c (ps_fr PassesOwn.never rfl (pi_r1 T.z_range (pa_c (pe_v (pv 0)) pa_n)) (pg_name (i := 4) sc_yates.nd rfl (by first | exact Or.inl rfl | exact Or.inr rfl)) (gok_n 4)
  (ss_c (ps_fr PassesOwn.never rfl (pi_r1 T.z_range (pa_c (pe_th (pe_bi k_len T.z_len (by decide +kernel) (pa_c (pe_v (pv 2)) pa_n))) pa_n)) (pg_name (i := 5) sc_yates.nd rfl (by first | exact Or.inl rfl | exact Or.inr rfl)) (gok_n 5)
    (ss_1 (ps_i (pt_cp (o_eq (units_of hr)) (pe_bin o_mod (pe_bin o_div (pe_v (pv 5)) (pe_v (pv 3))) pk_int) pk_int)
      (ss_c (ps_pr (i := 6) (j := 7) rfl sc_yates.nd (pa_c (pe_im (pv 2) (pe_v (pv 5))) (pa_c (pe_im (pv 2) (pe_bin o_add (pe_v (pv 5)) (pe_v (pv 3)))) pa_n)))
        (ss_1 (ps_st2 (j := 2) (j2 := 2) (ps_asg (pe_tu (pa_c (pf G_plus (hr.mono (by decide)) hG T.g_plus T.F_plus.kp T.b_plus (pa_c (pe_v (pv 6)) (pa_c (pe_v (pv 7)) pa_n))) (pa_c (pf G_minus (hr.mono (by decide)) hG T.g_minus T.F_minus.kp T.b_minus (pa_c (pe_v (pv 6)) (pa_c (pe_v (pv 7)) pa_n))) pa_n)) (hl := (xCons_len (xCons_len xNil_len)))) (pg_tup (n := 2) rfl (pgs_cons (pg_sub (pv 2) (pe_v (pv 5)) set_list) (pgs_cons (pg_sub (pv 2) (pe_bin o_add (pe_v (pv 5)) (pe_v (pv 3))) set_list) pgs_nil)))))))
      ss_nil)))
    (ss_1 (ps_as (i := 3) sc_yates.nd (pe_bin o_mul pk_int (pe_v (pv 3)))))))
  (ss_1 (ps_rtM (pv 2))))))
theorem ok_all_contrasts (T : Top K mg) (G_check_results : FnG P w K mg base 3 T.a_check_results T.d_check_results ["factors", "results"] (spF K f_check_results)) (G_yates : FnG P w K mg base 3 T.a_yates T.d_yates ["factors", "told"] (spN K f_yates)) : FnG P w K mg base 4 T.a_all_contrasts T.d_all_contrasts ["factors", "results"] (spN K f_all_contrasts) :=
  def_N T.F_all_contrasts sc_all_contrasts rfl (by decide) (by unfold m_all_contrasts; repeat first | exact nnx_rt | exact nnx_rtM | exact nnx_no | refine nnx_seq ?_ | refine nnx_if ?_ ?_) fun cdv A outer s H E M hr hG =>
  (ss_c (ps_dr (pf G_check_results (hr.mono (by decide)) hG T.g_check_results T.F_check_results.kp T.b_check_results (pa_c (pe_v (pv 0)) (pa_c (pe_v (pv 1)) pa_n))))
  (ss_1 (ps_rtL rfl (pfL G_yates (hr.mono (by decide)) hG T.g_yates T.F_yates.kp T.b_yates (pa_c (pe_v (pv 0)) (pa_c (pe_v (pv 1)) pa_n))))))
theorem ok_results_of (T : Top K mg) (G_check_results : FnG P w K mg base 3 T.a_check_results T.d_check_results ["factors", "results"] (spF K f_check_results)) (G_over : FnG P w K mg base 2 T.a_over T.d_over ["one", "two"] (spF K f_over)) (G_yates : FnG P w K mg base 3 T.a_yates T.d_yates ["factors", "told"] (spN K f_yates)) : FnG P w K mg base 4 T.a_results_of T.d_results_of ["factors", "told"] (spN K f_results_of) :=
  def_N T.F_results_of sc_results_of rfl (by decide) (by unfold m_results_of; repeat first | exact nnx_rt | exact nnx_rtM | exact nnx_no | refine nnx_seq ?_ | refine nnx_if ?_ ?_) fun cdv A outer s H E M hr hG =>
  (ss_c (ps_dr (pf G_check_results (hr.mono (by decide)) hG T.g_check_results T.F_check_results.kp T.b_check_results (pa_c (pe_v (pv 0)) (pa_c (pe_v (pv 1)) pa_n))))
  (ss_1 (ps_rtL rfl (pe_co (own := [("one", 2)]) rfl sc_results_of.nd (pi_l (PE.lE (pfL G_yates (hr.mono (by decide)) hG T.g_yates T.F_yates.kp T.b_yates (pa_c (pe_v (pv 0)) (pa_c (pe_v (pv 1)) pa_n))))) (blkOk_by (N := ["factors", "told", "one"]) (sc := defScope s_results_of) (by decide +kernel)) (gok_n 2) (by decide) (fun _ _ _ _ _ => (pg_name (i := 2) sc_results_of.nd rfl (by first | exact Or.inl rfl | exact Or.inr rfl))) (fun _ _ _ _ _ => pts_y) (fun _ _ _ _ _ => (pf G_over (hr.mono (by decide)) hG T.g_over T.F_over.kp T.b_over (pa_c (pe_v (pv 2)) (pa_c (pe_tu (pa_c (pe_bi k_len T.z_len (by decide +kernel) (pa_c (pe_v (pv 1)) pa_n)) (pa_c pk_int pa_n)) (hl := (xCons_len (xCons_len xNil_len)))) pa_n))))))))
theorem ok__law_draws (T : Top K mg) : FnG P w K mg base 1 T.a__law_draws T.d__law_draws ["script"] (spN K f__law_draws) :=
  def_N T.F__law_draws sc__law_draws rfl (by decide) (by unfold m__law_draws; repeat first | exact nnx_rt | exact nnx_rtM | exact nnx_no | refine nnx_seq ?_ | refine nnx_if ?_ ?_) fun cdv A outer s H E M hr hG =>
  (ss_c (ps_asM (i := 1) sc__law_draws.nd (pe_li pa_n (hl := xNil_len)))
  (ss_c (ps_fr PassesOwn.never rfl (pi_r1 T.z_range (pa_c (pe_bi (k_min rfl (units_of hr)) T.z_min (by decide +kernel) (pa_c pk_int (pa_c (pe_bi k_len T.z_len (by decide +kernel) (pa_c (pe_v (pv 0)) pa_n)) pa_n))) pa_n)) (pg_name (i := 2) sc__law_draws.nd rfl (by first | exact Or.inl rfl | exact Or.inr rfl)) (gok_n 2)
  (ss_c (ps_as (i := 3) sc__law_draws.nd (pe_bi k_abs T.z_abs (by decide +kernel) (pa_c (pe_i (pe_v (pv 0)) (pe_v (pv 2))) pa_n)))
    (ss_1 (ps_i (pt_cp (o_ge (units_of hr)) (pe_v (pv 3)) (pe_bin o_pow pk_int pk_int))
    (ss_1 (ps_fr PassesOwn.never rfl (pi_r1 T.z_range (pa_c pk_int pa_n)) (pg_name (i := 4) sc__law_draws.nd rfl (by first | exact Or.inl rfl | exact Or.inr rfl)) (gok_n 4)
      (ss_1 (ps_i (pt_cp (o_gt (units_of hr)) (pe_v (pv 3)) pk_int)
        (ss_c (ps_ap (i := 1) (ps_expr (pe_bm PySem.F.plainAttrs_list PySem.F.slot_list_append PySem.F.type_list_append mt_append (pv 1) (pa_cons (pe_bin o_mod (pe_ty k_int T.z_int (by decide +kernel) (pa_c (pe_v (pv 3)) pa_n)) pk_int) pa_nil))))
          (ss_1 (ps_as (i := 3) sc__law_draws.nd (pe_bin o_div (pe_v (pv 3)) pk_int))))
        ss_nil))))
    (ss_c (ps_as (i := 5) sc__law_draws.nd (pe_bin o_mod (pe_ty k_int T.z_int (by decide +kernel) (pa_c (pe_bin o_add (pe_bin o_mul (pe_v (pv 3)) pk_int) (pe_bin o_mul (pe_bin o_add (pe_v (pv 2)) pk_int) pk_int)) pa_n)) pk_int))
      (ss_c (ps_as (i := 5) sc__law_draws.nd (pe_bin o_mod (pe_ty k_int T.z_int (by decide +kernel) (pa_c (pe_bin o_add (pe_bin o_add (pe_bin o_mul (pe_v (pv 5)) pk_int) (pe_bin o_mul pk_int (pe_v (pv 2)))) pk_int) pa_n)) pk_int))
      (ss_c (ps_ap (i := 1) (ps_expr (pe_bm PySem.F.plainAttrs_list PySem.F.slot_list_append PySem.F.type_list_append mt_append (pv 1) (pa_cons (pe_bin o_mod (pe_ty k_int T.z_int (by decide +kernel) (pa_c (pe_v (pv 5)) pa_n)) pk_int) pa_nil))))
      (ss_1 (ps_ap (i := 1) (ps_expr (pe_bm PySem.F.plainAttrs_list PySem.F.slot_list_append PySem.F.type_list_append mt_append (pv 1) (pa_cons (pe_bin o_mod (pe_ty k_int T.z_int (by decide +kernel) (pa_c (pe_bin o_div (pe_v (pv 5)) pk_int) pa_n)) pk_int) pa_nil))))))))))))
  (ss_1 (ps_rtM (pv 1)))))
theorem ok__law_mix (T : Top K mg) : FnG P w K mg base 1 T.a__law_mix T.d__law_mix ["draws", "k", "many"] (spF K f__law_mix) :=
  def_F T.F__law_mix sc__law_mix rfl (by decide) fun cdv A outer s H E M hr hG =>
  (ss_c (ps_as (i := 3) sc__law_mix.nd pk_int)
  (ss_c (ps_i (pt_cp (o_gt (units_of hr)) (pe_bi k_len T.z_len (by decide +kernel) (pa_c (pe_v (pv 0)) pa_n)) pk_int)
  (ss_1 (ps_as (i := 3) sc__law_mix.nd (pe_i (pe_v (pv 0)) (pe_bin o_mod (pe_ty k_int T.z_int (by decide +kernel) (pa_c (pe_v (pv 1)) pa_n)) (pe_bi k_len T.z_len (by decide +kernel) (pa_c (pe_v (pv 0)) pa_n))))))
  ss_nil)
  (ss_c (ps_i (pt_cp (o_lt (units_of hr)) (pe_v (pv 1)) (pe_bi k_len T.z_len (by decide +kernel) (pa_c (pe_v (pv 0)) pa_n)))
  (ss_1 (ps_rt rfl (pe_bin o_mod (pe_ty k_int T.z_int (by decide +kernel) (pa_c (pe_v (pv 3)) pa_n)) (pe_v (pv 2)))))
  ss_nil)
  (ss_1 (ps_rt rfl (pe_bin o_mod (pe_ty k_int T.z_int (by decide +kernel) (pa_c (pe_bin o_div (pe_ty k_int T.z_int (by decide +kernel) (pa_c (pe_bin o_add (pe_bin o_mul (pe_v (pv 3)) pk_int) (pe_bin o_mul (pe_v (pv 1)) pk_int)) pa_n)) pk_int) pa_n)) (pe_v (pv 2))))))))
theorem ok__law_low (T : Top K mg) : FnG P w K mg base 1 T.a__law_low T.d__law_low ["number", "by"] (spF K f__law_low) :=
  def_F T.F__law_low sc__law_low rfl (by decide) fun cdv A outer s H E M hr hG =>
  (ss_c (ps_pr (i := 2) (j := 3) rfl sc__law_low.nd (pa_c (pe_bi k_abs T.z_abs (by decide +kernel) (pa_c (pe_v (pv 0)) pa_n)) (pa_c (pe_v (pv 1)) pa_n)))
  (ss_c (ps_wh fuel PassesOwn.never (pt_cp (o_ne (units_of hr)) (pe_v (pv 3)) pk_int)
  (ss_1 (ps_un (ps_asg (PE.lE (pe_li (pa_c (pe_v (pv 3)) (pa_c (pe_bin o_mod (pe_ty k_int T.z_int (by decide +kernel) (pa_c (pe_v (pv 2)) pa_n)) (pe_v (pv 3))) pa_n)) (hl := (xCons_len (xCons_len xNil_len))))) (pg_lst (n := 2) rfl (pgs_cons (pg_name (i := 2) sc__law_low.nd rfl (by first | exact Or.inl rfl | exact Or.inr rfl)) (pgs_cons (pg_name (i := 3) sc__law_low.nd rfl (by first | exact Or.inl rfl | exact Or.inr rfl)) pgs_nil)))) (gok_l (gsok_c (gok_n 2) (gsok_c (gok_n 3) gsok_0))))))
  (ss_1 (ps_rt rfl (pe_tu (pa_c (pe_bin o_div (pe_v (pv 0)) (pe_v (pv 2))) (pa_c (pe_bin o_div (pe_v (pv 1)) (pe_v (pv 2))) pa_n)) (hl := (xCons_len (xCons_len xNil_len))))))))
theorem ok__law_plus (T : Top K mg) (G__law_low : FnG P w K mg base 1 T.a__law_low T.d__law_low ["number", "by"] (spF K f__law_low)) : FnG P w K mg base 2 T.a__law_plus T.d__law_plus ["one", "two"] (spF K f__law_plus) :=
  def_F T.F__law_plus sc__law_plus rfl (by decide) fun cdv A outer s H E M hr hG =>
  (ss_1 (ps_rt rfl (pf G__law_low (hr.mono (by decide)) hG T.g__law_low T.F__law_low.kp T.b__law_low (pa_c (pe_bin o_add (pe_bin o_mul (pe_i (pe_v (pv 0)) pk_int) (pe_i (pe_v (pv 1)) pk_int)) (pe_bin o_mul (pe_i (pe_v (pv 1)) pk_int) (pe_i (pe_v (pv 0)) pk_int))) (pa_c (pe_bin o_mul (pe_i (pe_v (pv 0)) pk_int) (pe_i (pe_v (pv 1)) pk_int)) pa_n)))))
theorem ok__law_times (T : Top K mg) (G__law_low : FnG P w K mg base 1 T.a__law_low T.d__law_low ["number", "by"] (spF K f__law_low)) : FnG P w K mg base 2 T.a__law_times T.d__law_times ["one", "two"] (spF K f__law_times) :=
  def_F T.F__law_times sc__law_times rfl (by decide) fun cdv A outer s H E M hr hG =>
  (ss_1 (ps_rt rfl (pf G__law_low (hr.mono (by decide)) hG T.g__law_low T.F__law_low.kp T.b__law_low (pa_c (pe_bin o_mul (pe_i (pe_v (pv 0)) pk_int) (pe_i (pe_v (pv 1)) pk_int)) (pa_c (pe_bin o_mul (pe_i (pe_v (pv 0)) pk_int) (pe_i (pe_v (pv 1)) pk_int)) pa_n)))))
theorem ok__law_total (T : Top K mg) (G__law_plus : FnG P w K mg base 2 T.a__law_plus T.d__law_plus ["one", "two"] (spF K f__law_plus)) : FnG P w K mg base 3 T.a__law_total T.d__law_total ["told"] (spF K f__law_total) :=
  def_F T.F__law_total sc__law_total rfl (by decide) fun cdv A outer s H E M hr hG =>
  (ss_c (ps_as (i := 1) sc__law_total.nd (pe_tu (pa_c pk_int (pa_c pk_int pa_n)) (hl := (xCons_len (xCons_len xNil_len)))))
  (ss_c (ps_fr PassesOwn.never rfl (pi_l (pe_v (pv 0))) (pg_name (i := 2) sc__law_total.nd rfl (by first | exact Or.inl rfl | exact Or.inr rfl)) (gok_n 2)
  (ss_1 (ps_as (i := 1) sc__law_total.nd (pf G__law_plus (hr.mono (by decide)) hG T.g__law_plus T.F__law_plus.kp T.b__law_plus (pa_c (pe_v (pv 1)) (pa_c (pe_v (pv 2)) pa_n))))))
  (ss_1 (ps_rt rfl (pe_v (pv 1))))))
theorem ok__law_rows (T : Top K mg) : FnG P w K mg base 1 T.a__law_rows T.d__law_rows ["factors"] (spF K f__law_rows) :=
  def_F T.F__law_rows sc__law_rows rfl (by decide) fun cdv A outer s H E M hr hG =>
  (ss_c (ps_as (i := 1) sc__law_rows.nd (PE.lE (pe_li (pa_c (pe_tu pa_n (hl := xNil_len)) pa_n) (hl := (xCons_len xNil_len)))))
  (ss_c (ps_fr PassesOwn.never rfl (pi_r1 T.z_range (pa_c (pe_v (pv 0)) pa_n)) (pg_name (i := 2) sc__law_rows.nd rfl (by first | exact Or.inl rfl | exact Or.inr rfl)) (gok_n 2)
  (ss_c (ps_as (i := 3) sc__law_rows.nd (PE.lE (pe_li pa_n (hl := xNil_len))))
    (ss_c (ps_fr PassesOwn.never rfl (pi_l (pe_v (pv 1))) (pg_name (i := 4) sc__law_rows.nd rfl (by first | exact Or.inl rfl | exact Or.inr rfl)) (gok_n 4)
    (ss_1 (ps_as (i := 3) sc__law_rows.nd (PE.lE (pe_binL o_cat (pe_v (pv 3)) (PE.lE (pe_li (pa_c (pe_bin o_add (pe_v (pv 4)) (pe_tu (pa_c pk_int pa_n) (hl := (xCons_len xNil_len)))) (pa_c (pe_bin o_add (pe_v (pv 4)) (pe_tu (pa_c pk_int pa_n) (hl := (xCons_len xNil_len)))) pa_n)) (hl := (xCons_len (xCons_len xNil_len))))))))))
    (ss_1 (ps_as (i := 1) sc__law_rows.nd (pe_v (pv 3)))))))
  (ss_1 (ps_rt rfl (pe_v (pv 1))))))
theorem ok__law_sign (T : Top K mg) : FnG P w K mg base 1 T.a__law_sign T.d__law_sign ["word", "run"] (spF K f__law_sign) :=
  def_F T.F__law_sign sc__law_sign rfl (by decide) fun cdv A outer s H E M hr hG =>
  (ss_1 (ps_rt rfl (pe_bin o_sub pk_int (pe_bin o_mul pk_int (pe_bin o_mod (pe_ty k_int T.z_int (by decide +kernel) (pa_c (pe_bi (k_sum rfl) T.z_sum (by decide +kernel) (pa_c (PE.lE (pe_co (own := [("v", 2)]) rfl sc__law_sign.nd (pi_l (pe_v (pv 0))) (blkOk_by (N := ["word", "run", "v"]) (sc := defScope s__law_sign) (by decide +kernel)) (gok_n 2) (by decide) (fun _ _ _ _ _ => (pg_name (i := 2) sc__law_sign.nd rfl (by first | exact Or.inl rfl | exact Or.inr rfl))) (fun _ _ _ _ _ => pts_y) (fun _ _ _ _ _ => (pe_i (pe_v (pv 1)) (pe_v (pv 2)))))) pa_n)) pa_n)) pk_int)))))
theorem ok__law_numbers (T : Top K mg) (G__law_low : FnG P w K mg base 1 T.a__law_low T.d__law_low ["number", "by"] (spF K f__law_low)) (G__law_mix : FnG P w K mg base 1 T.a__law_mix T.d__law_mix ["draws", "k", "many"] (spF K f__law_mix)) : FnG P w K mg base 2 T.a__law_numbers T.d__law_numbers ["draws", "k", "many"] (spN K f__law_numbers) :=
  def_N T.F__law_numbers sc__law_numbers rfl (by decide) (by unfold m__law_numbers; repeat first | exact nnx_rt | exact nnx_rtM | exact nnx_no | refine nnx_seq ?_ | refine nnx_if ?_ ?_) fun cdv A outer s H E M hr hG =>
  (ss_1 (ps_rtL rfl (pe_co (own := [("t", 3)]) rfl sc__law_numbers.nd (pi_r1 T.z_range (pa_c (pe_v (pv 2)) pa_n)) (blkOk_by (N := ["draws", "k", "many", "t"]) (sc := defScope s__law_numbers) (by decide +kernel)) (gok_n 3) (by decide) (fun _ _ _ _ _ => (pg_name (i := 3) sc__law_numbers.nd rfl (by first | exact Or.inl rfl | exact Or.inr rfl))) (fun _ _ _ _ _ => pts_y) (fun _ _ _ _ _ => (pf G__law_low (hr.mono (by decide)) hG T.g__law_low T.F__law_low.kp T.b__law_low (pa_c (pe_bin o_sub (pf G__law_mix (hr.mono (by decide)) hG T.g__law_mix T.F__law_mix.kp T.b__law_mix (pa_c (pe_v (pv 0)) (pa_c (pe_bin o_add (pe_v (pv 1)) (pe_bin o_mul pk_int (pe_v (pv 3)))) (pa_c pk_int pa_n)))) pk_int) (pa_c (pe_bin o_add pk_int (pf G__law_mix (hr.mono (by decide)) hG T.g__law_mix T.F__law_mix.kp T.b__law_mix (pa_c (pe_v (pv 0)) (pa_c (pe_bin o_add (pe_bin o_add (pe_v (pv 1)) (pe_bin o_mul pk_int (pe_v (pv 3)))) pk_int) (pa_c pk_int pa_n))))) pa_n)))))))
theorem ok__law_sum (T : Top K mg) (G__law_total : FnG P w K mg base 3 T.a__law_total T.d__law_total ["told"] (spF K f__law_total)) (G__law_times : FnG P w K mg base 2 T.a__law_times T.d__law_times ["one", "two"] (spF K f__law_times)) : FnG P w K mg base 4 T.a__law_sum T.d__law_sum ["one", "two"] (spF K f__law_sum) :=
  def_F T.F__law_sum sc__law_sum rfl (by decide) fun cdv A outer s H E M hr hG =>
  (ss_1 (ps_rt rfl (pf G__law_total (hr.mono (by decide)) hG T.g__law_total T.F__law_total.kp T.b__law_total (pa_c (PE.lE (pe_co (own := [("t", 2)]) rfl sc__law_sum.nd (pi_r1 T.z_range (pa_c (pe_bi k_len T.z_len (by decide +kernel) (pa_c (pe_v (pv 0)) pa_n)) pa_n)) (blkOk_by (N := ["one", "two", "t"]) (sc := defScope s__law_sum) (by decide +kernel)) (gok_n 2) (by decide) (fun _ _ _ _ _ => (pg_name (i := 2) sc__law_sum.nd rfl (by first | exact Or.inl rfl | exact Or.inr rfl))) (fun _ _ _ _ _ => pts_y) (fun _ _ _ _ _ => (pf G__law_times (hr.mono (by decide)) hG T.g__law_times T.F__law_times.kp T.b__law_times (pa_c (pe_i (pe_v (pv 0)) (pe_v (pv 2))) (pa_c (pe_i (pe_v (pv 1)) (pe_v (pv 2))) pa_n)))))) pa_n))))
theorem ok_law (T : Top K mg) (G__law_draws : FnG P w K mg base 1 T.a__law_draws T.d__law_draws ["script"] (spN K f__law_draws)) (G__law_rows : FnG P w K mg base 1 T.a__law_rows T.d__law_rows ["factors"] (spF K f__law_rows)) (G__law_numbers : FnG P w K mg base 2 T.a__law_numbers T.d__law_numbers ["draws", "k", "many"] (spN K f__law_numbers)) (G_all_contrasts : FnG P w K mg base 4 T.a_all_contrasts T.d_all_contrasts ["factors", "results"] (spN K f_all_contrasts)) (G__law_low : FnG P w K mg base 1 T.a__law_low T.d__law_low ["number", "by"] (spF K f__law_low)) (G__law_mix : FnG P w K mg base 1 T.a__law_mix T.d__law_mix ["draws", "k", "many"] (spF K f__law_mix)) (G__law_sum : FnG P w K mg base 4 T.a__law_sum T.d__law_sum ["one", "two"] (spF K f__law_sum)) (G__law_times : FnG P w K mg base 2 T.a__law_times T.d__law_times ["one", "two"] (spF K f__law_times)) (G__law_plus : FnG P w K mg base 2 T.a__law_plus T.d__law_plus ["one", "two"] (spF K f__law_plus)) (G_results_of : FnG P w K mg base 4 T.a_results_of T.d_results_of ["factors", "told"] (spN K f_results_of)) (G_contrast : FnG P w K mg base 4 T.a_contrast T.d_contrast ["factors", "results", "word"] (spF K f_contrast)) (G__law_sign : FnG P w K mg base 1 T.a__law_sign T.d__law_sign ["word", "run"] (spF K f__law_sign)) : FnG P w K mg base 5 T.a_law T.d_law ["script"] (spF K f_law) :=
  def_F T.F_law sc_law rfl (by decide) fun cdv A outer s H E M hr hG =>
  (ss_c (ps_as (i := 1) sc_law.nd (PE.lE (pfL G__law_draws (hr.mono (by decide)) hG T.g__law_draws T.F__law_draws.kp T.b__law_draws (pa_c (pe_v (pv 0)) pa_n))))
  (ss_c (ps_fr PassesOwn.never rfl (pi_r1 T.z_range (pa_c pk_int pa_n)) (pg_name (i := 2) sc_law.nd rfl (by first | exact Or.inl rfl | exact Or.inr rfl)) (gok_n 2)
  (ss_c (ps_as (i := 3) sc_law.nd (pe_bin o_add pk_int (pf G__law_mix (hr.mono (by decide)) hG T.g__law_mix T.F__law_mix.kp T.b__law_mix (pa_c (pe_v (pv 1)) (pa_c (pe_v (pv 2)) (pa_c pk_int pa_n))))))
    (ss_c (ps_as (i := 4) sc_law.nd (pf G__law_rows (hr.mono (by decide)) hG T.g__law_rows T.F__law_rows.kp T.b__law_rows (pa_c (pe_v (pv 3)) pa_n)))
    (ss_c (ps_as (i := 5) sc_law.nd (PE.lE (pfL G__law_numbers (hr.mono (by decide)) hG T.g__law_numbers T.F__law_numbers.kp T.b__law_numbers (pa_c (pe_v (pv 1)) (pa_c (pe_bin o_add pk_int (pe_bin o_mul pk_int (pe_v (pv 2)))) (pa_c (pe_bi k_len T.z_len (by decide +kernel) (pa_c (pe_v (pv 4)) pa_n)) pa_n))))))
    (ss_c (ps_as (i := 6) sc_law.nd (PE.lE (pfL G__law_numbers (hr.mono (by decide)) hG T.g__law_numbers T.F__law_numbers.kp T.b__law_numbers (pa_c (pe_v (pv 1)) (pa_c (pe_bin o_add pk_int (pe_bin o_mul pk_int (pe_v (pv 2)))) (pa_c (pe_bi k_len T.z_len (by decide +kernel) (pa_c (pe_v (pv 4)) pa_n)) pa_n))))))
    (ss_c (ps_as (i := 7) sc_law.nd (pe_bi (k_repr hG (units_of hr)) T.z_repr (by decide +kernel) (pa_c (pe_tu (pa_c (pe_v (pv 5)) (pa_c (pe_v (pv 6)) pa_n)) (hl := (xCons_len (xCons_len xNil_len)))) pa_n)))
    (ss_c (ps_asM (i := 8) sc_law.nd (pe_li pa_n (hl := xNil_len)))
    (ss_c (ps_fr PassesOwn.never rfl (pi_l (pe_v (pv 4))) (pg_name (i := 9) sc_law.nd rfl (by first | exact Or.inl rfl | exact Or.inr rfl)) (gok_n 9)
    (ss_c (ps_as (i := 14) sc_law.nd (PE.lE (pe_co (own := [("v", 16)]) rfl sc_law.nd (pi_r1 T.z_range (pa_c (pe_v (pv 3)) pa_n)) (blkOk_by (N := ["script", "draws", "turn", "factors", "runs", "one", "two", "kept", "due", "run", "told", "by", "both", "other", "word", "t", "v"]) (sc := defScope s_law) (by decide +kernel)) (gok_n 16) (by decide) (fun _ _ _ _ _ => (pg_name (i := 16) sc_law.nd rfl (by first | exact Or.inl rfl | exact Or.inr rfl))) (fun _ _ _ _ _ => (pts_one (pt_cp (o_eq (units_of hr)) (pe_i (pe_v (pv 9)) (pe_v (pv 16))) pk_int))) (fun _ _ _ _ _ => (pe_v (pv 16))))))
      (ss_c (ps_ap (i := 8) (ps_expr (pe_bm PySem.F.plainAttrs_list PySem.F.slot_list_append PySem.F.type_list_append mt_append (pv 8) (pa_cons (pf G__law_sum (hr.mono (by decide)) hG T.g__law_sum T.F__law_sum.kp T.b__law_sum (pa_c (PE.lE (pe_co (own := [("other", 13)]) rfl sc_law.nd (pi_l (pe_v (pv 4))) (blkOk_by (N := ["script", "draws", "turn", "factors", "runs", "one", "two", "kept", "due", "run", "told", "by", "both", "other", "word", "t", "v"]) (sc := defScope s_law) (by decide +kernel)) (gok_n 13) (by decide) (fun _ _ _ _ _ => (pg_name (i := 13) sc_law.nd rfl (by first | exact Or.inl rfl | exact Or.inr rfl))) (fun _ _ _ _ _ => pts_y) (fun _ _ _ _ _ => (pe_tu (pa_c (pf G__law_sign (hr.mono (by decide)) hG T.g__law_sign T.F__law_sign.kp T.b__law_sign (pa_c (pe_v (pv 14)) (pa_c (pe_v (pv 13)) pa_n))) (pa_c pk_int pa_n)) (hl := (xCons_len (xCons_len xNil_len))))))) (pa_c (pe_v (pv 5)) pa_n))) pa_nil))))
      (ss_1 (ps_i (L2.PW.pt (pw_an (pt_th (pt_cp (o_eq (units_of hr)) (pf G__law_mix (hr.mono (by decide)) hG T.g__law_mix T.F__law_mix.kp T.b__law_mix (pa_c (pe_v (pv 1)) (pa_c (pe_bin o_add pk_int (pe_bi k_len T.z_len (by decide +kernel) (pa_c (pe_v (pv 8)) pa_n))) (pa_c pk_int pa_n)))) pk_int)) (L2.pw_and1 (pt_cp (o_ne (units_of hr)) (pe_bi (k_repr hG (units_of hr)) T.z_repr (by decide +kernel) (pa_c (pf G_contrast (hr.mono (by decide)) hG T.g_contrast T.F_contrast.kp T.b_contrast (pa_c (pe_v (pv 3)) (pa_c (pe_v (pv 5)) (pa_c (pe_v (pv 14)) pa_n)))) pa_n)) (pe_bi (k_repr hG (units_of hr)) T.z_repr (by decide +kernel) (pa_c (pe_im (pv 8) (pe_un1 o_neg pk_int)) pa_n))))))
      (ss_1 (ps_rt rfl pk_bl))
      ss_nil)))))
    (ss_fz 8 (ss_c (ps_asM (i := 10) sc_law.nd (pfL G_all_contrasts (hr.mono (by decide)) hG T.g_all_contrasts T.F_all_contrasts.kp T.b_all_contrasts (pa_c (pe_v (pv 3)) (pa_c (pe_v (pv 5)) pa_n))))
    (ss_c (ps_i (L2.PW.pt (pw_orr (pt_th (pt_cp (o_ne (units_of hr)) (pe_bi (k_repr hG (units_of hr)) T.z_repr (by decide +kernel) (pa_c (pe_v (pv 10)) pa_n)) (pe_bi (k_repr hG (units_of hr)) T.z_repr (by decide +kernel) (pa_c (pe_v (pv 8)) pa_n)))) (L2.pw_or1 (pt_th (pt_cp (o_ne (units_of hr)) (pe_bi (k_repr hG (units_of hr)) T.z_repr (by decide +kernel) (pa_c (PE.lE (pfL G_results_of (hr.mono (by decide)) hG T.g_results_of T.F_results_of.kp T.b_results_of (pa_c (pe_v (pv 3)) (pa_c (pe_v (pv 10)) pa_n)))) pa_n)) (pe_bi (k_repr hG (units_of hr)) T.z_repr (by decide +kernel) (pa_c (pe_v (pv 5)) pa_n)))))))
    (ss_1 (ps_rt rfl pk_bl))
    ss_nil)
    (ss_c (ps_i (pt_th (pt_cp (o_ne (units_of hr)) (pf G__law_sum (hr.mono (by decide)) hG T.g__law_sum T.F__law_sum.kp T.b__law_sum (pa_c (pe_v (pv 10)) (pa_c (pe_v (pv 10)) pa_n))) (pf G__law_times (hr.mono (by decide)) hG T.g__law_times T.F__law_times.kp T.b__law_times (pa_c (pe_tu (pa_c (pe_bi k_len T.z_len (by decide +kernel) (pa_c (pe_v (pv 4)) pa_n)) (pa_c pk_int pa_n)) (hl := (xCons_len (xCons_len xNil_len)))) (pa_c (pf G__law_sum (hr.mono (by decide)) hG T.g__law_sum T.F__law_sum.kp T.b__law_sum (pa_c (pe_v (pv 5)) (pa_c (pe_v (pv 5)) pa_n))) pa_n)))))
    (ss_1 (ps_rt rfl pk_bl))
    ss_nil)
    (ss_c (ps_as (i := 11) sc_law.nd (pf G__law_low (hr.mono (by decide)) hG T.g__law_low T.F__law_low.kp T.b__law_low (pa_c (pe_bin o_sub (pf G__law_mix (hr.mono (by decide)) hG T.g__law_mix T.F__law_mix.kp T.b__law_mix (pa_c (pe_v (pv 1)) (pa_c (pe_bin o_add pk_int (pe_v (pv 2))) (pa_c pk_int pa_n)))) pk_int) (pa_c pk_int pa_n))))
    (ss_c (ps_co (i := 12) (own := [("t", 15)]) rfl sc_law.nd (pi_r1 T.z_range (pa_c (pe_bi k_len T.z_len (by decide +kernel) (pa_c (pe_v (pv 4)) pa_n)) pa_n)) (blkOk_by (N := ["script", "draws", "turn", "factors", "runs", "one", "two", "kept", "due", "run", "told", "by", "both", "other", "word", "t", "v"]) (sc := defScope s_law) (by decide +kernel)) (gok_n 15) (by decide) (fun _ _ _ _ _ => (pg_name (i := 15) sc_law.nd rfl (by first | exact Or.inl rfl | exact Or.inr rfl))) (fun _ _ _ _ _ => pts_y) (fun _ _ _ _ _ => (pf G__law_plus (hr.mono (by decide)) hG T.g__law_plus T.F__law_plus.kp T.b__law_plus (pa_c (pe_i (pe_v (pv 5)) (pe_v (pv 15))) (pa_c (pf G__law_times (hr.mono (by decide)) hG T.g__law_times T.F__law_times.kp T.b__law_times (pa_c (pe_v (pv 11)) (pa_c (pe_i (pe_v (pv 6)) (pe_v (pv 15))) pa_n))) pa_n)))) (sw_true rfl rfl rfl (by decide +kernel)))
    (ss_c (ps_as (i := 13) sc_law.nd (PE.lE (pfL G_all_contrasts (hr.mono (by decide)) hG T.g_all_contrasts T.F_all_contrasts.kp T.b_all_contrasts (pa_c (pe_v (pv 3)) (pa_c (pe_v (pv 6)) pa_n)))))
    (ss_c (ps_i (pt_cp (o_ne (units_of hr)) (PE.lE (pfL G_all_contrasts (hr.mono (by decide)) hG T.g_all_contrasts T.F_all_contrasts.kp T.b_all_contrasts (pa_c (pe_v (pv 3)) (pa_c (pe_v (pv 12)) pa_n)))) (PE.lE (pe_co (own := [("t", 15)]) rfl sc_law.nd (pi_r1 T.z_range (pa_c (pe_bi k_len T.z_len (by decide +kernel) (pa_c (pe_v (pv 4)) pa_n)) pa_n)) (blkOk_by (N := ["script", "draws", "turn", "factors", "runs", "one", "two", "kept", "due", "run", "told", "by", "both", "other", "word", "t", "v"]) (sc := defScope s_law) (by decide +kernel)) (gok_n 15) (by decide) (fun _ _ _ _ _ => (pg_name (i := 15) sc_law.nd rfl (by first | exact Or.inl rfl | exact Or.inr rfl))) (fun _ _ _ _ _ => pts_y) (fun _ _ _ _ _ => (pf G__law_plus (hr.mono (by decide)) hG T.g__law_plus T.F__law_plus.kp T.b__law_plus (pa_c (pe_im (pv 10) (pe_v (pv 15))) (pa_c (pf G__law_times (hr.mono (by decide)) hG T.g__law_times T.F__law_times.kp T.b__law_times (pa_c (pe_v (pv 11)) (pa_c (pe_i (pe_v (pv 13)) (pe_v (pv 15))) pa_n))) pa_n)))))))
    (ss_1 (ps_rt rfl pk_bl))
    ss_nil)
    (ss_c (ps_ap (i := 10) (ps_expr (pe_bm PySem.F.plainAttrs_list PySem.F.slot_list_append PySem.F.type_list_append mt_append (pv 10) (pa_cons (pe_tu (pa_c pk_int (pa_c pk_int pa_n)) (hl := (xCons_len (xCons_len xNil_len)))) pa_nil))))
    (ss_1 (ps_i (L2.PW.pt (pw_orr (pt_cp (o_ne (units_of hr)) (pe_bi (k_repr hG (units_of hr)) T.z_repr (by decide +kernel) (pa_c (PE.lE (pfL G_all_contrasts (hr.mono (by decide)) hG T.g_all_contrasts T.F_all_contrasts.kp T.b_all_contrasts (pa_c (pe_v (pv 3)) (pa_c (pe_v (pv 5)) pa_n)))) pa_n)) (pe_bi (k_repr hG (units_of hr)) T.z_repr (by decide +kernel) (pa_c (pe_v (pv 8)) pa_n))) (L2.pw_or1 (pt_cp (o_ne (units_of hr)) (pe_bi (k_repr hG (units_of hr)) T.z_repr (by decide +kernel) (pa_c (pe_tu (pa_c (pe_v (pv 5)) (pa_c (pe_v (pv 6)) pa_n)) (hl := (xCons_len (xCons_len xNil_len)))) pa_n)) (pe_v (pv 7))))))
    (ss_1 (ps_rt rfl pk_bl))
    ss_nil)))))))))))))))))))
  (ss_1 (ps_rt rfl pk_bl))))
theorem all (T : Top K mg) : FnG P w K mg base 5 T.a_law T.d_law ["script"] (spF K f_law) := by
  have G_is_word := ok_is_word (P := P) (w := w) (base := base) T
  have G_is_even := ok_is_even (P := P) (w := w) (base := base) T
  have G_sign := ok_sign (P := P) (w := w) (base := base) T G_is_even
  have G_all_rows := ok_all_rows (P := P) (w := w) (base := base) T
  have G_is_fraction := ok_is_fraction (P := P) (w := w) (base := base) T
  have G_fraction := ok_fraction (P := P) (w := w) (base := base) T
  have G_plus := ok_plus (P := P) (w := w) (base := base) T G_fraction
  have G_minus := ok_minus (P := P) (w := w) (base := base) T G_fraction
  have G_times := ok_times (P := P) (w := w) (base := base) T G_fraction
  have G_over := ok_over (P := P) (w := w) (base := base) T G_fraction
  have G_check_factors := ok_check_factors (P := P) (w := w) (base := base) T
  have G_check_fractions := ok_check_fractions (P := P) (w := w) (base := base) T G_is_fraction
  have G_check_results := ok_check_results (P := P) (w := w) (base := base) T G_check_factors G_check_fractions G_all_rows
  have G_contrast := ok_contrast (P := P) (w := w) (base := base) T G_check_results G_is_word G_all_rows G_plus G_times G_sign
  have G_yates := ok_yates (P := P) (w := w) (base := base) T G_plus G_minus
  have G_all_contrasts := ok_all_contrasts (P := P) (w := w) (base := base) T G_check_results G_yates
  have G_results_of := ok_results_of (P := P) (w := w) (base := base) T G_check_results G_over G_yates
  have G__law_draws := ok__law_draws (P := P) (w := w) (base := base) T
  have G__law_mix := ok__law_mix (P := P) (w := w) (base := base) T
  have G__law_low := ok__law_low (P := P) (w := w) (base := base) T
  have G__law_plus := ok__law_plus (P := P) (w := w) (base := base) T G__law_low
  have G__law_times := ok__law_times (P := P) (w := w) (base := base) T G__law_low
  have G__law_total := ok__law_total (P := P) (w := w) (base := base) T G__law_plus
  have G__law_rows := ok__law_rows (P := P) (w := w) (base := base) T
  have G__law_sign := ok__law_sign (P := P) (w := w) (base := base) T
  have G__law_numbers := ok__law_numbers (P := P) (w := w) (base := base) T G__law_low G__law_mix
  have G__law_sum := ok__law_sum (P := P) (w := w) (base := base) T G__law_total G__law_times
  have G_law := ok_law (P := P) (w := w) (base := base) T G__law_draws G__law_rows G__law_numbers G_all_contrasts G__law_low G__law_mix G__law_sum G__law_times G__law_plus G_results_of G_contrast G__law_sign
  exact G_law
end
end My
set_option Elab.async false
set_option linter.all false
set_option maxRecDepth 100000
set_option maxHeartbeats 4000000
/-! what the top has written, and the end -/
namespace My
open PySem PySem.Spec PyProof.Rows L2 Tw
theorem all_mk {l : PySem.W.OpenLaw} {w : World} {K : PySem.W.Frag} {h : Heap} {mg : Str → Option Value} {fa : Addr} (X : K.In h) (G : h.Ns mainGlobals mg) (hfa : mg "law" = some (.ref fa))
    {od0 an0 : Option Addr} {sl0 : Array (Option Value)} {oc0 kV0 dc0 pm0 cd0 ct0 : Value} {f0 : Addr}
    (a0 : PySem.W.nsIn K mainGlobals "is_word" = some (some (.ref f0))) (l0 : K.lookup f0 = some ⟨oc0, od0, .func (PySem.W.fnOf "is_word" "is_word" (defArgs s_is_word) (defBody s_is_word) (defScope s_is_word) .none kV0 dc0 pm0 an0 cd0 ct0), sl0⟩) (c0 : PySem.W.codeIn K cd0 "is_word" = true) (k0 : PySem.W.keepIn K (.ref f0) = true)
    {od1 an1 : Option Addr} {sl1 : Array (Option Value)} {oc1 kV1 dc1 pm1 cd1 ct1 : Value} {f1 : Addr}
    (a1 : PySem.W.nsIn K mainGlobals "is_even" = some (some (.ref f1))) (l1 : K.lookup f1 = some ⟨oc1, od1, .func (PySem.W.fnOf "is_even" "is_even" (defArgs s_is_even) (defBody s_is_even) (defScope s_is_even) .none kV1 dc1 pm1 an1 cd1 ct1), sl1⟩) (c1 : PySem.W.codeIn K cd1 "is_even" = true) (k1 : PySem.W.keepIn K (.ref f1) = true)
    {od2 an2 : Option Addr} {sl2 : Array (Option Value)} {oc2 kV2 dc2 pm2 cd2 ct2 : Value} {f2 : Addr}
    (a2 : PySem.W.nsIn K mainGlobals "sign" = some (some (.ref f2))) (l2 : K.lookup f2 = some ⟨oc2, od2, .func (PySem.W.fnOf "sign" "sign" (defArgs s_sign) (defBody s_sign) (defScope s_sign) .none kV2 dc2 pm2 an2 cd2 ct2), sl2⟩) (c2 : PySem.W.codeIn K cd2 "sign" = true) (k2 : PySem.W.keepIn K (.ref f2) = true)
    {od3 an3 : Option Addr} {sl3 : Array (Option Value)} {oc3 kV3 dc3 pm3 cd3 ct3 : Value} {f3 : Addr}
    (a3 : PySem.W.nsIn K mainGlobals "all_rows" = some (some (.ref f3))) (l3 : K.lookup f3 = some ⟨oc3, od3, .func (PySem.W.fnOf "all_rows" "all_rows" (defArgs s_all_rows) (defBody s_all_rows) (defScope s_all_rows) .none kV3 dc3 pm3 an3 cd3 ct3), sl3⟩) (c3 : PySem.W.codeIn K cd3 "all_rows" = true) (k3 : PySem.W.keepIn K (.ref f3) = true)
    {od4 an4 : Option Addr} {sl4 : Array (Option Value)} {oc4 kV4 dc4 pm4 cd4 ct4 : Value} {f4 : Addr}
    (a4 : PySem.W.nsIn K mainGlobals "is_fraction" = some (some (.ref f4))) (l4 : K.lookup f4 = some ⟨oc4, od4, .func (PySem.W.fnOf "is_fraction" "is_fraction" (defArgs s_is_fraction) (defBody s_is_fraction) (defScope s_is_fraction) .none kV4 dc4 pm4 an4 cd4 ct4), sl4⟩) (c4 : PySem.W.codeIn K cd4 "is_fraction" = true) (k4 : PySem.W.keepIn K (.ref f4) = true)
    {od5 an5 : Option Addr} {sl5 : Array (Option Value)} {oc5 kV5 dc5 pm5 cd5 ct5 : Value} {f5 : Addr}
    (a5 : PySem.W.nsIn K mainGlobals "fraction" = some (some (.ref f5))) (l5 : K.lookup f5 = some ⟨oc5, od5, .func (PySem.W.fnOf "fraction" "fraction" (defArgs s_fraction) (defBody s_fraction) (defScope s_fraction) .none kV5 dc5 pm5 an5 cd5 ct5), sl5⟩) (c5 : PySem.W.codeIn K cd5 "fraction" = true) (k5 : PySem.W.keepIn K (.ref f5) = true)
    {od6 an6 : Option Addr} {sl6 : Array (Option Value)} {oc6 kV6 dc6 pm6 cd6 ct6 : Value} {f6 : Addr}
    (a6 : PySem.W.nsIn K mainGlobals "plus" = some (some (.ref f6))) (l6 : K.lookup f6 = some ⟨oc6, od6, .func (PySem.W.fnOf "plus" "plus" (defArgs s_plus) (defBody s_plus) (defScope s_plus) .none kV6 dc6 pm6 an6 cd6 ct6), sl6⟩) (c6 : PySem.W.codeIn K cd6 "plus" = true) (k6 : PySem.W.keepIn K (.ref f6) = true)
    {od7 an7 : Option Addr} {sl7 : Array (Option Value)} {oc7 kV7 dc7 pm7 cd7 ct7 : Value} {f7 : Addr}
    (a7 : PySem.W.nsIn K mainGlobals "minus" = some (some (.ref f7))) (l7 : K.lookup f7 = some ⟨oc7, od7, .func (PySem.W.fnOf "minus" "minus" (defArgs s_minus) (defBody s_minus) (defScope s_minus) .none kV7 dc7 pm7 an7 cd7 ct7), sl7⟩) (c7 : PySem.W.codeIn K cd7 "minus" = true) (k7 : PySem.W.keepIn K (.ref f7) = true)
    {od8 an8 : Option Addr} {sl8 : Array (Option Value)} {oc8 kV8 dc8 pm8 cd8 ct8 : Value} {f8 : Addr}
    (a8 : PySem.W.nsIn K mainGlobals "times" = some (some (.ref f8))) (l8 : K.lookup f8 = some ⟨oc8, od8, .func (PySem.W.fnOf "times" "times" (defArgs s_times) (defBody s_times) (defScope s_times) .none kV8 dc8 pm8 an8 cd8 ct8), sl8⟩) (c8 : PySem.W.codeIn K cd8 "times" = true) (k8 : PySem.W.keepIn K (.ref f8) = true)
    {od9 an9 : Option Addr} {sl9 : Array (Option Value)} {oc9 kV9 dc9 pm9 cd9 ct9 : Value} {f9 : Addr}
    (a9 : PySem.W.nsIn K mainGlobals "over" = some (some (.ref f9))) (l9 : K.lookup f9 = some ⟨oc9, od9, .func (PySem.W.fnOf "over" "over" (defArgs s_over) (defBody s_over) (defScope s_over) .none kV9 dc9 pm9 an9 cd9 ct9), sl9⟩) (c9 : PySem.W.codeIn K cd9 "over" = true) (k9 : PySem.W.keepIn K (.ref f9) = true)
    {od10 an10 : Option Addr} {sl10 : Array (Option Value)} {oc10 kV10 dc10 pm10 cd10 ct10 : Value} {f10 : Addr}
    (a10 : PySem.W.nsIn K mainGlobals "check_factors" = some (some (.ref f10))) (l10 : K.lookup f10 = some ⟨oc10, od10, .func (PySem.W.fnOf "check_factors" "check_factors" (defArgs s_check_factors) (defBody s_check_factors) (defScope s_check_factors) .none kV10 dc10 pm10 an10 cd10 ct10), sl10⟩) (c10 : PySem.W.codeIn K cd10 "check_factors" = true) (k10 : PySem.W.keepIn K (.ref f10) = true)
    {od11 an11 : Option Addr} {sl11 : Array (Option Value)} {oc11 kV11 dc11 pm11 cd11 ct11 : Value} {f11 : Addr}
    (a11 : PySem.W.nsIn K mainGlobals "check_fractions" = some (some (.ref f11))) (l11 : K.lookup f11 = some ⟨oc11, od11, .func (PySem.W.fnOf "check_fractions" "check_fractions" (defArgs s_check_fractions) (defBody s_check_fractions) (defScope s_check_fractions) .none kV11 dc11 pm11 an11 cd11 ct11), sl11⟩) (c11 : PySem.W.codeIn K cd11 "check_fractions" = true) (k11 : PySem.W.keepIn K (.ref f11) = true)
    {od12 an12 : Option Addr} {sl12 : Array (Option Value)} {oc12 kV12 dc12 pm12 cd12 ct12 : Value} {f12 : Addr}
    (a12 : PySem.W.nsIn K mainGlobals "check_results" = some (some (.ref f12))) (l12 : K.lookup f12 = some ⟨oc12, od12, .func (PySem.W.fnOf "check_results" "check_results" (defArgs s_check_results) (defBody s_check_results) (defScope s_check_results) .none kV12 dc12 pm12 an12 cd12 ct12), sl12⟩) (c12 : PySem.W.codeIn K cd12 "check_results" = true) (k12 : PySem.W.keepIn K (.ref f12) = true)
    {od13 an13 : Option Addr} {sl13 : Array (Option Value)} {oc13 kV13 dc13 pm13 cd13 ct13 : Value} {f13 : Addr}
    (a13 : PySem.W.nsIn K mainGlobals "contrast" = some (some (.ref f13))) (l13 : K.lookup f13 = some ⟨oc13, od13, .func (PySem.W.fnOf "contrast" "contrast" (defArgs s_contrast) (defBody s_contrast) (defScope s_contrast) .none kV13 dc13 pm13 an13 cd13 ct13), sl13⟩) (c13 : PySem.W.codeIn K cd13 "contrast" = true) (k13 : PySem.W.keepIn K (.ref f13) = true)
    {od14 an14 : Option Addr} {sl14 : Array (Option Value)} {oc14 kV14 dc14 pm14 cd14 ct14 : Value} {f14 : Addr}
    (a14 : PySem.W.nsIn K mainGlobals "yates" = some (some (.ref f14))) (l14 : K.lookup f14 = some ⟨oc14, od14, .func (PySem.W.fnOf "yates" "yates" (defArgs s_yates) (defBody s_yates) (defScope s_yates) .none kV14 dc14 pm14 an14 cd14 ct14), sl14⟩) (c14 : PySem.W.codeIn K cd14 "yates" = true) (k14 : PySem.W.keepIn K (.ref f14) = true)
    {od15 an15 : Option Addr} {sl15 : Array (Option Value)} {oc15 kV15 dc15 pm15 cd15 ct15 : Value} {f15 : Addr}
    (a15 : PySem.W.nsIn K mainGlobals "all_contrasts" = some (some (.ref f15))) (l15 : K.lookup f15 = some ⟨oc15, od15, .func (PySem.W.fnOf "all_contrasts" "all_contrasts" (defArgs s_all_contrasts) (defBody s_all_contrasts) (defScope s_all_contrasts) .none kV15 dc15 pm15 an15 cd15 ct15), sl15⟩) (c15 : PySem.W.codeIn K cd15 "all_contrasts" = true) (k15 : PySem.W.keepIn K (.ref f15) = true)
    {od16 an16 : Option Addr} {sl16 : Array (Option Value)} {oc16 kV16 dc16 pm16 cd16 ct16 : Value} {f16 : Addr}
    (a16 : PySem.W.nsIn K mainGlobals "results_of" = some (some (.ref f16))) (l16 : K.lookup f16 = some ⟨oc16, od16, .func (PySem.W.fnOf "results_of" "results_of" (defArgs s_results_of) (defBody s_results_of) (defScope s_results_of) .none kV16 dc16 pm16 an16 cd16 ct16), sl16⟩) (c16 : PySem.W.codeIn K cd16 "results_of" = true) (k16 : PySem.W.keepIn K (.ref f16) = true)
    {od17 an17 : Option Addr} {sl17 : Array (Option Value)} {oc17 kV17 dc17 pm17 cd17 ct17 : Value} {f17 : Addr}
    (a17 : PySem.W.nsIn K mainGlobals "_law_draws" = some (some (.ref f17))) (l17 : K.lookup f17 = some ⟨oc17, od17, .func (PySem.W.fnOf "_law_draws" "_law_draws" (defArgs s__law_draws) (defBody s__law_draws) (defScope s__law_draws) .none kV17 dc17 pm17 an17 cd17 ct17), sl17⟩) (c17 : PySem.W.codeIn K cd17 "_law_draws" = true) (k17 : PySem.W.keepIn K (.ref f17) = true)
    {od18 an18 : Option Addr} {sl18 : Array (Option Value)} {oc18 kV18 dc18 pm18 cd18 ct18 : Value} {f18 : Addr}
    (a18 : PySem.W.nsIn K mainGlobals "_law_mix" = some (some (.ref f18))) (l18 : K.lookup f18 = some ⟨oc18, od18, .func (PySem.W.fnOf "_law_mix" "_law_mix" (defArgs s__law_mix) (defBody s__law_mix) (defScope s__law_mix) .none kV18 dc18 pm18 an18 cd18 ct18), sl18⟩) (c18 : PySem.W.codeIn K cd18 "_law_mix" = true) (k18 : PySem.W.keepIn K (.ref f18) = true)
    {od19 an19 : Option Addr} {sl19 : Array (Option Value)} {oc19 kV19 dc19 pm19 cd19 ct19 : Value} {f19 : Addr}
    (a19 : PySem.W.nsIn K mainGlobals "_law_low" = some (some (.ref f19))) (l19 : K.lookup f19 = some ⟨oc19, od19, .func (PySem.W.fnOf "_law_low" "_law_low" (defArgs s__law_low) (defBody s__law_low) (defScope s__law_low) .none kV19 dc19 pm19 an19 cd19 ct19), sl19⟩) (c19 : PySem.W.codeIn K cd19 "_law_low" = true) (k19 : PySem.W.keepIn K (.ref f19) = true)
    {od20 an20 : Option Addr} {sl20 : Array (Option Value)} {oc20 kV20 dc20 pm20 cd20 ct20 : Value} {f20 : Addr}
    (a20 : PySem.W.nsIn K mainGlobals "_law_plus" = some (some (.ref f20))) (l20 : K.lookup f20 = some ⟨oc20, od20, .func (PySem.W.fnOf "_law_plus" "_law_plus" (defArgs s__law_plus) (defBody s__law_plus) (defScope s__law_plus) .none kV20 dc20 pm20 an20 cd20 ct20), sl20⟩) (c20 : PySem.W.codeIn K cd20 "_law_plus" = true) (k20 : PySem.W.keepIn K (.ref f20) = true)
    {od21 an21 : Option Addr} {sl21 : Array (Option Value)} {oc21 kV21 dc21 pm21 cd21 ct21 : Value} {f21 : Addr}
    (a21 : PySem.W.nsIn K mainGlobals "_law_times" = some (some (.ref f21))) (l21 : K.lookup f21 = some ⟨oc21, od21, .func (PySem.W.fnOf "_law_times" "_law_times" (defArgs s__law_times) (defBody s__law_times) (defScope s__law_times) .none kV21 dc21 pm21 an21 cd21 ct21), sl21⟩) (c21 : PySem.W.codeIn K cd21 "_law_times" = true) (k21 : PySem.W.keepIn K (.ref f21) = true)
    {od22 an22 : Option Addr} {sl22 : Array (Option Value)} {oc22 kV22 dc22 pm22 cd22 ct22 : Value} {f22 : Addr}
    (a22 : PySem.W.nsIn K mainGlobals "_law_total" = some (some (.ref f22))) (l22 : K.lookup f22 = some ⟨oc22, od22, .func (PySem.W.fnOf "_law_total" "_law_total" (defArgs s__law_total) (defBody s__law_total) (defScope s__law_total) .none kV22 dc22 pm22 an22 cd22 ct22), sl22⟩) (c22 : PySem.W.codeIn K cd22 "_law_total" = true) (k22 : PySem.W.keepIn K (.ref f22) = true)
    {od23 an23 : Option Addr} {sl23 : Array (Option Value)} {oc23 kV23 dc23 pm23 cd23 ct23 : Value} {f23 : Addr}
    (a23 : PySem.W.nsIn K mainGlobals "_law_rows" = some (some (.ref f23))) (l23 : K.lookup f23 = some ⟨oc23, od23, .func (PySem.W.fnOf "_law_rows" "_law_rows" (defArgs s__law_rows) (defBody s__law_rows) (defScope s__law_rows) .none kV23 dc23 pm23 an23 cd23 ct23), sl23⟩) (c23 : PySem.W.codeIn K cd23 "_law_rows" = true) (k23 : PySem.W.keepIn K (.ref f23) = true)
    {od24 an24 : Option Addr} {sl24 : Array (Option Value)} {oc24 kV24 dc24 pm24 cd24 ct24 : Value} {f24 : Addr}
    (a24 : PySem.W.nsIn K mainGlobals "_law_sign" = some (some (.ref f24))) (l24 : K.lookup f24 = some ⟨oc24, od24, .func (PySem.W.fnOf "_law_sign" "_law_sign" (defArgs s__law_sign) (defBody s__law_sign) (defScope s__law_sign) .none kV24 dc24 pm24 an24 cd24 ct24), sl24⟩) (c24 : PySem.W.codeIn K cd24 "_law_sign" = true) (k24 : PySem.W.keepIn K (.ref f24) = true)
    {od25 an25 : Option Addr} {sl25 : Array (Option Value)} {oc25 kV25 dc25 pm25 cd25 ct25 : Value} {f25 : Addr}
    (a25 : PySem.W.nsIn K mainGlobals "_law_numbers" = some (some (.ref f25))) (l25 : K.lookup f25 = some ⟨oc25, od25, .func (PySem.W.fnOf "_law_numbers" "_law_numbers" (defArgs s__law_numbers) (defBody s__law_numbers) (defScope s__law_numbers) .none kV25 dc25 pm25 an25 cd25 ct25), sl25⟩) (c25 : PySem.W.codeIn K cd25 "_law_numbers" = true) (k25 : PySem.W.keepIn K (.ref f25) = true)
    {od26 an26 : Option Addr} {sl26 : Array (Option Value)} {oc26 kV26 dc26 pm26 cd26 ct26 : Value} {f26 : Addr}
    (a26 : PySem.W.nsIn K mainGlobals "_law_sum" = some (some (.ref f26))) (l26 : K.lookup f26 = some ⟨oc26, od26, .func (PySem.W.fnOf "_law_sum" "_law_sum" (defArgs s__law_sum) (defBody s__law_sum) (defScope s__law_sum) .none kV26 dc26 pm26 an26 cd26 ct26), sl26⟩) (c26 : PySem.W.codeIn K cd26 "_law_sum" = true) (k26 : PySem.W.keepIn K (.ref f26) = true)
    {od27 an27 : Option Addr} {sl27 : Array (Option Value)} {oc27 kV27 dc27 pm27 cd27 ct27 : Value} {f27 : Addr}
    (a27 : PySem.W.nsIn K mainGlobals "law" = some (some (.ref f27))) (l27 : K.lookup f27 = some ⟨oc27, od27, .func (PySem.W.fnOf "law" "law" (defArgs s_law) (defBody s_law) (defScope s_law) .none kV27 dc27 pm27 an27 cd27 ct27), sl27⟩) (c27 : PySem.W.codeIn K cd27 "law" = true) (k27 : PySem.W.keepIn K (.ref f27) = true)
    {t_MOST_FACTORS : Tok} (q_MOST_FACTORS : PySem.W.nsIn K mainGlobals "MOST_FACTORS" = some (some (.int 5 t_MOST_FACTORS)))
    (z_abs : PySem.W.nsIn K mainGlobals "abs" = some none)
    (z_all : PySem.W.nsIn K mainGlobals "all" = some none)
    (z_enumerate : PySem.W.nsIn K mainGlobals "enumerate" = some none)
    (z_int : PySem.W.nsIn K mainGlobals "int" = some none)
    (z_len : PySem.W.nsIn K mainGlobals "len" = some none)
    (z_list : PySem.W.nsIn K mainGlobals "list" = some none)
    (z_min : PySem.W.nsIn K mainGlobals "min" = some none)
    (z_range : PySem.W.nsIn K mainGlobals "range" = some none)
    (z_repr : PySem.W.nsIn K mainGlobals "repr" = some none)
    (z_sum : PySem.W.nsIn K mainGlobals "sum" = some none)
    (z_zip : PySem.W.nsIn K mainGlobals "zip" = some none)
    (m_gcd : PySem.W.nsIn K mainGlobals "gcd" = some (some (.builtin "math.gcd")))
    : ∃ fd : FuncData, (∀ (s : Shared) (v : Value), BindsTo s fd ⟨[v], []⟩ [("script", v)]) ∧ ∀ base : Heap, K.In base → base.Ns mainGlobals mg → FnG l.prog w K mg base 5 fa fd ["script"] (spF K f_law) := by
  have e := hfa.symm.trans (PySem.W.mg_of X G a27)
  cases e
  have F0 := fun_mk (st := s_is_word) l0 c0 k0
  have B0 := F0.binds (ps := ["factors", "word"]) fun _ _ _ _ _ _ us hl => match us, hl with | [_, _], _ => rfl
  have F1 := fun_mk (st := s_is_even) l1 c1 k1
  have B1 := F1.binds (ps := ["word", "run"]) fun _ _ _ _ _ _ us hl => match us, hl with | [_, _], _ => rfl
  have F2 := fun_mk (st := s_sign) l2 c2 k2
  have B2 := F2.binds (ps := ["word", "run"]) fun _ _ _ _ _ _ us hl => match us, hl with | [_, _], _ => rfl
  have F3 := fun_mk (st := s_all_rows) l3 c3 k3
  have B3 := F3.binds (ps := ["factors"]) fun _ _ _ _ _ _ us hl => match us, hl with | [_], _ => rfl
  have F4 := fun_mk (st := s_is_fraction) l4 c4 k4
  have B4 := F4.binds (ps := ["told"]) fun _ _ _ _ _ _ us hl => match us, hl with | [_], _ => rfl
  have F5 := fun_mk (st := s_fraction) l5 c5 k5
  have B5 := F5.binds (ps := ["number", "by"]) fun _ _ _ _ _ _ us hl => match us, hl with | [_, _], _ => rfl
  have F6 := fun_mk (st := s_plus) l6 c6 k6
  have B6 := F6.binds (ps := ["one", "two"]) fun _ _ _ _ _ _ us hl => match us, hl with | [_, _], _ => rfl
  have F7 := fun_mk (st := s_minus) l7 c7 k7
  have B7 := F7.binds (ps := ["one", "two"]) fun _ _ _ _ _ _ us hl => match us, hl with | [_, _], _ => rfl
  have F8 := fun_mk (st := s_times) l8 c8 k8
  have B8 := F8.binds (ps := ["one", "two"]) fun _ _ _ _ _ _ us hl => match us, hl with | [_, _], _ => rfl
  have F9 := fun_mk (st := s_over) l9 c9 k9
  have B9 := F9.binds (ps := ["one", "two"]) fun _ _ _ _ _ _ us hl => match us, hl with | [_, _], _ => rfl
  have F10 := fun_mk (st := s_check_factors) l10 c10 k10
  have B10 := F10.binds (ps := ["factors"]) fun _ _ _ _ _ _ us hl => match us, hl with | [_], _ => rfl
  have F11 := fun_mk (st := s_check_fractions) l11 c11 k11
  have B11 := F11.binds (ps := ["told", "many"]) fun _ _ _ _ _ _ us hl => match us, hl with | [_, _], _ => rfl
  have F12 := fun_mk (st := s_check_results) l12 c12 k12
  have B12 := F12.binds (ps := ["factors", "results"]) fun _ _ _ _ _ _ us hl => match us, hl with | [_, _], _ => rfl
  have F13 := fun_mk (st := s_contrast) l13 c13 k13
  have B13 := F13.binds (ps := ["factors", "results", "word"]) fun _ _ _ _ _ _ us hl => match us, hl with | [_, _, _], _ => rfl
  have F14 := fun_mk (st := s_yates) l14 c14 k14
  have B14 := F14.binds (ps := ["factors", "told"]) fun _ _ _ _ _ _ us hl => match us, hl with | [_, _], _ => rfl
  have F15 := fun_mk (st := s_all_contrasts) l15 c15 k15
  have B15 := F15.binds (ps := ["factors", "results"]) fun _ _ _ _ _ _ us hl => match us, hl with | [_, _], _ => rfl
  have F16 := fun_mk (st := s_results_of) l16 c16 k16
  have B16 := F16.binds (ps := ["factors", "told"]) fun _ _ _ _ _ _ us hl => match us, hl with | [_, _], _ => rfl
  have F17 := fun_mk (st := s__law_draws) l17 c17 k17
  have B17 := F17.binds (ps := ["script"]) fun _ _ _ _ _ _ us hl => match us, hl with | [_], _ => rfl
  have F18 := fun_mk (st := s__law_mix) l18 c18 k18
  have B18 := F18.binds (ps := ["draws", "k", "many"]) fun _ _ _ _ _ _ us hl => match us, hl with | [_, _, _], _ => rfl
  have F19 := fun_mk (st := s__law_low) l19 c19 k19
  have B19 := F19.binds (ps := ["number", "by"]) fun _ _ _ _ _ _ us hl => match us, hl with | [_, _], _ => rfl
  have F20 := fun_mk (st := s__law_plus) l20 c20 k20
  have B20 := F20.binds (ps := ["one", "two"]) fun _ _ _ _ _ _ us hl => match us, hl with | [_, _], _ => rfl
  have F21 := fun_mk (st := s__law_times) l21 c21 k21
  have B21 := F21.binds (ps := ["one", "two"]) fun _ _ _ _ _ _ us hl => match us, hl with | [_, _], _ => rfl
  have F22 := fun_mk (st := s__law_total) l22 c22 k22
  have B22 := F22.binds (ps := ["told"]) fun _ _ _ _ _ _ us hl => match us, hl with | [_], _ => rfl
  have F23 := fun_mk (st := s__law_rows) l23 c23 k23
  have B23 := F23.binds (ps := ["factors"]) fun _ _ _ _ _ _ us hl => match us, hl with | [_], _ => rfl
  have F24 := fun_mk (st := s__law_sign) l24 c24 k24
  have B24 := F24.binds (ps := ["word", "run"]) fun _ _ _ _ _ _ us hl => match us, hl with | [_, _], _ => rfl
  have F25 := fun_mk (st := s__law_numbers) l25 c25 k25
  have B25 := F25.binds (ps := ["draws", "k", "many"]) fun _ _ _ _ _ _ us hl => match us, hl with | [_, _, _], _ => rfl
  have F26 := fun_mk (st := s__law_sum) l26 c26 k26
  have B26 := F26.binds (ps := ["one", "two"]) fun _ _ _ _ _ _ us hl => match us, hl with | [_, _], _ => rfl
  have F27 := fun_mk (st := s_law) l27 c27 k27
  have B27 := F27.binds (ps := ["script"]) fun _ _ _ _ _ _ us hl => match us, hl with | [_], _ => rfl
  refine ⟨_, fun s v => .of_eq rfl, fun base _ _ => all ⟨_, _, F0, PySem.W.mg_of X G a0, B0, _, _, F1, PySem.W.mg_of X G a1, B1, _, _, F2, PySem.W.mg_of X G a2, B2, _, _, F3, PySem.W.mg_of X G a3, B3, _, _, F4, PySem.W.mg_of X G a4, B4, _, _, F5, PySem.W.mg_of X G a5, B5, _, _, F6, PySem.W.mg_of X G a6, B6, _, _, F7, PySem.W.mg_of X G a7, B7, _, _, F8, PySem.W.mg_of X G a8, B8, _, _, F9, PySem.W.mg_of X G a9, B9, _, _, F10, PySem.W.mg_of X G a10, B10, _, _, F11, PySem.W.mg_of X G a11, B11, _, _, F12, PySem.W.mg_of X G a12, B12, _, _, F13, PySem.W.mg_of X G a13, B13, _, _, F14, PySem.W.mg_of X G a14, B14, _, _, F15, PySem.W.mg_of X G a15, B15, _, _, F16, PySem.W.mg_of X G a16, B16, _, _, F17, PySem.W.mg_of X G a17, B17, _, _, F18, PySem.W.mg_of X G a18, B18, _, _, F19, PySem.W.mg_of X G a19, B19, _, _, F20, PySem.W.mg_of X G a20, B20, _, _, F21, PySem.W.mg_of X G a21, B21, _, _, F22, PySem.W.mg_of X G a22, B22, _, _, F23, PySem.W.mg_of X G a23, B23, _, _, F24, PySem.W.mg_of X G a24, B24, _, _, F25, PySem.W.mg_of X G a25, B25, _, _, F26, PySem.W.mg_of X G a26, B26, _, _, F27, PySem.W.mg_of X G a27, B27, _, PySem.W.mg_of X G q_MOST_FACTORS, PySem.W.mg_none_of X G z_abs, PySem.W.mg_none_of X G z_all, PySem.W.mg_none_of X G z_enumerate, PySem.W.mg_none_of X G z_int, PySem.W.mg_none_of X G z_len, PySem.W.mg_none_of X G z_list, PySem.W.mg_none_of X G z_min, PySem.W.mg_none_of X G z_range, PySem.W.mg_none_of X G z_repr, PySem.W.mg_none_of X G z_sum, PySem.W.mg_none_of X G z_zip, _root_.PySem.W.mg_of X G m_gcd⟩⟩
end My
open PySem PySem.W PyProof.Rows
set_option maxHeartbeats 0 in
theorem PySem.Challenge.cw_triedwares_k25_whole_contrasts_at_once_holds : PySem.Challenge.rw_triedwares_k25_whole_contrasts_at_once.Holds := by
  w_on; o_law; k_head; (case hw => w_witness2)
  k_fill
  refine Tw.walkG (l := PySem.Challenge.rw_triedwares_k25_whole_contrasts_at_once) (n := 63) (k := 5) (x := "script") (sp := fun w => Tw.spF _ My.f_law) rfl (by decide) rfl ⟨rfl, by decide, by decide⟩ (fun w h Y => PySem.W.kIn_of Y) ?F (fun w H a ns hl _ hS => Tw.law_in hS (My.law_true ns hl))
  case F =>
    intro w mg fa h KX G hmg
    refine' My.all_mk KX G hmg ?a0 ?l0 ?c0 ?k0 ?a1 ?l1 ?c1 ?k1 ?a2 ?l2 ?c2 ?k2 ?a3 ?l3 ?c3 ?k3 ?a4 ?l4 ?c4 ?k4 ?a5 ?l5 ?c5 ?k5 ?a6 ?l6 ?c6 ?k6 ?a7 ?l7 ?c7 ?k7 ?a8 ?l8 ?c8 ?k8 ?a9 ?l9 ?c9 ?k9 ?a10 ?l10 ?c10 ?k10 ?a11 ?l11 ?c11 ?k11 ?a12 ?l12 ?c12 ?k12 ?a13 ?l13 ?c13 ?k13 ?a14 ?l14 ?c14 ?k14 ?a15 ?l15 ?c15 ?k15 ?a16 ?l16 ?c16 ?k16 ?a17 ?l17 ?c17 ?k17 ?a18 ?l18 ?c18 ?k18 ?a19 ?l19 ?c19 ?k19 ?a20 ?l20 ?c20 ?k20 ?a21 ?l21 ?c21 ?k21 ?a22 ?l22 ?c22 ?k22 ?a23 ?l23 ?c23 ?k23 ?a24 ?l24 ?c24 ?k24 ?a25 ?l25 ?c25 ?k25 ?a26 ?l26 ?c26 ?k26 ?a27 ?l27 ?c27 ?k27 ?q_MOST_FACTORS ?z_abs ?z_all ?z_enumerate ?z_int ?z_len ?z_list ?z_min ?z_range ?z_repr ?z_sum ?z_zip ?m_gcd
    (case a0 => k_is); (case l0 => k_is); (case c0 => k_is); (case k0 => k_is)
    (case a1 => k_is); (case l1 => k_is); (case c1 => k_is); (case k1 => k_is)
    (case a2 => k_is); (case l2 => k_is); (case c2 => k_is); (case k2 => k_is)
    (case a3 => k_is); (case l3 => k_is); (case c3 => k_is); (case k3 => k_is)
    (case a4 => k_is); (case l4 => k_is); (case c4 => k_is); (case k4 => k_is)
    (case a5 => k_is); (case l5 => k_is); (case c5 => k_is); (case k5 => k_is)
    (case a6 => k_is); (case l6 => k_is); (case c6 => k_is); (case k6 => k_is)
    (case a7 => k_is); (case l7 => k_is); (case c7 => k_is); (case k7 => k_is)
    (case a8 => k_is); (case l8 => k_is); (case c8 => k_is); (case k8 => k_is)
    (case a9 => k_is); (case l9 => k_is); (case c9 => k_is); (case k9 => k_is)
    (case a10 => k_is); (case l10 => k_is); (case c10 => k_is); (case k10 => k_is)
    (case a11 => k_is); (case l11 => k_is); (case c11 => k_is); (case k11 => k_is)
    (case a12 => k_is); (case l12 => k_is); (case c12 => k_is); (case k12 => k_is)
    (case a13 => k_is); (case l13 => k_is); (case c13 => k_is); (case k13 => k_is)
    (case a14 => k_is); (case l14 => k_is); (case c14 => k_is); (case k14 => k_is)
    (case a15 => k_is); (case l15 => k_is); (case c15 => k_is); (case k15 => k_is)
    (case a16 => k_is); (case l16 => k_is); (case c16 => k_is); (case k16 => k_is)
    (case a17 => k_is); (case l17 => k_is); (case c17 => k_is); (case k17 => k_is)
    (case a18 => k_is); (case l18 => k_is); (case c18 => k_is); (case k18 => k_is)
    (case a19 => k_is); (case l19 => k_is); (case c19 => k_is); (case k19 => k_is)
    (case a20 => k_is); (case l20 => k_is); (case c20 => k_is); (case k20 => k_is)
    (case a21 => k_is); (case l21 => k_is); (case c21 => k_is); (case k21 => k_is)
    (case a22 => k_is); (case l22 => k_is); (case c22 => k_is); (case k22 => k_is)
    (case a23 => k_is); (case l23 => k_is); (case c23 => k_is); (case k23 => k_is)
    (case a24 => k_is); (case l24 => k_is); (case c24 => k_is); (case k24 => k_is)
    (case a25 => k_is); (case l25 => k_is); (case c25 => k_is); (case k25 => k_is)
    (case a26 => k_is); (case l26 => k_is); (case c26 => k_is); (case k26 => k_is)
    (case a27 => k_is); (case l27 => k_is); (case c27 => k_is); (case k27 => k_is)
    (case q_MOST_FACTORS => k_is)
    (case z_abs => k_is)
    (case z_all => k_is)
    (case z_enumerate => k_is)
    (case z_int => k_is)
    (case z_len => k_is)
    (case z_list => k_is)
    (case z_min => k_is)
    (case z_range => k_is)
    (case z_repr => k_is)
    (case z_sum => k_is)
    (case z_zip => k_is)
    (case m_gcd => k_is)
