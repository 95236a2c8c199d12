import PyProof.Rows.All
import Wide.All
import OpenK.AllK
import Wide.FinOn
import HandS.ForMost
import HandS.Wide
import HandS.Flow
import HandS.Evl
import HandS.Exc
import HandS.TryOnly
import HandS.ExcOwn
import HandS.WordsExc
import KE.DataEq
import KE.DataCmp
import KE.DataMinMax
import KE.DataAny
import KE.DataFind
import KE.SortData
import PyProof.ReprRoads
import HandS.EndBits
import HandS.Style
import HandS.Star
import HandS.Gcd
import HandS.Conv
import HandS.Deep
import HandS.TupSets
import HandS.Zip
import KE.GoesMore
import KE.GoesEnum
import PyProof.ReprLen
import PySem.Challenge.RW_triedwares_k50_whole_covers_and_next_run
set_option Elab.async false
set_option linter.all false
set_option maxRecDepth 100000
set_option maxHeartbeats 4000000
/-! Tw1: data in the heap, environments, readings by programs over data -/
namespace Tw
open PySem PySem.Spec PyProof.Rows L2
abbrev D := PyData
/-! ### results -/
inductive R (α : Type) where
  | ok (a : α)
  | ex (c : Nat) (a : D)
  | bad
def R.bind {α β : Type} : R α → (α → R β) → R β
  | .ok a, f => f a
  | .ex c a, _ => .ex c a
  | .bad, _ => .bad
theorem R.bind_ok {α β : Type} {r : R α} {f : α → R β} {b : β} (h : r.bind f = .ok b) : ∃ a, r = .ok a ∧ f a = .ok b := by
  cases r with
  | ok a => exact ⟨a, rfl, h⟩
  | ex c a => cases h
  | bad => cases h
/-! ### data in a heap -/
def keyD : Key → D
  | .inl i => .int i
  | .inr x => .str x
mutual
def At (K : PySem.W.Frag) (H : Hp) : D → V → Prop
  | .none, v => v = .non
  | .bool b, v => v = .bl b
  | .int i, v => v = .int i
  | .str x, v => v = .str x
  | .list ds, v => ∃ a xs, v = .ref a ∧ SqL K H a xs ∧ AtL K H ds xs
  | .tuple ds, v => ∃ a xs, v = .ref a ∧ SqT K H a xs ∧ AtL K H ds xs
  | .dict es, v => ∃ a, v = .ref a ∧ ((∃ kvs, Rd H a (.dK kvs) ∧ AtK K H es kvs) ∨ (∃ kvs, Rd H a (.dT kvs) ∧ AtT K H es kvs) ∨
      ∃ (S : Int → Bool) (n : Nat) (xs : List Int), Rd H a (.set S n) ∧ es = [(.none, .list ((xs : List Int).map .int))] ∧ xs.Nodup ∧ (∀ i, S i = true ↔ i ∈ xs) ∧ xs.length = n)
def AtL (K : PySem.W.Frag) (H : Hp) : List D → List V → Prop
  | [], xs => xs = []
  | d :: ds, xs => ∃ v vs, xs = v :: vs ∧ At K H d v ∧ AtL K H ds vs
def AtK (K : PySem.W.Frag) (H : Hp) : List (D × D) → List (Key × V) → Prop
  | [], ks => ks = []
  | (k, d) :: es, ks => ∃ c v r, ks = (c, v) :: r ∧ k = keyD c ∧ At K H d v ∧ AtK K H es r
def AtT (K : PySem.W.Frag) (H : Hp) : List (D × D) → List (List Key × V) → Prop
  | [], ks => ks = []
  | (k, d) :: es, ks => ∃ c v r, ks = (c, v) :: r ∧ k = .tuple (c.map keyD) ∧ At K H d v ∧ AtT K H es r
end
abbrev Ex := Evl.Ex
theorem ex_rd {H H' : Hp} {a : Addr} {u : HO} (e : Ex H H') (h : Rd H a u) : Rd H' a u := Evl.ex_rd e h
mutual
theorem At.mono {K : PySem.W.Frag} {H H' : Hp} (e : Ex H H') : ∀ (d : D) (v : V), At K H d v → At K H' d v
  | .none, v, h => h
  | .bool b, v, h => h
  | .int i, v, h => h
  | .str x, v, h => h
  | .list ds, v, ⟨a, xs, h1, h2, h3⟩ => ⟨a, xs, h1, Evl.ex_l e h2, AtL.mono e ds xs h3⟩
  | .tuple ds, v, ⟨a, xs, h1, h2, h3⟩ => ⟨a, xs, h1, Evl.ex_t e h2, AtL.mono e ds xs h3⟩
  | .dict es, v, ⟨a, h1, h2⟩ => ⟨a, h1, by
    rcases h2 with ⟨kvs, r, h⟩ | ⟨kvs, r, h⟩ | ⟨S, n, xs, r, h⟩
    · exact .inl ⟨kvs, ex_rd e r, AtK.mono e es kvs h⟩
    · exact .inr (.inl ⟨kvs, ex_rd e r, AtT.mono e es kvs h⟩)
    · exact .inr (.inr ⟨S, n, xs, ex_rd e r, h⟩)⟩
theorem AtL.mono {K : PySem.W.Frag} {H H' : Hp} (e : Ex H H') : ∀ (ds : List D) (vs : List V), AtL K H ds vs → AtL K H' ds vs
  | [], vs, h => h
  | d :: ds, vs, ⟨v, r, h1, h2, h3⟩ => ⟨v, r, h1, At.mono e d v h2, AtL.mono e ds r h3⟩
theorem AtK.mono {K : PySem.W.Frag} {H H' : Hp} (e : Ex H H') : ∀ (es : List (D × D)) (ks : List (Key × V)), AtK K H es ks → AtK K H' es ks
  | [], ks, h => h
  | (k, d) :: es, ks, ⟨c, v, r, h1, h0, h2, h3⟩ => ⟨c, v, r, h1, h0, At.mono e d v h2, AtK.mono e es r h3⟩
theorem AtT.mono {K : PySem.W.Frag} {H H' : Hp} (e : Ex H H') : ∀ (es : List (D × D)) (ks : List (List Key × V)), AtT K H es ks → AtT K H' es ks
  | [], ks, h => h
  | (k, d) :: es, ks, ⟨c, v, r, h1, h0, h2, h3⟩ => ⟨c, v, r, h1, h0, At.mono e d v h2, AtT.mono e es r h3⟩
end
/-- an own, changeable object's content -/
def Own (K : PySem.W.Frag) (H : Hp) (o : HO) (d : D) : Prop :=
  (∃ vs ds, o = .lst vs ∧ d = .list ds ∧ AtL K H ds vs) ∨ (∃ kvs es, o = .dK kvs ∧ d = .dict es ∧ AtK K H es kvs) ∨ (∃ kvs es, o = .dT kvs ∧ d = .dict es ∧ AtT K H es kvs) ∨
    ∃ (S : Int → Bool) (n : Nat) (xs : List Int), o = .set S n ∧ d = .dict [(.none, .list ((xs : List Int).map .int))] ∧ xs.Nodup ∧ (∀ i, S i = true ↔ i ∈ xs) ∧ xs.length = n
theorem Own.mono {K : PySem.W.Frag} {H H' : Hp} (e : Ex H H') {o : HO} {d : D} (h : Own K H o d) : Own K H' o d := by
  rcases h with ⟨vs, ds, h1, h2, h⟩ | ⟨kvs, es, h1, h2, h⟩ | ⟨kvs, es, h1, h2, h⟩ | h
  · exact .inl ⟨vs, ds, h1, h2, AtL.mono e ds vs h⟩
  · exact .inr (.inl ⟨kvs, es, h1, h2, AtK.mono e es kvs h⟩)
  · exact .inr (.inr (.inl ⟨kvs, es, h1, h2, AtT.mono e es kvs h⟩))
  · exact .inr (.inr (.inr h))
theorem Own.at {K : PySem.W.Frag} {H : Hp} {a : Addr} {o : HO} {d : D} (r : H a = some o) (h : Own K H o d) : At K H d (.ref a) := by
  rcases h with ⟨vs, ds, h1, h2, h⟩ | ⟨kvs, es, h1, h2, h⟩ | ⟨kvs, es, h1, h2, h⟩ | ⟨S, n, xs, h1, h2, h⟩
  · subst h1 h2
    exact ⟨a, vs, rfl, SqL.of r, h⟩
  · subst h1 h2
    exact ⟨a, rfl, .inl ⟨kvs, .inl r, h⟩⟩
  · subst h1 h2
    exact ⟨a, rfl, .inr (.inl ⟨kvs, .inl r, h⟩)⟩
  · subst h1 h2
    exact ⟨a, rfl, .inr (.inr ⟨S, n, xs, .inl r, rfl, h⟩)⟩
/-- flat data lean on no object -/
def flat : D → Bool
  | .none | .bool _ | .int _ | .str _ => true
  | _ => false
theorem At.flat {K : PySem.W.Frag} {H H' : Hp} : ∀ {d : D} {v : V}, flat d = true → At K H d v → At K H' d v
  | .none, _, _, h => h
  | .bool _, _, _, h => h
  | .int _, _, _, h => h
  | .str _, _, _, h => h
  | .list _, _, f, _ => by cases f
  | .tuple _, _, f, _ => by cases f
  | .dict _, _, f, _ => by cases f
/-! ### the heap without what is owned -/
def hid (M : List Addr) (H : Hp) : Hp := fun a => if a ∈ M then none else H a
theorem hid_of {M : List Addr} {H : Hp} {a : Addr} {o : HO} (h : H a = some o) (n : a ∉ M) : hid M H a = some o := by
  unfold hid
  rw [if_neg n]
  exact h
theorem of_hid {M : List Addr} {H : Hp} {a : Addr} {o : HO} (h : hid M H a = some o) : H a = some o ∧ a ∉ M := by
  unfold hid at h
  by_cases e : a ∈ M
  · rw [if_pos e] at h
    cases h
  · rw [if_neg e] at h
    exact ⟨h, e⟩
theorem hid_ex {M : List Addr} {H H' : Hp} (e : Ex H H') : Ex (hid M H) (hid M H') := fun a o h => hid_of (e a o (of_hid h).1) (of_hid h).2
theorem hid_sub {M M' : List Addr} {H : Hp} (s : ∀ a, a ∈ M → a ∈ M') : Ex (hid M' H) (hid M H) := fun a o h => hid_of (of_hid h).1 fun z => (of_hid h).2 (s a z)
theorem hid_le {M : List Addr} {H : Hp} : Ex (hid M H) H := fun a o h => (of_hid h).1
/-- a new address, hidden from then on -/
theorem hid_new {M : List Addr} {H H' : Hp} {p : Addr} (e : Ex H H') (n : H p = none) : Ex (hid M H) (hid (p :: M) H') := fun a o h => by
  refine hid_of (e a o (of_hid h).1) fun z => ?_
  rcases List.mem_cons.mp z with z | z
  · rw [z] at h
    rw [(of_hid h).1] at n
    cases n
  · exact (of_hid h).2 z
theorem hid_upd {M : List Addr} {H : Hp} {a : Addr} {o : HO} (m : a ∈ M) : hid M (upd H a o) = hid M H := by
  funext b
  unfold hid
  by_cases e : b ∈ M
  · rw [if_pos e, if_pos e]
  · rw [if_neg e, if_neg e, upd_ne (fun z : b = a => e (by rw [z]; exact m))]
/-! ### environments -/
inductive SV where
  | no
  | im (d : D)
  | mu (d : D)
abbrev Nv := List SV
def gt : Nv → Nat → SV
  | [], _ => .no
  | s :: _, 0 => s
  | _ :: r, i + 1 => gt r i
def st : Nv → Nat → SV → Nv
  | [], _, _ => []
  | _ :: r, 0, s => s :: r
  | x :: r, i + 1, s => x :: st r i s
theorem st_len : ∀ (ε : Nv) (i : Nat) (s : SV), (st ε i s).length = ε.length
  | [], _, _ => rfl
  | _ :: _, 0, _ => rfl
  | x :: r, i + 1, s => by
    show (st r i s).length + 1 = r.length + 1
    rw [st_len r i s]
theorem gt_same : ∀ {ε : Nv} {i : Nat} {s : SV}, i < ε.length → gt (st ε i s) i = s
  | [], _, _, h => absurd h (Nat.not_lt_zero _)
  | _ :: _, 0, _, _ => rfl
  | _ :: r, i + 1, s, h => gt_same (ε := r) (i := i) (Nat.lt_of_succ_lt_succ h)
theorem gt_ne : ∀ {ε : Nv} {i j : Nat} {s : SV}, j ≠ i → gt (st ε i s) j = gt ε j
  | [], _, _, _, _ => rfl
  | _ :: _, 0, 0, _, h => absurd rfl h
  | _ :: _, 0, _ + 1, _, _ => rfl
  | _ :: _, _ + 1, 0, _, _ => rfl
  | _ :: r, i + 1, j + 1, s, h => gt_ne (ε := r) fun e => h (congrArg _ e)
theorem gt_lt : ∀ {ε : Nv} {i : Nat}, gt ε i ≠ .no → i < ε.length
  | [], _, h => absurd rfl h
  | _ :: _, 0, _ => Nat.succ_pos _
  | _ :: r, i + 1, h => Nat.succ_lt_succ (gt_lt (ε := r) h)
/-- what stays the same through a body: the ground, the heap at the entry, the callers' own objects, whether the answer is to be new -/
structure Cf where
  K : PySem.W.Frag
  H0 : Hp
  M0 : List Addr
  fr : Bool
structure Rel (c : Cf) (σ : L2.St) (H : Hp) (ε : Nv) (M : List Addr) : Prop where
  ext : Ex c.H0 H
  len : σ.length = ε.length
  sub : ∀ a, a ∈ c.M0 → a ∈ M
  trk : ∀ a, a ∈ M → ∃ o, H a = some o
  old : ∀ a, a ∈ c.M0 → c.H0 a ≠ none
  im : ∀ i d, gt ε i = .im d → ∃ v, σ[i]? = some (some v) ∧ At c.K (hid M H) d v
  mu : ∀ i d, gt ε i = .mu d → ∃ a o, σ[i]? = some (some (.ref a)) ∧ a ∈ M ∧ c.H0 a = none ∧ H a = some o ∧ Own c.K (hid M H) o d
  dis : ∀ i j d e a b, i ≠ j → gt ε i = .mu d → gt ε j = .mu e → σ[i]? = some (some (.ref a)) → σ[j]? = some (some (.ref b)) → a ≠ b
theorem Rel.ex {c : Cf} {σ : L2.St} {H H' : Hp} {ε : Nv} {M : List Addr} (r : Rel c σ H ε M) (e : Ex H H') : Rel c σ H' ε M where
  ext := r.ext.trans e
  len := r.len
  sub := r.sub
  trk := fun a h => let ⟨o, q⟩ := r.trk a h; ⟨o, e a o q⟩
  old := r.old
  im := fun i d h => let ⟨v, h1, h2⟩ := r.im i d h; ⟨v, h1, At.mono (hid_ex e) d v h2⟩
  mu := fun i d h => let ⟨a, o, h1, h2, h3, h4, h5⟩ := r.mu i d h; ⟨a, o, h1, h2, h3, e a o h4, h5.mono (hid_ex e)⟩
  dis := r.dis
theorem Rel.notM {c : Cf} {σ : L2.St} {H : Hp} {ε : Nv} {M : List Addr} (r : Rel c σ H ε M) {p : Addr} (n : H p = none) : p ∉ M := fun h => by
  obtain ⟨o, q⟩ := r.trk p h
  rw [n] at q
  cases q
/-- a name is stored: data -/
theorem Rel.set {c : Cf} {σ : L2.St} {H : Hp} {ε : Nv} {M : List Addr} (r : Rel c σ H ε M) {i : Nat} {d : D} {v : V} (h : At c.K (hid M H) d v) : Rel c (σ.set i (some v)) H (st ε i (.im d)) M where
  ext := r.ext
  len := by rw [List.length_set, st_len, r.len]
  sub := r.sub
  trk := r.trk
  old := r.old
  im := fun j e he => by
    by_cases q : j = i
    · subst q
      have hl : j < ε.length := by
        have := gt_lt (ε := st ε j (.im d)) (i := j) (by rw [he]; intro z; cases z)
        rwa [st_len] at this
      rw [gt_same hl] at he
      cases he
      exact ⟨v, by rw [List.getElem?_set_self (by rw [r.len]; exact hl)], h⟩
    · rw [gt_ne q] at he
      obtain ⟨w, h1, h2⟩ := r.im j e he
      exact ⟨w, by rw [List.getElem?_set_ne (Ne.symm q)]; exact h1, h2⟩
  mu := fun j e he => by
    by_cases q : j = i
    · subst q
      have hl : j < ε.length := by
        have := gt_lt (ε := st ε j (.im d)) (i := j) (by rw [he]; intro z; cases z)
        rwa [st_len] at this
      rw [gt_same hl] at he
      cases he
    · rw [gt_ne q] at he
      obtain ⟨a, o, h1, h2⟩ := r.mu j e he
      exact ⟨a, o, by rw [List.getElem?_set_ne (Ne.symm q)]; exact h1, h2⟩
  dis := fun j k e f a b hjk hj hk h1 h2 => by
    by_cases q : j = i
    · subst q
      have hl : j < ε.length := by
        have := gt_lt (ε := st ε j (.im d)) (i := j) (by rw [hj]; intro z; cases z)
        rwa [st_len] at this
      rw [gt_same hl] at hj
      cases hj
    · by_cases q2 : k = i
      · subst q2
        have hl : k < ε.length := by
          have := gt_lt (ε := st ε k (.im d)) (i := k) (by rw [hk]; intro z; cases z)
          rwa [st_len] at this
        rw [gt_same hl] at hk
        cases hk
      · rw [gt_ne q] at hj
        rw [gt_ne q2] at hk
        rw [List.getElem?_set_ne (Ne.symm q)] at h1
        rw [List.getElem?_set_ne (Ne.symm q2)] at h2
        exact r.dis j k e f a b hjk hj hk h1 h2
/-- a name is stored: a new object of one's own -/
theorem Rel.setMu {c : Cf} {σ : L2.St} {H H' : Hp} {ε : Nv} {M : List Addr} (r : Rel c σ H ε M) {i : Nat} {d : D} {p : Addr} {o : HO} (n : H p = none) (e : Ex H H') (hp : H' p = some o) (h : Own c.K (hid (p :: M) H') o d) :
    Rel c (σ.set i (some (.ref p))) H' (st ε i (.mu d)) (p :: M) where
  ext := r.ext.trans e
  len := by rw [List.length_set, st_len, r.len]
  sub := fun a ha => List.mem_cons_of_mem _ (r.sub a ha)
  trk := fun a ha => by
    rcases List.mem_cons.mp ha with q | q
    · exact ⟨o, by rw [q]; exact hp⟩
    · obtain ⟨u, q⟩ := r.trk a q
      exact ⟨u, e a u q⟩
  old := r.old
  im := fun j f he => by
    by_cases q : j = i
    · subst q
      have hl : j < ε.length := by
        have := gt_lt (ε := st ε j (.mu d)) (i := j) (by rw [he]; intro z; cases z)
        rwa [st_len] at this
      rw [gt_same hl] at he
      cases he
    · rw [gt_ne q] at he
      obtain ⟨w, h1, h2⟩ := r.im j f he
      exact ⟨w, by rw [List.getElem?_set_ne (Ne.symm q)]; exact h1, At.mono (hid_new e n) f w h2⟩
  mu := fun j f he => by
    by_cases q : j = i
    · subst q
      have hl : j < ε.length := by
        have := gt_lt (ε := st ε j (.mu d)) (i := j) (by rw [he]; intro z; cases z)
        rwa [st_len] at this
      rw [gt_same hl] at he
      cases he
      refine ⟨p, o, by rw [List.getElem?_set_self (by rw [r.len]; exact hl)], List.mem_cons_self, ?_, hp, h⟩
      cases q : c.H0 p with
      | none => rfl
      | some u =>
        have := r.ext p u q
        rw [n] at this
        cases this
    · rw [gt_ne q] at he
      obtain ⟨a, u, h1, h2, h3, h4, h5⟩ := r.mu j f he
      exact ⟨a, u, by rw [List.getElem?_set_ne (Ne.symm q)]; exact h1, List.mem_cons_of_mem _ h2, h3, e a u h4, h5.mono (hid_new e n)⟩
  dis := fun j k f g a b hjk hj hk h1 h2 => by
    have hM : ∀ j, j ≠ i → ∀ f a, gt (st ε i (.mu d)) j = .mu f → (σ.set i (some (.ref p)))[j]? = some (some (.ref a)) → a ≠ p := fun j q f a hj h1 => by
      rw [gt_ne q] at hj
      rw [List.getElem?_set_ne (Ne.symm q)] at h1
      obtain ⟨a', u, h1', h2', _⟩ := r.mu j f hj
      rw [h1] at h1'
      cases h1'
      exact fun z => r.notM n (z ▸ h2')
    by_cases q : j = i
    · subst q
      have hl : j < ε.length := by
        have := gt_lt (ε := st ε j (.mu d)) (i := j) (by rw [hj]; intro z; cases z)
        rwa [st_len] at this
      rw [List.getElem?_set_self (by rw [r.len]; exact hl)] at h1
      cases h1
      exact (hM k (Ne.symm hjk) g b hk h2).symm
    · by_cases q2 : k = i
      · subst q2
        have hl : k < ε.length := by
          have := gt_lt (ε := st ε k (.mu d)) (i := k) (by rw [hk]; intro z; cases z)
          rwa [st_len] at this
        rw [List.getElem?_set_self (by rw [r.len]; exact hl)] at h2
        cases h2
        exact hM j q f a hj h1
      · rw [gt_ne q] at hj
        rw [gt_ne q2] at hk
        rw [List.getElem?_set_ne (Ne.symm q)] at h1
        rw [List.getElem?_set_ne (Ne.symm q2)] at h2
        exact r.dis j k f g a b hjk hj hk h1 h2
/-- one's own object is changed -/
theorem Rel.upd {c : Cf} {σ : L2.St} {H : Hp} {ε : Nv} {M : List Addr} (r : Rel c σ H ε M) {i : Nat} {d d' : D} {a : Addr} {o' : HO} (g : gt ε i = .mu d) (s : σ[i]? = some (some (.ref a))) (h : Own c.K (hid M H) o' d') :
    Rel c σ (L2.upd H a o') (st ε i (.mu d')) M := by
  obtain ⟨a', o, h1, h2, h3, h4, h5⟩ := r.mu i d g
  rw [s] at h1
  cases h1
  have hl : i < ε.length := gt_lt (by rw [g]; intro z; cases z)
  have hh : hid M (L2.upd H a o') = hid M H := hid_upd h2
  refine ⟨r.ext.mut h3, by rw [st_len]; exact r.len, r.sub, fun b hb => ?_, r.old, fun j f he => ?_, fun j f he => ?_, fun j k f g' a1 b1 hjk hj hk h1 h2' => ?_⟩
  · by_cases q : b = a
    · exact ⟨o', by rw [q]; exact upd_same⟩
    · obtain ⟨u, q2⟩ := r.trk b hb
      exact ⟨u, by rw [upd_ne q]; exact q2⟩
  · by_cases q : j = i
    · subst q
      rw [gt_same hl] at he
      cases he
    · rw [gt_ne q] at he
      rw [hh]
      exact r.im j f he
  · by_cases q : j = i
    · subst q
      rw [gt_same hl] at he
      cases he
      exact ⟨a, o', s, h2, h3, upd_same, by rw [hh]; exact h⟩
    · rw [gt_ne q] at he
      obtain ⟨b, u, q1, q2, q3, q4, q5⟩ := r.mu j f he
      have ne : b ≠ a := r.dis j i f d b a q he g q1 s
      exact ⟨b, u, q1, q2, q3, by rw [upd_ne ne]; exact q4, by rw [hh]; exact q5⟩
  · have back : ∀ j f, gt (st ε i (.mu d')) j = .mu f → ∃ f', gt ε j = .mu f' := fun j f hj => by
      by_cases q : j = i
      · subst q
        exact ⟨d, g⟩
      · rw [gt_ne q] at hj
        exact ⟨f, hj⟩
    obtain ⟨f1, e1⟩ := back j f hj
    obtain ⟨f2, e2⟩ := back k g' hk
    exact r.dis j k f1 f2 a1 b1 hjk e1 e2 h1 h2'
/-- one's own object as data, from now on -/
theorem Rel.frz {c : Cf} {σ : L2.St} {H : Hp} {ε : Nv} {M : List Addr} (r : Rel c σ H ε M) {i : Nat} {d : D} (g : gt ε i = .mu d) : ∃ M', (∀ a, a ∈ M' → a ∈ M) ∧ Rel c σ H (st ε i (.im d)) M' := by
  obtain ⟨a, o, h1, h2, h3, h4, h5⟩ := r.mu i d g
  have hl : i < ε.length := gt_lt (by rw [g]; intro z; cases z)
  have sub : ∀ b, b ∈ M.filter (fun b => decide (b ≠ a)) → b ∈ M := fun b hb => (List.mem_filter.mp hb).1
  have keep : ∀ b, b ∈ M → b ≠ a → b ∈ M.filter (fun b => decide (b ≠ a)) := fun b hb n => List.mem_filter.mpr ⟨hb, decide_eq_true n⟩
  have na : a ∉ M.filter (fun b => decide (b ≠ a)) := fun z => of_decide_eq_true (List.mem_filter.mp z).2 rfl
  refine ⟨M.filter (fun b => decide (b ≠ a)), sub, ?_⟩
  have hs : Ex (hid M H) (hid (M.filter (fun b => decide (b ≠ a))) H) := hid_sub sub
  refine ⟨r.ext, by rw [st_len]; exact r.len, fun b hb => keep b (r.sub b hb) fun z => r.old b hb (z ▸ h3), fun b hb => r.trk b (sub b hb), r.old, fun j f he => ?_, fun j f he => ?_, fun j k f g' a1 b1 hjk hj hk q1 q2 => ?_⟩
  · by_cases q : j = i
    · subst q
      rw [gt_same hl] at he
      cases he
      exact ⟨.ref a, h1, Own.at (hid_of h4 na) (h5.mono hs)⟩
    · rw [gt_ne q] at he
      obtain ⟨v, p1, p2⟩ := r.im j f he
      exact ⟨v, p1, At.mono hs f v p2⟩
  · by_cases q : j = i
    · subst q
      rw [gt_same hl] at he
      cases he
    · rw [gt_ne q] at he
      obtain ⟨b, u, p1, p2, p3, p4, p5⟩ := r.mu j f he
      exact ⟨b, u, p1, keep b p2 (r.dis j i f d b a q he g p1 h1), p3, p4, p5.mono hs⟩
  · by_cases q : j = i
    · subst q
      rw [gt_same hl] at hj
      cases hj
    · by_cases q3 : k = i
      · subst q3
        rw [gt_same hl] at hk
        cases hk
      · rw [gt_ne q] at hj
        rw [gt_ne q3] at hk
        exact r.dis j k f g' a1 b1 hjk hj hk q1 q2
end Tw
set_option Elab.async false
set_option linter.all false
set_option maxRecDepth 100000
set_option maxHeartbeats 4000000
/-! Tw2: readings by programs over data: expressions -/
namespace Tw
open PySem PySem.Spec PyProof.Rows L2
abbrev Trk (M : List Addr) (H : Hp) : Prop := ∀ a, a ∈ M → ∃ o, H a = some o
theorem Trk.ex {M : List Addr} {H H' : Hp} (t : Trk M H) (e : Ex H H') : Trk M H' := fun a h => let ⟨o, q⟩ := t a h; ⟨o, e a o q⟩
theorem Trk.no {M : List Addr} {H : Hp} (t : Trk M H) {p : Addr} (n : H p = none) : p ∉ M := fun h => by
  obtain ⟨o, q⟩ := t p h
  rw [n] at q
  cases q
/-! ### the readings -/
def rdE (c : Cf) (m : Nv → R D) : TE := fun σ H Q => ∃ ε M, Rel c σ H ε M ∧ ∃ d, m ε = .ok d ∧ ∀ v H', Ex H H' → At c.K (hid M H') d v → Q v H'
/-- the same, the value a new object -/
def rdL (c : Cf) (m : Nv → R D) : TE := fun σ H Q => ∃ ε M, Rel c σ H ε M ∧ ∃ d, m ε = .ok d ∧ ∀ p o H', H p = none → Ex H H' → H' p = some o → Own c.K (hid (p :: M) H') o d → Q (.ref p) H'
def rdT (c : Cf) (m : Nv → R Bool) : TT := fun σ H Q => ∃ ε M, Rel c σ H ε M ∧ ∃ b, m ε = .ok b ∧ ∀ H', Ex H H' → Q b H'
def rdA (c : Cf) (m : Nv → R (List D)) : TA := fun σ H Q => ∃ ε M, Rel c σ H ε M ∧ ∃ ds, m ε = .ok ds ∧ ∀ vs H', Ex H H' → AtL c.K (hid M H') ds vs → Q vs H'
/-! ### weakenings -/
section
variable {X : Cx} {c : Cf}
theorem _root_.L2.PE.wk {e : Expr} {t t' : TE} (h : PE X e t) (i : ∀ σ H Q, t' σ H Q → t σ H Q) : PE X e t' := ⟨fun pins s σ H Q I q => h.run pins s σ H Q I (i σ H Q q)⟩
theorem _root_.L2.PT.wk {e : Expr} {t t' : TT} (h : PT X e t) (i : ∀ σ H Q, t' σ H Q → t σ H Q) : PT X e t' := ⟨fun pins s σ H Q I q => h.run pins s σ H Q I (i σ H Q q)⟩
theorem _root_.L2.PA.wk {e : List Expr} {t t' : TA} (h : PA X e t) (i : ∀ σ H Q, t' σ H Q → t σ H Q) : PA X e t' := ⟨fun pos pins s σ H Q I q => h.run pos pins s σ H Q I (i σ H Q q)⟩
theorem _root_.L2.PS.wk {e : Stmt} {t t' : TS} (h : PS X e t) (i : ∀ D σ H, t' D σ H → t D σ H) : PS X e t' := ⟨fun pins s σ H D I q => h.run pins s σ H D I (i D σ H q)⟩
theorem _root_.L2.PSs.wk {e : List Stmt} {t t' : TS} (h : PSs X e t) (i : ∀ D σ H, t' D σ H → t D σ H) : PSs X e t' := ⟨fun pins s σ H D I q => h.run pins s σ H D I (i D σ H q)⟩
theorem own_new {K : PySem.W.Frag} {M : List Addr} {H H' : Hp} {p : Addr} {o : HO} {d : D} (t : Trk M H) (n : H p = none) (hp : H' p = some o) (h : Own K (hid (p :: M) H') o d) : At K (hid M H') d (.ref p) :=
  Own.at (hid_of hp (t.no n)) (h.mono (hid_sub fun a ha => List.mem_cons_of_mem _ ha))
/-- a new object is data -/
theorem PE.lE {e : Expr} {m : Nv → R D} (h : PE X e (rdL c m)) : PE X e (rdE c m) := h.wk fun σ H Q ⟨ε, M, r, d, hm, q⟩ => ⟨ε, M, r, d, hm, fun p o H' n e hp ho => q _ H' e (own_new (Trk.ex r.trk (Evl.Ex.refl _)) n hp ho)⟩
/-! ### atoms -/
def xV (i : Nat) : Nv → R D := fun ε => match gt ε i with | .im d => .ok d | _ => .bad
def xC (d : D) : Nv → R D := fun _ => .ok d
theorem xV_ok {i : Nat} {ε : Nv} {d : D} (h : xV i ε = .ok d) : gt ε i = .im d := by
  unfold xV at h
  cases e : gt ε i with
  | no => rw [e] at h; cases h
  | mu f => rw [e] at h; cases h
  | im f => rw [e] at h; cases h; rfl
theorem pe_v {e : Expr} {i : Nat} (h : PE X e (tVar i)) : PE X e (rdE c (xV i)) := h.wk fun σ H Q ⟨ε, M, r, d, hm, q⟩ => by
  obtain ⟨v, h1, h2⟩ := r.im i d (xV_ok hm)
  exact ⟨v, h1, q v H (Evl.Ex.refl H) h2⟩
theorem pe_k {e : Expr} {v : V} {d : D} (h : PE X e (tC v)) (hd : ∀ K H, At K H d v) : PE X e (rdE c (xC d)) := h.wk fun σ H Q ⟨ε, M, r, d', hm, q⟩ => by
  cases hm
  exact q v H (Evl.Ex.refl H) (hd _ _)
theorem pk_int {i : Int} {j pos} : PE X (.Constant (.int i) j pos) (rdE c (xC (.int i))) := pe_k pe_int fun _ _ => rfl
theorem pk_bl {b : Bool} {j pos} : PE X (.Constant (.bool b) j pos) (rdE c (xC (.bool b))) := pe_k pe_bl fun _ _ => rfl
theorem pk_non {j pos} : PE X (.Constant .none j pos) (rdE c (xC .none)) := pe_k pe_non fun _ _ => rfl
theorem pk_str {x j pos} : PE X (.Constant (.str x) j pos) (rdE c (xC (.str x))) := pe_k pe_str fun _ _ => rfl
/-- a constant of the module -/
theorem pk_glob {x : Str} {v : V} {u : Value} {d : D} {pos : Pos} (hg : Gl X x) (hm : X.mg x = some u) (r : RelV v u) (hd : ∀ K H, At K H d v) (hdb : (x == ("__debug__" : Str)) = false := by decide) : PE X (.Name x pos) (rdE c (xC d)) := pe_k (pe_glob hg hm r hdb) hd
/-! ### lists of expressions -/
def xNil : Nv → R (List D) := fun _ => .ok []
def xCons (m : Nv → R D) (r : Nv → R (List D)) : Nv → R (List D) := fun ε => (m ε).bind fun d => (r ε).bind fun ds => .ok (d :: ds)
theorem pa_n : PA X [] (rdA c xNil) := pa_nil.wk fun σ H Q ⟨ε, M, r, ds, hm, q⟩ => by
  cases hm
  exact q [] H (Evl.Ex.refl H) rfl
theorem pa_c {e : Expr} {es : List Expr} {m : Nv → R D} {ms : Nv → R (List D)} (h : PE X e (rdE c m)) (hs : PA X es (rdA c ms)) (hst : starEach (e :: es) X.env = (false, eval e X.env) :: starEach es X.env := by rfl) : PA X (e :: es) (rdA c (xCons m ms)) :=
  (pa_cons h hs hst).wk fun σ H Q ⟨ε, M, r, ds, hm, q⟩ => by
    obtain ⟨d, h1, h2⟩ := R.bind_ok hm
    obtain ⟨dr, h3, h4⟩ := R.bind_ok h2
    cases h4
    exact ⟨ε, M, r, d, h1, fun v H1 e1 hv => ⟨ε, M, r.ex e1, dr, h3, fun vs H2 e2 hvs => q (v :: vs) H2 (e1.trans e2) ⟨v, vs, rfl, At.mono (hid_ex e2) d v hv, hvs⟩⟩⟩
/-! ### values in, a value out -/
def r1D (K : PySem.W.Frag) (f : D → R D) : V → Hp → VK → Prop := fun x H Q => ∃ M a d, Trk M H ∧ At K (hid M H) a x ∧ f a = .ok d ∧ ∀ v H', Ex H H' → At K (hid M H') d v → Q v H'
def r2D (K : PySem.W.Frag) (f : D → D → R D) : R2 := fun x y H Q => ∃ M a b d, Trk M H ∧ At K (hid M H) a x ∧ At K (hid M H) b y ∧ f a b = .ok d ∧ ∀ v H', Ex H H' → At K (hid M H') d v → Q v H'
def r2L (K : PySem.W.Frag) (f : D → D → R D) : R2 := fun x y H Q => ∃ M a b d, Trk M H ∧ At K (hid M H) a x ∧ At K (hid M H) b y ∧ f a b = .ok d ∧ ∀ p o H', H p = none → Ex H H' → H' p = some o → Own K (hid (p :: M) H') o d → Q (.ref p) H'
def rnD (K : PySem.W.Frag) (f : List D → R D) : List V → Hp → VK → Prop := fun xs H Q => ∃ M as d, Trk M H ∧ AtL K (hid M H) as xs ∧ f as = .ok d ∧ ∀ v H', Ex H H' → At K (hid M H') d v → Q v H'
def rnL (K : PySem.W.Frag) (f : List D → R D) : List V → Hp → VK → Prop := fun xs H Q => ∃ M as d, Trk M H ∧ AtL K (hid M H) as xs ∧ f as = .ok d ∧ ∀ p o H', H p = none → Ex H H' → H' p = some o → Own K (hid (p :: M) H') o d → Q (.ref p) H'
theorem r2L.D {K : PySem.W.Frag} {f : D → D → R D} {x y : V} {H : Hp} {Q : VK} (h : r2D K f x y H Q) : r2L K f x y H Q := by
  obtain ⟨M, a, b, d, t, ha, hb, hf, q⟩ := h
  exact ⟨M, a, b, d, t, ha, hb, hf, fun p o H' n e hp ho => q _ H' e (own_new t n hp ho)⟩
theorem rnL.D {K : PySem.W.Frag} {f : List D → R D} {xs : List V} {H : Hp} {Q : VK} (h : rnD K f xs H Q) : rnL K f xs H Q := by
  obtain ⟨M, a, d, t, ha, hf, q⟩ := h
  exact ⟨M, a, d, t, ha, hf, fun p o H' n e hp ho => q _ H' e (own_new t n hp ho)⟩
def xBin (f : D → D → R D) (ma mb : Nv → R D) : Nv → R D := fun ε => (ma ε).bind fun a => (mb ε).bind fun b => f a b
def xUn (f : D → R D) (ma : Nv → R D) : Nv → R D := fun ε => (ma ε).bind f
def xCall (f : List D → R D) (ms : Nv → R (List D)) : Nv → R D := fun ε => (ms ε).bind f
variable {a b : Expr} {ma mb : Nv → R D} {ms : Nv → R (List D)} {pos : Pos}
theorem tOp_rd {r : R2} {f : D → D → R D} (hr : ∀ x y H Q, r2D c.K f x y H Q → r x y H Q) : ∀ σ H Q, rdE c (xBin f ma mb) σ H Q → tOp r (rdE c ma) (rdE c mb) σ H Q := fun σ H Q ⟨ε, M, re, d, hm, q⟩ => by
  obtain ⟨x, h1, h2⟩ := R.bind_ok hm
  obtain ⟨y, h3, h4⟩ := R.bind_ok h2
  exact ⟨ε, M, re, x, h1, fun v H1 e1 hv => ⟨ε, M, re.ex e1, y, h3, fun u H2 e2 hu => hr _ _ _ _ ⟨M, x, y, d, Trk.ex re.trk (e1.trans e2), At.mono (hid_ex e2) x v hv, hu, h4, fun w H3 e3 hw => q w H3 ((e1.trans e2).trans e3) hw⟩⟩⟩
theorem tOp_rdL {r : R2} {f : D → D → R D} (hr : ∀ x y H Q, r2L c.K f x y H Q → r x y H Q) : ∀ σ H Q, rdL c (xBin f ma mb) σ H Q → tOp r (rdE c ma) (rdE c mb) σ H Q := fun σ H Q ⟨ε, M, re, d, hm, q⟩ => by
  obtain ⟨x, h1, h2⟩ := R.bind_ok hm
  obtain ⟨y, h3, h4⟩ := R.bind_ok h2
  refine ⟨ε, M, re, x, h1, fun v H1 e1 hv => ⟨ε, M, re.ex e1, y, h3, fun u H2 e2 hu => hr _ _ _ _ ⟨M, x, y, d, Trk.ex re.trk (e1.trans e2), At.mono (hid_ex e2) x v hv, hu, h4, fun p o H3 n e3 hp ho => q p o H3 ?_ ((e1.trans e2).trans e3) hp ho⟩⟩⟩
  exact Evl.fresh_back (e1.trans e2) n
theorem pe_bin {op : Operator} {f : D → D → R D} (ho : OpR X (binaryOp op) (r2D X.K f)) (ha : PE X a (rdE c ma)) (hb : PE X b (rdE c mb)) (hK : c.K = X.K := by rfl) : PE X (.BinOp a op b pos) (rdE c (xBin f ma mb)) :=
  (pe_op ho ha hb).wk (tOp_rd fun _ _ _ _ h => hK ▸ h)
theorem pe_binL {op : Operator} {f : D → D → R D} (ho : OpR X (binaryOp op) (r2L X.K f)) (ha : PE X a (rdE c ma)) (hb : PE X b (rdE c mb)) (hK : c.K = X.K := by rfl) : PE X (.BinOp a op b pos) (rdL c (xBin f ma mb)) :=
  (pe_op ho ha hb).wk (tOp_rdL fun _ _ _ _ h => hK ▸ h)
theorem pe_cp {op : CmpOp} {f : D → D → R D} (ho : OpR X (compareOp op) (r2D X.K f)) (ha : PE X a (rdE c ma)) (hb : PE X b (rdE c mb)) (hm : behindInMarks op b = false := by first | exact nomark _ | rfl) (hK : c.K = X.K := by rfl) : PE X (.Compare a [op] [b] pos) (rdE c (xBin f ma mb)) :=
  (pe_cmpR ho ha hb hm).wk (tOp_rd fun _ _ _ _ h => hK ▸ h)
theorem pe_un1 {op : UnaryOp} {f : D → R D} (ho : UnR X (unaryOp op) (r1D X.K f)) (ha : PE X a (rdE c ma)) (hK : c.K = X.K := by rfl) : PE X (.UnaryOp op a pos) (rdE c (xUn f ma)) :=
  (pe_un ho ha).wk fun σ H Q ⟨ε, M, re, d, hm, q⟩ => by
    obtain ⟨x, h1, h2⟩ := R.bind_ok hm
    exact ⟨ε, M, re, x, h1, fun v H1 e1 hv => ⟨M, x, d, Trk.ex re.trk e1, hK ▸ hv, h2, fun w H3 e3 hw => q w H3 (e1.trans e3) (hK ▸ hw)⟩⟩
theorem tCB_rd {r : List V → Hp → VK → Prop} {f : List D → R D} (hr : ∀ xs H Q, rnD c.K f xs H Q → r xs H Q) : ∀ σ H Q, rdE c (xCall f ms) σ H Q → tCB r (rdA c ms) σ H Q := fun σ H Q ⟨ε, M, re, d, hm, q⟩ => by
  obtain ⟨ds, h1, h2⟩ := R.bind_ok hm
  exact ⟨ε, M, re, ds, h1, fun vs H1 e1 hv => hr _ _ _ ⟨M, ds, d, Trk.ex re.trk e1, hv, h2, fun w H3 e3 hw => q w H3 (e1.trans e3) hw⟩⟩
theorem tCB_rdL {r : List V → Hp → VK → Prop} {f : List D → R D} (hr : ∀ xs H Q, rnL c.K f xs H Q → r xs H Q) : ∀ σ H Q, rdL c (xCall f ms) σ H Q → tCB r (rdA c ms) σ H Q := fun σ H Q ⟨ε, M, re, d, hm, q⟩ => by
  obtain ⟨ds, h1, h2⟩ := R.bind_ok hm
  exact ⟨ε, M, re, ds, h1, fun vs H1 e1 hv => hr _ _ _ ⟨M, ds, d, Trk.ex re.trk e1, hv, h2, fun p o H3 n e3 hp ho => q p o H3 (Evl.fresh_back e1 n) (e1.trans e3) hp ho⟩⟩
variable {x : Str} {p : Pos} {e : Expr} {es : List Expr}
/-- a builtin's call, a builtin class's -/
theorem pe_bi {id : String} {f : List D → R D} (hc : CallR X (.builtin id) (rnD X.K f)) (hm : X.mg x = none) (hv : bootBuiltins x = some (.builtin id)) (ha : PA X (e :: es) (rdA c ms)) (hg : Gl X x := by rfl)
    (hn : x ≠ "__name__" := by decide) (hd : (x == ("__debug__" : Str)) = false := by decide) (hst : starEach (e :: es) X.env = (false, eval e X.env) :: starEach es X.env := by rfl) (hpl : (backTo pos (starEach es X.env)).any (·.1) = false := by rfl) (hK : c.K = X.K := by rfl) :
    PE X (.Call (.Name x p) (e :: es) [] pos) (rdE c (xCall f ms)) := (pe_callB hc hg hm hv ha hn hd hst hpl).wk (tCB_rd fun _ _ _ h => hK ▸ h)
theorem pe_ty {T : String} {f : List D → R D} (hc : CallR X (.type T) (rnD X.K f)) (hm : X.mg x = none) (hv : bootBuiltins x = some (.type T)) (ha : PA X (e :: es) (rdA c ms)) (hg : Gl X x := by rfl)
    (hn : x ≠ "__name__" := by decide) (hd : (x == ("__debug__" : Str)) = false := by decide) (hst : starEach (e :: es) X.env = (false, eval e X.env) :: starEach es X.env := by rfl) (hpl : (backTo pos (starEach es X.env)).any (·.1) = false := by rfl) (hK : c.K = X.K := by rfl) :
    PE X (.Call (.Name x p) (e :: es) [] pos) (rdE c (xCall f ms)) := (pe_callTy hc hg hm hv ha hn hd hst hpl).wk (tCB_rd fun _ _ _ h => hK ▸ h)
theorem pe_biL {id : String} {f : List D → R D} (hc : CallR X (.builtin id) (rnL X.K f)) (hm : X.mg x = none) (hv : bootBuiltins x = some (.builtin id)) (ha : PA X (e :: es) (rdA c ms)) (hg : Gl X x := by rfl)
    (hn : x ≠ "__name__" := by decide) (hd : (x == ("__debug__" : Str)) = false := by decide) (hst : starEach (e :: es) X.env = (false, eval e X.env) :: starEach es X.env := by rfl) (hpl : (backTo pos (starEach es X.env)).any (·.1) = false := by rfl) (hK : c.K = X.K := by rfl) :
    PE X (.Call (.Name x p) (e :: es) [] pos) (rdL c (xCall f ms)) := (pe_callB hc hg hm hv ha hn hd hst hpl).wk (tCB_rdL fun _ _ _ h => hK ▸ h)
theorem pe_tyL {T : String} {f : List D → R D} (hc : CallR X (.type T) (rnL X.K f)) (hm : X.mg x = none) (hv : bootBuiltins x = some (.type T)) (ha : PA X (e :: es) (rdA c ms)) (hg : Gl X x := by rfl)
    (hn : x ≠ "__name__" := by decide) (hd : (x == ("__debug__" : Str)) = false := by decide) (hst : starEach (e :: es) X.env = (false, eval e X.env) :: starEach es X.env := by rfl) (hpl : (backTo pos (starEach es X.env)).any (·.1) = false := by rfl) (hK : c.K = X.K := by rfl) :
    PE X (.Call (.Name x p) (e :: es) [] pos) (rdL c (xCall f ms)) := (pe_callTy hc hg hm hv ha hn hd hst hpl).wk (tCB_rdL fun _ _ _ h => hK ▸ h)
/-! ### a def of one's own -/
/-- what a def promises: a value | a new object -/
def spF (K : PySem.W.Frag) (f : List D → R D) : Sp := fun vs H Q E => ∃ M ds d, Trk M H ∧ AtL K (hid M H) ds vs ∧ f ds = .ok d ∧ ∀ v H', Ex H H' → At K (hid M H') d v → Q v H'
def spN (K : PySem.W.Frag) (f : List D → R D) : Sp := fun vs H Q E => ∃ M ds d, Trk M H ∧ AtL K (hid M H) ds vs ∧ f ds = .ok d ∧ ∀ p o H', H p = none → Ex H H' → H' p = some o → Own K (hid (p :: M) H') o d → Q (.ref p) H'
def E0' : XK := fun _ _ _ => False
theorem pass0' {P : Program} {w : World} : Passes (L2.CX P w) X E0' := fun _ _ _ _ _ _ _ ⟨_, _, _, _, _, _, _, _, _, _, _, _, h⟩ => h.elim
theorem pe_f {k : Nat} {f : Addr} {fd : FuncData} {ps : List Str} {g : List D → R D} (F : FnOk X.prog X.w X.K X.mg X.base (L2.CX X.prog X.w) k f fd ps (spF X.K g)) (hr : Room k X.A) (hm : X.mg x = some (.ref f)) (hk : PySem.W.keepIn X.K (.ref f) = true) (hb : Binds X.K fd ps [])
    (ha : PA X (e :: es) (rdA c ms)) (hg : Gl X x := by rfl) (hdb : (x == ("__debug__" : Str)) = false := by decide) (he : starEach (e :: es) X.env = (false, eval e X.env) :: starEach es X.env := by rfl) (hpl : (backTo pos (starEach es X.env)).any (·.1) = false := by rfl) (hK : c.K = X.K := by rfl) :
    PE X (.Call (.Name x p) (e :: es) [] pos) (rdE c (xCall g ms)) := (pe_call (E := E0') (dvs := []) F hr hg hm hk hb .nil pass0' ha hdb he hpl).wk fun σ H Q ⟨ε, M, re, d, hm, q⟩ => by
  obtain ⟨ds, h1, h2⟩ := R.bind_ok hm
  exact ⟨ε, M, re, ds, h1, fun vs H1 e1 hv => by
    show spF X.K g (vs ++ []) H1 Q E0'
    rw [List.append_nil]
    exact ⟨M, ds, d, Trk.ex re.trk e1, hK ▸ hv, h2, fun w H3 e3 hw => q w H3 (e1.trans e3) (hK ▸ hw)⟩⟩
theorem pe_fL {k : Nat} {f : Addr} {fd : FuncData} {ps : List Str} {g : List D → R D} (F : FnOk X.prog X.w X.K X.mg X.base (L2.CX X.prog X.w) k f fd ps (spN X.K g)) (hr : Room k X.A) (hm : X.mg x = some (.ref f)) (hk : PySem.W.keepIn X.K (.ref f) = true) (hb : Binds X.K fd ps [])
    (ha : PA X (e :: es) (rdA c ms)) (hg : Gl X x := by rfl) (hdb : (x == ("__debug__" : Str)) = false := by decide) (he : starEach (e :: es) X.env = (false, eval e X.env) :: starEach es X.env := by rfl) (hpl : (backTo pos (starEach es X.env)).any (·.1) = false := by rfl) (hK : c.K = X.K := by rfl) :
    PE X (.Call (.Name x p) (e :: es) [] pos) (rdL c (xCall g ms)) := (pe_call (E := E0') (dvs := []) F hr hg hm hk hb .nil pass0' ha hdb he hpl).wk fun σ H Q ⟨ε, M, re, d, hm, q⟩ => by
  obtain ⟨ds, h1, h2⟩ := R.bind_ok hm
  exact ⟨ε, M, re, ds, h1, fun vs H1 e1 hv => by
    show spN X.K g (vs ++ []) H1 Q E0'
    rw [List.append_nil]
    exact ⟨M, ds, d, Trk.ex re.trk e1, hK ▸ hv, h2, fun p o H3 n e3 hp ho => q p o H3 (Evl.fresh_back e1 n) (e1.trans e3) hp (hK ▸ ho)⟩⟩
/-! ### displays -/
def xTup (m : Nv → R (List D)) : Nv → R D := fun ε => (m ε).bind fun ds => .ok (.tuple ds)
def xLst (m : Nv → R (List D)) : Nv → R D := fun ε => (m ε).bind fun ds => .ok (.list ds)
theorem atL_len {K : PySem.W.Frag} {H : Hp} : ∀ {ds : List D} {vs : List V}, AtL K H ds vs → vs.length = ds.length
  | [], vs, h => by
    have e : vs = [] := h
    rw [e]
    rfl
  | d :: ds, vs, ⟨v, r, h1, _, h3⟩ => by
    rw [h1, List.length_cons, List.length_cons, atL_len h3]
theorem pe_tu {x1} (h : PA X es (rdA c ms)) (hz : es.length ≤ sizeLine := by decide) (hl : ∀ ε ds, ms ε = .ok ds → ds.length = es.length := by intro _ _ _; assumption) : PE X (.Tuple es x1 pos) (rdE c (xTup ms)) :=
  (L2.pe_tup h).wk fun σ H Q ⟨ε, M, re, d, hm, q⟩ => by
    obtain ⟨ds, h1, h2⟩ := R.bind_ok hm
    cases h2
    refine ⟨ε, M, re, ds, h1, fun vs H1 e1 hv => ⟨by rw [atL_len hv, hl ε ds h1]; exact hz, fun p n => ?_⟩⟩
    have np := (Trk.ex re.trk e1).no n
    exact q (.ref p) _ (e1.trans (Evl.Ex.new n)) ⟨p, vs, rfl, SqT.of (hid_of upd_same np), AtL.mono (hid_ex (Evl.Ex.new n)) ds vs hv⟩
theorem pe_li (h : PA X es (rdA c ms)) (hz : es.length ≤ sizeLine := by decide) (hl : ∀ ε ds, ms ε = .ok ds → ds.length = es.length := by intro _ _ _; assumption) : PE X (.List es pos) (rdL c (xLst ms)) :=
  (L2.pe_lst h).wk fun σ H Q ⟨ε, M, re, d, hm, q⟩ => by
    obtain ⟨ds, h1, h2⟩ := R.bind_ok hm
    cases h2
    refine ⟨ε, M, re, ds, h1, fun vs H1 e1 hv => ⟨by rw [atL_len hv, hl ε ds h1]; exact hz, fun p n => ?_⟩⟩
    refine q p (.lst vs) _ (Evl.fresh_back e1 n) (e1.trans (Evl.Ex.new n)) upd_same (.inl ⟨vs, ds, rfl, rfl, AtL.mono (hid_new (Evl.Ex.new n) n) ds vs hv⟩)
theorem xNil_len : ∀ (ε : Nv) ds, xNil ε = .ok ds → ds.length = ([] : List Expr).length := fun ε ds h => by cases h; rfl
theorem xCons_len {m : Nv → R D} {r : Nv → R (List D)} {e : Expr} {es : List Expr} (h : ∀ ε ds, r ε = .ok ds → ds.length = es.length) : ∀ ε ds, xCons m r ε = .ok ds → ds.length = (e :: es).length := fun ε ds hm => by
  obtain ⟨d, h1, h2⟩ := R.bind_ok hm
  obtain ⟨dr, h3, h4⟩ := R.bind_ok h2
  cases h4
  rw [List.length_cons, List.length_cons, h ε dr h3]
/-! ### what is one's own, read as data for a flat answer -/
def th : Nv → Nv := List.map fun | .mu d => .im d | s => s
theorem gt_th : ∀ (ε : Nv) (i : Nat), gt (th ε) i = match gt ε i with | .mu d => .im d | s => s
  | [], _ => rfl
  | _ :: _, 0 => rfl
  | _ :: r, i + 1 => gt_th r i
theorem Rel.th {σ : L2.St} {H : Hp} {ε : Nv} {M : List Addr} (r : Rel c σ H ε M) : Rel c σ H (th ε) c.M0 where
  ext := r.ext
  len := r.len.trans (List.length_map _).symm
  sub := fun _ h => h
  trk := fun a h => r.trk a (r.sub a h)
  old := r.old
  im := fun i d h => by
    rw [gt_th] at h
    cases e : gt ε i with
    | no => rw [e] at h; cases h
    | im f =>
      rw [e] at h
      cases h
      obtain ⟨v, h1, h2⟩ := r.im i _ e
      exact ⟨v, h1, At.mono (hid_sub r.sub) _ v h2⟩
    | mu f =>
      rw [e] at h
      cases h
      obtain ⟨a, o, h1, h2, h3, h4, h5⟩ := r.mu i _ e
      exact ⟨_, h1, Own.at (hid_of h4 fun z => r.old a z h3) (h5.mono (hid_sub r.sub))⟩
  mu := fun i d h => by
    rw [gt_th] at h
    cases e : gt ε i with
    | no => rw [e] at h; cases h
    | im f => rw [e] at h; cases h
    | mu f => rw [e] at h; cases h
  dis := fun i j d e a b _ h _ _ _ => by
    rw [gt_th] at h
    cases q : gt ε i with
    | no => rw [q] at h; cases h
    | im f => rw [q] at h; cases h
    | mu f => rw [q] at h; cases h
def xTh (m : Nv → R D) : Nv → R D := fun ε => (m (th ε)).bind fun d => if flat d then .ok d else .bad
def tTh (m : Nv → R Bool) : Nv → R Bool := fun ε => m (th ε)
theorem pe_th {m : Nv → R D} (h : PE X e (rdE c m)) : PE X e (rdE c (xTh m)) := h.wk fun σ H Q ⟨ε, M, re, d, hm, q⟩ => by
  obtain ⟨d', h1, h2⟩ := R.bind_ok hm
  by_cases hf : flat d' = true
  · rw [if_pos hf] at h2
    cases h2
    exact ⟨_, _, re.th, d, h1, fun v H' e' hv => q v H' e' (At.flat hf hv)⟩
  · rw [if_neg hf] at h2
    cases h2
theorem pt_th {m : Nv → R Bool} (h : PT X e (rdT c m)) : PT X e (rdT c (tTh m)) := h.wk fun σ H Q ⟨ε, M, re, d, hm, q⟩ => ⟨_, _, re.th, d, hm, q⟩
/-! ### tests -/
end
end Tw
set_option Elab.async false
set_option linter.all false
set_option maxRecDepth 100000
set_option maxHeartbeats 4000000
/-! Tw3: operators, builtins over data -/
namespace Tw
open PySem PySem.Spec PyProof.Rows L2
/-! ### data are read -/
section
variable {X : Cx} {pins : List (Addr × Obj)} {σ : L2.St} {H : Hp} {s : Shared}
mutual
theorem At.dp {K : PySem.W.Frag} : ∀ (d : D) (v : V), d.plain = true → At K H d v → Dp K H v d
  | .none, v, _, h => by
    have e : v = .non := h
    rw [e]
    exact .non
  | .bool b, v, _, h => by
    have e : v = .bl b := h
    rw [e]
    exact .bl b
  | .int i, v, _, h => by
    have e : v = .int i := h
    rw [e]
    exact .int i
  | .str x, v, _, h => by
    have e : v = .str x := h
    rw [e]
    exact .str x
  | .list ds, v, p, h => by
    obtain ⟨a, xs, h1, h2, h3⟩ := h
    rw [h1]
    exact .lst h2 (AtL.dp ds xs (by simpa only [PyData.plain] using p) h3)
  | .tuple ds, v, p, h => by
    obtain ⟨a, xs, h1, h2, h3⟩ := h
    rw [h1]
    exact .tup h2 (AtL.dp ds xs (by simpa only [PyData.plain] using p) h3)
  | .dict es, v, p, h => by simp [PyData.plain] at p
theorem AtL.dp {K : PySem.W.Frag} : ∀ (ds : List D) (vs : List V), PyData.plainAll ds = true → AtL K H ds vs → DpAll K H vs ds
  | [], vs, _, h => by
    have e : vs = [] := h
    rw [e]
    exact .nil
  | d :: ds, vs, p, h => by
    obtain ⟨v, r, h1, h2, h3⟩ := h
    rw [h1]
    have p' : (d.plain && PyData.plainAll ds) = true := by simpa only [PyData.plainAll] using p
    rw [Bool.and_eq_true] at p'
    exact .cons (At.dp d v p'.1 h2) (AtL.dp ds r p'.2 h3)
end
theorem At.reads (I : Inv X pins σ H s) {d : D} {v : V} {u : Value} {M : List Addr} (p : d.plain = true) (h : At X.K (hid M H) d v) (r : RelV v u) : ∃ as, Reads s.heap u d as :=
  Dp.reads I d v u (At.dp d v p (At.mono hid_le d v h)) r
theorem AtL.get {K : PySem.W.Frag} : ∀ {ds : List D} {vs : List V} {i : Nat} {d : D}, AtL K H ds vs → ds[i]? = some d → ∃ v, vs[i]? = some v ∧ At K H d v
  | [], _, _, _, _, h => by simp at h
  | d :: ds, vs, 0, e, ⟨v, r, h1, h2, h3⟩, h => by
    simp at h
    subst h
    rw [h1]
    exact ⟨v, rfl, h2⟩
  | d :: ds, vs, i + 1, e, ⟨v, r, h1, h2, h3⟩, h => by
    rw [h1]
    obtain ⟨w, q1, q2⟩ := AtL.get (i := i) h3 (by simpa using h)
    exact ⟨w, by simpa using q1, q2⟩
theorem AtL.get' {K : PySem.W.Frag} : ∀ {ds : List D} {vs : List V} {i : Nat} {v : V}, AtL K H ds vs → vs[i]? = some v → ∃ d, ds[i]? = some d ∧ At K H d v
  | [], vs, i, v, h, q => by
    have e : vs = [] := h
    rw [e] at q
    simp at q
  | d :: ds, vs, 0, e, ⟨v, r, h1, h2, h3⟩, h => by
    rw [h1] at h
    simp at h
    subst h
    exact ⟨d, rfl, h2⟩
  | d :: ds, vs, i + 1, e, ⟨v, r, h1, h2, h3⟩, h => by
    rw [h1] at h
    obtain ⟨w, q1, q2⟩ := AtL.get' (i := i) h3 (by simpa using h)
    exact ⟨w, by simpa using q1, q2⟩
theorem AtL.app {K : PySem.W.Frag} : ∀ {ds es : List D} {vs ws : List V}, AtL K H ds vs → AtL K H es ws → AtL K H (ds ++ es) (vs ++ ws)
  | [], es, vs, ws, h, g => by
    have e : vs = [] := h
    rw [e]
    exact g
  | d :: ds, es, vs, ws, ⟨v, r, h1, h2, h3⟩, g => by
    rw [h1]
    exact ⟨v, r ++ ws, rfl, h2, AtL.app h3 g⟩
theorem AtL.take {K : PySem.W.Frag} : ∀ (n : Nat) {ds : List D} {vs : List V}, AtL K H ds vs → AtL K H (ds.take n) (vs.take n)
  | 0, _, _, _ => rfl
  | n + 1, [], vs, h => by
    have e : vs = [] := h
    rw [e]
    rfl
  | n + 1, d :: ds, vs, ⟨v, r, h1, h2, h3⟩ => by
    rw [h1]
    exact ⟨v, r.take n, rfl, h2, AtL.take n h3⟩
theorem AtL.drop {K : PySem.W.Frag} : ∀ (n : Nat) {ds : List D} {vs : List V}, AtL K H ds vs → AtL K H (ds.drop n) (vs.drop n)
  | 0, _, _, h => h
  | n + 1, [], vs, h => by
    have e : vs = [] := h
    rw [e]
    rfl
  | n + 1, d :: ds, vs, ⟨v, r, h1, h2, h3⟩ => by
    rw [h1]
    exact AtL.drop n h3
theorem AtL.set {K : PySem.W.Frag} {d : D} {v : V} (h : At K H d v) : ∀ (n : Nat) {ds : List D} {vs : List V}, AtL K H ds vs → AtL K H (ds.set n d) (vs.set n v)
  | _, [], vs, h => by
    have e : vs = [] := h
    rw [e]
    rfl
  | 0, e :: ds, vs, ⟨w, r, h1, h2, h3⟩ => by
    rw [h1]
    exact ⟨v, r, rfl, h, h3⟩
  | n + 1, e :: ds, vs, ⟨w, r, h1, h2, h3⟩ => by
    rw [h1]
    exact ⟨w, r.set n v, rfl, h2, AtL.set h n h3⟩
theorem AtL.ints {K : PySem.W.Frag} : ∀ {ns : List Int} {vs : List V}, AtL K H (ns.map PyData.int) vs → vs = ns.map V.int
  | [], vs, h => h
  | n :: ns, vs, ⟨v, r, h1, h2, h3⟩ => by
    have e : v = .int n := h2
    rw [h1, e, AtL.ints h3]
    rfl
theorem AtL.bools {K : PySem.W.Frag} : ∀ {ns : List Bool} {vs : List V}, AtL K H (ns.map PyData.bool) vs → vs = ns.map V.bl
  | [], vs, h => h
  | n :: ns, vs, ⟨v, r, h1, h2, h3⟩ => by
    have e : v = .bl n := h2
    rw [h1, e, AtL.bools h3]
    rfl
theorem vals_each {K : PySem.W.Frag} {M : List Addr} : ∀ {ds : List D} {vs : List V} {us : List Value}, AtL K (hid M H) ds vs → Vals vs us → PySem.W.EachIs (fun u d => ∃ v, RelV v u ∧ At K (hid M H) d v) us ds
  | [], vs, us, h, r => by
    have e : vs = [] := h
    rw [e] at r
    cases r
    exact .nil
  | d :: ds, vs, us, ⟨v, r, h1, h2, h3⟩, rv => by
    rw [h1] at rv
    cases rv with
    | cons a b => exact .cons ⟨v, a, h2⟩ (vals_each h3 b)
theorem each_vals {K : PySem.W.Frag} {M : List Addr} : ∀ {ds : List D} {us : List Value}, PySem.W.EachIs (fun u d => ∃ v, RelV v u ∧ At K (hid M H) d v) us ds → ∃ vs, Vals vs us ∧ AtL K (hid M H) ds vs
  | _, _, .nil => ⟨[], .nil, rfl⟩
  | _, _, .cons ⟨v, r, h⟩ t => by
    obtain ⟨vs, h1, h2⟩ := each_vals t
    exact ⟨v :: vs, .cons r h1, v, vs, rfl, h, h2⟩
end
/-! ### what the programs do with data -/
def lim : Nat := 1000000
theorem lim_le {n : Nat} (h : n ≤ lim) : n ≤ sizeLine := Nat.le_trans h (by decide)
theorem lim_lt {n : Nat} (h : n ≤ lim) : n < sizeLine := Nat.lt_of_le_of_lt h (by decide)
def dAdd : D → D → R D
  | .int i, .int j => .ok (.int (i + j))
  | .list xs, .list ys => if xs.length + ys.length ≤ lim then .ok (.list (xs ++ ys)) else .bad
  | .tuple xs, .tuple ys => if xs.length + ys.length ≤ lim then .ok (.tuple (xs ++ ys)) else .bad
  | .str x, .str y => if x.length + y.length ≤ lim then .ok (.str (x ++ y)) else .bad
  | _, _ => .bad
def dSub : D → D → R D
  | .int i, .int j => .ok (.int (i - j))
  | _, _ => .bad
def dMul : D → D → R D
  | .int i, .int j => if i.natAbs.log2 + j.natAbs.log2 < 1000000 then .ok (.int (i * j)) else .bad
  | _, _ => .bad
def dRep : D → D → R D
  | .list xs, .int k => if k ≤ 1000000 ∧ -1000000 ≤ k ∧ xs.length * k.toNat ≤ lim then .ok (.list (List.replicate k.toNat xs).flatten) else .bad
  | _, _ => .bad
def dCat : D → D → R D
  | .list xs, .list ys => if xs.length + ys.length ≤ lim then .ok (.list (xs ++ ys)) else .bad
  | _, _ => .bad
def dDiv : D → D → R D
  | .int i, .int j => if 0 < j ∧ j.natAbs.log2 < 9000 then .ok (.int (i / j)) else .bad
  | _, _ => .bad
def dMod : D → D → R D
  | .int i, .int j => if 0 < j then .ok (.int (i % j)) else .bad
  | _, _ => .bad
def dPow : D → D → R D
  | .int i, .int j => if 0 ≤ j ∧ j ≤ 1000000 ∧ i.natAbs < 2 ^ 64 then .ok (.int (i ^ j.toNat)) else .bad
  | _, _ => .bad
def dNeg : D → R D
  | .int i => .ok (.int (-i))
  | _ => .bad
def okd (d : D) : Bool := d.plain && decide (d.depth ≤ 60)
def dEq (a b : D) : R D := if okd a && okd b then .ok (.bool (PyData.eqv a b)) else .bad
def dNe (a b : D) : R D := if okd a && okd b then .ok (.bool (!PyData.eqv a b)) else .bad
def ordd (a b : D) : Bool := okd a && okd b && PySem.W.alike a b && (match a with | .none => false | _ => true)
def dLt (a b : D) : R D := match a, b with
  | .int i, .int j => .ok (.bool (decide (i < j)))
  | a, b => if ordd a b then .ok (.bool (PySem.W.dataLt a b)) else .bad
def dLe (a b : D) : R D := match a, b with
  | .int i, .int j => .ok (.bool (decide (i ≤ j)))
  | a, b => if ordd a b then .ok (.bool (!PySem.W.dataLt b a)) else .bad
def dGt (a b : D) : R D := match a, b with
  | .int i, .int j => .ok (.bool (decide (j < i)))
  | a, b => if ordd a b then .ok (.bool (PySem.W.dataLt b a)) else .bad
def dGe (a b : D) : R D := match a, b with
  | .int i, .int j => .ok (.bool (decide (j ≤ i)))
  | a, b => if ordd a b then .ok (.bool (!PySem.W.dataLt a b)) else .bad
def isNone : D → Bool
  | .none => true
  | _ => false
def dIs (a b : D) : R D := if isNone b then .ok (.bool (isNone a)) else .bad
def dIsNot (a b : D) : R D := if isNone b then .ok (.bool (!isNone a)) else .bad
def dIn (a b : D) : R D := match b with
  | .list xs => if okd a && okd (.list xs) then .ok (.bool (xs.any fun y => PyData.eqv y a)) else .bad
  | .tuple xs => if okd a && okd (.tuple xs) then .ok (.bool (xs.any fun y => PyData.eqv y a)) else .bad
  | _ => .bad
def dNotIn (a b : D) : R D := match b with
  | .list xs => if okd a && okd (.list xs) then .ok (.bool (!xs.any fun y => PyData.eqv y a)) else .bad
  | .tuple xs => if okd a && okd (.tuple xs) then .ok (.bool (!xs.any fun y => PyData.eqv y a)) else .bad
  | _ => .bad
def dIx (a b : D) : R D := match a, b with
  | .list xs, .int i => match atI xs i with | some d => .ok d | none => .bad
  | .tuple xs, .int i => match atI xs i with | some d => .ok d | none => .bad
  | _, _ => .bad
def cLen : List D → R D
  | [.list xs] => .ok (.int xs.length)
  | [.tuple xs] => .ok (.int xs.length)
  | _ => .bad
def cAbs : List D → R D
  | [.int i] => .ok (.int (if i < 0 then -i else i))
  | _ => .bad
def cMax2 : List D → R D
  | [.int i, .int j] => .ok (.int (if j > i then j else i))
  | _ => .bad
def cMin2 : List D → R D
  | [.int i, .int j] => .ok (.int (if j < i then j else i))
  | _ => .bad
def cInt : List D → R D
  | [.int i] => .ok (.int i)
  | [.bool b] => .ok (.int (if b then 1 else 0))
  | _ => .bad
def intsOf : List D → Option (List Int)
  | [] => some []
  | .int i :: r => match intsOf r with | some l => some (i :: l) | none => none
  | _ :: _ => none
theorem intsOf_some : ∀ {ds : List D} {l : List Int}, intsOf ds = some l → ds = l.map PyData.int
  | [], l, h => by
    cases h
    rfl
  | .int i :: r, l, h => by
    unfold intsOf at h
    cases e : intsOf r with
    | none => rw [e] at h; cases h
    | some q =>
      rw [e] at h
      cases h
      rw [intsOf_some e]
      rfl
  | .none :: r, l, h => by cases h
  | .bool _ :: r, l, h => by cases h
  | .str _ :: r, l, h => by cases h
  | .list _ :: r, l, h => by cases h
  | .tuple _ :: r, l, h => by cases h
  | .dict _ :: r, l, h => by cases h
theorem intsOf_map : ∀ l : List Int, intsOf (l.map PyData.int) = some l
  | [] => rfl
  | i :: r => by
    show (match intsOf (r.map PyData.int) with | some l => some (i :: l) | none => none) = _
    rw [intsOf_map r]
def boolsOf : List D → Option (List Bool)
  | [] => some []
  | .bool i :: r => match boolsOf r with | some l => some (i :: l) | none => none
  | _ :: _ => none
theorem boolsOf_some : ∀ {ds : List D} {l : List Bool}, boolsOf ds = some l → ds = l.map PyData.bool
  | [], l, h => by
    cases h
    rfl
  | .bool i :: r, l, h => by
    unfold boolsOf at h
    cases e : boolsOf r with
    | none => rw [e] at h; cases h
    | some q =>
      rw [e] at h
      cases h
      rw [boolsOf_some e]
      rfl
  | .none :: r, l, h => by cases h
  | .int _ :: r, l, h => by cases h
  | .str _ :: r, l, h => by cases h
  | .list _ :: r, l, h => by cases h
  | .tuple _ :: r, l, h => by cases h
  | .dict _ :: r, l, h => by cases h
theorem boolsOf_map : ∀ l : List Bool, boolsOf (l.map PyData.bool) = some l
  | [] => rfl
  | i :: r => by
    show (match boolsOf (r.map PyData.bool) with | some l => some (i :: l) | none => none) = _
    rw [boolsOf_map r]
def cSum : List D → R D
  | [.list xs] => match intsOf xs with | some l => .ok (.int l.sum) | none => .bad
  | _ => .bad
def cAll : List D → R D
  | [.list xs] => match boolsOf xs with | some l => .ok (.bool (l.all id)) | none => .bad
  | _ => .bad
def cAny : List D → R D
  | [.list xs] => match boolsOf xs with | some l => .ok (.bool (l.any id)) | none => .bad
  | _ => .bad
def cMin : List D → R D
  | [.list (x :: xs)] => if okd (.list (x :: xs)) && PySem.W.alikeAll (x :: xs) (x :: xs) then (if (xs.all fun y => PySem.W.alike x y) then .ok (PySem.W.minD x xs) else .bad) else .bad
  | _ => .bad
def cRepr : List D → R D
  | [d] => if okd d && d.showable && decide (d.shown.length ≤ lim) then .ok (.str d.shown) else .bad
  | _ => .bad
end Tw
set_option Elab.async false
set_option linter.all false
set_option maxRecDepth 100000
set_option maxHeartbeats 4000000
/-! Tw4: defs whose callers' guards are known; the law's call -/
namespace Tw
open PySem PySem.Spec PyProof.Rows L2
/-- a def's promise where no guarded walk (a repr under way) is around -/
structure FnG (P : Program) (w : World) (K : PySem.W.Frag) (mg : Str → Option Value) (base : Heap) (k : Nat) (f : Addr) (fd : FuncData) (ps : List Str) (sp : Sp) : Prop where
  len : ∀ vs H Q E, sp vs H Q E → vs.length = ps.length
  run : ∀ (A : Around) (outer : List PySem.Env) (s : Shared) (H : Hp) (args : Args) (us : List Value) (vs : List V) (Q : VK) (E : XK), Room k A → A.guards = some [] → Env0 P w K mg base A outer s H → BindsTo s fd args (ps.zip us) → Vals vs us → sp vs H Q E →
    codeAny (model P w) A (.call (.ref f) args) (CR (L2.CX P w) outer P w H s Q E) s
theorem FnG.mono {P : Program} {w : World} {K : PySem.W.Frag} {mg : Str → Option Value} {base : Heap} {j k : Nat} {f : Addr} {fd : FuncData} {ps : List Str} {sp : Sp} (F : FnG P w K mg base j f fd ps sp) (h : j ≤ k) : FnG P w K mg base k f fd ps sp :=
  ⟨F.len, fun A outer s H args us vs Q E r => F.run A outer s H args us vs Q E (r.mono h)⟩
section
variable {P : Program} {w : World} {K : PySem.W.Frag} {mg : Str → Option Value} {base : Heap}
/-- from the body: cell names, parameters, the frame as the machine lays them -/
theorem fnG_of {x qual : Str} {st : Stmt} {f : Addr} {fd : FuncData} {N ps : List Str} {k : Nat} {sp : Sp} (F : Fun K x qual st f fd) (S : FnScope N ps (defScope st)) (len : ∀ vs H Q E, sp vs H Q E → vs.length = ps.length)
    (body : ∀ (cdv : Value) (A : Around) (outer : List PySem.Env) (s : Shared) (H : Hp) (vs : List V) (Q : VK) (E : XK), Room k (A.deeper (envOfC qual (defScope st) s.heap.objs.size f cdv)) → A.guards = some [] → sp vs H Q E →
      ∃ t, PSs (cxOf (L2.CX P w) P w K mg base N qual (defScope st) f cdv A outer s H E) (defBody st) t ∧ t { nx := fun _ H' => Q .non H', rt := Q } (start N vs) H) : FnG P w K mg base (k + 1) f fd ps sp := by
  obtain ⟨oc, od, kV, doc, pm, an, cdv, ct, osl, e, look, code⟩ := F.ex
  subst e
  constructor
  · exact len
  intro A outer s H args us vs Q E room guards start0 bound vals want
  have inK : K.In s.heap := start0.mod.kin.keeps fun b o q => (start0.bs b o q).1
  have noLim : s.heap.NoLimit := start0.mod.nolimit.keeps fun b o q => (start0.bs b o q).1
  have kinds : ∀ y ∈ ps.zip us, (defScope st).names.lookup y.1 = some .local ∨ ((defScope st).names.lookup y.1 = some .cell ∧ ((cellsFrom (s.heap.objs.size + 1) (defScope st).names []).lookup y.1).isSome = true) := by
    intro y hy
    cases S.par y.1 (List.of_mem_zip (show (y.1, y.2) ∈ ps.zip us from hy)).1 with
    | inl q => exact Or.inl q
    | inr q => exact Or.inr ⟨q, PySem.W.cellsFrom_some _ _ _ (Or.inl q)⟩
  apply codeAny_call_function room.depth (inK _ _ look) rfl S.co S.gen rfl (PySem.W.codeRec_of inK code)
  apply bound
  apply wpAny_newFunctionEnv_cells S.kind kinds
  intro env henv s1 made
  subst henv
  constructor
  · exact noLim.keeps made.toInCall.keep
  apply codeAny_func
  obtain ⟨t, reads, holds⟩ := body cdv A outer s H vs Q E (room.deeper _) guards want
  have J : Inv (cxOf (L2.CX P w) P w K mg base N qual (defScope st) f cdv A outer s H E) [] (start N vs) H s1 := inv_start S room.hd start0 (len vs H Q E want) vals made
  apply wpAny_mono (reads.run [] s1 (start N vs) H _ J holds)
  · intro flow s' done
    match flow, done with
    | .ret u, ⟨v, σ', H', J', rel, q⟩ => exact ⟨v, H', J'.os, J'.bare, J'.base, J'.hok, rel, q⟩
    | .next, ⟨σ', H', J', q⟩ => exact ⟨V.non, H', J'.os, J'.bare, J'.base, J'.hok, rfl, q⟩
    | .brk, ⟨_, _, _, q⟩ => exact q.elim
    | .cont, ⟨_, _, _, q⟩ => exact q.elim
  · intro e s' q
    exact q
end
section
variable {X : Cx} {c : Cf} {ms : Nv → R (List D)} {pos p : Pos} {x : Str} {e : Expr} {es : List Expr}
theorem runG {k : Nat} {f : Addr} {fd : FuncData} {ps : List Str} {sp : Sp} {E : XK} (F : FnG X.prog X.w X.K X.mg X.base k f fd ps sp) (hr : Room k X.A) (hG : X.A.guards = some []) (hb : Binds X.K fd ps []) (hx : Passes (L2.CX X.prog X.w) X E)
    {pins : List (Addr × Obj)} {σ : L2.St} {H : Hp} {s : Shared} {Q : VK} {us : List Value} {vs : List V} (I : Inv X pins σ H s) (r : Vals vs us) (h : sp vs H Q E) : wpAny (model X.prog X.w) X.A (call (.ref f) us) (EP X pins σ Q) X.xe s := by
  have n : (us ++ []).length = ps.length := by
    rw [List.append_nil, ← r.length]
    exact F.len vs H Q E h
  have b := hb s us I.kIn n
  rw [List.append_nil] at b
  apply wpAny_call
  apply codeAny_mono (F.run X.A X.stack s H ⟨us, []⟩ us vs Q E hr hG I.env0 b r h)
  intro res s' q
  match res, q with
  | .error err, q => exact hx pins σ H s err s' I q
  | .ok (.ret u), q => exact I.after q
  | .ok .next, q => exact q.elim
  | .ok .brk, q => exact q.elim
  | .ok .cont, q => exact q.elim
theorem pe_callG {k : Nat} {f : Addr} {fd : FuncData} {ps : List Str} {sp : Sp} {E : XK} {t : TA} (F : FnG X.prog X.w X.K X.mg X.base k f fd ps sp) (hr : Room k X.A) (hG : X.A.guards = some []) (hm : X.mg x = some (.ref f)) (hk : PySem.W.keepIn X.K (.ref f) = true) (hb : Binds X.K fd ps [])
    (hx : Passes (L2.CX X.prog X.w) X E) (ha : PA X (e :: es) t) (hg : Gl X x) (hdb : (x == ("__debug__" : Str)) = false) (he : starEach (e :: es) X.env = (false, eval e X.env) :: starEach es X.env) (hpl : (backTo pos (starEach es X.env)).any (·.1) = false) :
    PE X (.Call (.Name x p) (e :: es) [] pos) (fun σ H Q => t σ H fun vs H1 => sp vs H1 Q E) := by
  constructor
  intro pins s σ H Q I h
  apply wpAny_Call_Name_kw
  apply ld_glob I hg hm _ hdb
  apply PySem.W.callWith_K (h₀ := X.base) I.ok.mod.kin hk _ he hpl
  apply thn (ha.run pos pins s σ H _ I h)
  intro us s1 ⟨vs, H1, I1, r, q⟩
  exact ⟨I1.kIn, runG F hr hG hb hx I1 r q⟩
theorem pe_callG0 {k : Nat} {f : Addr} {fd : FuncData} {ps : List Str} {sp : Sp} {E : XK} (F : FnG X.prog X.w X.K X.mg X.base k f fd ps sp) (hr : Room k X.A) (hG : X.A.guards = some []) (hm : X.mg x = some (.ref f)) (hk : PySem.W.keepIn X.K (.ref f) = true) (hb : Binds X.K fd ps [])
    (hx : Passes (L2.CX X.prog X.w) X E) (hg : Gl X x) (hdb : (x == ("__debug__" : Str)) = false) : PE X (.Call (.Name x p) [] [] pos) (fun σ H Q => sp [] H Q E) := by
  constructor
  intro pins s σ H Q I h
  apply wpAny_Call_Name_kw
  apply ld_glob I hg hm _ hdb
  exact PySem.W.callWith_K0 I.kIn hk (runG (us := []) F hr hG hb hx I .nil h)
theorem pf {k : Nat} {f : Addr} {fd : FuncData} {ps : List Str} {g : List D → R D} (F : FnG X.prog X.w X.K X.mg X.base k f fd ps (spF X.K g)) (hr : Room k X.A) (hG : X.A.guards = some []) (hm : X.mg x = some (.ref f)) (hk : PySem.W.keepIn X.K (.ref f) = true) (hb : Binds X.K fd ps [])
    (ha : PA X (e :: es) (rdA c ms)) (hg : Gl X x := by rfl) (hdb : (x == ("__debug__" : Str)) = false := by decide) (he : starEach (e :: es) X.env = (false, eval e X.env) :: starEach es X.env := by rfl) (hpl : (backTo pos (starEach es X.env)).any (·.1) = false := by rfl) (hK : c.K = X.K := by rfl) :
    PE X (.Call (.Name x p) (e :: es) [] pos) (rdE c (xCall g ms)) := (pe_callG (E := E0') F hr hG hm hk hb pass0' ha hg hdb he hpl).wk fun σ H Q ⟨ε, M, re, d, hm, q⟩ => by
  obtain ⟨ds, h1, h2⟩ := R.bind_ok hm
  exact ⟨ε, M, re, ds, h1, fun vs H1 e1 hv => ⟨M, ds, d, Trk.ex re.trk e1, hK ▸ hv, h2, fun w H3 e3 hw => q w H3 (e1.trans e3) (hK ▸ hw)⟩⟩
theorem pfL {k : Nat} {f : Addr} {fd : FuncData} {ps : List Str} {g : List D → R D} (F : FnG X.prog X.w X.K X.mg X.base k f fd ps (spN X.K g)) (hr : Room k X.A) (hG : X.A.guards = some []) (hm : X.mg x = some (.ref f)) (hk : PySem.W.keepIn X.K (.ref f) = true) (hb : Binds X.K fd ps [])
    (ha : PA X (e :: es) (rdA c ms)) (hg : Gl X x := by rfl) (hdb : (x == ("__debug__" : Str)) = false := by decide) (he : starEach (e :: es) X.env = (false, eval e X.env) :: starEach es X.env := by rfl) (hpl : (backTo pos (starEach es X.env)).any (·.1) = false := by rfl) (hK : c.K = X.K := by rfl) :
    PE X (.Call (.Name x p) (e :: es) [] pos) (rdL c (xCall g ms)) := (pe_callG (E := E0') F hr hG hm hk hb pass0' ha hg hdb he hpl).wk fun σ H Q ⟨ε, M, re, d, hm, q⟩ => by
  obtain ⟨ds, h1, h2⟩ := R.bind_ok hm
  exact ⟨ε, M, re, ds, h1, fun vs H1 e1 hv => ⟨M, ds, d, Trk.ex re.trk e1, hK ▸ hv, h2, fun p o H3 n e3 hp ho => q p o H3 (Evl.fresh_back e1 n) (e1.trans e3) hp (hK ▸ ho)⟩⟩
end
/-! ### the law's own call -/
theorem law_callG {P : Program} {w : World} {K : PySem.W.Frag} {mg mb : Str → Option Value} {k : Nat} {fa a : Addr} {fd : FuncData} {x : Str} {sp : Sp} {s₁ : Shared} {vs : List Value} {ns : List Int}
    (KX : K.In s₁.heap) (hns : s₁.heap.Ns mainGlobals mg) (hb : s₁.heap.Ns builtinsNs mb) (hbb : ∀ x : Str, x ≠ "__name__" → mb x = bootBuiltins x) (hlim : s₁.heap.NoLimit) (hg : s₁.gens = #[])
    (ha : s₁.heap.get? a = some { cls := .type "list", data := .seq vs.toArray }) (hi : IntsAre vs ns) (hl : ns.length ≤ sizeLine) (hr : Room k callerA)
    (F : ∀ base : Heap, K.In base → base.Ns mainGlobals mg → FnG P w K mg base k fa fd [x] sp) (hbind : ∀ (s : Shared) (u : Value), BindsTo s fd ⟨[u], []⟩ [(x, u)])
    (hsp : ∀ H : Hp, Only H → SqL K H a (ns.map V.int) → sp [.ref a] H (fun v _ => v = .bl true) fun _ _ _ => False) :
    codeAny (model P w) callerA (.call (.ref fa) ⟨[.ref a], []⟩) (fun r s' => r = .ok (.ret (.bool true)) ∧ OldK s₁.heap s'.heap ∧ s'.os = s₁.os ∧ AllBare s'.gens) s₁ := by
  have go : ∀ H : Hp, Only H → SqL K H a (ns.map V.int) → HOk P w H s₁.heap → (∀ b, H b ≠ none → b = a) → (H a ≠ none → K.lookup a = none) →
      codeAny (model P w) callerA (.call (.ref fa) ⟨[.ref a], []⟩) (fun r s' => r = .ok (.ret (.bool true)) ∧ OldK s₁.heap s'.heap ∧ s'.os = s₁.os ∧ AllBare s'.gens) s₁ := by
    intro H only list held just notK
    have free : ∀ b, b ≠ a → H b = none := by
      intro b nb
      cases q : H b with
      | none => rfl
      | some u => exact absurd (just b (by rw [q]; intro z; cases z)) nb
    have freeK : ∀ b o, K.lookup b = some o → H b = none := by
      intro b o hb
      by_cases e : b = a
      · cases q : H b with
        | none => rfl
        | some u =>
          have := notK (by rw [← e, q]; intro z; cases z)
          rw [← e, hb] at this
          cases this
      · exact free b e
    have kinB : K.In (hidT s₁.heap H) := fun b o hb => hidT_get (KX b o hb) (freeK b o hb)
    have names : ∀ (b : Addr) (m : Str → Option Value), s₁.heap.Ns b m → (hidT s₁.heap H).Ns b m := by
      intro b m ⟨o, es, ep, h1, h2, h3⟩
      have nb : b ≠ a := by
        intro e
        rw [e, ha] at h1
        cases h1
        cases h2
      exact ⟨o, es, ep, hidT_get h1 (free b nb), h2, h3⟩
    have modB : Mod K mg (hidT s₁.heap H) := by
      refine ⟨kinB, names _ _ hns, ⟨mb, names _ _ hb, hbb⟩, ?_⟩
      obtain ⟨mc, l1, l2⟩ := hlim
      exact ⟨mc, names _ _ l1, l2⟩
    have env : Env0 P w K mg (hidT s₁.heap H) callerA [] s₁ H := by
      refine ⟨rfl, modB, fun b o q => of_hidT q, Nat.le_of_eq (hidT_size _ _), trivial, ?_, held, .of_eq hg⟩
      intro b z
      cases z
    refine codeAny_mono ((F _ kinB (names _ _ hns)).run callerA [] s₁ H ⟨[.ref a], []⟩ [.ref a] [.ref a] _ _ hr rfl env (hbind s₁ (.ref a)) (.cons rfl .nil) (hsp H only list)) ?_
    intro res s' q
    match res, q with
    | .error e, ⟨_, _, _, _, _, _, _, _, _, _, _, _, z⟩ => exact z.elim
    | .ok .next, z => exact z.elim
    | .ok .brk, z => exact z.elim
    | .ok .cont, z => exact z.elim
    | .ok (.ret u), ⟨v, H', os, bare, un, held', rel, e⟩ =>
      subst e
      have eu : u = Value.bool true := rel
      subst eu
      refine ⟨rfl, OldK.of_keep ?_, os, bare⟩
      intro b o hb
      cases q : H b with
      | none =>
        exact un.keep b o hb q (fun z => by cases z) (fun z => by cases z)
      | some u =>
        rcases only b with n | ⟨ob, xs, f⟩
        · rw [q] at n
          cases n
        · have one := (held b _ f).1
          have two := (held' b _ (un.frzs b ob _ f)).1
          rw [hb] at one
          cases one
          exact two
  cases look : K.lookup a with
  | none =>
    refine go (fun b => if b = a then some (.frz { cls := .type "list", data := .seq vs.toArray } (.lst (ns.map V.int))) else none) ?_ (Or.inl (Or.inr ⟨_, if_pos rfl⟩)) ?_ ?_ (fun _ => look)
    · intro b
      by_cases e : b = a
      · exact Or.inr ⟨_, _, if_pos e⟩
      · exact Or.inl (if_neg e)
    · intro b u q
      by_cases e : b = a
      · have q' := (if_pos e).symm.trans q
        cases q'
        subst e
        exact ⟨ha, by rw [List.length_map]; exact hl, vs, _, vals_ints hi, ha⟩
      · have q' := (if_neg e).symm.trans q
        cases q'
    · intro b z
      by_cases e : b = a
      · exact e
      · exact absurd (if_neg e) z
  | some o =>
    have same := KX a o look
    rw [ha] at same
    cases same
    refine go (fun _ => none) (fun _ => Or.inl rfl) (Or.inr ⟨_, vs.toArray, _, look, rfl, rfl, rfl, ?_, ?_⟩) (fun b u q => by cases q) (fun b z => absurd rfl z) (fun z => absurd rfl z)
    · rw [List.size_toArray, hi.length]
      exact hl
    · simpa using vals_ints hi
/-- the goal that the head leaves, from the law's promise -/
theorem walkG {l : PySem.W.OpenLaw} {n k : Nat} {q : Program} {loose : List Str} {XP : (Str → Option Value) → Heap → Prop} {YP : World → Heap → Prop} {d : DefRec} {K : Params → PySem.W.Frag} {sp : World → Sp} {x : Str}
    (hn : l.most = some n) (hn2 : n ≤ sizeLine) (hdf : d.params.defaults = []) (hr : Room k callerA) (hY : ∀ (w : World) (h : Heap), YP w h → (K w.params).In h)
    (F : ∀ (w : World) (mg : Str → Option Value) (fa : Addr) (h : Heap), (K w.params).In h → h.Ns mainGlobals mg → mg d.name = some (.ref fa) →
      ∃ fd : FuncData, (∀ (s : Shared) (u : Value), BindsTo s fd ⟨[u], []⟩ [(x, u)]) ∧ ∀ base : Heap, (K w.params).In base → base.Ns mainGlobals mg → FnG l.prog w (K w.params) mg base k fa fd [x] (sp w))
    (hsp : ∀ (w : World) (H : Hp) (a : Addr) (ns : List Int), ns.length ≤ n → Only H → SqL (K w.params) H a (ns.map V.int) → sp w [.ref a] H (fun v _ => v = .bl true) fun _ _ _ => False) :
    PySem.W.WalkO q loose XP YP l.row.toRowW d [] (fun f vs => PySem.call f vs) := by
  apply Att.attach_call hn hdf
  intro w s₀ s₁ mg mb fa o pm cd doc a vs ns G Y ho hd hcd hmg hobj hints hlen hg
  obtain ⟨fd, bind, fn⟩ := F w mg fa _ (hY w _ Y) G.T.g hmg
  exact law_callG (hY w _ Y) G.T.g G.T.b G.T.builtins G.T.nolimit hg hobj hints (Nat.le_trans hlen hn2) hr fn bind fun H hO hS => hsp w H a ns hlen hO hS
end Tw
set_option Elab.async false
set_option linter.all false
set_option maxRecDepth 100000
set_option maxHeartbeats 4000000
/-! Tw5: the operators keep what they say of data -/
namespace Tw
open PySem PySem.Spec PyProof.Rows L2
section
variable {X : Cx}
theorem okd_iff {d : D} (h : okd d = true) : d.plain = true ∧ d.depth ≤ 60 := by
  unfold okd at h
  rw [Bool.and_eq_true] at h
  exact ⟨h.1, of_decide_eq_true h.2⟩
/-- two ints in, an int out, under a guard -/
theorem o_int {f : Value → Value → Sem Value} {C : Int → Int → Prop} {g : Int → Int → V} {F : D → D → R D} (ho : OpR X f (rI C g))
    (hF : ∀ a b d, F a b = .ok d → ∃ i j, a = .int i ∧ b = .int j ∧ C i j ∧ ∀ K H, At K H d (g i j)) : OpR X f (r2D X.K F) := by
  intro pins s σ H x y v u Q I rx ry ⟨M, a, b, d, t, ha, hb, hf, q⟩
  obtain ⟨i, j, rfl, rfl, hc, hd⟩ := hF a b d hf
  have ex : x = .int i := ha
  have ey : y = .int j := hb
  exact ho pins s σ H x y v u Q I rx ry ⟨i, j, ex, ey, hc, q _ H (Evl.Ex.refl H) (hd _ _)⟩
theorem o_int0 {f : Value → Value → Sem Value} {g : Int → Int → V} {F : D → D → R D} (ho : OpR X f (rI0 g))
    (hF : ∀ a b d, F a b = .ok d → ∃ i j, a = .int i ∧ b = .int j ∧ ∀ K H, At K H d (g i j)) : OpR X f (r2D X.K F) := by
  intro pins s σ H x y v u Q I rx ry ⟨M, a, b, d, t, ha, hb, hf, q⟩
  obtain ⟨i, j, rfl, rfl, hd⟩ := hF a b d hf
  have ex : x = .int i := ha
  have ey : y = .int j := hb
  exact ho pins s σ H x y v u Q I rx ry ⟨i, j, ex, ey, q _ H (Evl.Ex.refl H) (hd _ _)⟩
theorem o_sub : OpR X (binaryOp .Sub) (r2D X.K dSub) := o_int0 op_sub fun a b d h => by
  unfold dSub at h
  split at h
  · cases h
    exact ⟨_, _, rfl, rfl, fun _ _ => rfl⟩
  · cases h
theorem o_div : OpR X (binaryOp .FloorDiv) (r2D X.K dDiv) := o_int op_fdivW fun a b d h => by
  unfold dDiv at h
  split at h
  · split at h
    · rename_i i j q
      cases h
      exact ⟨_, _, rfl, rfl, q, fun _ _ => rfl⟩
    · cases h
  · cases h
theorem o_mod : OpR X (binaryOp .Mod) (r2D X.K dMod) := o_int op_modN fun a b d h => by
  unfold dMod at h
  split at h
  · split at h
    · rename_i i j q
      cases h
      refine ⟨_, _, rfl, rfl, by omega, fun _ _ => ?_⟩
      show V.int (i.fmod j) = V.int (i % j)
      rw [Int.fmod_eq_emod_of_nonneg _ (by omega)]
    · cases h
  · cases h
theorem o_pow : OpR X (binaryOp .Pow) (r2D X.K dPow) := o_int op_pow fun a b d h => by
  unfold dPow at h
  split at h
  · split at h
    · rename_i i j q
      cases h
      exact ⟨_, _, rfl, rfl, q, fun _ _ => rfl⟩
    · cases h
  · cases h
theorem o_neg : UnR X (unaryOp .USub) (r1D X.K dNeg) := by
  intro pins s σ H x v Q I rx ⟨M, a, d, t, ha, hf, q⟩
  unfold dNeg at hf
  split at hf
  · rename_i i
    cases hf
    have ex : x = .int i := ha
    exact un_neg pins s σ H x v Q I rx ⟨i, ex, q _ H (Evl.Ex.refl H) rfl⟩
  · cases hf
/-- an item is added behind: a new list -/
theorem laidL {pins : List (Addr × Obj)} {σ : L2.St} {H : Hp} {s : Shared} {M : List Addr} {ds : List D} {vs : List V} {us : List Value} {Q : VK} (I : Inv X pins σ H s) (t : Trk M H) (r : Vals vs us) (h : AtL X.K (hid M H) ds vs) (hz : vs.length ≤ sizeLine)
    (q : ∀ p o H', H p = none → Ex H H' → H' p = some o → Own X.K (hid (p :: M) H') o (.list ds) → Q (.ref p) H') :
    EP X pins σ Q (.ref s.heap.objs.size) { s with heap := s.heap.push { cls := .type "list", data := .seq us.toArray } } := by
  have n : H s.heap.objs.size = none := I.hok.fresh (Nat.le_refl _)
  exact ⟨.ref _, _, I.lnew (t' := s.toks) r hz, rfl, q _ _ _ n (Evl.Ex.new n) upd_same (.inl ⟨vs, ds, rfl, rfl, AtL.mono (hid_new (Evl.Ex.new n) n) ds vs h⟩)⟩
theorem plainL_eq {h : Heap} {a : Addr} {its : Array Value} (p : PlainL h a its) : ∃ n sl, h.get? a = some { cls := .type "list", dict := none, data := .seq its n, slots := sl } := by
  obtain ⟨⟨cls, dict, data, slots⟩, n, e, h1, h2, h3⟩ := p
  simp only at h1 h2 h3
  subst h1 h2 h3
  exact ⟨n, slots, e⟩
theorem o_mul : OpR X (binaryOp .Mult) (r2D X.K dMul) := o_int op_mulW fun a b d h => by
  unfold dMul at h
  split at h
  · split at h
    · rename_i i j q
      cases h
      exact ⟨_, _, rfl, rfl, q, fun _ _ => rfl⟩
    · cases h
  · cases h
theorem o_cat : OpR X (binaryOp .Add) (r2L X.K dCat) := by
  intro pins s σ H x y v u Q I rx ry ⟨M, a, b, d, t, ha, hb, hf, q⟩
  unfold dCat at hf
  split at hf
  · rename_i ds es
    split at hf
    · rename_i hz
      cases hf
      obtain ⟨l, xs, e1, h1, h2⟩ := ha
      obtain ⟨m, ys, e2, h3, h4⟩ := hb
      subst e1 e2
      cases rx
      cases ry
      have n1 := atL_len h2
      have n2 := atL_len h4
      obtain ⟨its, r1, p1, _⟩ := I.list (Or.elim h1 (fun z => Or.inl (ex_rd hid_le z)) Or.inr)
      obtain ⟨its2, r2, p2, _⟩ := I.list (Or.elim h3 (fun z => Or.inl (ex_rd hid_le z)) Or.inr)
      obtain ⟨k1, sl1, g1⟩ := plainL_eq p1
      obtain ⟨k2, sl2, g2⟩ := plainL_eq p2
      have l1 := r1.length
      have l2 := r2.length
      have hs : its.toArray.size + its2.toArray.size ≤ sizeLine := by
        rw [List.size_toArray, List.size_toArray]
        exact lim_le (by omega)
      refine concat_meets ⟨_, g1, rfl⟩ ⟨_, g2, rfl⟩ noFill_list_add seq_list_add PySem.F.slot_list_add PySem.F.entry_list_add (PySem.F.args_list_add_2 _ _) (PyProof.Rows.list_addW l m its.toArray its2.toArray k1 k2 none none sl1 sl2 hs) ⟨g1, g2, ?_⟩
      have ea : its.toArray ++ its2.toArray = (its ++ its2).toArray := by simp
      rw [ea]
      refine laidL I t (r1.append r2) (AtL.app h2 h4) ?_ q
      rw [List.length_append]
      exact lim_le (by omega)
    · cases hf
  · cases hf
theorem o_addT {pins : List (Addr × Obj)} {σ : L2.St} {H : Hp} {s : Shared} {M : List Addr} {x y : V} {v u : Value} {Q : VK} {ds es : List D} (I : Inv X pins σ H s) (rx : RelV x v) (ry : RelV y u) (t : Trk M H) (ha : At X.K (hid M H) (.tuple ds) x) (hb : At X.K (hid M H) (.tuple es) y) (hz : ds.length + es.length ≤ lim)
    (q : ∀ v H', Ex H H' → At X.K (hid M H') (.tuple (ds ++ es)) v → Q v H') : wpAny (model X.prog X.w) X.A (binaryOp .Add v u) (EP X pins σ Q) X.xe s := by
  obtain ⟨l, xs, e1, h1, h2⟩ := ha
  obtain ⟨m, ys, e2, h3, h4⟩ := hb
  subst e1 e2
  cases rx
  cases ry
  have n1 := atL_len h2
  have n2 := atL_len h4
  obtain ⟨its, r1, p1, _⟩ := I.tuple (Or.elim h1 (fun z => Or.inl (ex_rd hid_le z)) Or.inr)
  obtain ⟨its2, r2, p2, _⟩ := I.tuple (Or.elim h3 (fun z => Or.inl (ex_rd hid_le z)) Or.inr)
  obtain ⟨⟨cls, dd, data, sl⟩, ho, hc, k1, hd⟩ := id p1
  obtain ⟨⟨cls2, dd2, data2, sl2⟩, ho2, hc2, k2, hd2⟩ := id p2
  simp only at hc hd hc2 hd2
  subst hc hd hc2 hd2
  have l1 := r1.length
  have l2 := r2.length
  by_cases hv : its = []
  · have hx : ds = [] := List.eq_nil_of_length_eq_zero (by rw [← n1, l1, hv]; rfl)
    refine concat_meets ⟨_, ho, rfl⟩ ⟨_, ho2, rfl⟩ noFill_tuple_add seq_tuple_add PySem.F.slot_tuple_add PySem.F.entry_tuple_add (PySem.F.args_tuple_add_2 _ _) (PyProof.Rows.tuple_addW0 l m _ _ _ _ _ _ _ _ (by simp [hv])) ⟨ho, ho2, ?_⟩
    exact ⟨.ref m, H, I.tok _, rfl, q _ H (Evl.Ex.refl H) (by rw [hx]; exact ⟨m, ys, rfl, h3, h4⟩)⟩
  · by_cases hw : its2 = []
    · have hy : es = [] := List.eq_nil_of_length_eq_zero (by rw [← n2, l2, hw]; rfl)
      refine concat_meets ⟨_, ho, rfl⟩ ⟨_, ho2, rfl⟩ noFill_tuple_add seq_tuple_add PySem.F.slot_tuple_add PySem.F.entry_tuple_add (PySem.F.args_tuple_add_2 _ _) (PyProof.Rows.tuple_addW1 l m _ _ _ _ _ _ _ _ (by simpa using hv) (by simp [hw])) ⟨ho, ho2, ?_⟩
      exact ⟨.ref l, H, I.tok _, rfl, q _ H (Evl.Ex.refl H) (by rw [hy, List.append_nil]; exact ⟨l, xs, rfl, h1, h2⟩)⟩
    · have hs : its.toArray.size + its2.toArray.size ≤ sizeLine := by
        rw [List.size_toArray, List.size_toArray]
        exact lim_le (by omega)
      refine concat_meets ⟨_, ho, rfl⟩ ⟨_, ho2, rfl⟩ noFill_tuple_add seq_tuple_add PySem.F.slot_tuple_add PySem.F.entry_tuple_add (PySem.F.args_tuple_add_2 _ _) (PyProof.Rows.tuple_addW2 l m _ _ _ _ _ _ _ _ (by simpa using hv) (by simpa using hw) hs) ⟨ho, ho2, ?_⟩
      have ea : its.toArray ++ its2.toArray = (its ++ its2).toArray := by simp
      rw [ea]
      have n : H s.heap.objs.size = none := I.hok.fresh (Nat.le_refl _)
      have hl : (xs ++ ys).length ≤ sizeLine := by
        rw [List.length_append]
        exact lim_le (by omega)
      refine ⟨.ref s.heap.objs.size, _, I.laid (t' := s.toks) (o := .tup (xs ++ ys)) (fun b ob z => Heap.get?_push_of_some _ z) (Nat.le_refl _) ⟨hl, _, r1.append r2, IsTup.new _ _⟩, rfl, q _ _ (Evl.Ex.new n) ?_⟩
      exact ⟨_, _, rfl, SqT.of (hid_of upd_same (t.no n)), AtL.mono (hid_ex (Evl.Ex.new n)) _ _ (AtL.app h2 h4)⟩
theorem o_add : OpR X (binaryOp .Add) (r2D X.K dAdd) := by
  intro pins s σ H x y v u Q I rx ry ⟨M, a, b, d, t, ha, hb, hf, q⟩
  unfold dAdd at hf
  split at hf
  · rename_i i j
    cases hf
    exact op_add pins s σ H x y v u Q I rx ry ⟨i, j, ha, hb, q _ H (Evl.Ex.refl H) rfl⟩
  · rename_i xs ys
    split at hf
    · rename_i hz
      exact o_cat pins s σ H x y v u Q I rx ry (r2L.D ⟨M, _, _, d, t, ha, hb, by show (if xs.length + ys.length ≤ lim then R.ok (PyData.list (xs ++ ys)) else R.bad) = _; rw [if_pos hz]; exact hf, q⟩)
    · cases hf
  · rename_i xs ys
    split at hf
    · rename_i hz
      cases hf
      exact o_addT I rx ry t ha hb hz q
    · cases hf
  · rename_i z w
    split at hf
    · rename_i hz
      cases hf
      exact op_add_str pins s σ H x y v u Q I rx ry ⟨z, w, ha, hb, lim_le hz, q _ H (Evl.Ex.refl H) rfl⟩
    · cases hf
  · cases hf
/-! ### comparisons -/
theorem units_of {A : Around} {k : Nat} (hr : Room k A) : A.units + 200 < cLine := by
  have := hr.un
  omega
theorem o_eq (hu : X.A.units + 200 < cLine) : OpR X (compareOp .Eq) (r2D X.K dEq) := by
  intro pins s σ H x y v u Q I rx ry ⟨M, a, b, d, t, ha, hb, hf, q⟩
  unfold dEq at hf
  split at hf
  · rename_i g
    rw [Bool.and_eq_true] at g
    cases hf
    have ga := okd_iff g.1
    have gb := okd_iff g.2
    obtain ⟨as, r1⟩ := At.reads I ga.1 ha rx
    obtain ⟨bs, r2⟩ := At.reads I gb.1 hb ry
    exact SeqAt.eq_plain r1 r2 ga.1 gb.1 (by omega) ⟨.bl _, H, I, rfl, q _ H (Evl.Ex.refl H) rfl⟩
  · cases hf
theorem o_ne (hu : X.A.units + 200 < cLine) : OpR X (compareOp .NotEq) (r2D X.K dNe) := by
  intro pins s σ H x y v u Q I rx ry ⟨M, a, b, d, t, ha, hb, hf, q⟩
  unfold dNe at hf
  split at hf
  · rename_i g
    rw [Bool.and_eq_true] at g
    cases hf
    have ga := okd_iff g.1
    have gb := okd_iff g.2
    obtain ⟨as, r1⟩ := At.reads I ga.1 ha rx
    obtain ⟨bs, r2⟩ := At.reads I gb.1 hb ry
    exact SeqAt.ne_plain r1 r2 ga.1 gb.1 (by omega) ⟨.bl _, H, I, rfl, q _ H (Evl.Ex.refl H) rfl⟩
  · cases hf
theorem ordd_iff {a b : D} (h : ordd a b = true) : a.plain = true ∧ a.depth ≤ 60 ∧ b.plain = true ∧ b.depth ≤ 60 ∧ PySem.W.alike a b = true ∧ a ≠ .none := by
  unfold ordd at h
  rw [Bool.and_eq_true, Bool.and_eq_true, Bool.and_eq_true] at h
  obtain ⟨⟨⟨h1, h2⟩, h3⟩, h4⟩ := h
  exact ⟨(okd_iff h1).1, (okd_iff h1).2, (okd_iff h2).1, (okd_iff h2).2, h3, fun z => by rw [z] at h4; cases h4⟩
theorem o_lt (hu : X.A.units + 200 < cLine) : OpR X (compareOp .Lt) (r2D X.K dLt) := by
  intro pins s σ H x y v u Q I rx ry ⟨M, a, b, d, t, ha, hb, hf, q⟩
  unfold dLt at hf
  split at hf
  · rename_i i j
    cases hf
    exact op_lt pins s σ H x y v u Q I rx ry ⟨i, j, ha, hb, q _ H (Evl.Ex.refl H) rfl⟩
  · split at hf
    · rename_i g
      cases hf
      obtain ⟨p1, d1, p2, d2, al, nn⟩ := ordd_iff g
      obtain ⟨as, r1⟩ := At.reads I p1 ha rx
      obtain ⟨bs, r2⟩ := At.reads I p2 hb ry
      exact PySem.W.lt_data r1 r2 al nn (by omega) ⟨.bl _, H, I, rfl, q _ H (Evl.Ex.refl H) rfl⟩
    · cases hf
theorem o_le (hu : X.A.units + 200 < cLine) : OpR X (compareOp .LtE) (r2D X.K dLe) := by
  intro pins s σ H x y v u Q I rx ry ⟨M, a, b, d, t, ha, hb, hf, q⟩
  unfold dLe at hf
  split at hf
  · rename_i i j
    cases hf
    exact op_le pins s σ H x y v u Q I rx ry ⟨i, j, ha, hb, q _ H (Evl.Ex.refl H) rfl⟩
  · split at hf
    · rename_i g
      cases hf
      obtain ⟨p1, d1, p2, d2, al, nn⟩ := ordd_iff g
      obtain ⟨as, r1⟩ := At.reads I p1 ha rx
      obtain ⟨bs, r2⟩ := At.reads I p2 hb ry
      exact PySem.W.le_data r1 r2 al nn (by omega) ⟨.bl _, H, I, rfl, q _ H (Evl.Ex.refl H) rfl⟩
    · cases hf
theorem o_gt (hu : X.A.units + 200 < cLine) : OpR X (compareOp .Gt) (r2D X.K dGt) := by
  intro pins s σ H x y v u Q I rx ry ⟨M, a, b, d, t, ha, hb, hf, q⟩
  unfold dGt at hf
  split at hf
  · rename_i i j
    cases hf
    exact op_gt pins s σ H x y v u Q I rx ry ⟨i, j, ha, hb, q _ H (Evl.Ex.refl H) rfl⟩
  · split at hf
    · rename_i g
      cases hf
      obtain ⟨p1, d1, p2, d2, al, nn⟩ := ordd_iff g
      obtain ⟨as, r1⟩ := At.reads I p1 ha rx
      obtain ⟨bs, r2⟩ := At.reads I p2 hb ry
      exact PySem.W.gt_data r1 r2 al nn (by omega) ⟨.bl _, H, I, rfl, q _ H (Evl.Ex.refl H) rfl⟩
    · cases hf
theorem o_ge (hu : X.A.units + 200 < cLine) : OpR X (compareOp .GtE) (r2D X.K dGe) := by
  intro pins s σ H x y v u Q I rx ry ⟨M, a, b, d, t, ha, hb, hf, q⟩
  unfold dGe at hf
  split at hf
  · rename_i i j
    cases hf
    exact op_ge pins s σ H x y v u Q I rx ry ⟨i, j, ha, hb, q _ H (Evl.Ex.refl H) rfl⟩
  · split at hf
    · rename_i g
      cases hf
      obtain ⟨p1, d1, p2, d2, al, nn⟩ := ordd_iff g
      obtain ⟨as, r1⟩ := At.reads I p1 ha rx
      obtain ⟨bs, r2⟩ := At.reads I p2 hb ry
      exact PySem.W.ge_data r1 r2 al nn (by omega) ⟨.bl _, H, I, rfl, q _ H (Evl.Ex.refl H) rfl⟩
    · cases hf
theorem at_none {K : PySem.W.Frag} {H : Hp} : ∀ {a : D} {x : V}, At K H a x → decide (x = .non) = isNone a
  | .none, x, h => by
    have e : x = .non := h
    rw [e]
    rfl
  | .bool b, x, h => by
    have e : x = .bl b := h
    rw [e]
    rfl
  | .int i, x, h => by
    have e : x = .int i := h
    rw [e]
    rfl
  | .str z, x, h => by
    have e : x = .str z := h
    rw [e]
    rfl
  | .list ds, x, ⟨a, xs, e, _⟩ => by
    rw [e]
    rfl
  | .tuple ds, x, ⟨a, xs, e, _⟩ => by
    rw [e]
    rfl
  | .dict es, x, ⟨a, e, _⟩ => by
    rw [e]
    rfl
theorem isNone_eq {a : D} (h : isNone a = true) : a = .none := by
  cases a with
  | none => rfl
  | _ => cases h
theorem o_is : OpR X (compareOp .Is) (r2D X.K dIs) := by
  intro pins s σ H x y v u Q I rx ry ⟨M, a, b, d, t, ha, hb, hf, q⟩
  unfold dIs at hf
  split at hf
  · rename_i g
    cases hf
    rw [isNone_eq g] at hb
    have ey : y = .non := hb
    exact op_isN pins s σ H x y v u Q I rx ry ⟨ey, q _ H (Evl.Ex.refl H) (by rw [at_none ha]; rfl)⟩
  · cases hf
theorem o_isnot : OpR X (compareOp .IsNot) (r2D X.K dIsNot) := by
  intro pins s σ H x y v u Q I rx ry ⟨M, a, b, d, t, ha, hb, hf, q⟩
  unfold dIsNot at hf
  split at hf
  · rename_i g
    cases hf
    rw [isNone_eq g] at hb
    have ey : y = .non := hb
    exact op_notN pins s σ H x y v u Q I rx ry ⟨ey, q _ H (Evl.Ex.refl H) (by rw [at_none ha]; rfl)⟩
  · cases hf
theorem okd_list {xs : List D} (h : okd (.list xs) = true) : PyData.plainAll xs = true ∧ PyData.depthAll xs ≤ 59 := by
  obtain ⟨h1, h2⟩ := okd_iff h
  simp only [PyData.plain] at h1
  simp only [PyData.depth] at h2
  exact ⟨h1, by omega⟩
theorem okd_tuple {xs : List D} (h : okd (.tuple xs) = true) : PyData.plainAll xs = true ∧ PyData.depthAll xs ≤ 59 := by
  obtain ⟨h1, h2⟩ := okd_iff h
  simp only [PyData.plain] at h1
  simp only [PyData.depth] at h2
  exact ⟨h1, by omega⟩
theorem o_in (hu : X.A.units + 200 < cLine) : OpR X (compareOp .In) (r2D X.K dIn) := by
  intro pins s σ H x y v u Q I rx ry ⟨M, a, b, d, t, ha, hb, hf, q⟩
  unfold dIn at hf
  split at hf
  · split at hf
    · rename_i xs g
      rw [Bool.and_eq_true] at g
      cases hf
      obtain ⟨as, r1⟩ := At.reads I (okd_iff g.1).1 ha rx
      obtain ⟨bs, r2⟩ := At.reads I (okd_iff g.2).1 hb ry
      exact SeqAt.in_list_data r2 r1 (okd_list g.2).1 (okd_iff g.1).1 (by have := (okd_list g.2).2; omega) ⟨.bl _, H, I, rfl, q _ H (Evl.Ex.refl H) rfl⟩
    · cases hf
  · split at hf
    · rename_i xs g
      rw [Bool.and_eq_true] at g
      cases hf
      obtain ⟨as, r1⟩ := At.reads I (okd_iff g.1).1 ha rx
      obtain ⟨bs, r2⟩ := At.reads I (okd_iff g.2).1 hb ry
      exact SeqAt.in_tuple_data r2 r1 (okd_tuple g.2).1 (okd_iff g.1).1 (by have := (okd_tuple g.2).2; omega) ⟨.bl _, H, I, rfl, q _ H (Evl.Ex.refl H) rfl⟩
    · cases hf
  · cases hf
theorem o_notin (hu : X.A.units + 200 < cLine) : OpR X (compareOp .NotIn) (r2D X.K dNotIn) := by
  intro pins s σ H x y v u Q I rx ry ⟨M, a, b, d, t, ha, hb, hf, q⟩
  unfold dNotIn at hf
  split at hf
  · split at hf
    · rename_i xs g
      rw [Bool.and_eq_true] at g
      cases hf
      obtain ⟨as, r1⟩ := At.reads I (okd_iff g.1).1 ha rx
      obtain ⟨bs, r2⟩ := At.reads I (okd_iff g.2).1 hb ry
      exact SeqAt.notIn_list_data r2 r1 (okd_list g.2).1 (okd_iff g.1).1 (by have := (okd_list g.2).2; omega) ⟨.bl _, H, I, rfl, q _ H (Evl.Ex.refl H) rfl⟩
    · cases hf
  · split at hf
    · rename_i xs g
      rw [Bool.and_eq_true] at g
      cases hf
      obtain ⟨as, r1⟩ := At.reads I (okd_iff g.1).1 ha rx
      obtain ⟨bs, r2⟩ := At.reads I (okd_iff g.2).1 hb ry
      exact SeqAt.notIn_tuple_data r2 r1 (okd_tuple g.2).1 (okd_iff g.1).1 (by have := (okd_tuple g.2).2; omega) ⟨.bl _, H, I, rfl, q _ H (Evl.Ex.refl H) rfl⟩
    · cases hf
  · cases hf
end
end Tw
set_option Elab.async false
set_option linter.all false
set_option maxRecDepth 100000
set_option maxHeartbeats 4000000
/-! Tw6: items, slices, builtins, tests -/
namespace Tw
open PySem PySem.Spec PyProof.Rows L2
theorem sql_le {K : PySem.W.Frag} {M : List Addr} {H : Hp} {a : Addr} {xs : List V} (h : SqL K (hid M H) a xs) : SqL K H a xs := Evl.ex_l hid_le h
theorem sqt_le {K : PySem.W.Frag} {M : List Addr} {H : Hp} {a : Addr} {xs : List V} (h : SqT K (hid M H) a xs) : SqT K H a xs := Evl.ex_t hid_le h
theorem atI_at {K : PySem.W.Frag} {H : Hp} {ds : List D} {vs : List V} {i : Int} {d : D} (h : AtL K H ds vs) (g : atI ds i = some d) : ∃ v, atI vs i = some v ∧ At K H d v := by
  unfold atI at g ⊢
  rw [atL_len h]
  cases e : ixN ds.length i with
  | none =>
    rw [e] at g
    cases g
  | some j =>
    rw [e] at g
    obtain ⟨v, h1, h2⟩ := AtL.get h (show ds[j]? = some d from g)
    exact ⟨v, h1, h2⟩
section
variable {X : Cx}
theorem i_x : IxR X (r2D X.K dIx) := by
  intro value slice pins s σ H x y v u Q I rx ry ⟨M, a, b, d, t, ha, hb, hf, q⟩ hs
  unfold dIx at hf
  split at hf
  · rename_i xs i
    split at hf
    · rename_i e g
      cases hf
      obtain ⟨l, vs, e1, h1, h2⟩ := ha
      obtain ⟨w, g1, g2⟩ := atI_at h2 g
      exact ix_list value slice pins s σ H x y v u Q I rx ry ⟨l, vs, i, w, e1, hb, sql_le h1, g1, q w H (Evl.Ex.refl H) g2⟩ hs
    · cases hf
  · rename_i xs i
    split at hf
    · rename_i e g
      cases hf
      obtain ⟨l, vs, e1, h1, h2⟩ := ha
      obtain ⟨w, g1, g2⟩ := atI_at h2 g
      exact ix_tup value slice pins s σ H x y v u Q I rx ry ⟨l, vs, i, w, e1, hb, sqt_le h1, g1, q w H (Evl.Ex.refl H) g2⟩ hs
    · cases hf
  · cases hf
/-! ### builtins -/
theorem at_cons {K : PySem.W.Frag} {H : Hp} {d : D} {ds : List D} {xs : List V} (h : AtL K H (d :: ds) xs) : ∃ v vs, xs = v :: vs ∧ At K H d v ∧ AtL K H ds vs := h
theorem at_one {K : PySem.W.Frag} {H : Hp} {d : D} {xs : List V} (h : AtL K H [d] xs) : ∃ v, xs = [v] ∧ At K H d v := by
  obtain ⟨v, vs, e, h1, h2⟩ := h
  have z : vs = [] := h2
  rw [z] at e
  exact ⟨v, e, h1⟩
theorem at_two {K : PySem.W.Frag} {H : Hp} {d e : D} {xs : List V} (h : AtL K H [d, e] xs) : ∃ v w, xs = [v, w] ∧ At K H d v ∧ At K H e w := by
  obtain ⟨v, vs, e1, h1, h2⟩ := h
  obtain ⟨w, e2, h3⟩ := at_one h2
  rw [e2] at e1
  exact ⟨v, w, e1, h1, h3⟩
theorem k_len : CallR X (.builtin "len") (rnD X.K cLen) := by
  intro pins s σ H xs us Q I r ⟨M, as, d, t, ha, hf, q⟩
  unfold cLen at hf
  split at hf
  · cases hf
    obtain ⟨v, e, a, vs, e2, h1, h2⟩ := at_one ha
    exact call_len_seq pins s σ H xs us Q I r ⟨a, vs, by rw [e, e2], .inl (sql_le h1), q _ H (Evl.Ex.refl H) (by rw [atL_len h2]; rfl)⟩
  · cases hf
    obtain ⟨v, e, a, vs, e2, h1, h2⟩ := at_one ha
    exact call_len_seq pins s σ H xs us Q I r ⟨a, vs, by rw [e, e2], .inr (sqt_le h1), q _ H (Evl.Ex.refl H) (by rw [atL_len h2]; rfl)⟩
  · cases hf
theorem k_abs : CallR X (.builtin "abs") (rnD X.K cAbs) := by
  intro pins s σ H xs us Q I r ⟨M, as, d, t, ha, hf, q⟩
  unfold cAbs at hf
  split at hf
  · cases hf
    obtain ⟨v, e, h1⟩ := at_one ha
    exact call_abs pins s σ H xs us Q I r ⟨_, by rw [e, show v = _ from h1], q _ H (Evl.Ex.refl H) rfl⟩
  · cases hf
theorem k_int : CallR X (.type "int") (rnD X.K cInt) := by
  intro pins s σ H xs us Q I r ⟨M, as, d, t, ha, hf, q⟩
  unfold cInt at hf
  split at hf
  · cases hf
    obtain ⟨v, e, h1⟩ := at_one ha
    exact call_int1 pins s σ H xs us Q I r (.inl ⟨_, by rw [e, show v = _ from h1], q _ H (Evl.Ex.refl H) rfl⟩)
  · cases hf
    obtain ⟨v, e, h1⟩ := at_one ha
    exact call_int1 pins s σ H xs us Q I r (.inr ⟨_, by rw [e, show v = _ from h1], q _ H (Evl.Ex.refl H) rfl⟩)
  · cases hf
theorem k_sum (hc : X.calm = true) : CallR X (.builtin "sum") (rnD X.K cSum) := by
  intro pins s σ H xs us Q I r ⟨M, as, d, t, ha, hf, q⟩
  unfold cSum at hf
  split at hf
  · split at hf
    · rename_i l g
      cases hf
      obtain ⟨v, e, a, vs, e2, h1, h2⟩ := at_one ha
      rw [intsOf_some g] at h2
      rw [AtL.ints h2] at h1
      exact cr_sum hc pins s σ H xs us Q I r ⟨a, l, by rw [e, e2], sql_le h1, q _ H (Evl.Ex.refl H) rfl⟩
    · cases hf
  · cases hf
theorem k_all (hc : X.calm = true) : CallR X (.builtin "all") (rnD X.K cAll) := by
  intro pins s σ H xs us Q I r ⟨M, as, d, t, ha, hf, q⟩
  unfold cAll at hf
  split at hf
  · split at hf
    · rename_i l g
      cases hf
      obtain ⟨v, e, a, vs, e2, h1, h2⟩ := at_one ha
      rw [boolsOf_some g] at h2
      rw [AtL.bools h2] at h1
      exact cr_all hc pins s σ H xs us Q I r ⟨a, l, by rw [e, e2], sql_le h1, q _ H (Evl.Ex.refl H) rfl⟩
    · cases hf
  · cases hf
theorem k_any (hc : X.calm = true) : CallR X (.builtin "any") (rnD X.K cAny) := by
  intro pins s σ H xs us Q I r ⟨M, as, d, t, ha, hf, q⟩
  unfold cAny at hf
  split at hf
  · split at hf
    · rename_i l g
      cases hf
      obtain ⟨v, e, a, vs, e2, h1, h2⟩ := at_one ha
      rw [boolsOf_some g] at h2
      rw [AtL.bools h2] at h1
      exact cr_any hc pins s σ H xs us Q I r ⟨a, l, by rw [e, e2], sql_le h1, q _ H (Evl.Ex.refl H) rfl⟩
    · cases hf
  · cases hf
/-! ### min, max -/
def alikeB (xs : List D) : Bool := (xs.all fun x => xs.all fun y => PySem.W.alike x y) && xs.all fun x => !isNone x
theorem alikeB_iff {xs : List D} (h : alikeB xs = true) : PySem.W.AlikeAll xs := by
  unfold alikeB at h
  rw [Bool.and_eq_true] at h
  refine ⟨fun x hx y hy => ?_, fun x hx z => ?_⟩
  · exact List.all_eq_true.mp (List.all_eq_true.mp h.1 x hx) y hy
  · have := List.all_eq_true.mp h.2 x hx
    rw [z] at this
    cases this
def kMin : List D → R D
  | [.int i, .int j] => .ok (.int (if j < i then j else i))
  | [.list (x :: xs)] => if okd (.list (x :: xs)) && alikeB (x :: xs) then .ok (PySem.W.minD x xs) else .bad
  | _ => .bad
def kMax : List D → R D
  | [.int i, .int j] => .ok (.int (if j > i then j else i))
  | [.list (x :: xs)] => if okd (.list (x :: xs)) && alikeB (x :: xs) then .ok (PySem.W.maxD x xs) else .bad
  | _ => .bad
theorem plain_at {xs : List D} (h : PyData.plainAll xs = true) : ∀ {i : Nat} {d : D}, xs[i]? = some d → d.plain = true := fun {i d} e => PySem.W.plain_mem h (List.mem_of_getElem? e)
/-- an item that is read as a datum is this datum -/
theorem item_is {pins : List (Addr × Obj)} {σ : L2.St} {H : Hp} {s : Shared} {M : List Addr} {ds : List D} {vs : List V} {us : List Value} (I : Inv X pins σ H s) (hp : PyData.plainAll ds = true) (h : AtL X.K (hid M H) ds vs) (r : Vals vs us) {i : Nat} {u : Value} (hu : us[i]? = some u)
    {h' : Heap} (hk : ∀ b o, s.heap.get? b = some o → h'.get? b = some o) {d : D} {bs : List Addr} (rd : Reads h' u d bs) : ∃ v, RelV v u ∧ At X.K (hid M H) d v := by
  have hi : i < us.length := (List.getElem?_eq_some_iff.mp hu).1
  have hv : i < vs.length := by rw [r.length]; exact hi
  obtain ⟨u', h1, h2⟩ := r.get (List.getElem?_eq_getElem hv)
  rw [hu] at h1
  cases h1
  obtain ⟨e, g1, g2⟩ := AtL.get' h (List.getElem?_eq_getElem hv)
  obtain ⟨as, r1⟩ := At.reads I (plain_at hp g1) g2 h2
  have : e = d := SeqAt.plain_unique e d u as bs (plain_at hp g1) (PyProof.Rows.Reads.keeps hk r1) rd
  rw [← this]
  exact ⟨_, h2, g2⟩
theorem k_min (hc : X.calm = true) (hu : X.A.units + 200 < cLine) : CallR X (.builtin "min") (rnD X.K kMin) := by
  intro pins s σ H xs us Q I r ⟨M, as, d, t, ha, hf, q⟩
  unfold kMin at hf
  split at hf
  · cases hf
    obtain ⟨v, w, e, h1, h2⟩ := at_two ha
    exact call_min2 hc pins s σ H xs us Q I r ⟨_, _, by rw [e, show v = _ from h1, show w = _ from h2], q _ H (Evl.Ex.refl H) rfl⟩
  · split at hf
    · rename_i x ds g
      rw [Bool.and_eq_true] at g
      cases hf
      obtain ⟨v, e, a, vs, e2, h1, h2⟩ := at_one ha
      subst e2
      subst e
      obtain ⟨its, rv, hl, _⟩ := I.list (sql_le h1)
      rw [Vals.ref1 r]
      have hp := okd_list g.1
      obtain ⟨bs, hr⟩ := Dp.readsAll I (x :: ds) vs its (AtL.dp _ _ hp.1 (AtL.mono hid_le _ _ h2)) rv
      refine PySem.W.min_list_data (I.ok.hd hc) hl.isList (by simpa using hr) (alikeB_iff g.2) (by have := hp.2; omega) fun i u h' tk bs hi rd hk => ?_
      obtain ⟨w, w1, w2⟩ := item_is I hp.1 h2 rv (by simpa using hi) hk rd
      exact ⟨w, H, I.kept hk, w1, q w H (Evl.Ex.refl H) w2⟩
    · cases hf
  · cases hf
theorem k_max (hc : X.calm = true) (hu : X.A.units + 200 < cLine) : CallR X (.builtin "max") (rnD X.K kMax) := by
  intro pins s σ H xs us Q I r ⟨M, as, d, t, ha, hf, q⟩
  unfold kMax at hf
  split at hf
  · cases hf
    obtain ⟨v, w, e, h1, h2⟩ := at_two ha
    exact call_max2 hc pins s σ H xs us Q I r ⟨_, _, by rw [e, show v = _ from h1, show w = _ from h2], q _ H (Evl.Ex.refl H) rfl⟩
  · split at hf
    · rename_i x ds g
      rw [Bool.and_eq_true] at g
      cases hf
      obtain ⟨v, e, a, vs, e2, h1, h2⟩ := at_one ha
      subst e2
      subst e
      obtain ⟨its, rv, hl, _⟩ := I.list (sql_le h1)
      rw [Vals.ref1 r]
      have hp := okd_list g.1
      obtain ⟨bs, hr⟩ := Dp.readsAll I (x :: ds) vs its (AtL.dp _ _ hp.1 (AtL.mono hid_le _ _ h2)) rv
      refine PySem.W.max_list_data (I.ok.hd hc) hl.isList (by simpa using hr) (alikeB_iff g.2) (by have := hp.2; omega) fun i u h' tk bs hi rd hk => ?_
      obtain ⟨w, w1, w2⟩ := item_is I hp.1 h2 rv (by simpa using hi) hk rd
      exact ⟨w, H, I.kept hk, w1, q w H (Evl.Ex.refl H) w2⟩
    · cases hf
  · cases hf
/-! ### repr -/
mutual
theorem plain_hasDict : ∀ d : D, d.plain = true → d.hasDict = false
  | .none, _ => rfl
  | .bool _, _ => rfl
  | .int _, _ => rfl
  | .str _, _ => rfl
  | .list xs, h => by
    simp only [PyData.plain] at h
    simp only [PyData.hasDict]
    exact plain_hasDictAll xs h
  | .tuple xs, h => by
    simp only [PyData.plain] at h
    simp only [PyData.hasDict]
    exact plain_hasDictAll xs h
  | .dict _, h => by simp only [PyData.plain] at h; cases h
theorem plain_hasDictAll : ∀ xs : List D, PyData.plainAll xs = true → PyData.hasDictAll xs = false
  | [], _ => rfl
  | x :: xs, h => by
    simp only [PyData.plainAll, Bool.and_eq_true] at h
    simp only [PyData.hasDictAll, plain_hasDict x h.1, plain_hasDictAll xs h.2, Bool.or_self]
end
theorem k_repr (hG : X.A.guards = some []) (hu : X.A.units + 200 < cLine) : CallR X (.builtin "repr") (rnD X.K cRepr) := by
  intro pins s σ H xs us Q I r ⟨M, as, d, t, ha, hf, q⟩
  unfold cRepr at hf
  split at hf
  · rename_i d0
    split at hf
    · rename_i g
      rw [Bool.and_eq_true, Bool.and_eq_true] at g
      obtain ⟨⟨g1, g2⟩, g3⟩ := g
      have g3' : d0.shown.length ≤ lim := of_decide_eq_true g3
      cases hf
      obtain ⟨v, e, h1⟩ := at_one ha
      subst e
      obtain ⟨u, e, rv⟩ := vals1 r
      subst e
      have done : ∀ u', EP X pins σ Q (.str d0.shown u') { s with toks := s.toks + 1 } := fun u' => ⟨.str _, H, I.tok _, ⟨_, rfl⟩, q _ H (Evl.Ex.refl H) rfl⟩
      cases d0 with
      | none =>
        rw [show v = _ from h1] at rv
        rw [show u = _ from rv]
        exact PySem.P.repr_of_none (done _)
      | bool b =>
        rw [show v = _ from h1] at rv
        rw [show u = _ from rv]
        refine PySem.P.repr_of_bool ?_
        cases b
        · exact done _
        · exact done _
      | int i =>
        rw [show v = _ from h1] at rv
        obtain ⟨tk, rv⟩ := rv
        rw [rv]
        exact PySem.P.repr_of_int (of_decide_eq_true (by simpa only [PyData.showable] using g2)) (done _)
      | str z =>
        rw [show v = _ from h1] at rv
        obtain ⟨tk, rv⟩ := rv
        rw [rv]
        exact PySem.P.repr_of_str (done _) (lim_le (by simpa only [PyData.shown] using g3'))
      | list ds =>
        obtain ⟨bs, rd⟩ := At.reads I (okd_iff g1).1 h1 rv
        obtain ⟨a, vs, e, _⟩ := h1
        rw [e] at rv
        rw [show u = _ from rv] at rd ⊢
        exact repr_of_reads' rd g2 (fun z => by rw [plain_hasDict _ (okd_iff g1).1] at z; cases z) hG (by have := (okd_iff g1).2; omega) (fun _ _ z => z) (fun h' tk tk' hk => ⟨.str _, H, I.kept hk, ⟨_, rfl⟩, q _ H (Evl.Ex.refl H) rfl⟩) (lim_le g3')
      | tuple ds =>
        obtain ⟨bs, rd⟩ := At.reads I (okd_iff g1).1 h1 rv
        obtain ⟨a, vs, e, _⟩ := h1
        rw [e] at rv
        rw [show u = _ from rv] at rd ⊢
        exact repr_of_reads' rd g2 (fun z => by rw [plain_hasDict _ (okd_iff g1).1] at z; cases z) hG (by have := (okd_iff g1).2; omega) (fun _ _ z => z) (fun h' tk tk' hk => ⟨.str _, H, I.kept hk, ⟨_, rfl⟩, q _ H (Evl.Ex.refl H) rfl⟩) (lim_le g3')
      | dict es =>
        have := (okd_iff g1).1
        simp [PyData.plain] at this
    · cases hf
  · cases hf
end
end Tw
set_option Elab.async false
set_option linter.all false
set_option maxRecDepth 100000
set_option maxHeartbeats 4000000
/-! Tw7: new lists of builtins, slices, tests, chains -/
namespace Tw
open PySem PySem.Spec PyProof.Rows L2
section
variable {X : Cx}
/-! ### sorted, list, tuple -/
def sortB (ds : List D) : Bool := (ds.all fun x => ds.all fun y => PySem.W.alike x y) && ((ds.all fun d => match d with | .tuple (_ :: _) => true | _ => false) || ds.all fun d => match d with | .none => false | .tuple _ => false | _ => true)
def kSorted : List D → R D
  | [.list ds] => if okd (.list ds) && sortB ds && decide (ds.length ≤ lim) then .ok (.list (ds.mergeSort (PySem.W.dataLe false id))) else .bad
  | _ => .bad
theorem sortB_iff {ds : List D} (h : sortB ds = true) : PySem.W.AllAlike ds ∧ PySem.W.Sortable ds := by
  unfold sortB at h
  rw [Bool.and_eq_true, Bool.or_eq_true] at h
  refine ⟨fun x hx y hy => List.all_eq_true.mp (List.all_eq_true.mp h.1 x hx) y hy, ?_⟩
  rcases h.2 with z | z
  · left
    intro d hd
    have := List.all_eq_true.mp z d hd
    match d, this with
    | .tuple (x :: r), _ => exact ⟨x, r, rfl⟩
  · right
    intro d hd
    have := List.all_eq_true.mp z d hd
    constructor
    · intro e
      rw [e] at this
      cases this
    · intro xs e
      rw [e] at this
      cases this
theorem k_sorted (hu : X.A.units + 200 < cLine) : CallR X (.builtin "sorted") (rnL X.K kSorted) := by
  intro pins s σ H xs us Q I r ⟨M, as, d, t, ha, hf, q⟩
  unfold kSorted at hf
  split at hf
  · split at hf
    · rename_i ds g
      rw [Bool.and_eq_true, Bool.and_eq_true] at g
      obtain ⟨⟨g1, g2⟩, g3⟩ := g
      have hz : ds.length ≤ lim := of_decide_eq_true g3
      cases hf
      obtain ⟨v, e, a, vs, e2, h1, h2⟩ := at_one ha
      subst e2
      subst e
      obtain ⟨its, rv, hl, _⟩ := I.list (sql_le h1)
      rw [Vals.ref1 r]
      have hp := okd_list g1
      have em : ds.map id = ds := List.map_id ds
      obtain ⟨al, so⟩ := sortB_iff g2
      refine PySem.W.sorted_data (enc := id) (bs := ds) (R := fun u d => ∃ v, RelV v u ∧ At X.K (hid M H) d v) hl.isList (vals_each h2 rv) ?_ (by rw [em]; exact al) (by rw [em]; exact so) (lim_le hz) (fun b hb => ?_) fun out ho hR => ?_
      · have ev := vals_each h2 rv
        refine (PySem.W.each_mem ev).mono fun u d ⟨⟨v, q1, q2⟩, hm⟩ => ?_
        exact At.reads I (PySem.W.plain_mem hp.1 hm) q2 q1
      · have : (id b : D).depth ≤ PyData.depthAll ds := PyData.depth_le_depthAll ds b hb
        have := hp.2
        omega
      · obtain ⟨ws, w1, w2⟩ := each_vals hR
        obtain ⟨ep, he⟩ := PyProof.Rows.sortedAll_at s.heap its out.toArray
        have n : H (s.heap.objs.size + 1) = none := I.hok.fresh (Nat.le_succ _)
        have hlen : ws.length ≤ sizeLine := by
          rw [w1.length, ho]
          exact lim_le hz
        refine ⟨.ref _, upd H (s.heap.objs.size + 1) (.lst ws), I.laid (t' := s.toks) (fun _ _ => PyProof.Rows.sortedAll_old) (Nat.le_succ _) ⟨hlen, out, ep, w1, he⟩, rfl, ?_⟩
        exact q _ _ _ n (Evl.Ex.new n) upd_same (.inl ⟨ws, _, rfl, rfl, AtL.mono (hid_new (Evl.Ex.new n) n) _ _ w2⟩)
    · cases hf
  · cases hf
def kList : List D → R D
  | [.list ds] => .ok (.list ds)
  | [.tuple ds] => .ok (.list ds)
  | _ => .bad
theorem k_list : CallR X (.type "list") (rnL X.K kList) := by
  intro pins s σ H xs us Q I r ⟨M, as, d, t, ha, hf, q⟩
  unfold kList at hf
  split at hf
  · cases hf
    obtain ⟨v, e, a, vs, e2, h1, h2⟩ := at_one ha
    exact call_list_of pins s σ H xs us Q I r ⟨a, vs, by rw [e, e2], .inl (sql_le h1), fun l n => q l _ _ n (Evl.Ex.new n) upd_same (.inl ⟨vs, _, rfl, rfl, AtL.mono (hid_new (Evl.Ex.new n) n) _ _ h2⟩)⟩
  · cases hf
    obtain ⟨v, e, a, vs, e2, h1, h2⟩ := at_one ha
    exact call_list_of pins s σ H xs us Q I r ⟨a, vs, by rw [e, e2], .inr (sqt_le h1), fun l n => q l _ _ n (Evl.Ex.new n) upd_same (.inl ⟨vs, _, rfl, rfl, AtL.mono (hid_new (Evl.Ex.new n) n) _ _ h2⟩)⟩
  · cases hf
def kTuple : List D → R D
  | [.list ds] => .ok (.tuple ds)
  | [.tuple ds] => .ok (.tuple ds)
  | _ => .bad
theorem k_tuple : CallR X (.type "tuple") (rnD X.K kTuple) := by
  intro pins s σ H xs us Q I r ⟨M, as, d, t, ha, hf, q⟩
  unfold kTuple at hf
  split at hf
  · cases hf
    obtain ⟨v, e, a, vs, e2, h1, h2⟩ := at_one ha
    exact call_tuple_of pins s σ H xs us Q I r ⟨a, vs, by rw [e, e2], .inl ⟨sql_le h1, fun l n => q _ _ (Evl.Ex.new n) ⟨l, vs, rfl, SqT.of (hid_of upd_same (t.no n)), AtL.mono (hid_ex (Evl.Ex.new n)) _ _ h2⟩⟩⟩
  · cases hf
    obtain ⟨v, e, a, vs, e2, h1, h2⟩ := at_one ha
    exact call_tuple_of pins s σ H xs us Q I r ⟨a, vs, by rw [e, e2], .inr ⟨sqt_le h1, q _ H (Evl.Ex.refl H) ⟨a, vs, rfl, h1, h2⟩⟩⟩
  · cases hf
theorem call_LD {v : Value} {f : List D → R D} (h : CallR X v (rnL X.K f)) : CallR X v (rnD X.K f) := fun pins s σ H xs us Q I r q => h pins s σ H xs us Q I r (rnL.D q)
end
/-! ### slices -/
def rdO (c : Cf) (m : Nv → R (Option Int)) : TO := fun σ H Q => ∃ ε M, Rel c σ H ε M ∧ ∃ o, m ε = .ok o ∧ ∀ H', Ex H H' → Q o H'
section
variable {X : Cx} {c : Cf} {e a b : Expr} {ma mb me : Nv → R D} {pos : Pos}
def oSome (m : Nv → R D) : Nv → R (Option Int) := fun ε => (m ε).bind fun d => match d with | .int i => .ok (some i) | _ => .bad
def oNone : Nv → R (Option Int) := fun _ => .ok none
theorem po_s (h : PE X e (rdE c ma)) : PO X (some e) (rdO c (oSome ma)) := by
  obtain ⟨run⟩ := po_some h
  refine ⟨fun pins s σ H Q I ⟨ε, M, r, o, hm, q⟩ => run pins s σ H Q I ?_⟩
  obtain ⟨d, h1, h2⟩ := R.bind_ok hm
  cases d with
  | int i =>
    cases h2
    exact ⟨ε, M, r, _, h1, fun v H' e' hv => ⟨i, hv, q H' e'⟩⟩
  | _ => cases h2
theorem po_n : PO X none (rdO c oNone) := by
  obtain ⟨run⟩ := po_none (X := X)
  refine ⟨fun pins s σ H Q I ⟨ε, M, r, o, hm, q⟩ => run pins s σ H Q I ?_⟩
  cases hm
  exact q H (Evl.Ex.refl H)
def cut (xs : List D) (lo hi : Option Int) : List D := (xs.drop (HT.sIx xs.length 0 lo)).take (HT.sIx xs.length xs.length hi - HT.sIx xs.length 0 lo)
def xSl (me : Nv → R D) (lo hi : Nv → R (Option Int)) : Nv → R D := fun ε => (me ε).bind fun d => (lo ε).bind fun l => (hi ε).bind fun h => match d with
  | .list xs => .ok (.list (cut xs l h))
  | _ => .bad
theorem cut_at {K : PySem.W.Frag} {H : Hp} {ds : List D} {vs : List V} (h : AtL K H ds vs) (l u : Option Int) : AtL K H (cut ds l u) (cutV vs l u) := by
  unfold cut cutV
  rw [atL_len h]
  exact AtL.take _ (AtL.drop _ h)
theorem pe_sl {lo hi : Option Expr} {p2 : Pos} {ml mh : Nv → R (Option Int)} (he : PE X e (rdE c me)) (hl : PO X lo (rdO c ml)) (hh : PO X hi (rdO c mh)) (hK : c.K = X.K := by rfl) : PE X (.Subscript e (.Slice lo hi none p2) pos) (rdL c (xSl me ml mh)) :=
  (pe_slice sl_list he hl hh).wk fun σ H Q ⟨ε, M, re, d, hm, q⟩ => by
    obtain ⟨x, h1, h2⟩ := R.bind_ok hm
    obtain ⟨l, h3, h4⟩ := R.bind_ok h2
    obtain ⟨u, h5, h6⟩ := R.bind_ok h4
    refine ⟨ε, M, re, x, h1, fun v H1 e1 hv => ⟨ε, M, re.ex e1, l, h3, fun H2 e2 => ⟨ε, M, re.ex (e1.trans e2), u, h5, fun H3 e3 => ?_⟩⟩⟩
    cases x with
    | list xs =>
      cases h6
      obtain ⟨a, vs, ev, g1, g2⟩ := hv
      have e4 := e2.trans e3
      refine ⟨a, vs, ev, hK ▸ sql_le (Evl.ex_l (hid_ex e4) g1), fun p n => ?_⟩
      have e5 : Ex H (upd H3 p (.lst (cutV vs l u))) := (e1.trans e4).trans (Evl.Ex.new n)
      refine q p _ _ (Evl.fresh_back (e1.trans e4) n) e5 upd_same (.inl ⟨_, _, rfl, rfl, cut_at (AtL.mono ?_ _ _ g2) l u⟩)
      exact Evl.Ex.trans (hid_ex e4) (hid_new (Evl.Ex.new n) n)
    | _ => cases h6
/-- xs[i] -/
theorem pe_i {sl : Expr} {mi : Nv → R D} (he : PE X e (rdE c me)) (hi : PE X sl (rdE c mi)) (hs : PlainIx sl := by exact fun _ _ => rfl) (hK : c.K = X.K := by rfl) : PE X (.Subscript e sl pos) (rdE c (xBin dIx me mi)) :=
  (pe_ix i_x he hi hs).wk (tOp_rd fun _ _ _ _ h => hK ▸ h)
/-! ### truth, tests -/
def truD : D → R Bool
  | .none => .ok false
  | .bool b => .ok b
  | .int i => .ok (i != 0)
  | _ => .bad
def tV (m : Nv → R D) : Nv → R Bool := fun ε => (m ε).bind truD
theorem pt_v (h : PE X a (rdE c ma)) (he : ∀ whole, isTrue a X.env whole = (do let v ← whole; standAt a.pos; holding [v] (truthy v)) := by intro _; rfl) : PT X a (rdT c (tV ma)) :=
  (pt_truth h he).wk fun σ H Q ⟨ε, M, re, k, hm, q⟩ => by
    obtain ⟨d, h1, h2⟩ := R.bind_ok hm
    refine ⟨ε, M, re, d, h1, fun v H' e' hv => ⟨k, ?_, q H' e'⟩⟩
    cases d with
    | none =>
      cases h2
      rw [show v = _ from hv]
      rfl
    | bool b =>
      cases h2
      rw [show v = _ from hv]
      rfl
    | int i =>
      cases h2
      rw [show v = _ from hv]
      rfl
    | _ => cases h2
def tAn (m n : Nv → R Bool) : Nv → R Bool := fun ε => (m ε).bind fun b => if b then n ε else .ok false
def tOrr (m n : Nv → R Bool) : Nv → R Bool := fun ε => (m ε).bind fun b => if b then .ok true else n ε
def tNo (m : Nv → R Bool) : Nv → R Bool := fun ε => (m ε).bind fun b => .ok (!b)
theorem _root_.L2.PW.wk {e : Expr} {t t' : TT} (h : PW X e t) (i : ∀ σ H Q, t' σ H Q → t σ H Q) : PW X e t' := ⟨fun w pins s σ H Q I q => h.run w pins s σ H Q I (i σ H Q q)⟩
variable {m n : Nv → R Bool} {rest : List Expr}
theorem pw_an (ha : PT X a (rdT c m)) (hb : PW X (.BoolOp .And (b :: rest) pos) (rdT c n)) : PW X (.BoolOp .And (a :: b :: rest) pos) (rdT c (tAn m n)) := (pw_and ha hb).wk fun σ H Q ⟨ε, M, re, k, hm, q⟩ => by
  obtain ⟨x, h1, h2⟩ := R.bind_ok hm
  refine ⟨ε, M, re, x, h1, fun H1 e1 => ?_⟩
  cases x with
  | true => exact ⟨ε, M, re.ex e1, k, h2, fun H2 e2 => q H2 (e1.trans e2)⟩
  | false =>
    cases h2
    exact q H1 e1
theorem pw_orr (ha : PT X a (rdT c m)) (hb : PW X (.BoolOp .Or (b :: rest) pos) (rdT c n)) : PW X (.BoolOp .Or (a :: b :: rest) pos) (rdT c (tOrr m n)) := (pw_or ha hb).wk fun σ H Q ⟨ε, M, re, k, hm, q⟩ => by
  obtain ⟨x, h1, h2⟩ := R.bind_ok hm
  refine ⟨ε, M, re, x, h1, fun H1 e1 => ?_⟩
  cases x with
  | false => exact ⟨ε, M, re.ex e1, k, h2, fun H2 e2 => q H2 (e1.trans e2)⟩
  | true =>
    cases h2
    exact q H1 e1
theorem pt_no (ha : PT X a (rdT c m)) : PT X (.UnaryOp .Not a pos) (rdT c (tNo m)) := (pt_not ha).wk fun σ H Q ⟨ε, M, re, k, hm, q⟩ => by
  obtain ⟨x, h1, h2⟩ := R.bind_ok hm
  cases h2
  exact ⟨ε, M, re, x, h1, fun H1 e1 => q H1 e1⟩
/-! ### truth values as values -/
def boD : D → R Bool
  | .bool b => .ok b
  | _ => .bad
def xAn (m n : Nv → R D) : Nv → R D := fun ε => (m ε).bind fun d => (boD d).bind fun b => if b then n ε else .ok (.bool false)
def xOrr (m n : Nv → R D) : Nv → R D := fun ε => (m ε).bind fun d => (boD d).bind fun b => if b then .ok (.bool true) else n ε
def xNo (m : Nv → R D) : Nv → R D := fun ε => (m ε).bind fun d => (boD d).bind fun b => .ok (.bool (!b))
theorem boD_ok {d : D} {b : Bool} (h : boD d = .ok b) : d = .bool b := by
  cases d with
  | bool k =>
    cases h
    rfl
  | _ => cases h
theorem pe_an (ha : PE X a (rdE c ma)) (hb : PE X (.BoolOp .And (b :: rest) pos) (rdE c mb)) : PE X (.BoolOp .And (a :: b :: rest) pos) (rdE c (xAn ma mb)) := (L2.pe_and ha hb).wk fun σ H Q ⟨ε, M, re, d, hm, q⟩ => by
  obtain ⟨x, h1, h2⟩ := R.bind_ok hm
  obtain ⟨k, h3, h4⟩ := R.bind_ok h2
  have := boD_ok h3
  subst this
  refine ⟨ε, M, re, _, h1, fun v H1 e1 hv => ⟨k, hv, ?_⟩⟩
  cases k with
  | true => exact ⟨ε, M, re.ex e1, d, h4, fun v H2 e2 => q v H2 (e1.trans e2)⟩
  | false =>
    cases h4
    exact q _ H1 e1 rfl
theorem pe_orr (ha : PE X a (rdE c ma)) (hb : PE X (.BoolOp .Or (b :: rest) pos) (rdE c mb)) : PE X (.BoolOp .Or (a :: b :: rest) pos) (rdE c (xOrr ma mb)) := (L2.pe_or ha hb).wk fun σ H Q ⟨ε, M, re, d, hm, q⟩ => by
  obtain ⟨x, h1, h2⟩ := R.bind_ok hm
  obtain ⟨k, h3, h4⟩ := R.bind_ok h2
  have := boD_ok h3
  subst this
  refine ⟨ε, M, re, _, h1, fun v H1 e1 hv => ⟨k, hv, ?_⟩⟩
  cases k with
  | false => exact ⟨ε, M, re.ex e1, d, h4, fun v H2 e2 => q v H2 (e1.trans e2)⟩
  | true =>
    cases h4
    exact q _ H1 e1 rfl
theorem pe_no (ha : PE X a (rdE c ma)) : PE X (.UnaryOp .Not a pos) (rdE c (xNo ma)) := (L2.pe_not ha).wk fun σ H Q ⟨ε, M, re, d, hm, q⟩ => by
  obtain ⟨x, h1, h2⟩ := R.bind_ok hm
  obtain ⟨k, h3, h4⟩ := R.bind_ok h2
  have := boD_ok h3
  subst this
  cases h4
  exact ⟨ε, M, re, _, h1, fun v H1 e1 hv => ⟨k, hv, q _ H1 e1 rfl⟩⟩
/-- a if t else b -/
def xIf (t : Nv → R Bool) (ma mb : Nv → R D) : Nv → R D := fun ε => (t ε).bind fun k => if k then ma ε else mb ε
theorem pe_ife {cd : Expr} (hc : PT X cd (rdT c m)) (ha : PE X a (rdE c ma)) (hb : PE X b (rdE c mb)) : PE X (.IfExp cd a b pos) (rdE c (xIf m ma mb)) := (pe_ifExp hc ha hb).wk fun σ H Q ⟨ε, M, re, d, hm, q⟩ => by
  obtain ⟨k, h1, h2⟩ := R.bind_ok hm
  refine ⟨ε, M, re, k, h1, fun H1 e1 => ?_⟩
  cases k with
  | true => exact ⟨ε, M, re.ex e1, d, h2, fun v H2 e2 => q v H2 (e1.trans e2)⟩
  | false => exact ⟨ε, M, re.ex e1, d, h2, fun v H2 e2 => q v H2 (e1.trans e2)⟩
/-- a < b < c -/
def xCh (f g : D → D → R D) (ma mb mc : Nv → R D) : Nv → R D := fun ε => (ma ε).bind fun a => (mb ε).bind fun b => (f a b).bind fun z => (boD z).bind fun k => if k then (mc ε).bind fun d => g b d else .ok (.bool false)
theorem pe_ch {op op' : CmpOp} {f g : D → D → R D} {cc : Expr} {mc : Nv → R D} (ho : OpR X (compareOp op) (r2D X.K f)) (ho' : OpR X (compareOp op') (r2D X.K g)) (ha : PE X a (rdE c ma)) (hb : PE X b (rdE c mb)) (hcc : PE X cc (rdE c mc)) (hmk : lastMarks [op, op'] [b, cc] = false := by with_unfolding_all rfl) (hK : c.K = X.K := by rfl) :
    PE X (.Compare a [op, op'] [b, cc] pos) (rdE c (xCh f g ma mb mc)) := (pe_chain ho ho' ha hb hcc hmk).wk fun σ H Q ⟨ε, M, re, d, hm, q⟩ => by
  obtain ⟨x, h1, h2⟩ := R.bind_ok hm
  obtain ⟨y, h3, h4⟩ := R.bind_ok h2
  obtain ⟨z, h5, h6⟩ := R.bind_ok h4
  obtain ⟨k, h7, h8⟩ := R.bind_ok h6
  have := boD_ok h7
  subst this
  refine ⟨ε, M, re, x, h1, fun v H1 e1 hv => ⟨ε, M, re.ex e1, y, h3, fun w H2 e2 hw => ?_⟩⟩
  have hv2 := At.mono (hid_ex e2) x v hv
  refine ⟨M, x, y, _, Trk.ex re.trk (e1.trans e2), hK ▸ hv2, hK ▸ hw, h5, fun r H3 e3 hr => ⟨k, hr, ?_⟩⟩
  have e13 := (e1.trans e2).trans e3
  cases k with
  | true =>
    obtain ⟨d3, g1, g2⟩ := R.bind_ok h8
    exact ⟨ε, M, re.ex e13, d3, g1, fun u H4 e4 hu => ⟨M, y, d3, d, Trk.ex re.trk (e13.trans e4), hK ▸ At.mono (hid_ex (e3.trans e4)) y w hw, hK ▸ hu, g2, fun r H5 e5 hr => q r H5 ((e13.trans e4).trans e5) (hK ▸ hr)⟩⟩
  | false =>
    cases h8
    exact q _ H3 e13 rfl
end
end Tw
set_option Elab.async false
set_option linter.all false
set_option maxRecDepth 100000
set_option maxHeartbeats 4000000
/-! Tw8: what is walked, targets, comprehensions, statements -/
namespace Tw
open PySem PySem.Spec PyProof.Rows L2
/-! ### what is walked -/
def Wk (K : PySem.W.Frag) (B : Hp) (J : It) (ds : List D) : Prop := ∀ (i : Nat) (H : Hp), Ex B H → (i < ds.length → J.go i H) ∧ (i = ds.length → J.stop i H) ∧
  ∀ x H', J.yld i H x H' → Ex H H' ∧ ∀ d, ds[i]? = some d → ∀ M', Trk M' H → Ex B (hid M' H) → At K (hid M' H') d x
def rdI (c : Cf) (m : Nv → R (List D)) : TI := fun σ H Rr => ∃ ε M, Rel c σ H ε M ∧ ∃ ds, m ε = .ok ds ∧ ∀ J H1, Ex H H1 → Wk c.K (hid M H1) J ds → Rr J H1
theorem _root_.L2.PI.wk {X : Cx} {tg e : Expr} {t t' : TI} (h : PI X tg e t) (i : ∀ σ H Q, t' σ H Q → t σ H Q) : PI X tg e t' := ⟨fun pins s σ H Q I q => h.run pins s σ H Q I (i σ H Q q)⟩
section
variable {X : Cx} {c : Cf} {tg : Expr}
theorem wk_list {K : PySem.W.Frag} {B : Hp} {a : Addr} {vs : List V} {ds : List D} (h : SqL K B a vs) (hd : AtL K B ds vs) : Wk K B (Itl K a) ds := fun i H e => by
  have hs : SqL K H a vs := Evl.ex_l e h
  have n := atL_len hd
  refine ⟨fun hi => ⟨vs, vs[i]'(by omega), hs, List.getElem?_eq_getElem (by omega)⟩, fun hi => ⟨vs, hs, by omega⟩, fun x H' ⟨e1, q⟩ => ?_⟩
  subst e1
  refine ⟨Evl.Ex.refl _, fun d hi M' t e2 => ?_⟩
  obtain ⟨v, h1, h2⟩ := AtL.get hd hi
  have ev : v = x := Option.some.inj (h1.symm.trans (q vs hs))
  rw [← ev]
  exact At.mono e2 d v h2
theorem wk_tup {K : PySem.W.Frag} {B : Hp} {a : Addr} {vs : List V} {ds : List D} (h : SqT K B a vs) (hd : AtL K B ds vs) : Wk K B (Itt K a) ds := fun i H e => by
  have hs : SqT K H a vs := Evl.ex_t e h
  have n := atL_len hd
  refine ⟨fun hi => ⟨vs, vs[i]'(by omega), hs, List.getElem?_eq_getElem (by omega)⟩, fun hi => ⟨vs, hs, by omega⟩, fun x H' ⟨e1, q⟩ => ?_⟩
  subst e1
  refine ⟨Evl.Ex.refl _, fun d hi M' t e2 => ?_⟩
  obtain ⟨v, h1, h2⟩ := AtL.get hd hi
  have ev : v = x := Option.some.inj (h1.symm.trans (q vs hs))
  rw [← ev]
  exact At.mono e2 d v h2
def rangeD (lo : Int) (n : Nat) : List D := (List.range n).map fun (i : Nat) => PyData.int (lo + (i : Int))
theorem wk_range {K : PySem.W.Frag} {B : Hp} (lo : Int) (n : Nat) : Wk K B (Itr lo n) (rangeD lo n) := fun i H e => by
  have l : (rangeD lo n).length = n := by
    unfold rangeD
    rw [List.length_map, List.length_range]
  refine ⟨fun hi => by rw [l] at hi; exact hi, fun hi => by rw [l] at hi; exact Nat.le_of_eq hi.symm, fun x H' ⟨e1, e2⟩ => ?_⟩
  subst e1 e2
  refine ⟨Evl.Ex.refl _, fun d hd M' t e2 => ?_⟩
  unfold rangeD at hd
  rw [List.getElem?_map] at hd
  have hi : i < n := by
    cases q : (List.range n)[i]? with
    | none =>
      rw [q] at hd
      cases hd
    | some j =>
      have := (List.getElem?_eq_some_iff.mp q).1
      rwa [List.length_range] at this
  rw [List.getElem?_range hi] at hd
  cases hd
  rfl
def enumG : Nat → List D → List D
  | _, [] => []
  | n, d :: ds => .tuple [.int (n : Int), d] :: enumG (n + 1) ds
theorem enumG_len : ∀ (n : Nat) (ds : List D), (enumG n ds).length = ds.length
  | _, [] => rfl
  | n, d :: ds => by
    show (enumG (n + 1) ds).length + 1 = _
    rw [enumG_len]
    rfl
theorem enumG_get : ∀ (n : Nat) (ds : List D) (i : Nat) (e : D), (enumG n ds)[i]? = some e → ∃ d, ds[i]? = some d ∧ e = .tuple [.int ((n + i : Nat) : Int), d]
  | _, [], i, e, h => by
    have h' : ([] : List D)[i]? = some e := h
    simp at h'
  | n, d :: ds, 0, e, h => by
    have h' : (PyData.tuple [.int (n : Int), d]) = e := by simpa [enumG] using h
    exact ⟨d, rfl, h'.symm⟩
  | n, d :: ds, i + 1, e, h => by
    have h' : (enumG (n + 1) ds)[i]? = some e := by simpa [enumG] using h
    obtain ⟨q, h1, h2⟩ := enumG_get (n + 1) ds i e h'
    refine ⟨q, by simpa using h1, ?_⟩
    rw [h2]
    have : n + 1 + i = n + (i + 1) := by omega
    rw [this]
theorem wk_enum {K : PySem.W.Frag} {B : Hp} {a : Addr} {vs : List V} {ds : List D} (h : SqL K B a vs) (hd : AtL K B ds vs) : Wk K B (Ite K a) (enumG 0 ds) := fun i H e => by
  have hs : SqL K H a vs := Evl.ex_l e h
  have n := atL_len hd
  refine ⟨fun hi => ?_, fun hi => ?_, fun x H' ⟨T, y, e1, nT, e2, q⟩ => ?_⟩
  · rw [enumG_len] at hi
    exact ⟨vs, vs[i]'(by omega), hs, List.getElem?_eq_getElem (by omega)⟩
  · rw [enumG_len] at hi
    exact ⟨vs, hs, by omega⟩
  · subst e1 e2
    refine ⟨Evl.Ex.new nT, fun d hi M' t e2 => ?_⟩
    obtain ⟨f, g1, g2⟩ := enumG_get 0 ds i d hi
    subst g2
    obtain ⟨v, h1, h2⟩ := AtL.get hd g1
    have ev : v = y := Option.some.inj (h1.symm.trans (q vs hs))
    rw [← ev]
    refine ⟨T, _, rfl, SqT.of (hid_of upd_same (t.no nT)), _, _, rfl, ?_, _, _, rfl, At.mono (Evl.Ex.trans e2 (hid_ex (Evl.Ex.new nT))) f v h2, rfl⟩
    show V.int (i : Int) = V.int ((0 + i : Nat) : Int)
    rw [Nat.zero_add]
def zipG : List D → List D → List D
  | d :: ds, e :: es => .tuple [d, e] :: zipG ds es
  | _, _ => []
theorem zipG_len : ∀ (ds es : List D), (zipG ds es).length = min ds.length es.length
  | [], es => by
    show 0 = min 0 es.length
    omega
  | d :: ds, [] => by
    show 0 = min (ds.length + 1) 0
    omega
  | d :: ds, e :: es => by
    show (zipG ds es).length + 1 = min (ds.length + 1) (es.length + 1)
    rw [zipG_len]
    omega
theorem zipG_get : ∀ (ds es : List D) (i : Nat) (f : D), (zipG ds es)[i]? = some f → ∃ d e, ds[i]? = some d ∧ es[i]? = some e ∧ f = .tuple [d, e]
  | [], es, i, f, h => by
    have h' : ([] : List D)[i]? = some f := h
    simp at h'
  | d :: ds, [], i, f, h => by
    have h' : ([] : List D)[i]? = some f := h
    simp at h'
  | d :: ds, e :: es, 0, f, h => by
    have h' : PyData.tuple [d, e] = f := by simpa [zipG] using h
    exact ⟨d, e, rfl, rfl, h'.symm⟩
  | d :: ds, e :: es, i + 1, f, h => by
    obtain ⟨a, b, h1, h2, h3⟩ := zipG_get ds es i f (by simpa [zipG] using h)
    exact ⟨a, b, by simpa using h1, by simpa using h2, h3⟩
theorem wk_zip {K : PySem.W.Frag} {B : Hp} {a b : Addr} {vs ws : List V} {ds es : List D} (h : SqL K B a vs) (hd : AtL K B ds vs) (h' : SqL K B b ws) (hd' : AtL K B es ws) : Wk K B (Itz K a b) (zipG ds es) := fun i H e => by
  have hs : SqL K H a vs := Evl.ex_l e h
  have hs' : SqL K H b ws := Evl.ex_l e h'
  have n := atL_len hd
  have n' := atL_len hd'
  have l := zipG_len ds es
  refine ⟨fun hi => ?_, fun hi => ?_, fun x H' ⟨T, y, z, e1, nT, e2, q, q'⟩ => ?_⟩
  · exact ⟨vs, ws, vs[i]'(by omega), ws[i]'(by omega), hs, hs', List.getElem?_eq_getElem (by omega), List.getElem?_eq_getElem (by omega)⟩
  · exact ⟨vs, ws, hs, hs', by omega⟩
  · subst e1 e2
    refine ⟨Evl.Ex.new nT, fun d hi M' t e2 => ?_⟩
    obtain ⟨f, g, g1, g2, g3⟩ := zipG_get ds es i d hi
    subst g3
    obtain ⟨v, h1, h2⟩ := AtL.get hd g1
    obtain ⟨w, h3, h4⟩ := AtL.get hd' g2
    have t1 : v = y := Option.some.inj (h1.symm.trans (q vs hs))
    have t2 : w = z := Option.some.inj (h3.symm.trans (q' ws hs'))
    rw [← t1, ← t2]
    exact ⟨T, _, rfl, SqT.of (hid_of upd_same (t.no nT)), _, _, rfl, At.mono (Evl.Ex.trans e2 (hid_ex (Evl.Ex.new nT))) f v h2, _, _, rfl, At.mono (Evl.Ex.trans e2 (hid_ex (Evl.Ex.new nT))) g w h4, rfl⟩
/-- a list or a tuple -/
def iSeq (m : Nv → R D) : Nv → R (List D) := fun ε => (m ε).bind fun d => match d with
  | .list ds => .ok ds
  | .tuple ds => .ok ds
  | _ => .bad
def rlim (i : Int) : Bool := decide (-(2 ^ 62) ≤ i) && decide (i < 2 ^ 62)
def iRange1 (m : Nv → R (List D)) : Nv → R (List D) := fun ε => (m ε).bind fun ds => match ds with
  | [.int j] => if rlim j then .ok (rangeD 0 j.toNat) else .bad
  | _ => .bad
def iRange2 (m : Nv → R (List D)) : Nv → R (List D) := fun ε => (m ε).bind fun ds => match ds with
  | [.int i, .int j] => if rlim i && rlim j then .ok (rangeD i (j - i).toNat) else .bad
  | _ => .bad
def iEnu (m : Nv → R (List D)) : Nv → R (List D) := fun ε => (m ε).bind fun ds => match ds with
  | [.list xs] => .ok (enumG 0 xs)
  | _ => .bad
def iZi (m : Nv → R (List D)) : Nv → R (List D) := fun ε => (m ε).bind fun ds => match ds with
  | [.list xs, .list ys] => .ok (zipG xs ys)
  | _ => .bad
variable {l : Expr} {ml : Nv → R D} {ms : Nv → R (List D)} {p pos tpos : Pos}
theorem pi_l (hl : PE X l (rdE c ml)) (hK : c.K = X.K := by rfl) : PI X tg l (rdI c (iSeq ml)) := by
  constructor
  intro pins s σ H Rr I ⟨ε, M, re, ds, hm, q⟩
  obtain ⟨d, h1, h2⟩ := R.bind_ok hm
  apply thn (hl.run pins s σ H (fun v H1 => Ex H H1 ∧ At c.K (hid M H1) d v) I ⟨ε, M, re, d, h1, fun v H' e hv => ⟨e, hv⟩⟩)
  intro u s1 ⟨v, H1, I1, rv, e1, hv⟩
  have fresh : H1 s1.heap.objs.size = none := I1.hok.fresh (Nat.le_refl _)
  have fp : ∀ b ∈ [s1.heap.objs.size], FpOk X pins H1 b := by
    intro b hb
    rw [List.mem_singleton] at hb
    rw [hb]
    exact I1.fpOk (Nat.le_refl _) fresh
  cases d with
  | list xs =>
    cases h2
    obtain ⟨a, vs, ev, g1, g2⟩ := hv
    subst ev
    cases rv
    obtain ⟨its, r2, pl, hz⟩ := I1.list (hK ▸ sql_le g1)
    apply wpAny_pyIter_list pl.isList
    exact ⟨_, _, _, _, H1, rfl, I1.kept (t' := s1.toks) fun b o e => Heap.get?_push_of_some _ e, turn_list a _, ⟨_, Heap.get?_push_size _ rfl, rfl, rfl⟩, fp, q _ H1 e1 (hK ▸ wk_list g1 g2)⟩
  | tuple xs =>
    cases h2
    obtain ⟨a, vs, ev, g1, g2⟩ := hv
    subst ev
    cases rv
    obtain ⟨its, r2, pl, hz⟩ := I1.tuple (hK ▸ sqt_le g1)
    apply wpAny_pyIter_tuple (show s1.heap.IsTuple a its.toArray from pl)
    exact ⟨_, _, _, _, H1, rfl, I1.kept (t' := s1.toks) fun b o e => Heap.get?_push_of_some _ e, turn_tuple a _, ⟨_, Heap.get?_push_size _ rfl, rfl, rfl⟩, fp, q _ H1 e1 (hK ▸ wk_tup g1 g2)⟩
  | _ => cases h2
theorem rlim_iff {i : Int} (h : rlim i = true) : -(2 ^ 62) ≤ i ∧ i < 2 ^ 62 := by
  unfold rlim at h
  rw [Bool.and_eq_true] at h
  exact ⟨of_decide_eq_true h.1, of_decide_eq_true h.2⟩
theorem pi_r1 {a : Expr} (hm : X.mg "range" = none) (ha : PA X [a] (rdA c ms)) (hg : Gl X "range" := by rfl) (hs : starEach [a] X.env = [(false, eval a X.env)] := by rfl) : PI X tg (.Call (.Name "range" p) [a] [] pos) (rdI c (iRange1 ms)) :=
  (pi_range1 hg hm ha hs).wk fun σ H Q ⟨ε, M, re, ds, hm, q⟩ => by
    obtain ⟨as, h1, h2⟩ := R.bind_ok hm
    refine ⟨ε, M, re, as, h1, fun vs H1 e1 hv => ?_⟩
    split at h2
    · split at h2
      · rename_i j g
        cases h2
        obtain ⟨v, ev, w⟩ := at_one hv
        have := rlim_iff g
        exact ⟨j, by rw [ev, show v = _ from w], this.1, this.2, q _ H1 e1 (wk_range 0 _)⟩
      · cases h2
    · cases h2
theorem pi_r2 {a b : Expr} (hm : X.mg "range" = none) (ha : PA X [a, b] (rdA c ms)) (hg : Gl X "range" := by rfl) (hs : starEach [a, b] X.env = [(false, eval a X.env), (false, eval b X.env)] := by rfl) (hs2 : starEach [b] X.env = [(false, eval b X.env)] := by rfl) : PI X tg (.Call (.Name "range" p) [a, b] [] pos) (rdI c (iRange2 ms)) :=
  (pi_range2 hg hm ha hs hs2).wk fun σ H Q ⟨ε, M, re, ds, hm, q⟩ => by
    obtain ⟨as, h1, h2⟩ := R.bind_ok hm
    refine ⟨ε, M, re, as, h1, fun vs H1 e1 hv => ?_⟩
    split at h2
    · split at h2
      · rename_i i j g
        rw [Bool.and_eq_true] at g
        cases h2
        obtain ⟨v, w, ev, g1, g2⟩ := at_two hv
        have a1 := rlim_iff g.1
        have a2 := rlim_iff g.2
        exact ⟨i, j, by rw [ev, show v = _ from g1, show w = _ from g2], ⟨a1.1, a1.2, a2.1, a2.2⟩, q _ H1 e1 (wk_range i _)⟩
      · cases h2
    · cases h2
theorem pi_e {e : Expr} {elts : List Expr} {kk : Nat} (hm : X.mg "enumerate" = none) (ha : PA X [e] (rdA c ms)) (hg : Gl X "enumerate" := by rfl) (hs : starEach [e] X.env = [(false, eval e X.env)] := by rfl) (hK : c.K = X.K := by rfl) :
    PI X (.Tuple elts kk tpos) (.Call (.Name "enumerate" p) [e] [] pos) (rdI c (iEnu ms)) := (pi_enum hg hm ha hs).wk fun σ H Q ⟨ε, M, re, ds, hm, q⟩ => by
    obtain ⟨as, h1, h2⟩ := R.bind_ok hm
    refine ⟨ε, M, re, as, h1, fun vs H1 e1 hv => ?_⟩
    split at h2
    · cases h2
      obtain ⟨v, ev, a, ws, e2, g1, g2⟩ := at_one hv
      exact ⟨a, ws, by rw [ev, e2], hK ▸ sql_le g1, q _ H1 e1 (hK ▸ wk_enum g1 g2)⟩
    · cases h2
theorem pi_z {e e2 : Expr} {elts : List Expr} {kk : Nat} (hm : X.mg "zip" = none) (ha : PA X [e, e2] (rdA c ms)) (hg : Gl X "zip" := by rfl) (hs : starEach [e, e2] X.env = (false, eval e X.env) :: starEach [e2] X.env := by rfl) (hpl : (backTo pos (starEach [e2] X.env)).any (·.1) = false := by rfl) (hK : c.K = X.K := by rfl) :
    PI X (.Tuple elts kk tpos) (.Call (.Name "zip" p) [e, e2] [] pos) (rdI c (iZi ms)) := (pi_zip hg hm ha hs hpl).wk fun σ H Q ⟨ε, M, re, ds, hm, q⟩ => by
    obtain ⟨as, h1, h2⟩ := R.bind_ok hm
    refine ⟨ε, M, re, as, h1, fun vs H1 e1 hv => ?_⟩
    split at h2
    · cases h2
      obtain ⟨v, w, ev, ⟨a, xs, e2, g1, g2⟩, ⟨b, ys, e3, g3, g4⟩⟩ := at_two hv
      exact ⟨a, b, xs, ys, by rw [ev, e2, e3], hK ▸ sql_le g1, hK ▸ sql_le g3, q _ H1 e1 (hK ▸ wk_zip g1 g2 g3 g4)⟩
    · cases h2
end
end Tw
set_option Elab.async false
set_option linter.all false
set_option maxRecDepth 100000
set_option maxHeartbeats 4000000
/-! Tw9: targets, comprehensions -/
namespace Tw
open PySem PySem.Spec PyProof.Rows L2
/-! ### slots wiped -/
theorem wipe_at (σ : L2.St) (i : Nat) : ∀ vs : List Nat, (wipe σ vs)[i]? = if i ∈ vs then (if i < σ.length then some none else none) else σ[i]?
  | [] => by
    rw [if_neg (by simp)]
    rfl
  | v :: vs => by
    show ((wipe σ vs).set v none)[i]? = _
    by_cases e : v = i
    · subst e
      rw [if_pos (by simp)]
      by_cases h : v < σ.length
      · rw [if_pos h, List.getElem?_set_self (by rw [wipe_length]; exact h)]
      · rw [if_neg h]
        exact List.getElem?_eq_none_iff.mpr (by rw [List.length_set, wipe_length]; omega)
    · rw [List.getElem?_set_ne e, wipe_at σ i vs]
      by_cases h : i ∈ vs
      · rw [if_pos h, if_pos (List.mem_cons_of_mem _ h)]
      · rw [if_neg h, if_neg fun z => by
          rcases List.mem_cons.mp z with z | z
          · exact e z.symm
          · exact h z]
theorem wipe_set {σ : L2.St} {j : Nat} {x : Option V} {vs : List Nat} (h : j ∈ vs) : wipe (σ.set j x) vs = wipe σ vs := by
  apply List.ext_getElem?
  intro i
  rw [wipe_at, wipe_at, List.length_set]
  by_cases e : i ∈ vs
  · rw [if_pos e, if_pos e]
  · rw [if_neg e, if_neg e, List.getElem?_set_ne fun z : j = i => e (by rw [← z]; exact h)]
theorem wipe_wipe {σ : L2.St} {vs : List Nat} : wipe (wipe σ vs) vs = wipe σ vs := by
  apply List.ext_getElem?
  intro i
  rw [wipe_at, wipe_length, wipe_at]
  by_cases e : i ∈ vs
  · rw [if_pos e, if_pos e]
  · rw [if_neg e]
section
variable {c : Cf}
theorem Rel.unset {σ : L2.St} {H : Hp} {ε : Nv} {M : List Addr} (r : Rel c σ H ε M) (i : Nat) : Rel c (σ.set i none) H (st ε i .no) M where
  ext := r.ext
  len := by rw [List.length_set, st_len, r.len]
  sub := r.sub
  trk := r.trk
  old := r.old
  im := fun j d h => by
    by_cases q : j = i
    · subst q
      have hl := gt_lt (ε := st ε j .no) (i := j) (by rw [h]; intro z; cases z)
      rw [st_len] at hl
      rw [gt_same hl] at h
      cases h
    · rw [gt_ne q] at h
      obtain ⟨v, h1, h2⟩ := r.im j d h
      exact ⟨v, by rw [List.getElem?_set_ne (Ne.symm q)]; exact h1, h2⟩
  mu := fun j d h => by
    by_cases q : j = i
    · subst q
      have hl := gt_lt (ε := st ε j .no) (i := j) (by rw [h]; intro z; cases z)
      rw [st_len] at hl
      rw [gt_same hl] at h
      cases h
    · rw [gt_ne q] at h
      obtain ⟨a, o, h1, h2⟩ := r.mu j d h
      exact ⟨a, o, by rw [List.getElem?_set_ne (Ne.symm q)]; exact h1, h2⟩
  dis := fun j k d e a b hjk hj hk h1 h2 => by
    by_cases q : j = i
    · subst q
      have hl := gt_lt (ε := st ε j .no) (i := j) (by rw [hj]; intro z; cases z)
      rw [st_len] at hl
      rw [gt_same hl] at hj
      cases hj
    · by_cases q2 : k = i
      · subst q2
        have hl := gt_lt (ε := st ε k .no) (i := k) (by rw [hk]; intro z; cases z)
        rw [st_len] at hl
        rw [gt_same hl] at hk
        cases hk
      · rw [gt_ne q] at hj
        rw [gt_ne q2] at hk
        rw [List.getElem?_set_ne (Ne.symm q)] at h1
        rw [List.getElem?_set_ne (Ne.symm q2)] at h2
        exact r.dis j k d e a b hjk hj hk h1 h2
def wipeE (ε : Nv) : List Nat → Nv
  | [] => ε
  | v :: vs => st (wipeE ε vs) v .no
theorem Rel.wipe {σ : L2.St} {H : Hp} {ε : Nv} {M : List Addr} (r : Rel c σ H ε M) : ∀ vs : List Nat, Rel c (L2.wipe σ vs) H (wipeE ε vs) M
  | [] => r
  | v :: vs => (Rel.wipe r vs).unset v
/-- one more object that is hidden -/
theorem Rel.add {σ : L2.St} {H H' : Hp} {ε : Nv} {M : List Addr} (r : Rel c σ H ε M) {p : Addr} {o : HO} (n : H p = none) (e : Ex H H') (hp : H' p = some o) : Rel c σ H' ε (p :: M) where
  ext := r.ext.trans e
  len := r.len
  sub := fun a h => List.mem_cons_of_mem _ (r.sub a h)
  trk := fun a h => by
    rcases List.mem_cons.mp h with q | q
    · exact ⟨o, by rw [q]; exact hp⟩
    · obtain ⟨u, q⟩ := r.trk a q
      exact ⟨u, e a u q⟩
  old := r.old
  im := fun i d h => let ⟨v, h1, h2⟩ := r.im i d h; ⟨v, h1, At.mono (hid_new e n) d v h2⟩
  mu := fun i d h => let ⟨a, u, h1, h2, h3, h4, h5⟩ := r.mu i d h; ⟨a, u, h1, List.mem_cons_of_mem _ h2, h3, e a u h4, h5.mono (hid_new e n)⟩
  dis := r.dis
/-- a hidden object that is no slot's own is changed -/
theorem Rel.updD {σ : L2.St} {H : Hp} {ε : Nv} {M : List Addr} (r : Rel c σ H ε M) {p : Addr} {o : HO} (hp : p ∈ M) (h0 : c.H0 p = none) (hs : ∀ i d, gt ε i = .mu d → σ[i]? ≠ some (some (.ref p))) : Rel c σ (L2.upd H p o) ε M where
  ext := r.ext.mut h0
  len := r.len
  sub := r.sub
  trk := fun a h => by
    by_cases q : a = p
    · exact ⟨o, by rw [q]; exact upd_same⟩
    · obtain ⟨u, w⟩ := r.trk a h
      exact ⟨u, by rw [upd_ne q]; exact w⟩
  old := r.old
  im := fun i d h => by
    rw [hid_upd hp]
    exact r.im i d h
  mu := fun i d h => by
    obtain ⟨a, u, h1, h2, h3, h4, h5⟩ := r.mu i d h
    have ne : a ≠ p := fun z => hs i d h (z ▸ h1)
    exact ⟨a, u, h1, h2, h3, by rw [upd_ne ne]; exact h4, by rw [hid_upd hp]; exact h5⟩
  dis := r.dis
/-! ### targets that are names -/
def MuK (σ : L2.St) (ε : Nv) (σ' : L2.St) (ε' : Nv) : Prop := ∀ j d, gt ε' j = .mu d → gt ε j = .mu d ∧ σ'[j]? = σ[j]?
def GOk (c : Cf) (g : TG) (m : D → Nv → R Nv) (js : List Nat) : Prop := ∀ (x : V) (σ : L2.St) (H : Hp) (Q : L2.St → Hp → Prop) (ε : Nv) (M : List Addr) (d : D) (ε' : Nv), Rel c σ H ε M → At c.K (hid M H) d x → m d ε = .ok ε' →
  (∀ σ', Rel c σ' H ε' M → (∀ vs : List Nat, (∀ j, j ∈ js → j ∈ vs) → wipe σ' vs = wipe σ vs) → MuK σ ε σ' ε' → Q σ' H) → g x σ H Q
def GsOk (c : Cf) (g : TGs) (m : List D → Nv → R Nv) (js : List Nat) : Prop := ∀ (xs : List V) (σ : L2.St) (H : Hp) (Q : L2.St → Hp → Prop) (ε : Nv) (M : List Addr) (ds : List D) (ε' : Nv), Rel c σ H ε M → AtL c.K (hid M H) ds xs → m ds ε = .ok ε' →
  (∀ σ', Rel c σ' H ε' M → (∀ vs : List Nat, (∀ j, j ∈ js → j ∈ vs) → wipe σ' vs = wipe σ vs) → MuK σ ε σ' ε' → Q σ' H) → g xs σ H Q
def bN (i : Nat) : D → Nv → R Nv := fun d ε => .ok (st ε i (.im d))
theorem gok_n (i : Nat) : GOk c (gName i) (bN i) [i] := fun x σ H Q ε M d ε' r h hm q => by
  cases hm
  refine q _ (r.set h) (fun vs hv => wipe_set (hv i (List.mem_singleton.mpr rfl))) fun j f hj => ?_
  by_cases e : j = i
  · subst e
    have hl : j < ε.length := by
      have := gt_lt (ε := st ε j (.im d)) (i := j) (by rw [hj]; intro z; cases z)
      rwa [st_len] at this
    rw [gt_same hl] at hj
    cases hj
  · rw [gt_ne e] at hj
    exact ⟨hj, List.getElem?_set_ne (Ne.symm e)⟩
def bs0 : List D → Nv → R Nv := fun ds ε => match ds with
  | [] => .ok ε
  | _ => .bad
def bsC (b : D → Nv → R Nv) (bs : List D → Nv → R Nv) : List D → Nv → R Nv := fun ds ε => match ds with
  | d :: r => (b d ε).bind fun ε1 => bs r ε1
  | [] => .bad
def bT (n : Nat) (bs : List D → Nv → R Nv) : D → Nv → R Nv := fun d ε => match d with
  | .tuple ds => if ds.length = n then bs ds ε else .bad
  | _ => .bad
theorem gsok_0 : GsOk c gNil bs0 [] := fun xs σ H Q ε M ds ε' r h hm q => by
  unfold bs0 at hm
  split at hm
  · cases hm
    exact ⟨h, q σ r (fun _ _ => rfl) fun _ _ hj => ⟨hj, rfl⟩⟩
  · cases hm
theorem gsok_c {g : TG} {gs : TGs} {b : D → Nv → R Nv} {bs : List D → Nv → R Nv} {js ks : List Nat} (h1 : GOk c g b js) (h2 : GsOk c gs bs ks) : GsOk c (gCons g gs) (bsC b bs) (js ++ ks) := fun xs σ H Q ε M ds ε' r h hm q => by
  unfold bsC at hm
  split at hm
  · obtain ⟨v, vs, e, a1, a2⟩ := at_cons h
    obtain ⟨ε1, m1, m2⟩ := R.bind_ok hm
    refine ⟨v, vs, e, h1 v σ H _ ε M _ ε1 r a1 m1 fun σ1 r1 w1 k1 => h2 vs σ1 H Q ε1 M _ ε' r1 a2 m2 fun σ2 r2 w2 k2 => q σ2 r2 (fun ws hw => ?_) fun j f hj => ?_⟩
    · rw [w2 ws fun j hj => hw j (List.mem_append_right _ hj), w1 ws fun j hj => hw j (List.mem_append_left _ hj)]
    · obtain ⟨p1, p2⟩ := k2 j f hj
      obtain ⟨p3, p4⟩ := k1 j f p1
      exact ⟨p3, p2.trans p4⟩
  · cases hm
theorem gok_t {n : Nat} {gs : TGs} {bs : List D → Nv → R Nv} {js : List Nat} (h : GsOk c gs bs js) : GOk c (gTup c.K n gs) (bT n bs) js := fun x σ H Q ε M d ε' r hx hm q => by
  unfold bT at hm
  split at hm
  · split at hm
    · rename_i ds hn
      obtain ⟨a, xs, e, h1, h2⟩ := hx
      exact ⟨a, xs, e, sqt_le h1, by rw [atL_len h2]; exact hn, h xs σ H Q ε M ds ε' r h2 hm q⟩
    · cases hm
  · cases hm
end
/-! ### comprehensions -/
def lcG (g : D → Nv → R Nv) (t : Nv → R Bool) (e : Nv → R D) (ε : Nv) : List D → R (List D)
  | [] => .ok []
  | d :: ds => (g d ε).bind fun ε1 => (t ε1).bind fun k => if k then (e ε1).bind fun y => (lcG g t e ε ds).bind fun ys => .ok (y :: ys) else lcG g t e ε ds
def xLc (vs : List Nat) (mi : Nv → R (List D)) (g : D → Nv → R Nv) (t : Nv → R Bool) (e : Nv → R D) : Nv → R D := fun ε => (mi ε).bind fun ds => (lcG g t e (wipeE ε vs) ds).bind fun ys => if ys.length ≤ lim then .ok (.list ys) else .bad
def tYe : Nv → R Bool := fun _ => .ok true
section
variable {X : Cx} {c : Cf}
theorem tYes_rd : ∀ σ H Q, rdT c tYe σ H Q → tYes σ H Q := fun σ H Q ⟨ε, M, r, b, hm, q⟩ => by
  cases hm
  exact q H (Evl.Ex.refl H)
theorem _root_.L2.PTs.wk {ifs : List Expr} {t t' : TT} (h : PTs X ifs t) (i : ∀ σ H Q, t' σ H Q → t σ H Q) : PTs X ifs t' := ⟨fun pins s σ H Q I q => h.run pins s σ H Q I (i σ H Q q)⟩
theorem pts_y : PTs X [] (rdT c tYe) := pts_nil.wk tYes_rd
theorem mu_ne {σ : L2.St} {H : Hp} {ε : Nv} {M : List Addr} (r : Rel c σ H ε M) {p : Addr} (n : p ∉ M) : ∀ i d, gt ε i = .mu d → σ[i]? ≠ some (some (.ref p)) := fun i d h z => by
  obtain ⟨a, o, h1, h2, _⟩ := r.mu i d h
  rw [z] at h1
  cases h1
  exact n h2
theorem tLc_rd {g : TG} {b : D → Nv → R Nv} {js vs : List Nat} {mi : Nv → R (List D)} {t : Nv → R Bool} {e : Nv → R D} (hg : GOk c g b js) (hj : ∀ j, j ∈ js → j ∈ vs) :
    ∀ σ H Q, rdL c (xLc vs mi b t e) σ H Q → tLc (rdI c mi) g (rdT c t) (rdE c e) vs σ H Q := fun σ H Q ⟨ε, M, re, d, hm, q⟩ => by
  obtain ⟨ds, h1, h2⟩ := R.bind_ok hm
  obtain ⟨ys, h3, h4⟩ := R.bind_ok h2
  split at h4
  · rename_i hz
    cases h4
    refine ⟨ε, M, re, ds, h1, fun J H1 e1 wk D nD => ?_⟩
    have nD0 : H D = none := Evl.fresh_back e1 nD
    have nM : D ∉ M := Trk.no re.trk nD0
    have n0 : c.H0 D = none := Evl.fresh_back re.ext nD0
    -- the invariant: what is made so far, what is left
    refine ⟨fun i m H2 => m = ds.length - i ∧ i ≤ ds.length ∧ ∃ acc rest vs0, lcG b t e (wipeE ε vs) (ds.drop i) = .ok rest ∧ acc ++ rest = ys ∧ H2 D = some (.lst vs0) ∧ AtL c.K (hid (D :: M) H2) acc vs0 ∧ Rel c (wipe σ vs) H2 (wipeE ε vs) (D :: M) ∧ Ex H1 H2,
      ⟨ds.length, by omega, Nat.zero_le _, [], ys, [], h3, rfl, upd_same, rfl, ((re.ex e1).wipe vs).add nD (Evl.Ex.new nD) upd_same, Evl.Ex.new nD⟩, ?_⟩
    rintro i m H2 ⟨rfl, hi, acc, rest, vs0, hl, ha, hD, hA, hR, hE⟩
    have hB : Ex (hid M H1) (hid (D :: M) H2) := hid_new hE nD
    have wi := wk i H2 (Evl.Ex.trans hB hid_le)
    by_cases hlt : i < ds.length
    · refine .inr ⟨wi.1 hlt, fun H' => ∃ acc rest vs0, lcG b t e (wipeE ε vs) (ds.drop (i + 1)) = .ok rest ∧ acc ++ rest = ys ∧ H' D = some (.lst vs0) ∧ AtL c.K (hid (D :: M) H') acc vs0 ∧ Rel c (wipe σ vs) H' (wipeE ε vs) (D :: M) ∧ Ex H1 H', fun H' p => ⟨_, by omega, rfl, hlt, p⟩, fun x H' y => ?_⟩
      obtain ⟨ex, item⟩ := wi.2.2 x H' y
      have hx := item ds[i] (List.getElem?_eq_getElem hlt) (D :: M) hR.trk hB
      rw [List.drop_eq_getElem_cons hlt] at hl
      obtain ⟨ε1, l1, l2⟩ := R.bind_ok hl
      obtain ⟨k, l3, l4⟩ := R.bind_ok l2
      refine hg x (wipe σ vs) H' _ _ (D :: M) ds[i] ε1 (hR.ex ex) hx l1 fun σ2 r2 w2 _ => ⟨by rw [w2 vs hj, wipe_wipe], ε1, D :: M, r2, k, l3, fun H3 e3 => ?_⟩
      have exx := Evl.Ex.trans ex e3
      cases k with
      | false =>
        exact ⟨acc, rest, vs0, l4, ha, exx D _ hD, AtL.mono (hid_ex exx) _ _ hA, hR.ex exx, Evl.Ex.trans hE exx⟩
      | true =>
        obtain ⟨y1, l5, l6⟩ := R.bind_ok l4
        obtain ⟨ys', l7, l8⟩ := R.bind_ok l6
        cases l8
        refine ⟨ε1, D :: M, r2.ex e3, y1, l5, fun v H4 e4 hv => ⟨vs0, e4 D _ (exx D _ hD), ?_, ?_⟩⟩
        · rw [atL_len hA]
          refine lim_lt (Nat.le_trans ?_ hz)
          rw [← ha, List.length_append]
          omega
        · have ex4 := Evl.Ex.trans exx e4
          have hm : D ∈ D :: M := List.mem_cons_self
          refine ⟨acc ++ [y1], ys', vs0 ++ [v], l7, by rw [← ha, List.append_assoc]; rfl, upd_same, ?_, ?_, ?_⟩
          · rw [hid_upd hm]
            exact AtL.app (AtL.mono (hid_ex ex4) _ _ hA) ⟨v, [], rfl, hv, rfl⟩
          · refine (hR.ex ex4).updD hm n0 fun j f hj z => ?_
            obtain ⟨w', o', z1, z2, _⟩ := (re.wipe vs).mu j f hj
            rw [z] at z1
            cases z1
            exact nM z2
          · exact Evl.Ex.mut (Evl.Ex.trans hE ex4) nD
    · have ei : i = ds.length := by omega
      subst ei
      refine .inl ⟨wi.2.1 rfl, ?_⟩
      rw [List.drop_length] at hl
      cases hl
      rw [List.append_nil] at ha
      subst ha
      exact q D _ H2 nD0 (Evl.Ex.trans e1 hE) hD (.inl ⟨vs0, acc, rfl, rfl, hA⟩)
  · cases h4
end
end Tw
set_option Elab.async false
set_option linter.all false
set_option maxRecDepth 100000
set_option maxHeartbeats 4000000
/-! Tw10: statements, defs -/
namespace Tw
open PySem PySem.Spec PyProof.Rows L2
inductive Fl where
  | nx (ε : Nv)
  | rt (d : D)
  | bk (ε : Nv)
  | ct (ε : Nv)
def RtOk (c : Cf) (Q : VK) (d : D) : Prop := match c.fr with
  | true => ∀ p o H', c.H0 p = none → Ex c.H0 H' → H' p = some o → Own c.K (hid (p :: c.M0) H') o d → Q (.ref p) H'
  | false => ∀ v H', Ex c.H0 H' → At c.K (hid c.M0 H') d v → Q v H'
def Fin (c : Cf) (E : Ends) (B : Hp) : R Fl → Prop
  | .ok (.nx ε) => ∀ σ H M, Rel c σ H ε M → Ex B (hid M H) → E.nx σ H
  | .ok (.rt d) => RtOk c E.rt d
  | .ok (.bk ε) => ∀ σ H M, Rel c σ H ε M → Ex B (hid M H) → E.bk σ H
  | .ok (.ct ε) => ∀ σ H M, Rel c σ H ε M → Ex B (hid M H) → E.ct σ H
  | _ => False
def rdS (c : Cf) (m : Nv → R Fl) : TS := fun E σ H => ∃ ε M, Rel c σ H ε M ∧ Fin c E (hid M H) (m ε)
theorem Fin.mono {c : Cf} {E : Ends} {B B' : Hp} (e : Ex B B') : ∀ {r : R Fl}, Fin c E B r → Fin c E B' r
  | .ok (.nx _), h => fun σ H M r x => h σ H M r (Evl.Ex.trans e x)
  | .ok (.rt _), h => h
  | .ok (.bk _), h => fun σ H M r x => h σ H M r (Evl.Ex.trans e x)
  | .ok (.ct _), h => fun σ H M r x => h σ H M r (Evl.Ex.trans e x)
  | .ex _ _, h => h
  | .bad, h => h
section
variable {X : Cx} {c : Cf}
/-! ### one behind the other -/
def sSeq (m n : Nv → R Fl) : Nv → R Fl := fun ε => match m ε with
  | .ok (.nx ε') => n ε'
  | r => r
def sNil : Nv → R Fl := fun ε => .ok (.nx ε)
variable {s : Stmt} {r : List Stmt} {m n : Nv → R Fl}
theorem ss_nil : PSs X [] (rdS c sNil) := pss_nil.wk fun E σ H ⟨ε, M, re, f⟩ => f σ H M re (Evl.Ex.refl _)
theorem tSeq_rd : ∀ E σ H, rdS c (sSeq m n) E σ H → tSeq (rdS c m) (rdS c n) E σ H := fun E σ H ⟨ε, M, re, f⟩ => by
  refine ⟨ε, M, re, ?_⟩
  unfold sSeq at f
  cases q : m ε with
  | bad =>
    rw [q] at f
    exact f
  | ex a b =>
    rw [q] at f
    exact f
  | ok fl =>
    rw [q] at f
    cases fl with
    | nx ε' => exact fun σ' H' M' r' e' => ⟨ε', M', r', Fin.mono e' f⟩
    | rt d => exact f
    | bk ε' => exact f
    | ct ε' => exact f
theorem ss_c (h1 : PS X s (rdS c m)) (h2 : PSs X r (rdS c n)) : PSs X (s :: r) (rdS c (sSeq m n)) := (pss_cons h1 h2).wk tSeq_rd
theorem ss_1 (h1 : PS X s (rdS c m)) : PSs X [s] (rdS c m) := pss_one h1
/-- one's own object is data from here on -/
def sFz (i : Nat) : Nv → R Fl := fun ε => match gt ε i with
  | .mu d => .ok (.nx (st ε i (.im d)))
  | .im _ => .ok (.nx ε)
  | .no => .bad
theorem ss_fz (i : Nat) (h : PSs X r (rdS c n)) : PSs X r (rdS c (sSeq (sFz i) n)) := h.wk fun E σ H ⟨ε, M, re, f⟩ => by
  unfold sSeq sFz at f
  cases g : gt ε i with
  | no =>
    rw [g] at f
    exact f.elim
  | im d =>
    rw [g] at f
    exact ⟨ε, M, re, f⟩
  | mu d =>
    rw [g] at f
    obtain ⟨M', sub, r'⟩ := re.frz g
    exact ⟨_, M', r', Fin.mono (hid_sub sub) f⟩
/-! ### simple statements -/
variable {e : Expr} {me : Nv → R D} {pos : Pos}
theorem ps_ps : PS X (.Pass pos) (rdS c sNil) := ps_pass.wk fun E σ H ⟨ε, M, re, f⟩ => f σ H M re (Evl.Ex.refl _)
def sBk : Nv → R Fl := fun ε => .ok (.bk ε)
def sCt : Nv → R Fl := fun ε => .ok (.ct ε)
theorem ps_bk : PS X (.Break pos) (rdS c sBk) := ps_break.wk fun E σ H ⟨ε, M, re, f⟩ => f σ H M re (Evl.Ex.refl _)
theorem ps_ct : PS X (.Continue pos) (rdS c sCt) := ps_continue.wk fun E σ H ⟨ε, M, re, f⟩ => f σ H M re (Evl.Ex.refl _)
/-- a statement that is never reached -/
def sNo : Nv → R Fl := fun _ => .bad
theorem ps_no : PS X s (rdS c sNo) := (ps_never (st := s)).wk fun E σ H ⟨ε, M, re, f⟩ => f
def sDr (me : Nv → R D) : Nv → R Fl := fun ε => (me ε).bind fun _ => .ok (.nx ε)
theorem ps_dr (h : PE X e (rdE c me)) (hs : swapsWith e none pos.line X.env = pure false := by rfl) : PS X (.Expr e pos) (rdS c (sDr me)) := (ps_expr h hs).wk fun E σ H ⟨ε, M, re, f⟩ => by
  unfold sDr at f
  cases q : me ε with
  | bad => rw [q] at f; exact f.elim
  | ex a b => rw [q] at f; exact f.elim
  | ok d =>
    rw [q] at f
    exact ⟨ε, M, re, d, q, fun v H' e' _ => f σ H' M (re.ex e') (hid_ex e')⟩
def sRt (me : Nv → R D) : Nv → R Fl := fun ε => (me ε).bind fun d => .ok (.rt d)
theorem ps_rt (hf : c.fr = false) (h : PE X e (rdE c me)) : PS X (.Return (some e) pos) (rdS c (sRt me)) := (ps_ret h).wk fun E σ H ⟨ε, M, re, f⟩ => by
  unfold sRt at f
  cases q : me ε with
  | bad => rw [q] at f; exact f.elim
  | ex a b => rw [q] at f; exact f.elim
  | ok d =>
    rw [q] at f
    have f' : RtOk c E.rt d := f
    unfold RtOk at f'
    rw [hf] at f'
    exact ⟨ε, M, re, d, q, fun v H' e' hv => f' v H' (re.ext.trans e') (At.mono (hid_sub re.sub) d v hv)⟩
/-- a new object is handed back -/
theorem ps_rtL (hf : c.fr = true) (h : PE X e (rdL c me)) : PS X (.Return (some e) pos) (rdS c (sRt me)) := (ps_ret h).wk fun E σ H ⟨ε, M, re, f⟩ => by
  unfold sRt at f
  cases q : me ε with
  | bad => rw [q] at f; exact f.elim
  | ex a b => rw [q] at f; exact f.elim
  | ok d =>
    rw [q] at f
    have f' : RtOk c E.rt d := f
    unfold RtOk at f'
    rw [hf] at f'
    refine ⟨ε, M, re, d, q, fun p o H' n e' hp ho => f' p o H' (Evl.fresh_back re.ext n) (re.ext.trans e') hp (ho.mono (hid_sub fun a ha => ?_))⟩
    rcases List.mem_cons.mp ha with z | z
    · rw [z]
      exact List.mem_cons_self
    · exact List.mem_cons_of_mem _ (re.sub a z)
/-- one's own object is handed back, by its name -/
def sRtM (i : Nat) : Nv → R Fl := fun ε => match gt ε i with
  | .mu d => .ok (.rt d)
  | _ => .bad
theorem ps_rtM {i : Nat} (h : PE X e (tVar i)) : PS X (.Return (some e) pos) (rdS c (sRtM i)) := (ps_ret h).wk fun E σ H ⟨ε, M, re, f⟩ => by
  unfold sRtM at f
  cases g : gt ε i with
  | no => rw [g] at f; exact f.elim
  | im d => rw [g] at f; exact f.elim
  | mu d =>
    rw [g] at f
    obtain ⟨a, o, h1, h2, h3, h4, h5⟩ := re.mu i d g
    refine ⟨.ref a, h1, ?_⟩
    have f' : RtOk c E.rt d := f
    unfold RtOk at f'
    cases q : c.fr with
    | true =>
      rw [q] at f'
      refine f' a o H h3 re.ext h4 (h5.mono (hid_sub fun b hb => ?_))
      rcases List.mem_cons.mp hb with z | z
      · rw [z]
        exact h2
      · exact re.sub b z
    | false =>
      rw [q] at f'
      exact f' (.ref a) H re.ext (Own.at (hid_of h4 fun z => re.old a z h3) (h5.mono (hid_sub re.sub)))
def sRt0 : Nv → R Fl := fun _ => .ok (.rt .none)
theorem ps_rt0 (hf : c.fr = false) : PS X (.Return none pos) (rdS c sRt0) := ps_retN.wk fun E σ H ⟨ε, M, re, f⟩ => by
  have f' : RtOk c E.rt .none := f
  unfold RtOk at f'
  rw [hf] at f'
  exact f' .non H re.ext rfl
/-! ### if -/
def sIf (t : Nv → R Bool) (m n : Nv → R Fl) : Nv → R Fl := fun ε => (t ε).bind fun k => if k then m ε else n ε
theorem ps_i {cd : Expr} {a b : List Stmt} {t : Nv → R Bool} (hc : PT X cd (rdT c t)) (ha : PSs X a (rdS c m)) (hb : PSs X b (rdS c n)) : PS X (.If cd a b pos) (rdS c (sIf t m n)) := (ps_if hc ha hb).wk fun E σ H ⟨ε, M, re, f⟩ => by
  unfold sIf at f
  cases q : t ε with
  | bad => rw [q] at f; exact f.elim
  | ex x y => rw [q] at f; exact f.elim
  | ok k =>
    rw [q] at f
    refine ⟨ε, M, re, k, q, fun H' e' => ?_⟩
    cases k with
    | true => exact ⟨ε, M, re.ex e', Fin.mono (hid_ex e') f⟩
    | false => exact ⟨ε, M, re.ex e', Fin.mono (hid_ex e') f⟩
/-! ### assignments -/
def sAs (i : Nat) (me : Nv → R D) : Nv → R Fl := fun ε => (me ε).bind fun d => .ok (.nx (st ε i (.im d)))
def sAsM (i : Nat) (me : Nv → R D) : Nv → R Fl := fun ε => (me ε).bind fun d => .ok (.nx (st ε i (.mu d)))
theorem tAsg_rd {i : Nat} : ∀ E σ H, rdS c (sAs i me) E σ H → tAsg (rdE c me) (gName i) E σ H := fun E σ H ⟨ε, M, re, f⟩ => by
  unfold sAs at f
  cases q : me ε with
  | bad => rw [q] at f; exact f.elim
  | ex a b => rw [q] at f; exact f.elim
  | ok d =>
    rw [q] at f
    exact ⟨ε, M, re, d, q, fun v H' e' hv => f _ H' M ((re.ex e').set hv) (hid_ex e')⟩
theorem tAsg_rdL {i : Nat} : ∀ E σ H, rdS c (sAs i me) E σ H → tAsg (rdL c me) (gName i) E σ H := fun E σ H ⟨ε, M, re, f⟩ => by
  unfold sAs at f
  cases q : me ε with
  | bad => rw [q] at f; exact f.elim
  | ex a b => rw [q] at f; exact f.elim
  | ok d =>
    rw [q] at f
    exact ⟨ε, M, re, d, q, fun p o H' n e' hp ho => f _ H' M ((re.ex e').set (own_new re.trk n hp ho)) (hid_ex e')⟩
theorem tAsg_rdM {i : Nat} : ∀ E σ H, rdS c (sAsM i me) E σ H → tAsg (rdL c me) (gName i) E σ H := fun E σ H ⟨ε, M, re, f⟩ => by
  unfold sAsM at f
  cases q : me ε with
  | bad => rw [q] at f; exact f.elim
  | ex a b => rw [q] at f; exact f.elim
  | ok d =>
    rw [q] at f
    exact ⟨ε, M, re, d, q, fun p o H' n e' hp ho => f _ H' (p :: M) (re.setMu n e' hp ho) (hid_new e' n)⟩
variable {x : Str} {px : Pos}
theorem ps_as {i : Nat} (hN : X.N.Nodup) (he : PE X e (rdE c me)) (hi : X.N[i]? = some x := by rfl) (hx : Loc X.env.scope x := by first | exact Or.inl rfl | exact Or.inr rfl) (hs : swapsWith e (some (.Name x px)) pos.line X.env = pure false := by rfl)
    (hf : X.fn x = true ∨ X.env.scope.names.lookup x = some .local := by first | exact .inl rfl | exact .inr rfl) : PS X (.Assign [.Name x px] e pos) (rdS c (sAs i me)) := (ps_set hN hi hx he hs hf).wk tAsg_rd
theorem ps_asM {i : Nat} (hN : X.N.Nodup) (he : PE X e (rdL c me)) (hi : X.N[i]? = some x := by rfl) (hx : Loc X.env.scope x := by first | exact Or.inl rfl | exact Or.inr rfl) (hs : swapsWith e (some (.Name x px)) pos.line X.env = pure false := by rfl)
    (hf : X.fn x = true ∨ X.env.scope.names.lookup x = some .local := by first | exact .inl rfl | exact .inr rfl) : PS X (.Assign [.Name x px] e pos) (rdS c (sAsM i me)) := (ps_set hN hi hx he hs hf).wk tAsg_rdM
/-- several names from one tuple -/
def sUn (me : Nv → R D) (b : D → Nv → R Nv) : Nv → R Fl := fun ε => (me ε).bind fun d => (b d ε).bind fun ε' => .ok (.nx ε')
theorem ps_un {g : TG} {b : D → Nv → R Nv} {js : List Nat} (h : PS X s (tAsg (rdE c me) g)) (gk : GOk c g b js) : PS X s (rdS c (sUn me b)) :=
  h.wk fun E σ H ⟨ε, M, re, f⟩ => by
    unfold sUn at f
    cases q : me ε with
    | bad => rw [q] at f; exact f.elim
    | ex x y => rw [q] at f; exact f.elim
    | ok d =>
      rw [q] at f
      refine ⟨ε, M, re, d, q, fun v H' e' hv => ?_⟩
      cases q2 : b d ε with
      | bad => simp only [R.bind, q2] at f; exact f.elim
      | ex x y => simp only [R.bind, q2] at f; exact f.elim
      | ok ε' =>
        simp only [R.bind, q2] at f
        exact gk v σ H' _ ε M d ε' (re.ex e') hv q2 fun σ' r' _ _ => f σ' H' M r' (hid_ex e')
/-- a, b = e, f -/
def sPr (i j : Nat) (ms : Nv → R (List D)) : Nv → R Fl := fun ε => (ms ε).bind fun ds => match ds with
  | [a, b] => .ok (.nx (st (st ε i (.im a)) j (.im b)))
  | _ => .bad
theorem ps_pr {i j : Nat} {x y : Str} {a b : Expr} {px py pt : Pos} {kt k2 pt2} {ms : Nv → R (List D)} (hc : X.calm = true) (hN : X.N.Nodup) (ha : PA X [a, b] (rdA c ms)) (hi : X.N[i]? = some x := by rfl) (hj : X.N[j]? = some y := by rfl) (hij : i ≠ j := by decide)
    (hx : X.env.scope.names.lookup x = some .local := by rfl) (hy : X.env.scope.names.lookup y = some .local := by rfl)
    (hw : swappedStores [.Tuple [.Name x px, .Name y py] kt pt] (.Tuple [a, b] k2 pt2) X.env = pure (some [x, y]) := by rfl) (hs : swapsWithSole [.Tuple [.Name x px, .Name y py] kt pt] (.Tuple [a, b] k2 pt2) pos.line X.env = pure false := by rfl) :
    PS X (.Assign [.Tuple [.Name x px, .Name y py] kt pt] (.Tuple [a, b] k2 pt2) pos) (rdS c (sPr i j ms)) := (ps_par hc hN hi hj hij hx hy ha hw hs).wk fun E σ H ⟨ε, M, re, f⟩ => by
  unfold sPr at f
  cases q : ms ε with
  | bad => rw [q] at f; exact f.elim
  | ex x y => rw [q] at f; exact f.elim
  | ok ds =>
    rw [q] at f
    refine ⟨ε, M, re, ds, q, fun vs H' e' hv => ?_⟩
    match ds, f, hv with
    | [d1, d2], f, hv =>
      obtain ⟨v, w, ev, h1, h2⟩ := at_two hv
      exact ⟨v, w, ev, f _ H' M (((re.ex e').set h1).set h2) (hid_ex e')⟩
    | [], f, hv => exact f.elim
    | [_], f, hv => exact f.elim
    | _ :: _ :: _ :: _, f, hv => exact f.elim
/-- x += e -/
def sAu (f : D → D → R D) (i : Nat) (me : Nv → R D) : Nv → R Fl := fun ε => match gt ε i with
  | .im a => (me ε).bind fun b => (f a b).bind fun d => .ok (.nx (st ε i (.im d)))
  | _ => .bad
/-! ### one's own list -/
def sAp (i : Nat) (me : Nv → R D) : Nv → R Fl := fun ε => (me ε).bind fun d => match gt ε i with
  | .mu (.list ds) => if ds.length < lim then .ok (.nx (st ε i (.mu (.list (ds ++ [d]))))) else .bad
  | _ => .bad
theorem own_list {K : PySem.W.Frag} {H : Hp} {o : HO} {ds : List D} (h : Own K H o (.list ds)) : ∃ vs, o = .lst vs ∧ AtL K H ds vs := by
  rcases h with ⟨vs, ds', h1, h2, h3⟩ | ⟨kvs, es, h1, h2, h3⟩ | ⟨kvs, es, h1, h2, h3⟩ | ⟨S, n, xs, h1, h2, h3⟩
  · cases h2
    exact ⟨vs, h1, h3⟩
  · cases h2
  · cases h2
  · cases h2
theorem ps_ap {i : Nat} (h : PS X s (tDrop (tBM X.K "list" rAppend (tVar i) (tCons (rdE c me) tNil)))) : PS X s (rdS c (sAp i me)) :=
  h.wk fun E σ H ⟨ε, M, re, f⟩ => by
    unfold sAp at f
    cases q : me ε with
    | bad => rw [q] at f; exact f.elim
    | ex x y => rw [q] at f; exact f.elim
    | ok d =>
      rw [q] at f
      simp only [R.bind] at f
      split at f
      · rename_i ds g
        split at f
        · rename_i hz
          obtain ⟨a, o, h1, h2, h3, h4, h5⟩ := re.mu i _ g
          obtain ⟨vs, eo, hl⟩ := own_list h5
          subst eo
          refine ⟨.ref a, h1, .inl ⟨rfl, vs, SqL.of h4⟩, ε, M, re, d, q, fun v H' e' hv => ⟨a, vs, v, rfl, rfl, e' a _ h4, ?_, ?_⟩⟩
          · rw [atL_len hl]
            exact lim_lt (Nat.le_of_lt hz)
          · refine f _ _ M ((re.ex e').upd g h1 (.inl ⟨_, _, rfl, rfl, AtL.app (AtL.mono (hid_ex e') _ _ hl) ⟨v, [], rfl, hv, rfl⟩⟩)) ?_
            rw [hid_upd h2]
            exact hid_ex e'
        · exact f.elim
      · exact f.elim
/-- x[i] = e of one's own list -/
def sSt (j : Nat) (mi me : Nv → R D) : Nv → R Fl := fun ε => (me ε).bind fun d => (mi ε).bind fun k => match gt ε j, k with
  | .mu (.list ds), .int z => match ixN ds.length z with
    | some n => .ok (.nx (st ε j (.mu (.list (ds.set n d)))))
    | none => .bad
  | _, _ => .bad
theorem gSub_rd {j : Nat} {σ : L2.St} {H : Hp} {ε : Nv} {M : List Addr} {mi : Nv → R D} {v : V} {d : D} {k : D} {ds : List D} {z : Int} {n : Nat} {Q : L2.St → Hp → Prop} (re : Rel c σ H ε M) (hv : At c.K (hid M H) d v) (hk : mi ε = .ok (.int z)) (g : gt ε j = .mu (.list ds)) (hn : ixN ds.length z = some n)
    (q : ∀ H', Rel c σ H' (st ε j (.mu (.list (ds.set n d)))) M → Ex (hid M H) (hid M H') → Q σ H') : gSub (tVar j) (rdE c mi) rSetL v σ H Q := by
  obtain ⟨a, o, h1, h2, h3, h4, h5⟩ := re.mu j _ g
  obtain ⟨vs, eo, hl⟩ := own_list h5
  subst eo
  refine ⟨.ref a, h1, ε, M, re, _, hk, fun u H' e' hu => ⟨a, vs, z, n, rfl, hu, e' a _ h4, by rw [atL_len hl]; exact hn, ?_⟩⟩
  refine q _ ((re.ex e').upd g h1 (.inl ⟨_, _, rfl, rfl, AtL.set (At.mono (hid_ex e') _ _ hv) n (AtL.mono (hid_ex e') _ _ hl)⟩)) ?_
  rw [hid_upd h2]
  exact hid_ex e'
theorem ps_st {j : Nat} {mi : Nv → R D} (h : PS X s (tAsg (rdE c me) (gSub (tVar j) (rdE c mi) rSetL))) : PS X s (rdS c (sSt j mi me)) := h.wk fun E σ H ⟨ε, M, re, f⟩ => by
  unfold sSt at f
  cases q : me ε with
  | bad => rw [q] at f; exact f.elim
  | ex x y => rw [q] at f; exact f.elim
  | ok d =>
    rw [q] at f
    cases q2 : mi ε with
    | bad => simp only [R.bind, q2] at f; exact f.elim
    | ex x y => simp only [R.bind, q2] at f; exact f.elim
    | ok k =>
      simp only [R.bind, q2] at f
      split at f
      · rename_i ds z g
        split at f
        · rename_i n hn
          exact ⟨ε, M, re, d, q, fun v H' e' hv => gSub_rd (k := .int z) (re.ex e') hv q2 g hn fun H2 r2 e2 => f _ H2 M r2 (Evl.Ex.trans (hid_ex e') e2)⟩
        · exact f.elim
      · exact f.elim
/-! ### loops -/
def forG (g : D → Nv → R Nv) (b : Nv → R Fl) : List D → Nv → R Fl
  | [], ε => .ok (.nx ε)
  | d :: ds, ε => (g d ε).bind fun ε1 => match b ε1 with
    | .ok (.nx ε2) => forG g b ds ε2
    | .ok (.ct ε2) => forG g b ds ε2
    | .ok (.bk ε2) => .ok (.nx ε2)
    | r => r
def sFor (mi : Nv → R (List D)) (g : D → Nv → R Nv) (b : Nv → R Fl) : Nv → R Fl := fun ε => (mi ε).bind fun ds => forG g b ds ε
theorem ps_fr {tg it : Expr} {body : List Stmt} {g : TG} {b : D → Nv → R Nv} {js : List Nat} {mi : Nv → R (List D)} {mb : Nv → R Fl} (hp : PassesOwn (model X.prog X.w) X.A X.env X.xe) (hc : X.calm = true) (hi : PI X tg it (rdI c mi)) (hg : PG X tg g) (gk : GOk c g b js) (hb : PSs X body (rdS c mb))
    (hset : ∀ x, foldedSetIterable it X.env x = pure x := by intro _; rfl) :
    PS X (.For tg it body [] pos) (rdS c (sFor mi b mb)) := (ps_for hp hc hi hg hb hset).wk fun E σ H ⟨ε, M, re, f⟩ => by
  unfold sFor at f
  cases q : mi ε with
  | bad => rw [q] at f; exact f.elim
  | ex x y => rw [q] at f; exact f.elim
  | ok ds =>
    rw [q] at f
    simp only [R.bind] at f
    refine ⟨ε, M, re, ds, q, fun J H1 e1 wk => ?_⟩
    refine ⟨fun i m σ2 H2 => m = ds.length - i ∧ i ≤ ds.length ∧ ∃ ε2 M2, Rel c σ2 H2 ε2 M2 ∧ Ex (hid M H1) (hid M2 H2) ∧ Fin c E (hid M2 H2) (forG b mb (ds.drop i) ε2), ⟨ds.length, by omega, Nat.zero_le _, ε, M, re.ex e1, Evl.Ex.refl _, Fin.mono (hid_ex e1) f⟩, ?_⟩
    rintro i m σ2 H2 ⟨rfl, hi, ε2, M2, r2, hB, f2⟩
    have wi := wk i H2 (Evl.Ex.trans hB hid_le)
    by_cases hlt : i < ds.length
    · refine .inr ⟨wi.1 hlt, fun σ3 H3 => ∃ ε3 M3, Rel c σ3 H3 ε3 M3 ∧ Ex (hid M H1) (hid M3 H3) ∧ Fin c E (hid M3 H3) (forG b mb (ds.drop (i + 1)) ε3), fun σ' H' p => ⟨_, by omega, rfl, hlt, p⟩, fun x H' y => ?_⟩
      obtain ⟨ex, item⟩ := wi.2.2 x H' y
      have hx := item ds[i] (List.getElem?_eq_getElem hlt) M2 r2.trk hB
      rw [List.drop_eq_getElem_cons hlt] at f2
      unfold forG at f2
      cases q2 : b ds[i] ε2 with
      | bad => rw [q2] at f2; exact f2.elim
      | ex x y => rw [q2] at f2; exact f2.elim
      | ok ε3 =>
        rw [q2] at f2
        simp only [R.bind] at f2
        refine gk x σ2 H' _ ε2 M2 ds[i] ε3 (r2.ex ex) hx q2 fun σ3 r3 _ _ => ⟨ε3, M2, r3, ?_⟩
        cases q3 : mb ε3 with
        | bad => rw [q3] at f2; exact f2.elim
        | ex x y => rw [q3] at f2; exact f2.elim
        | ok fl =>
          rw [q3] at f2
          cases fl with
          | nx ε4 => exact fun σ4 H4 M4 r4 e4 => ⟨ε4, M4, r4, Evl.Ex.trans hB (Evl.Ex.trans (hid_ex ex) e4), Fin.mono (Evl.Ex.trans (hid_ex ex) e4) f2⟩
          | ct ε4 => exact fun σ4 H4 M4 r4 e4 => ⟨ε4, M4, r4, Evl.Ex.trans hB (Evl.Ex.trans (hid_ex ex) e4), Fin.mono (Evl.Ex.trans (hid_ex ex) e4) f2⟩
          | bk ε4 => exact fun σ4 H4 M4 r4 e4 => f2 σ4 H4 M4 r4 (Evl.Ex.trans (hid_ex ex) e4)
          | rt d => exact f2
    · have ei : i = ds.length := by omega
      subst ei
      rw [List.drop_length] at f2
      exact .inl ⟨wi.2.1 rfl, f2 σ2 H2 M2 r2 (Evl.Ex.refl _)⟩
def whG (t : Nv → R Bool) (b : Nv → R Fl) : Nat → Nv → R Fl
  | 0, _ => .bad
  | n + 1, ε => (t ε).bind fun k => if k then (match b ε with
    | .ok (.nx ε2) => whG t b n ε2
    | .ok (.ct ε2) => whG t b n ε2
    | .ok (.bk ε2) => .ok (.nx ε2)
    | r => r) else .ok (.nx ε)
def sWh (n : Nat) (t : Nv → R Bool) (b : Nv → R Fl) : Nv → R Fl := whG t b n
theorem ps_wh {cd : Expr} {body : List Stmt} {t : Nv → R Bool} {mb : Nv → R Fl} (n : Nat) (hp : PassesOwn (model X.prog X.w) X.A X.env X.xe) (hc : PT X cd (rdT c t)) (hb : PSs X body (rdS c mb)) : PS X (.While cd body [] pos) (rdS c (sWh n t mb)) := (ps_while hp hc hb).wk fun E σ H ⟨ε, M, re, f⟩ => by
  refine ⟨fun m σ2 H2 => ∃ ε2 M2, Rel c σ2 H2 ε2 M2 ∧ Fin c E (hid M2 H2) (whG t mb m ε2), ⟨n, ε, M, re, f⟩, ?_⟩
  rintro m σ2 H2 ⟨ε2, M2, r2, f2⟩
  cases m with
  | zero => exact f2.elim
  | succ m =>
    unfold whG at f2
    cases q : t ε2 with
    | bad => rw [q] at f2; exact f2.elim
    | ex x y => rw [q] at f2; exact f2.elim
    | ok k =>
      rw [q] at f2
      simp only [R.bind] at f2
      refine ⟨ε2, M2, r2, k, q, fun H3 e3 => ?_⟩
      cases k with
      | false => exact f2 σ2 H3 M2 (r2.ex e3) (hid_ex e3)
      | true =>
        rw [if_pos rfl] at f2
        refine ⟨fun σ4 H4 => ∃ ε4 M4, Rel c σ4 H4 ε4 M4 ∧ Fin c E (hid M4 H4) (whG t mb m ε4), fun σ' H' p => ⟨m, Nat.lt_succ_self _, p⟩, ε2, M2, r2.ex e3, ?_⟩
        cases q3 : mb ε2 with
        | bad => rw [q3] at f2; exact f2.elim
        | ex x y => rw [q3] at f2; exact f2.elim
        | ok fl =>
          rw [q3] at f2
          cases fl with
          | nx ε4 => exact fun σ4 H4 M4 r4 e4 => ⟨ε4, M4, r4, Fin.mono (Evl.Ex.trans (hid_ex e3) e4) f2⟩
          | ct ε4 => exact fun σ4 H4 M4 r4 e4 => ⟨ε4, M4, r4, Fin.mono (Evl.Ex.trans (hid_ex e3) e4) f2⟩
          | bk ε4 => exact fun σ4 H4 M4 r4 e4 => f2 σ4 H4 M4 r4 (Evl.Ex.trans (hid_ex e3) e4)
          | rt d => exact f2
end
/-! ### comprehensions of the text -/
section
variable {X : Cx} {c : Cf} {elt tg iter : Expr} {ifs : List Expr} {scope : Scope} {own : List (Str × Nat)} {pos spos py : Pos} {g : TG} {b : D → Nv → R Nv} {js : List Nat} {mi : Nv → R (List D)} {t : Nv → R Bool} {me : Nv → R D} {y : Str} {i : Nat}
theorem pe_co (hc : X.calm = true) (hN : X.N.Nodup) (hi : PI X tg iter (rdI c mi)) (ok : BlkOk X.N X.env.scope scope own) (gk : GOk c g b js) (hj : ∀ j, j ∈ js → j ∈ own.map (·.2))
    (hg : ∀ (s : Shared) (H : Hp) (C : Addr) (cl : List (Str × Addr)) (fp : List Addr), PG (X.blk s H scope (compEnvC scope cl C X.env) fp) tg g) (ht : ∀ (s : Shared) (H : Hp) (C : Addr) (cl : List (Str × Addr)) (fp : List Addr), PTs (X.blk s H scope (compEnvC scope cl C X.env) fp) ifs (rdT c t))
    (he : ∀ (s : Shared) (H : Hp) (C : Addr) (cl : List (Str × Addr)) (fp : List Addr), PE (X.blk s H scope (compEnvC scope cl C X.env) fp) elt (rdE c me)) (hs : ∀ x, foldedSetIterable iter X.env x = pure x := by intro _; rfl) :
    PE X (.ListComp elt [⟨tg, iter, ifs, 0⟩] scope pos) (rdL c (xLc (own.map (·.2)) mi b t me)) := (pe_lc hc hN hi ok hg ht he hs).wk (tLc_rd gk hj)
theorem ps_co (hc : X.calm = true) (hN : X.N.Nodup) (hi : PI X tg iter (rdI c mi)) (ok : BlkOk X.N X.env.scope scope own) (gk : GOk c g b js) (hj : ∀ j, j ∈ js → j ∈ own.map (·.2))
    (hg : ∀ (s : Shared) (H : Hp) (C : Addr) (cl : List (Str × Addr)) (fp : List Addr), PG (X.blk s H scope (compEnvC scope cl C X.env) fp) tg g) (ht : ∀ (s : Shared) (H : Hp) (C : Addr) (cl : List (Str × Addr)) (fp : List Addr), PTs (X.blk s H scope (compEnvC scope cl C X.env) fp) ifs (rdT c t))
    (he : ∀ (s : Shared) (H : Hp) (C : Addr) (cl : List (Str × Addr)) (fp : List Addr), PE (X.blk s H scope (compEnvC scope cl C X.env) fp) elt (rdE c me))
    (hsw : swapsWith (.ListComp elt [⟨tg, iter, ifs, 0⟩] scope pos) (some (.Name y py)) spos.line X.env = pure true) (hy : X.N[i]? = some y := by rfl) (hyl : X.env.scope.names.lookup y = some .local := by rfl) (hs : ∀ x, foldedSetIterable iter X.env x = pure x := by intro _; rfl) :
    PS X (.Assign [.Name y py] (.ListComp elt [⟨tg, iter, ifs, 0⟩] scope pos) spos) (rdS c (sAs i (xLc (own.map (·.2)) mi b t me))) :=
  (ps_setLc hc hN hy hyl hsw hi ok hg ht he hs).wk fun E σ H h => (tAsg_rdL (c := c) (i := i) E σ H h : tAsg (rdL c (xLc (own.map (·.2)) mi b t me)) (gName i) E σ H) |> fun q => tLc_rd gk hj σ H _ q
theorem ps_coM (hc : X.calm = true) (hN : X.N.Nodup) (hi : PI X tg iter (rdI c mi)) (ok : BlkOk X.N X.env.scope scope own) (gk : GOk c g b js) (hj : ∀ j, j ∈ js → j ∈ own.map (·.2))
    (hg : ∀ (s : Shared) (H : Hp) (C : Addr) (cl : List (Str × Addr)) (fp : List Addr), PG (X.blk s H scope (compEnvC scope cl C X.env) fp) tg g) (ht : ∀ (s : Shared) (H : Hp) (C : Addr) (cl : List (Str × Addr)) (fp : List Addr), PTs (X.blk s H scope (compEnvC scope cl C X.env) fp) ifs (rdT c t))
    (he : ∀ (s : Shared) (H : Hp) (C : Addr) (cl : List (Str × Addr)) (fp : List Addr), PE (X.blk s H scope (compEnvC scope cl C X.env) fp) elt (rdE c me))
    (hsw : swapsWith (.ListComp elt [⟨tg, iter, ifs, 0⟩] scope pos) (some (.Name y py)) spos.line X.env = pure true) (hy : X.N[i]? = some y := by rfl) (hyl : X.env.scope.names.lookup y = some .local := by rfl) (hs : ∀ x, foldedSetIterable iter X.env x = pure x := by intro _; rfl) :
    PS X (.Assign [.Name y py] (.ListComp elt [⟨tg, iter, ifs, 0⟩] scope pos) spos) (rdS c (sAsM i (xLc (own.map (·.2)) mi b t me))) :=
  (ps_setLc hc hN hy hyl hsw hi ok hg ht he hs).wk fun E σ H h => (tAsg_rdM (c := c) (i := i) E σ H h : tAsg (rdL c (xLc (own.map (·.2)) mi b t me)) (gName i) E σ H) |> fun q => tLc_rd gk hj σ H _ q
end
/-! ### defs -/
def runF (n N : Nat) (m : Nv → R Fl) (ds : List D) : R D := if ds.length = n then (match m (ds.map SV.im ++ List.replicate (N - n) SV.no) with
  | .ok (.nx _) => .ok .none
  | .ok (.rt d) => .ok d
  | .ex c a => .ex c a
  | _ => .bad) else .bad
theorem spF_len {K : PySem.W.Frag} {n N : Nat} {m : Nv → R Fl} {ps : List Str} (h : ps.length = n) : ∀ vs H Q E, spF K (runF n N m) vs H Q E → vs.length = ps.length := fun vs H Q E ⟨M, ds, d, t, ha, hf, q⟩ => by
  unfold runF at hf
  by_cases e : ds.length = n
  · rw [atL_len ha, e, h]
  · rw [if_neg e] at hf
    cases hf
theorem spN_len {K : PySem.W.Frag} {n N : Nat} {m : Nv → R Fl} {ps : List Str} (h : ps.length = n) : ∀ vs H Q E, spN K (runF n N m) vs H Q E → vs.length = ps.length := fun vs H Q E ⟨M, ds, d, t, ha, hf, q⟩ => by
  unfold runF at hf
  by_cases e : ds.length = n
  · rw [atL_len ha, e, h]
  · rw [if_neg e] at hf
    cases hf
theorem gt_app : ∀ (l r : Nv) (i : Nat), gt (l ++ r) i = if i < l.length then gt l i else gt r (i - l.length)
  | [], r, i => by simp
  | x :: l, r, 0 => by simp [gt]
  | x :: l, r, i + 1 => by
    have := gt_app l r i
    show gt (l ++ r) i = _
    rw [this]
    have e2 : i + 1 - (x :: l).length = i - l.length := by simp
    rw [e2]
    by_cases h : i < l.length
    · rw [if_pos h, if_pos (by simpa using h)]
      rfl
    · rw [if_neg h, if_neg (by simpa using h)]
theorem gt_rep : ∀ (n i : Nat), gt (List.replicate n SV.no) i = .no
  | 0, _ => rfl
  | n + 1, 0 => rfl
  | n + 1, i + 1 => gt_rep n i
theorem gt_map : ∀ (ds : List D) (i : Nat), gt (ds.map SV.im) i = match ds[i]? with | some d => .im d | none => .no
  | [], i => rfl
  | d :: ds, 0 => rfl
  | d :: ds, i + 1 => by
    show gt (ds.map SV.im) i = _
    rw [gt_map ds i]
    simp
/-- the entry -/
theorem Rel.start {K : PySem.W.Frag} {fr : Bool} {H : Hp} {M : List Addr} {ds : List D} {vs : List V} {Ns : List Str} {n : Nat} (t : Trk M H) (h : AtL K (hid M H) ds vs) (hn : ds.length = n) (hN : n ≤ Ns.length) :
    Rel ⟨K, H, M, fr⟩ (L2.start Ns vs) H (ds.map SV.im ++ List.replicate (Ns.length - n) SV.no) M where
  ext := Evl.Ex.refl H
  len := by
    unfold L2.start
    rw [List.length_append, List.length_append, List.length_map, List.length_map, List.length_replicate, List.length_replicate, atL_len h, hn]
  sub := fun _ z => z
  trk := t
  old := fun a ha z => by
    obtain ⟨o, q⟩ := t a ha
    have z' : H a = none := z
    rw [q] at z'
    cases z'
  im := fun i d hi => by
    rw [gt_app, List.length_map] at hi
    by_cases e : i < ds.length
    · rw [if_pos e, gt_map, List.getElem?_eq_getElem e] at hi
      cases hi
      obtain ⟨v, h1, h2⟩ := AtL.get h (List.getElem?_eq_getElem e)
      refine ⟨v, ?_, h2⟩
      unfold L2.start
      rw [List.getElem?_append_left (by rw [List.length_map, atL_len h]; exact e), List.getElem?_map, h1]
      rfl
    · rw [if_neg e, gt_rep] at hi
      cases hi
  mu := fun i d hi => by
    rw [gt_app, List.length_map] at hi
    by_cases e : i < ds.length
    · rw [if_pos e, gt_map, List.getElem?_eq_getElem e] at hi
      cases hi
    · rw [if_neg e, gt_rep] at hi
      cases hi
  dis := fun i j d f a b _ hi _ _ _ => by
    rw [gt_app, List.length_map] at hi
    by_cases e : i < ds.length
    · rw [if_pos e, gt_map, List.getElem?_eq_getElem e] at hi
      cases hi
    · rw [if_neg e, gt_rep] at hi
      cases hi
def NNx (m : Nv → R Fl) : Prop := ∀ ε ε', m ε ≠ .ok (.nx ε')
section
variable {P : Program} {w : World} {K : PySem.W.Frag} {mg : Str → Option Value} {base : Heap}
/-- THE RULE: a def by its body's program -/
theorem def_F {x qual : Str} {st : Stmt} {f : Addr} {fd : FuncData} {Ns ps : List Str} {k n : Nat} {m : Nv → R Fl} (F : Fun K x qual st f fd) (S : FnScope Ns ps (defScope st)) (hn : ps.length = n) (hN : n ≤ Ns.length)
    (body : ∀ (cdv : Value) (A : Around) (outer : List PySem.Env) (s : Shared) (H : Hp) (E : XK) (M : List Addr), Room k (A.deeper (envOfC qual (defScope st) s.heap.objs.size f cdv)) → A.guards = some [] →
      PSs (cxOf (L2.CX P w) P w K mg base Ns qual (defScope st) f cdv A outer s H E).nox (defBody st) (rdS ⟨K, H, M, false⟩ m)) : FnG P w K mg base (k + 1) f fd ps (spF K (runF n Ns.length m)) := by
  refine fnG_of F S (spF_len hn) fun cdv A outer s H vs Q E hr hG ⟨M, ds, d, t, ha, hf, q⟩ => ⟨_, (body cdv A outer s H E M hr hG).nox, ?_⟩
  unfold runF at hf
  by_cases e : ds.length = n
  · rw [if_pos e] at hf
    refine ⟨_, M, Rel.start (fr := false) t ha e hN, ?_⟩
    cases g : m (ds.map SV.im ++ List.replicate (Ns.length - n) SV.no) with
    | bad =>
      rw [g] at hf
      cases hf
    | ex a b =>
      rw [g] at hf
      cases hf
    | ok fl =>
      rw [g] at hf
      cases fl with
      | nx ε' =>
        cases hf
        exact fun σ' H' M' r' _ => q .non H' r'.ext rfl
      | rt d' =>
        cases hf
        exact fun v H' e' hv => q v H' e' hv
      | bk _ => cases hf
      | ct _ => cases hf
  · rw [if_neg e] at hf
    cases hf
/-- the same of a def that hands back a new object -/
theorem def_N {x qual : Str} {st : Stmt} {f : Addr} {fd : FuncData} {Ns ps : List Str} {k n : Nat} {m : Nv → R Fl} (F : Fun K x qual st f fd) (S : FnScope Ns ps (defScope st)) (hn : ps.length = n) (hN : n ≤ Ns.length) (hnx : NNx m)
    (body : ∀ (cdv : Value) (A : Around) (outer : List PySem.Env) (s : Shared) (H : Hp) (E : XK) (M : List Addr), Room k (A.deeper (envOfC qual (defScope st) s.heap.objs.size f cdv)) → A.guards = some [] →
      PSs (cxOf (L2.CX P w) P w K mg base Ns qual (defScope st) f cdv A outer s H E).nox (defBody st) (rdS ⟨K, H, M, true⟩ m)) : FnG P w K mg base (k + 1) f fd ps (spN K (runF n Ns.length m)) := by
  refine fnG_of F S (spN_len hn) fun cdv A outer s H vs Q E hr hG ⟨M, ds, d, t, ha, hf, q⟩ => ⟨_, (body cdv A outer s H E M hr hG).nox, ?_⟩
  unfold runF at hf
  by_cases e : ds.length = n
  · rw [if_pos e] at hf
    refine ⟨_, M, Rel.start (fr := true) t ha e hN, ?_⟩
    cases g : m (ds.map SV.im ++ List.replicate (Ns.length - n) SV.no) with
    | bad =>
      rw [g] at hf
      cases hf
    | ex a b =>
      rw [g] at hf
      cases hf
    | ok fl =>
      rw [g] at hf
      cases fl with
      | nx ε' => exact absurd g (hnx _ _)
      | rt d' =>
        cases hf
        exact fun p o H' n e' hp ho => q p o H' n e' hp ho
      | bk _ => cases hf
      | ct _ => cases hf
  · rw [if_neg e] at hf
    cases hf
theorem spN_F {f : Addr} {fd : FuncData} {ps : List Str} {k : Nat} {g : List D → R D} (F : FnG P w K mg base k f fd ps (spN K g)) : FnG P w K mg base k f fd ps (spF K g) :=
  ⟨fun vs H Q E ⟨M, ds, d, t, ha, hf, q⟩ => F.len vs H Q E ⟨M, ds, d, t, ha, hf, fun p o H' n e hp ho => q _ H' e (own_new t n hp ho)⟩,
    fun A outer s H args us vs Q E hr hG he hb hv ⟨M, ds, d, t, ha, hf, q⟩ => F.run A outer s H args us vs Q E hr hG he hb hv ⟨M, ds, d, t, ha, hf, fun p o H' n e hp ho => q _ H' e (own_new t n hp ho)⟩⟩
end
end Tw
namespace Tw
open PySem PySem.Spec PyProof.Rows L2
section
variable {X : Cx} {c : Cf} {e a b : Expr} {ma mb : Nv → R D} {pos : Pos}
/-- x[i], x one's own list -/
def xIm (j : Nat) (mi : Nv → R D) : Nv → R D := fun ε => (mi ε).bind fun k => match gt ε j with
  | .mu (.list ds) => dIx (.list ds) k
  | _ => .bad
theorem pe_im {j : Nat} {sl : Expr} {mi : Nv → R D} (hx : PE X e (tVar j)) (hi : PE X sl (rdE c mi)) (hs : PlainIx sl := by exact fun _ _ => rfl) (hK : c.K = X.K := by rfl) : PE X (.Subscript e sl pos) (rdE c (xIm j mi)) :=
  (pe_ix ix_list hx hi hs).wk fun σ H Q ⟨ε, M, re, d, hm, q⟩ => by
    obtain ⟨k, h1, h2⟩ := R.bind_ok hm
    split at h2
    · rename_i ds g
      obtain ⟨l, o, g1, g2, g3, g4, g5⟩ := re.mu j _ g
      obtain ⟨vs, eo, hl⟩ := own_list g5
      subst eo
      refine ⟨.ref l, g1, ε, M, re, k, h1, fun v H' e' hv => ?_⟩
      unfold dIx at h2
      split at h2
      · rename_i xs i e1
        split at h2
        · rename_i y g
          cases h2
          cases e1
          obtain ⟨w, w1, w2⟩ := atI_at hl g
          exact ⟨l, vs, i, w, rfl, hv, SqL.of (e' l _ g4), w1, q w H' e' (At.mono (hid_ex e') _ _ w2)⟩
        · cases h2
      · rename_i e1
        cases e1
      · cases h2
    · cases h2
/-- [..] * n -/
theorem pe_rep (ha : PE X a (rdL c ma)) (hb : PE X b (rdE c mb)) : PE X (.BinOp a .Mult b pos) (rdL c (xBin dRep ma mb)) := (pe_op op_rep ha hb).wk fun σ H Q ⟨ε, M, re, d, hm, q⟩ => by
  obtain ⟨x, h1, h2⟩ := R.bind_ok hm
  obtain ⟨y, h3, h4⟩ := R.bind_ok h2
  refine ⟨ε, M, re, x, h1, fun p o H1 n e1 hp ho => ⟨ε, M, re.ex e1, y, h3, fun u H2 e2 hu => ?_⟩⟩
  unfold dRep at h4
  split at h4
  · rename_i xs k
    split at h4
    · rename_i hz
      cases h4
      obtain ⟨vs, eo, hl⟩ := own_list ho
      subst eo
      refine ⟨p, k, vs, rfl, hu, e2 p _ hp, by omega, by omega, by rw [atL_len hl]; exact lim_le hz.2.2, fun p' n' => ?_⟩
      have e12 := Evl.Ex.trans e1 e2
      have hl2 : AtL c.K (hid M H2) xs vs := AtL.mono (Evl.Ex.trans (hid_sub fun a ha => List.mem_cons_of_mem _ ha) (hid_ex e2)) _ _ hl
      refine q p' _ _ (Evl.fresh_back e12 n') (Evl.Ex.trans e12 (Evl.Ex.new n')) upd_same (.inl ⟨_, _, rfl, rfl, ?_⟩)
      have rep : ∀ n : Nat, AtL c.K (hid M H2) (List.replicate n xs).flatten (List.replicate n vs).flatten := fun n => by
        induction n with
        | zero => exact rfl
        | succ n ih =>
          rw [List.replicate_succ, List.replicate_succ, List.flatten_cons, List.flatten_cons]
          exact AtL.app hl2 ih
      exact AtL.mono (hid_new (Evl.Ex.new n') n') _ _ (rep _)
    · cases h4
  · cases h4
/-- a def without arguments -/
theorem pf0 {x : Str} {p : Pos} {k : Nat} {f : Addr} {fd : FuncData} {ps : List Str} {g : List D → R D} (F : FnG X.prog X.w X.K X.mg X.base k f fd ps (spF X.K g)) (hr : Room k X.A) (hG : X.A.guards = some []) (hm : X.mg x = some (.ref f)) (hk : PySem.W.keepIn X.K (.ref f) = true) (hb : Binds X.K fd ps [])
    (hg : Gl X x := by rfl) (hdb : (x == ("__debug__" : Str)) = false := by decide) (hK : c.K = X.K := by rfl) : PE X (.Call (.Name x p) [] [] pos) (rdE c (xCall g xNil)) := (pe_callG0 (E := E0') F hr hG hm hk hb pass0' hg hdb).wk fun σ H Q ⟨ε, M, re, d, hm, q⟩ =>
  ⟨M, [], d, re.trk, rfl, hm, fun w H3 e3 hw => q w H3 e3 (hK ▸ hw)⟩
end
end Tw
namespace Tw
open PySem PySem.Spec PyProof.Rows L2
section
variable {X : Cx} {c : Cf} {e a b : Expr} {ma mb : Nv → R D} {pos : Pos}
theorem pk_gi {x : Str} {i : Int} {t : Tok} (hm : X.mg x = some (.int i t)) (hg : Gl X x := by rfl) (hdb : (x == ("__debug__" : Str)) = false := by decide) : PE X (.Name x pos) (rdE c (xC (.int i))) := pk_glob (v := .int i) hg hm ⟨t, rfl⟩ (fun _ _ => rfl) hdb
/-- comparisons as tests -/
def tC' (m : Nv → R D) : Nv → R Bool := fun ε => (m ε).bind boD
theorem tTest_rd {t : TE} {m : Nv → R D} (h : ∀ σ H Q, rdE c m σ H Q → t σ H Q) : ∀ σ H Q, rdT c (tC' m) σ H Q → tTest t σ H Q := fun σ H Q ⟨ε, M, re, k, hm, q⟩ => by
  obtain ⟨d, h1, h2⟩ := R.bind_ok hm
  have := boD_ok h2
  subst this
  exact h σ H _ ⟨ε, M, re, _, h1, fun v H' e' hv => ⟨k, hv, q H' e'⟩⟩
theorem pt_cp {op : CmpOp} {f : D → D → R D} (ho : OpR X (compareOp op) (r2D X.K f)) (ha : PE X a (rdE c ma)) (hb : PE X b (rdE c mb)) (hm : behindInMarks op b = false := by first | exact nomark _ | rfl) (hK : c.K = X.K := by rfl) : PT X (.Compare a [op] [b] pos) (rdT c (tC' (xBin f ma mb))) :=
  (pt_cmpR ho ha hb hm).wk (tTest_rd (tOp_rd fun _ _ _ _ h => hK ▸ h))
theorem tCh_rd {f g : D → D → R D} {mc : Nv → R D} : ∀ σ H Q, rdE c (xCh f g ma mb mc) σ H Q → tChain (r2D c.K f) (r2D c.K g) (rdE c ma) (rdE c mb) (rdE c mc) σ H Q := fun σ H Q ⟨ε, M, re, d, hm, q⟩ => by
  obtain ⟨x, h1, h2⟩ := R.bind_ok hm
  obtain ⟨y, h3, h4⟩ := R.bind_ok h2
  obtain ⟨z, h5, h6⟩ := R.bind_ok h4
  obtain ⟨k, h7, h8⟩ := R.bind_ok h6
  have := boD_ok h7
  subst this
  refine ⟨ε, M, re, x, h1, fun v H1 e1 hv => ⟨ε, M, re.ex e1, y, h3, fun w H2 e2 hw => ?_⟩⟩
  have hv2 := At.mono (hid_ex e2) x v hv
  refine ⟨M, x, y, _, Trk.ex re.trk (e1.trans e2), hv2, hw, h5, fun r H3 e3 hr => ⟨k, hr, ?_⟩⟩
  have e13 := (e1.trans e2).trans e3
  cases k with
  | true =>
    obtain ⟨d3, g1, g2⟩ := R.bind_ok h8
    exact ⟨ε, M, re.ex e13, d3, g1, fun u H4 e4 hu => ⟨M, y, d3, d, Trk.ex re.trk (e13.trans e4), At.mono (hid_ex (e3.trans e4)) y w hw, hu, g2, fun r H5 e5 hr => q r H5 ((e13.trans e4).trans e5) hr⟩⟩
  | false =>
    cases h8
    exact q _ H3 e13 rfl
theorem pt_ch {op op' : CmpOp} {f g : D → D → R D} {cc : Expr} {mc : Nv → R D} (ho : OpR X (compareOp op) (r2D X.K f)) (ho' : OpR X (compareOp op') (r2D X.K g)) (ha : PE X a (rdE c ma)) (hb : PE X b (rdE c mb)) (hcc : PE X cc (rdE c mc)) (hmk : lastMarks [op, op'] [b, cc] = false := by with_unfolding_all rfl) (hK : c.K = X.K := by rfl) :
    PT X (.Compare a [op, op'] [b, cc] pos) (rdT c (tC' (xCh f g ma mb mc))) := (pt_chain ho ho' ha hb hcc hmk).wk (tTest_rd fun σ H Q h => hK ▸ tCh_rd σ H Q h)
end
end Tw
namespace Tw
open PySem PySem.Spec PyProof.Rows L2
/-! ### bodies that end by return -/
theorem nnx_seq {m n : Nv → R Fl} (h : NNx n) : NNx (sSeq m n) := fun ε ε' z => by
  unfold sSeq at z
  split at z
  · exact h _ _ z
  · rename_i q
    exact q ε' z
theorem nnx_rt {me : Nv → R D} : NNx (sRt me) := fun ε ε' z => by
  unfold sRt at z
  cases q : me ε with
  | ok d => rw [q] at z; cases z
  | ex a b => rw [q] at z; cases z
  | bad => rw [q] at z; cases z
theorem nnx_rtM {i : Nat} : NNx (sRtM i) := fun ε ε' z => by
  unfold sRtM at z
  split at z
  · cases z
  · cases z
theorem nnx_no : NNx sNo := fun ε ε' z => by cases z
theorem nnx_if {t : Nv → R Bool} {m n : Nv → R Fl} (h1 : NNx m) (h2 : NNx n) : NNx (sIf t m n) := fun ε ε' z => by
  unfold sIf at z
  cases q : t ε with
  | ok k =>
    rw [q] at z
    cases k with
    | true => exact h1 _ _ z
    | false => exact h2 _ _ z
  | ex a b => rw [q] at z; cases z
  | bad => rw [q] at z; cases z
section
variable {P : Program} {w : World} {K : PySem.W.Frag} {mg : Str → Option Value} {base : Heap}
/-- a def that is never called -/
theorem fn_bad {f : Addr} {fd : FuncData} {ps : List Str} {k : Nat} : FnG P w K mg base k f fd ps (spF K fun _ => .bad) := ⟨fun _ _ _ _ ⟨_, _, _, _, _, hf, _⟩ => (nomatch hf), fun _ _ _ _ _ _ _ _ _ _ _ _ _ _ ⟨_, _, _, _, _, hf, _⟩ => (nomatch hf)⟩
theorem fn_badN {f : Addr} {fd : FuncData} {ps : List Str} {k : Nat} : FnG P w K mg base k f fd ps (spN K fun _ => .bad) := ⟨fun _ _ _ _ ⟨_, _, _, _, _, hf, _⟩ => (nomatch hf), fun _ _ _ _ _ _ _ _ _ _ _ _ _ _ ⟨_, _, _, _, _, hf, _⟩ => (nomatch hf)⟩
end
section
variable {X : Cx} {c : Cf} {e : Expr} {me : Nv → R D}
def xRev (me : Nv → R D) : Nv → R D := fun ε => (me ε).bind fun d => match d with
  | .list xs => .ok (.list xs.reverse)
  | _ => .bad
theorem AtL.rev {K : PySem.W.Frag} {H : Hp} : ∀ {ds : List D} {vs : List V}, AtL K H ds vs → AtL K H ds.reverse vs.reverse
  | [], vs, h => by
    have e : vs = [] := h
    rw [e]
    rfl
  | d :: ds, vs, ⟨v, r, h1, h2, h3⟩ => by
    rw [h1, List.reverse_cons, List.reverse_cons]
    exact AtL.app (AtL.rev h3) ⟨v, [], rfl, h2, rfl⟩
/-- xs[::-1] -/
theorem pe_rv {k : Nat} {p1 p2 p3 pos : Pos} (he : PE X e (rdE c me)) (hK : c.K = X.K := by rfl) : PE X (.Subscript e (.Slice none none (some (.UnaryOp .USub (.Constant (.int 1) k p1) p2)) p3) pos) (rdL c (xRev me)) := (pe_revL he).wk fun σ H Q ⟨ε, M, re, d, hm, q⟩ => by
  obtain ⟨x, h1, h2⟩ := R.bind_ok hm
  refine ⟨ε, M, re, x, h1, fun v H1 e1 hv => ?_⟩
  cases x with
  | list xs =>
    cases h2
    obtain ⟨a, vs, ev, g1, g2⟩ := hv
    refine ⟨a, vs, ev, hK ▸ sql_le g1, fun p n => q p _ _ (Evl.fresh_back e1 n) (e1.trans (Evl.Ex.new n)) upd_same (.inl ⟨_, _, rfl, rfl, AtL.rev (AtL.mono (hid_new (Evl.Ex.new n) n) _ _ g2)⟩)⟩
  | _ => cases h2
end
end Tw
namespace Tw
open PySem PySem.Spec PyProof.Rows L2
theorem ints_at {K : PySem.W.Frag} {H : Hp} : ∀ ns : List Int, AtL K H (ns.map PyData.int) (ns.map V.int)
  | [] => rfl
  | n :: ns => ⟨_, _, rfl, rfl, ints_at ns⟩
theorem hid_nil (H : Hp) : hid [] H = H := by
  funext a
  unfold hid
  rw [if_neg (by simp)]
/-- the law at its script -/
theorem law_in {K : PySem.W.Frag} {H : Hp} {a : Addr} {ns : List Int} {f : List D → R D} (hS : SqL K H a (ns.map V.int)) (h : f [.list (ns.map PyData.int)] = .ok (.bool true)) : spF K f [.ref a] H (fun v _ => v = .bl true) fun _ _ _ => False :=
  ⟨[], [.list (ns.map PyData.int)], .bool true, fun a z => absurd z (List.not_mem_nil), ⟨_, _, rfl, ⟨a, _, rfl, by rw [hid_nil]; exact hS, ints_at ns⟩, rfl⟩, h, fun v H' _ hv => hv⟩
end Tw
set_option Elab.async false
set_option linter.all false
set_option maxRecDepth 100000
set_option maxHeartbeats 4000000
/-! Tw11: starred items, gcd, comprehensions of two clauses, two stores at once -/
namespace Tw
open PySem PySem.Spec PyProof.Rows L2
/-! ### starred items -/
def xStar (m : Nv → R D) (r : Nv → R (List D)) : Nv → R (List D) := fun ε => (m ε).bind fun d => match d with
  | .list xs => (r ε).bind fun ds => .ok (xs ++ ds)
  | .tuple xs => (r ε).bind fun ds => .ok (xs ++ ds)
  | _ => .bad
def xTupS (m : Nv → R (List D)) : Nv → R D := fun ε => (m ε).bind fun ds => if ds.length ≤ lim then .ok (.tuple ds) else .bad
def xLstS (m : Nv → R (List D)) : Nv → R D := fun ε => (m ε).bind fun ds => if ds.length ≤ lim then .ok (.list ds) else .bad
def cGcd : List D → R D
  | [.int a, .int b] => .ok (.int ((Nat.gcd a.natAbs b.natAbs : Nat) : Int))
  | _ => .bad
section
variable {X : Cx} {c : Cf} {e : Expr} {es : List Expr} {m : Nv → R D} {ms : Nv → R (List D)} {p pos : Pos}
theorem pa_s (h : PE X e (rdE c m)) (hs : PA X es (rdA c ms)) (hst : starEach (.Starred e p :: es) X.env = (true, eval e X.env) :: starEach es X.env := by rfl) (hK : c.K = X.K := by rfl) : PA X (.Starred e p :: es) (rdA c (xStar m ms)) :=
  (StX.pa_star h hs hst).wk fun σ H Q ⟨ε, M, re, ds, hm, q⟩ => by
    obtain ⟨d, h1, h2⟩ := R.bind_ok hm
    refine ⟨ε, M, re, d, h1, fun v H1 e1 hv => ?_⟩
    split at h2
    · obtain ⟨dr, h3, h4⟩ := R.bind_ok h2
      cases h4
      obtain ⟨a, xs, ev, g1, g2⟩ := hv
      exact ⟨a, xs, ev, .inr (hK ▸ sql_le g1), ε, M, re.ex e1, dr, h3, fun vs H2 e2 hvs => q _ H2 (e1.trans e2) (AtL.app (AtL.mono (hid_ex e2) _ _ g2) hvs)⟩
    · obtain ⟨dr, h3, h4⟩ := R.bind_ok h2
      cases h4
      obtain ⟨a, xs, ev, g1, g2⟩ := hv
      exact ⟨a, xs, ev, .inl (hK ▸ sqt_le g1), ε, M, re.ex e1, dr, h3, fun vs H2 e2 hvs => q _ H2 (e1.trans e2) (AtL.app (AtL.mono (hid_ex e2) _ _ g2) hvs)⟩
    · cases h2
theorem pe_tuS {x1} (h : PA X es (rdA c ms)) : PE X (.Tuple es x1 pos) (rdE c (xTupS ms)) :=
  (L2.pe_tup h).wk fun σ H Q ⟨ε, M, re, d, hm, q⟩ => by
    obtain ⟨ds, h1, h2⟩ := R.bind_ok hm
    split at h2
    · rename_i hz
      cases h2
      refine ⟨ε, M, re, ds, h1, fun vs H1 e1 hv => ⟨by rw [atL_len hv]; exact lim_le hz, fun p n => ?_⟩⟩
      have np := (Trk.ex re.trk e1).no n
      exact q (.ref p) _ (e1.trans (Evl.Ex.new n)) ⟨p, vs, rfl, SqT.of (hid_of upd_same np), AtL.mono (hid_ex (Evl.Ex.new n)) ds vs hv⟩
    · cases h2
theorem pe_liS (h : PA X es (rdA c ms)) : PE X (.List es pos) (rdL c (xLstS ms)) :=
  (L2.pe_lst h).wk fun σ H Q ⟨ε, M, re, d, hm, q⟩ => by
    obtain ⟨ds, h1, h2⟩ := R.bind_ok hm
    split at h2
    · rename_i hz
      cases h2
      refine ⟨ε, M, re, ds, h1, fun vs H1 e1 hv => ⟨by rw [atL_len hv]; exact lim_le hz, fun p n => ?_⟩⟩
      exact q p (.lst vs) _ (Evl.fresh_back e1 n) (e1.trans (Evl.Ex.new n)) upd_same (.inl ⟨vs, ds, rfl, rfl, AtL.mono (hid_new (Evl.Ex.new n) n) ds vs hv⟩)
    · cases h2
/-! ### gcd -/
theorem k_gcd : CallR X (.builtin "math.gcd") (rnD X.K cGcd) := by
  intro pins s σ H xs us Q I r ⟨M, as, d, t, ha, hf, q⟩
  unfold cGcd at hf
  split at hf
  · cases hf
    obtain ⟨v, vs, e, h1, h2⟩ := at_cons ha
    obtain ⟨v2, e2, h3⟩ := at_one h2
    exact cr_gcd pins s σ H xs us Q I r ⟨_, _, by rw [e, e2, show v = _ from h1, show v2 = _ from h3], q _ H (Evl.Ex.refl H) rfl⟩
  · cases hf
theorem pe_gcd {x : Str} (hm : X.mg x = some (.builtin "math.gcd")) (ha : PA X (e :: es) (rdA c ms)) (hg : Gl X x := by rfl) (hK : c.K = X.K := by rfl) (hd : (x == ("__debug__" : Str)) = false := by decide)
    (hst : starEach (e :: es) X.env = (false, eval e X.env) :: starEach es X.env := by rfl) (hpl : (backTo pos (starEach es X.env)).any (·.1) = false := by rfl) :
    PE X (.Call (.Name x p) (e :: es) [] pos) (rdE c (xCall cGcd ms)) := (pe_callBfun k_gcd hg hm ha hd hst hpl).wk (tCB_rd fun _ _ _ h => hK ▸ h)
end
/-! ### a list is unpacked -/
def bL (n : Nat) (bs : List D → Nv → R Nv) : D → Nv → R Nv := fun d ε => match d with
  | .list ds => if ds.length = n then bs ds ε else .bad
  | _ => .bad
theorem gok_l {c : Cf} {n : Nat} {gs : TGs} {bs : List D → Nv → R Nv} {js : List Nat} (h : GsOk c gs bs js) : GOk c (gLst c.K n gs) (bL n bs) js := fun x σ H Q ε M d ε' r hx hm q => by
  unfold bL at hm
  split at hm
  · split at hm
    · rename_i ds hn
      obtain ⟨a, xs, e, h1, h2⟩ := hx
      exact ⟨a, xs, e, sql_le h1, by rw [atL_len h2]; exact hn, h xs σ H Q ε M ds ε' r h2 hm q⟩
    · cases hm
  · cases hm
/-! ### two clauses -/
def lcG2 (g : D → Nv → R Nv) (t : Nv → R Bool) (mi1 : Nv → R (List D)) (g1 : D → Nv → R Nv) (t1 : Nv → R Bool) (e : Nv → R D) (vs1 : List Nat) (ε : Nv) : List D → R (List D)
  | [] => .ok []
  | d :: ds => (g d ε).bind fun ε1 => (t ε1).bind fun k => if k then (mi1 ε1).bind fun es => (lcG g1 t1 e (wipeE ε1 vs1) es).bind fun y => (lcG2 g t mi1 g1 t1 e vs1 ε ds).bind fun ys => .ok (y ++ ys) else lcG2 g t mi1 g1 t1 e vs1 ε ds
def xLc2 (vs vs1 : List Nat) (mi : Nv → R (List D)) (g : D → Nv → R Nv) (t : Nv → R Bool) (mi1 : Nv → R (List D)) (g1 : D → Nv → R Nv) (t1 : Nv → R Bool) (e : Nv → R D) : Nv → R D := fun ε => (mi ε).bind fun ds => (lcG2 g t mi1 g1 t1 e vs1 (wipeE ε vs) ds).bind fun ys => if ys.length ≤ lim then .ok (.list ys) else .bad
section
variable {X : Cx} {c : Cf}
theorem muK_wipe (σ : L2.St) (ε : Nv) : ∀ vs : List Nat, MuK σ ε (wipe σ vs) (wipeE ε vs)
  | [] => fun j d h => ⟨h, rfl⟩
  | v :: vs => fun j d h => by
    have h' : gt (st (wipeE ε vs) v .no) j = .mu d := h
    by_cases e : j = v
    · subst e
      have hl : j < (wipeE ε vs).length := by
        have := gt_lt (ε := st (wipeE ε vs) j .no) (i := j) (by rw [h']; intro z; cases z)
        rwa [st_len] at this
      rw [gt_same hl] at h'
      cases h'
    · rw [gt_ne e] at h'
      obtain ⟨h1, h2⟩ := muK_wipe σ ε vs j d h'
      refine ⟨h1, ?_⟩
      rw [← h2]
      show ((wipe σ vs).set v none)[j]? = _
      exact List.getElem?_set_ne (Ne.symm e)
theorem tLc2_rd {g g1 : TG} {b b1 : D → Nv → R Nv} {js js1 vs vs1 : List Nat} {mi mi1 : Nv → R (List D)} {t t1 : Nv → R Bool} {e : Nv → R D} (hg : GOk c g b js) (hj : ∀ j, j ∈ js → j ∈ vs) (hg1 : GOk c g1 b1 js1) (hj1 : ∀ j, j ∈ js1 → j ∈ vs1) :
    ∀ σ H Q, rdL c (xLc2 vs vs1 mi b t mi1 b1 t1 e) σ H Q → tLc2 (rdI c mi) g (rdT c t) (rdI c mi1) g1 (rdT c t1) (rdE c e) vs vs1 σ H Q := fun σ H Q ⟨ε, M, re, d, hm, q⟩ => by
  obtain ⟨ds, h1, h2⟩ := R.bind_ok hm
  obtain ⟨ys, h3, h4⟩ := R.bind_ok h2
  split at h4
  · rename_i hz
    cases h4
    refine ⟨ε, M, re, ds, h1, fun J H1 e1 wk D nD => ?_⟩
    have nD0 : H D = none := Evl.fresh_back e1 nD
    have nM : D ∉ M := Trk.no re.trk nD0
    have n0 : c.H0 D = none := Evl.fresh_back re.ext nD0
    refine ⟨fun i m H2 => m = ds.length - i ∧ i ≤ ds.length ∧ ∃ acc rest vs0, lcG2 b t mi1 b1 t1 e vs1 (wipeE ε vs) (ds.drop i) = .ok rest ∧ acc ++ rest = ys ∧ H2 D = some (.lst vs0) ∧ AtL c.K (hid (D :: M) H2) acc vs0 ∧ Rel c (wipe σ vs) H2 (wipeE ε vs) (D :: M) ∧ Ex H1 H2,
      ⟨ds.length, by omega, Nat.zero_le _, [], ys, [], h3, rfl, upd_same, rfl, ((re.ex e1).wipe vs).add nD (Evl.Ex.new nD) upd_same, Evl.Ex.new nD⟩, ?_⟩
    rintro i m H2 ⟨rfl, hi, acc, rest, vs0, hl, ha, hD, hA, hR, hE⟩
    have hB : Ex (hid M H1) (hid (D :: M) H2) := hid_new hE nD
    have wi := wk i H2 (Evl.Ex.trans hB hid_le)
    by_cases hlt : i < ds.length
    · refine .inr ⟨wi.1 hlt, fun H' => ∃ acc rest vs0, lcG2 b t mi1 b1 t1 e vs1 (wipeE ε vs) (ds.drop (i + 1)) = .ok rest ∧ acc ++ rest = ys ∧ H' D = some (.lst vs0) ∧ AtL c.K (hid (D :: M) H') acc vs0 ∧ Rel c (wipe σ vs) H' (wipeE ε vs) (D :: M) ∧ Ex H1 H', fun H' p => ⟨_, by omega, rfl, hlt, p⟩, fun x H' y => ?_⟩
      obtain ⟨ex, item⟩ := wi.2.2 x H' y
      have hx := item ds[i] (List.getElem?_eq_getElem hlt) (D :: M) hR.trk hB
      rw [List.drop_eq_getElem_cons hlt] at hl
      obtain ⟨ε1, l1, l2⟩ := R.bind_ok hl
      obtain ⟨k, l3, l4⟩ := R.bind_ok l2
      refine hg x (wipe σ vs) H' _ _ (D :: M) ds[i] ε1 (hR.ex ex) hx l1 fun σ2 r2 w2 k2 => ⟨by rw [w2 vs hj, wipe_wipe], ε1, D :: M, r2, k, l3, fun H3 e3 => ?_⟩
      have exx := Evl.Ex.trans ex e3
      cases k with
      | false =>
        exact ⟨acc, rest, vs0, l4, ha, exx D _ hD, AtL.mono (hid_ex exx) _ _ hA, hR.ex exx, Evl.Ex.trans hE exx⟩
      | true =>
        obtain ⟨es, l5, l6⟩ := R.bind_ok l4
        obtain ⟨zs, l7, l8⟩ := R.bind_ok l6
        obtain ⟨ys', l9, l10⟩ := R.bind_ok l8
        cases l10
        refine ⟨ε1, D :: M, r2.ex e3, es, l5, fun J1 H4 e4 wk1 => ?_⟩
        have exy := Evl.Ex.trans exx e4
        have r4 := (r2.ex e3).ex e4
        have hm : D ∈ D :: M := List.mem_cons_self
        refine ⟨fun j k H5 => k = es.length - j ∧ j ≤ es.length ∧ ∃ acc1 rest1 vs1', lcG b1 t1 e (wipeE ε1 vs1) (es.drop j) = .ok rest1 ∧ acc ++ (acc1 ++ (rest1 ++ ys')) = ys ∧ H5 D = some (.lst vs1') ∧ AtL c.K (hid (D :: M) H5) (acc ++ acc1) vs1' ∧ Rel c (wipe σ vs) H5 (wipeE ε vs) (D :: M) ∧ Rel c (wipe σ2 vs1) H5 (wipeE ε1 vs1) (D :: M) ∧ Ex H1 H5 ∧ Ex (hid (D :: M) H4) (hid (D :: M) H5),
          ⟨es.length, by omega, Nat.zero_le _, [], zs, vs0, l7, by rw [← ha, List.nil_append], exy D _ hD, by rw [List.append_nil]; exact AtL.mono (hid_ex exy) _ _ hA, hR.ex exy, r4.wipe vs1, Evl.Ex.trans hE exy, Evl.Ex.refl _⟩, ?_⟩
        rintro j k H5 ⟨rfl, hj', acc1, rest1, vs5, hl1, ha1, hD1, hA1, hR1, hR2, hE1, hF1⟩
        have wj := wk1 j H5 (Evl.Ex.trans hF1 hid_le)
        by_cases hlt1 : j < es.length
        · refine .inr ⟨wj.1 hlt1, fun H' => ∃ acc1 rest1 vs1', lcG b1 t1 e (wipeE ε1 vs1) (es.drop (j + 1)) = .ok rest1 ∧ acc ++ (acc1 ++ (rest1 ++ ys')) = ys ∧ H' D = some (.lst vs1') ∧ AtL c.K (hid (D :: M) H') (acc ++ acc1) vs1' ∧ Rel c (wipe σ vs) H' (wipeE ε vs) (D :: M) ∧ Rel c (wipe σ2 vs1) H' (wipeE ε1 vs1) (D :: M) ∧ Ex H1 H' ∧ Ex (hid (D :: M) H4) (hid (D :: M) H'), fun H' p => ⟨_, by omega, rfl, hlt1, p⟩, fun x1 H6 y1 => ?_⟩
          obtain ⟨ex1, item1⟩ := wj.2.2 x1 H6 y1
          have hx1 := item1 es[j] (List.getElem?_eq_getElem hlt1) (D :: M) hR2.trk hF1
          rw [List.drop_eq_getElem_cons hlt1] at hl1
          obtain ⟨ε2, m1, m2⟩ := R.bind_ok hl1
          obtain ⟨k1, m3, m4⟩ := R.bind_ok m2
          refine hg1 x1 (wipe σ2 vs1) H6 _ _ (D :: M) es[j] ε2 (hR2.ex ex1) hx1 m1 fun σ3 r3 w3 _ => ⟨by rw [w3 vs1 hj1, wipe_wipe], ε2, D :: M, r3, k1, m3, fun H7 e7 => ?_⟩
          have ex7 := Evl.Ex.trans ex1 e7
          cases k1 with
          | false =>
            exact ⟨acc1, rest1, vs5, m4, ha1, ex7 D _ hD1, AtL.mono (hid_ex ex7) _ _ hA1, hR1.ex ex7, hR2.ex ex7, Evl.Ex.trans hE1 ex7, Evl.Ex.trans hF1 (hid_ex ex7)⟩
          | true =>
            obtain ⟨y2, m5, m6⟩ := R.bind_ok m4
            obtain ⟨ys2, m7, m8⟩ := R.bind_ok m6
            cases m8
            refine ⟨ε2, D :: M, r3.ex e7, y2, m5, fun v H8 e8 hv => ⟨vs5, e8 D _ (ex7 D _ hD1), ?_, ?_⟩⟩
            · rw [atL_len hA1]
              refine lim_lt (Nat.le_trans ?_ hz)
              rw [← ha1]
              simp only [List.length_append, List.length_cons]
              omega
            · have ex8 := Evl.Ex.trans ex7 e8
              refine ⟨acc1 ++ [y2], ys2, vs5 ++ [v], m7, by rw [← ha1, List.append_assoc]; rfl, upd_same, ?_, ?_, ?_, ?_, ?_⟩
              · rw [hid_upd hm, ← List.append_assoc]
                exact AtL.app (AtL.mono (hid_ex ex8) _ _ hA1) ⟨v, [], rfl, hv, rfl⟩
              · refine (hR1.ex ex8).updD hm n0 fun j f hj z => ?_
                obtain ⟨w', o', z1, z2, _⟩ := (re.wipe vs).mu j f hj
                rw [z] at z1
                cases z1
                exact nM z2
              · refine (hR2.ex ex8).updD hm n0 fun j f hj z => ?_
                obtain ⟨z1, z2⟩ := muK_wipe σ2 ε1 vs1 j f hj
                obtain ⟨z3, z4⟩ := k2 j f z1
                obtain ⟨w', o', z5, z6, _⟩ := (re.wipe vs).mu j f z3
                rw [z2, z4] at z
                rw [z] at z5
                cases z5
                exact nM z6
              · exact Evl.Ex.mut (Evl.Ex.trans hE1 ex8) nD
              · rw [hid_upd hm]
                exact Evl.Ex.trans hF1 (hid_ex ex8)
        · have ej : j = es.length := by omega
          subst ej
          refine .inl ⟨wj.2.1 rfl, ?_⟩
          rw [List.drop_length] at hl1
          cases hl1
          exact ⟨acc ++ acc1, ys', vs5, l9, by rw [← ha1, List.append_assoc]; rfl, hD1, hA1, hR1, hE1⟩
    · have ei : i = ds.length := by omega
      subst ei
      refine .inl ⟨wi.2.1 rfl, ?_⟩
      rw [List.drop_length] at hl
      cases hl
      rw [List.append_nil] at ha
      subst ha
      exact q D _ H2 nD0 (Evl.Ex.trans e1 hE) hD (.inl ⟨vs0, acc, rfl, rfl, hA⟩)
  · cases h4
variable {elt tg iter tg1 iter1 : Expr} {ifs ifs1 : List Expr} {scope : Scope} {own : List (Str × Nat)} {vs1 : List Nat} {pos spos py : Pos} {g g1 : TG} {b b1 : D → Nv → R Nv} {js js1 : List Nat} {mi mi1 : Nv → R (List D)} {t t1 : Nv → R Bool} {me : Nv → R D} {y : Str} {i : Nat}
theorem pe_co2 (vs1 : List Nat) (hc : X.calm = true) (hN : X.N.Nodup) (hi : PI X tg iter (rdI c mi)) (ok : BlkOk X.N X.env.scope scope own) (gk : GOk c g b js) (hj : ∀ j, j ∈ js → j ∈ own.map (·.2)) (gk1 : GOk c g1 b1 js1) (hj1 : ∀ j, j ∈ js1 → j ∈ vs1) (hv : ∀ i ∈ vs1, i ∈ own.map (·.2))
    (hg : ∀ (s : Shared) (H : Hp) (C : Addr) (cl : List (Str × Addr)) (fp : List Addr), PG (X.blk s H scope (compEnvC scope cl C X.env) fp) tg g) (ht : ∀ (s : Shared) (H : Hp) (C : Addr) (cl : List (Str × Addr)) (fp : List Addr), PTs (X.blk s H scope (compEnvC scope cl C X.env) fp) ifs (rdT c t))
    (hi1 : ∀ (s : Shared) (H : Hp) (C : Addr) (cl : List (Str × Addr)) (fp : List Addr), PI (X.blk s H scope (compEnvC scope cl C X.env) fp) tg1 iter1 (rdI c mi1))
    (hg1 : ∀ (s : Shared) (H : Hp) (C : Addr) (cl : List (Str × Addr)) (fp : List Addr), PG (X.blk s H scope (compEnvC scope cl C X.env) fp) tg1 g1) (ht1 : ∀ (s : Shared) (H : Hp) (C : Addr) (cl : List (Str × Addr)) (fp : List Addr), PTs (X.blk s H scope (compEnvC scope cl C X.env) fp) ifs1 (rdT c t1))
    (he : ∀ (s : Shared) (H : Hp) (C : Addr) (cl : List (Str × Addr)) (fp : List Addr), PE (X.blk s H scope (compEnvC scope cl C X.env) fp) elt (rdE c me)) (hs : ∀ x, foldedSetIterable iter X.env x = pure x := by intro _; rfl) (hs1 : ∀ env x, foldedSetIterable iter1 env x = pure x := by intro _ _; rfl) :
    PE X (.ListComp elt [⟨tg, iter, ifs, 0⟩, ⟨tg1, iter1, ifs1, 0⟩] scope pos) (rdL c (xLc2 (own.map (·.2)) vs1 mi b t mi1 b1 t1 me)) := (pe_lc2 hc hN hi ok hv hg ht hi1 hg1 ht1 he hs hs1).wk (tLc2_rd gk hj gk1 hj1)
theorem ps_co2 (vs1 : List Nat) (hc : X.calm = true) (hN : X.N.Nodup) (hi : PI X tg iter (rdI c mi)) (ok : BlkOk X.N X.env.scope scope own) (gk : GOk c g b js) (hj : ∀ j, j ∈ js → j ∈ own.map (·.2)) (gk1 : GOk c g1 b1 js1) (hj1 : ∀ j, j ∈ js1 → j ∈ vs1) (hv : ∀ i ∈ vs1, i ∈ own.map (·.2))
    (hg : ∀ (s : Shared) (H : Hp) (C : Addr) (cl : List (Str × Addr)) (fp : List Addr), PG (X.blk s H scope (compEnvC scope cl C X.env) fp) tg g) (ht : ∀ (s : Shared) (H : Hp) (C : Addr) (cl : List (Str × Addr)) (fp : List Addr), PTs (X.blk s H scope (compEnvC scope cl C X.env) fp) ifs (rdT c t))
    (hi1 : ∀ (s : Shared) (H : Hp) (C : Addr) (cl : List (Str × Addr)) (fp : List Addr), PI (X.blk s H scope (compEnvC scope cl C X.env) fp) tg1 iter1 (rdI c mi1))
    (hg1 : ∀ (s : Shared) (H : Hp) (C : Addr) (cl : List (Str × Addr)) (fp : List Addr), PG (X.blk s H scope (compEnvC scope cl C X.env) fp) tg1 g1) (ht1 : ∀ (s : Shared) (H : Hp) (C : Addr) (cl : List (Str × Addr)) (fp : List Addr), PTs (X.blk s H scope (compEnvC scope cl C X.env) fp) ifs1 (rdT c t1))
    (he : ∀ (s : Shared) (H : Hp) (C : Addr) (cl : List (Str × Addr)) (fp : List Addr), PE (X.blk s H scope (compEnvC scope cl C X.env) fp) elt (rdE c me))
    (hsw : swapsWith (.ListComp elt [⟨tg, iter, ifs, 0⟩, ⟨tg1, iter1, ifs1, 0⟩] scope pos) (some (.Name y py)) spos.line X.env = pure true) (hy : X.N[i]? = some y := by rfl) (hyl : X.env.scope.names.lookup y = some .local := by rfl) (hs : ∀ x, foldedSetIterable iter X.env x = pure x := by intro _; rfl) (hs1 : ∀ env x, foldedSetIterable iter1 env x = pure x := by intro _ _; rfl) :
    PS X (.Assign [.Name y py] (.ListComp elt [⟨tg, iter, ifs, 0⟩, ⟨tg1, iter1, ifs1, 0⟩] scope pos) spos) (rdS c (sAs i (xLc2 (own.map (·.2)) vs1 mi b t mi1 b1 t1 me))) :=
  (ps_setLc2 hc hN hy hyl hsw hi ok hv hg ht hi1 hg1 ht1 he hs hs1).wk fun E σ H h => (tAsg_rdL (c := c) (i := i) E σ H h : tAsg (rdL c (xLc2 (own.map (·.2)) vs1 mi b t mi1 b1 t1 me)) (gName i) E σ H) |> fun q => tLc2_rd gk hj gk1 hj1 σ H _ q
theorem ps_co2M (vs1 : List Nat) (hc : X.calm = true) (hN : X.N.Nodup) (hi : PI X tg iter (rdI c mi)) (ok : BlkOk X.N X.env.scope scope own) (gk : GOk c g b js) (hj : ∀ j, j ∈ js → j ∈ own.map (·.2)) (gk1 : GOk c g1 b1 js1) (hj1 : ∀ j, j ∈ js1 → j ∈ vs1) (hv : ∀ i ∈ vs1, i ∈ own.map (·.2))
    (hg : ∀ (s : Shared) (H : Hp) (C : Addr) (cl : List (Str × Addr)) (fp : List Addr), PG (X.blk s H scope (compEnvC scope cl C X.env) fp) tg g) (ht : ∀ (s : Shared) (H : Hp) (C : Addr) (cl : List (Str × Addr)) (fp : List Addr), PTs (X.blk s H scope (compEnvC scope cl C X.env) fp) ifs (rdT c t))
    (hi1 : ∀ (s : Shared) (H : Hp) (C : Addr) (cl : List (Str × Addr)) (fp : List Addr), PI (X.blk s H scope (compEnvC scope cl C X.env) fp) tg1 iter1 (rdI c mi1))
    (hg1 : ∀ (s : Shared) (H : Hp) (C : Addr) (cl : List (Str × Addr)) (fp : List Addr), PG (X.blk s H scope (compEnvC scope cl C X.env) fp) tg1 g1) (ht1 : ∀ (s : Shared) (H : Hp) (C : Addr) (cl : List (Str × Addr)) (fp : List Addr), PTs (X.blk s H scope (compEnvC scope cl C X.env) fp) ifs1 (rdT c t1))
    (he : ∀ (s : Shared) (H : Hp) (C : Addr) (cl : List (Str × Addr)) (fp : List Addr), PE (X.blk s H scope (compEnvC scope cl C X.env) fp) elt (rdE c me))
    (hsw : swapsWith (.ListComp elt [⟨tg, iter, ifs, 0⟩, ⟨tg1, iter1, ifs1, 0⟩] scope pos) (some (.Name y py)) spos.line X.env = pure true) (hy : X.N[i]? = some y := by rfl) (hyl : X.env.scope.names.lookup y = some .local := by rfl) (hs : ∀ x, foldedSetIterable iter X.env x = pure x := by intro _; rfl) (hs1 : ∀ env x, foldedSetIterable iter1 env x = pure x := by intro _ _; rfl) :
    PS X (.Assign [.Name y py] (.ListComp elt [⟨tg, iter, ifs, 0⟩, ⟨tg1, iter1, ifs1, 0⟩] scope pos) spos) (rdS c (sAsM i (xLc2 (own.map (·.2)) vs1 mi b t mi1 b1 t1 me))) :=
  (ps_setLc2 hc hN hy hyl hsw hi ok hv hg ht hi1 hg1 ht1 he hs hs1).wk fun E σ H h => (tAsg_rdM (c := c) (i := i) E σ H h : tAsg (rdL c (xLc2 (own.map (·.2)) vs1 mi b t mi1 b1 t1 me)) (gName i) E σ H) |> fun q => tLc2_rd gk hj gk1 hj1 σ H _ q
end
/-! ### two stores into own lists at once -/
def stl (j : Nat) (mi : Nv → R D) (d : D) : Nv → R Nv := fun ε => (mi ε).bind fun k => match gt ε j, k with
  | .mu (.list ds), .int z => match ixN ds.length z with
    | some n => .ok (st ε j (.mu (.list (ds.set n d))))
    | none => .bad
  | _, _ => .bad
theorem stl_ok {j : Nat} {mi : Nv → R D} {d : D} {ε ε' : Nv} (h : stl j mi d ε = .ok ε') : ∃ ds z n, mi ε = .ok (.int z) ∧ gt ε j = .mu (.list ds) ∧ ixN ds.length z = some n ∧ ε' = st ε j (.mu (.list (ds.set n d))) := by
  obtain ⟨k, h1, h2⟩ := R.bind_ok h
  split at h2
  · rename_i ds z g
    split at h2
    · rename_i n hn
      cases h2
      exact ⟨ds, z, n, h1, g, hn, rfl⟩
    · cases h2
  · cases h2
def sSt2 (j : Nat) (mi : Nv → R D) (j2 : Nat) (mi2 me : Nv → R D) : Nv → R Fl := fun ε => (me ε).bind fun d => match d with
  | .tuple [a, b] => (stl j mi a ε).bind fun ε1 => (stl j2 mi2 b ε1).bind fun ε2 => .ok (.nx ε2)
  | _ => .bad
section
variable {X : Cx} {c : Cf} {s : Stmt} {me : Nv → R D}
theorem ps_st2 {j j2 : Nat} {mi mi2 : Nv → R D} (h : PS X s (tAsg (rdE c me) (gTup X.K 2 (gCons (gSub (tVar j) (rdE c mi) rSetL) (gCons (gSub (tVar j2) (rdE c mi2) rSetL) gNil))))) (hK : c.K = X.K := by rfl) : PS X s (rdS c (sSt2 j mi j2 mi2 me)) := h.wk fun E σ H ⟨ε, M, re, f⟩ => by
  unfold sSt2 at f
  cases q : me ε with
  | bad => rw [q] at f; exact f.elim
  | ex x y => rw [q] at f; exact f.elim
  | ok d =>
    rw [q] at f
    refine ⟨ε, M, re, d, q, fun v H' e' hv => ?_⟩
    simp only [R.bind] at f
    split at f
    · rename_i x a b
      cases q2 : stl j mi a ε with
      | bad => simp only [R.bind, q2] at f; exact f.elim
      | ex x y => simp only [R.bind, q2] at f; exact f.elim
      | ok ε1 =>
        cases q3 : stl j2 mi2 b ε1 with
        | bad => simp only [R.bind, q2, q3] at f; exact f.elim
        | ex x y => simp only [R.bind, q2, q3] at f; exact f.elim
        | ok ε2 =>
          simp only [R.bind, q2, q3] at f
          obtain ⟨p, vs, ev, g1, va, vr, ev2, ha, vb, vr2, ev3, hb, ev4⟩ := hv
          obtain ⟨ds, z, n, m1, m2, m3, m4⟩ := stl_ok q2
          obtain ⟨ds', z', n', m1', m2', m3', m4'⟩ := stl_ok q3
          have ev4' : vr2 = [] := ev4
          subst ev ev2 ev3 ev4' m4 m4'
          refine ⟨p, _, rfl, hK ▸ sqt_le g1, rfl, va, [vb], rfl, gSub_rd (k := .int z) (re.ex e') ha m1 m2 m3 fun H2 r2 e2 => ⟨vb, [], rfl, gSub_rd (k := .int z') r2 (At.mono e2 _ _ hb) m1' m2' m3' fun H3 r3 e3 => ⟨rfl, f _ H3 M r3 (Evl.Ex.trans (hid_ex e') (Evl.Ex.trans e2 e3))⟩⟩⟩
    · exact f.elim
end
end Tw
set_option Elab.async false
set_option linter.all false
set_option maxRecDepth 100000
set_option maxHeartbeats 4000000
/-! Tw12: list(range(..)), index, extend, pop, own lists in a pair's assignment -/
namespace Tw
open PySem PySem.Spec PyProof.Rows L2
section
variable {X : Cx} {c : Cf} {a b e : Expr} {ma mb me : Nv → R D} {p pos p2 pos2 : Pos}
/-! ### list(range(..)) -/
def xRg (ma mb : Nv → R D) : Nv → R D := fun ε => (ma ε).bind fun a => (mb ε).bind fun b => match a, b with
  | .int i, .int j => if rlim i && rlim j && decide ((j - i).toNat ≤ lim) then .ok (.list (rangeD i (j - i).toNat)) else .bad
  | _, _ => .bad
theorem rg_at {K : PySem.W.Frag} {H : Hp} (i : Int) : ∀ l : List Nat, AtL K H (l.map fun (k : Nat) => PyData.int (i + (k : Int))) (l.map fun (k : Nat) => V.int (i + (k : Nat)))
  | [] => rfl
  | k :: r => ⟨_, _, rfl, rfl, rg_at i r⟩
theorem rlim_of {i : Int} (h : rlim i = true) : -(2 ^ 62) ≤ i ∧ i < 2 ^ 62 := by
  unfold rlim at h
  rw [Bool.and_eq_true] at h
  exact ⟨of_decide_eq_true h.1, of_decide_eq_true h.2⟩
theorem rgOk_of {i j : Int} (h : (rlim i && rlim j && decide ((j - i).toNat ≤ lim)) = true) : RgOk i j := by
  rw [Bool.and_eq_true, Bool.and_eq_true] at h
  have h1 := rlim_of h.1.1
  have h2 := rlim_of h.1.2
  have h3 := of_decide_eq_true h.2
  exact ⟨h1.1, h1.2, h2.1, h2.2, Nat.le_trans h3 (by decide)⟩
theorem pe_lr1 (hm : X.mg "list" = none) (hm2 : X.mg "range" = none) (ha : PE X a (rdE c ma)) (hg : Gl X "list" := by rfl) (hg2 : Gl X "range" := by rfl) (hc : X.calm = true := by rfl)
    (na : starEach [Expr.Call (.Name "range" p2) [a] [] pos2] X.env = (false, eval (Expr.Call (.Name "range" p2) [a] [] pos2) X.env) :: starEach [] X.env := by rfl) (nb : starEach [a] X.env = (false, eval a X.env) :: starEach [] X.env := by rfl) :
    PE X (.Call (.Name "list" p) [.Call (.Name "range" p2) [a] [] pos2] [] pos) (rdL c (xRg (xC (.int 0)) ma)) :=
  (pe_listRg hc hg hm (prg_1 hg2 hm2 ha (na := nb)) na).wk fun σ H Q ⟨ε, M, re, d, hm, q⟩ => by
    obtain ⟨x, h1, h2⟩ := R.bind_ok hm
    cases h1
    obtain ⟨y, h3, h4⟩ := R.bind_ok h2
    split at h4
    · rename_i i j hx
      cases hx
      split at h4
      · rename_i hz
        cases h4
        refine ⟨ε, M, re, _, h3, fun v H1 e1 hv => ⟨j, hv, rgOk_of hz, fun r n => q r _ _ (Evl.fresh_back e1 n) (e1.trans (Evl.Ex.new n)) upd_same (.inl ⟨_, _, rfl, rfl, rg_at 0 _⟩)⟩⟩
      · cases h4
    · cases h4
theorem pe_lr2 (hm : X.mg "list" = none) (hm2 : X.mg "range" = none) (ha : PE X a (rdE c ma)) (hb : PE X b (rdE c mb)) (hg : Gl X "list" := by rfl) (hg2 : Gl X "range" := by rfl) (hc : X.calm = true := by rfl)
    (na : starEach [Expr.Call (.Name "range" p2) [a, b] [] pos2] X.env = (false, eval (Expr.Call (.Name "range" p2) [a, b] [] pos2) X.env) :: starEach [] X.env := by rfl) (n1 : starEach [a, b] X.env = (false, eval a X.env) :: starEach [b] X.env := by rfl) (n2 : starEach [b] X.env = (false, eval b X.env) :: starEach [] X.env := by rfl) (n3 : (backTo pos2 (starEach [b] X.env)).any (·.1) = false := by rfl) :
    PE X (.Call (.Name "list" p) [.Call (.Name "range" p2) [a, b] [] pos2] [] pos) (rdL c (xRg ma mb)) :=
  (pe_listRg hc hg hm (prg_2 hg2 hm2 ha hb (na := n1) (nb := n2) (hp := n3)) na).wk fun σ H Q ⟨ε, M, re, d, hm, q⟩ => by
    obtain ⟨x, h1, h2⟩ := R.bind_ok hm
    obtain ⟨y, h3, h4⟩ := R.bind_ok h2
    split at h4
    · rename_i i j
      split at h4
      · rename_i hz
        cases h4
        refine ⟨ε, M, re, _, h1, fun v H1 e1 hv => ⟨ε, M, re.ex e1, _, h3, fun w H2 e2 hw => ⟨i, j, hv, hw, rgOk_of hz, fun r n => q r _ _ (Evl.fresh_back (e1.trans e2) n) ((e1.trans e2).trans (Evl.Ex.new n)) upd_same (.inl ⟨_, _, rfl, rfl, rg_at i _⟩)⟩⟩⟩
      · cases h4
    · cases h4
theorem u65 {n m : Nat} (h : n + 200 < m) : n + 65 < m := by omega
/-! ### l.index(x) -/
def dIdx : D → D → R D
  | .list ds, d => if okd (.list ds) && okd d && SeqAt.shaped (.list ds) && SeqAt.shaped d then (match ds.findIdx? (fun z => PyData.eqv z d) with | some j => .ok (.int (j : Int)) | none => .bad) else .bad
  | _, _ => .bad
theorem pe_idx (hu : X.A.units + 65 < cLine) (h : PE X e (tBM X.K "list" (rIndexD X.K) (rdE c ma) (tCons (rdE c mb) tNil))) (hK : c.K = X.K := by rfl) : PE X e (rdE c (xBin dIdx ma mb)) := h.wk fun σ H Q ⟨ε, M, re, d, hm, q⟩ => by
  obtain ⟨x, h1, h2⟩ := R.bind_ok hm
  obtain ⟨y, h3, h4⟩ := R.bind_ok h2
  unfold dIdx at h4
  split at h4
  · rename_i _ ds
    split at h4
    · rename_i hz
      rw [Bool.and_eq_true, Bool.and_eq_true, Bool.and_eq_true] at hz
      split at h4
      · rename_i j hj
        cases h4
        obtain ⟨hlt, hp, hno⟩ := List.findIdx?_eq_some_iff_getElem.mp hj
        refine ⟨ε, M, re, _, h1, fun v H1 e1 hv => ?_⟩
        have hv' := hv
        obtain ⟨ad, xs, ev, g1, g2⟩ := hv'
        subst ev
        refine ⟨.inl ⟨rfl, xs, hK ▸ sql_le g1⟩, ε, M, re.ex e1, _, h3, fun w H2 e2 hw => ⟨ad, w, y, ds, j, ds[j], rfl, rfl, ?_, ?_, hz.1.2, hz.2, List.getElem?_eq_getElem hlt, hp, fun m z' hm' hz' => ?_, q _ H2 (e1.trans e2) rfl⟩⟩
        · have := At.dp _ _ (okd_iff hz.1.1.1).1 (At.mono (Evl.Ex.trans (hid_ex e2) hid_le) _ _ hv)
          exact hK ▸ this
        · have := At.dp _ _ (okd_iff hz.1.1.2).1 (At.mono hid_le _ _ hw)
          exact hK ▸ this
        · have hl := (List.getElem?_eq_some_iff.mp hz')
          obtain ⟨hl1, hl2⟩ := hl
          have := hno m hm'
          rw [hl2] at this
          simpa using this
      · cases h4
    · cases h4
  · cases h4
end
section
variable {X : Cx} {c : Cf} {s : Stmt} {me : Nv → R D}
/-! ### own.extend(a new list) -/
def sEx (i : Nat) (me : Nv → R D) : Nv → R Fl := fun ε => (me ε).bind fun d => match gt ε i, d with
  | .mu (.list ds), .list es => if ds.length + es.length ≤ lim then .ok (.nx (st ε i (.mu (.list (ds ++ es))))) else .bad
  | _, _ => .bad
theorem ps_ex {i : Nat} (h : PS X s (tDrop (tBM X.K "list" rExtend (tVar i) (tCons (rdL c me) tNil)))) : PS X s (rdS c (sEx i me)) := h.wk fun E σ H ⟨ε, M, re, f⟩ => by
  unfold sEx at f
  cases q : me ε with
  | bad => rw [q] at f; exact f.elim
  | ex x y => rw [q] at f; exact f.elim
  | ok d =>
    rw [q] at f
    simp only [R.bind] at f
    split at f
    · rename_i ds es g
      split at f
      · rename_i hz
        obtain ⟨a, o, h1, h2, h3, h4, h5⟩ := re.mu i _ g
        obtain ⟨vs, eo, hl⟩ := own_list h5
        subst eo
        refine ⟨.ref a, h1, .inl ⟨rfl, vs, SqL.of h4⟩, ε, M, re, _, q, fun p o H' n e' hp ho => ?_⟩
        obtain ⟨ws, eo, hw⟩ := own_list ho
        subst eo
        refine ⟨a, p, vs, ws, rfl, rfl, e' a _ h4, hp, ?_, ?_⟩
        · rw [atL_len hl, atL_len hw]
          exact lim_le hz
        · have hws : AtL c.K (hid M H') es ws := AtL.mono (hid_sub fun b hb => List.mem_cons_of_mem _ hb) _ _ hw
          refine f _ _ M ((re.ex e').upd g h1 (.inl ⟨_, _, rfl, rfl, AtL.app (AtL.mono (hid_ex e') _ _ hl) hws⟩)) ?_
          rw [hid_upd h2]
          exact hid_ex e'
      · exact f.elim
    · exact f.elim
/-! ### x = own.pop() -/
def sPo (i j : Nat) : Nv → R Fl := fun ε => match gt ε j with
  | .mu (.list ds) => match ds.getLast? with
    | some d => if i ≠ j then .ok (.nx (st (st ε j (.mu (.list ds.dropLast))) i (.im d))) else .bad
    | none => .bad
  | _ => .bad
theorem AtL.dropLast {K : PySem.W.Frag} {H : Hp} {ds : List D} {vs : List V} (h : AtL K H ds vs) : AtL K H ds.dropLast vs.dropLast := by
  rw [List.dropLast_eq_take, List.dropLast_eq_take, atL_len h]
  exact AtL.take _ h
theorem ps_po {i j : Nat} (h : PS X s (tAsg (tBM0 X.K "list" rPop (tVar j)) (gName i))) : PS X s (rdS c (sPo i j)) := h.wk fun E σ H ⟨ε, M, re, f⟩ => by
  unfold sPo at f
  split at f
  · rename_i ds g
    split at f
    · rename_i d hd
      split at f
      · obtain ⟨a, o, h1, h2, h3, h4, h5⟩ := re.mu j _ g
        obtain ⟨vs, eo, hl⟩ := own_list h5
        subst eo
        have hd' : ds[ds.length - 1]? = some d := by rw [← List.getLast?_eq_getElem?]; exact hd
        obtain ⟨v, g1, g2⟩ := AtL.get hl hd'
        refine ⟨.ref a, h1, .inl ⟨rfl, vs, SqL.of h4⟩, a, vs, v, rfl, rfl, h4, by rw [atL_len hl]; exact g1, ?_⟩
        have hh : hid M (L2.upd H a (.lst vs.dropLast)) = hid M H := hid_upd h2
        have r1 := re.upd g h1 (o' := .lst vs.dropLast) (d' := .list ds.dropLast) (.inl ⟨_, _, rfl, rfl, AtL.dropLast hl⟩)
        refine f _ _ M (r1.set (by rw [hh]; exact g2)) ?_
        rw [hh]
        exact Evl.Ex.refl _
      · exact f.elim
    · exact f.elim
  · exact f.elim
/-! ### a, b = e, f: one's own new lists among them -/
def rdX (c : Cf) (o : Bool) (m : Nv → R D) : TE := if o then rdL c m else rdE c m
def sv (o : Bool) (d : D) : SV := if o then .mu d else .im d
def sPm (i : Nat) (oi : Bool) (j : Nat) (oj : Bool) (ma mb : Nv → R D) : Nv → R Fl := fun ε => (ma ε).bind fun a => (mb ε).bind fun b => if i ≠ j then .ok (.nx (st (st ε i (sv oi a)) j (sv oj b))) else .bad
theorem pm_core {i j : Nat} {oi oj : Bool} {ma mb : Nv → R D} {σ : L2.St} {H : Hp} {ε : Nv} {M : List Addr} {x y : D} {Q : List V → Hp → Prop} (re : Rel c σ H ε M) (h1 : ma ε = .ok x) (h2 : mb ε = .ok y)
    (q : ∀ v w H2, (∀ H3, Ex H2 H3 → ∃ M3, Rel c ((σ.set i (some v)).set j (some w)) H3 (st (st ε i (sv oi x)) j (sv oj y)) M3 ∧ Ex (hid M H) (hid M3 H3)) → Q [v, w] H2) : tCons (rdX c oi ma) (tCons (rdX c oj mb) tNil) σ H Q := by
  cases oi with
  | false =>
    refine ⟨ε, M, re, x, h1, fun v H1 e1 hv => ?_⟩
    cases oj with
    | false => exact ⟨ε, M, re.ex e1, y, h2, fun w H2 e2 hw => q v w H2 fun H3 e3 => ⟨M, (((re.ex e1).ex e2).ex e3).set (At.mono (hid_ex (e2.trans e3)) _ _ hv) |>.set (At.mono (hid_ex e3) _ _ hw), hid_ex ((e1.trans e2).trans e3)⟩⟩
    | true => exact ⟨ε, M, re.ex e1, y, h2, fun p o H2 n e2 hp ho => q v (.ref p) H2 fun H3 e3 => ⟨p :: M, ((re.ex e1).set hv).setMu n (e2.trans e3) (e3 p _ hp) (ho.mono (hid_ex e3)), Evl.Ex.trans (hid_ex e1) (hid_new (e2.trans e3) n)⟩⟩
  | true =>
    refine ⟨ε, M, re, x, h1, fun p o H1 n e1 hp ho => ?_⟩
    have r1 := re.setMu (i := i) n e1 hp ho
    have r0 := re.add n e1 hp
    cases oj with
    | false => exact ⟨ε, p :: M, r0, y, h2, fun w H2 e2 hw => q (.ref p) w H2 fun H3 e3 => ⟨p :: M, ((r1.ex e2).ex e3).set (At.mono (hid_ex e3) _ _ hw), Evl.Ex.trans (hid_new e1 n) (hid_ex (e2.trans e3))⟩⟩
    | true => exact ⟨ε, p :: M, r0, y, h2, fun p' o' H2 n' e2 hp' ho' => q (.ref p) (.ref p') H2 fun H3 e3 => ⟨p' :: p :: M, r1.setMu n' (e2.trans e3) (e3 p' _ hp') (ho'.mono (hid_ex e3)), Evl.Ex.trans (hid_new e1 n) (hid_new (e2.trans e3) n')⟩⟩
theorem pm_fin {i j : Nat} {oi oj : Bool} {ma mb : Nv → R D} {E : Ends} {σ : L2.St} {H : Hp} (h : rdS c (sPm i oi j oj ma mb) E σ H) : ∃ ε M x y, Rel c σ H ε M ∧ ma ε = .ok x ∧ mb ε = .ok y ∧ i ≠ j ∧ Fin c E (hid M H) (.ok (.nx (st (st ε i (sv oi x)) j (sv oj y)))) := by
  obtain ⟨ε, M, re, f⟩ := h
  unfold sPm at f
  cases q : ma ε with
  | bad => rw [q] at f; exact f.elim
  | ex x y => rw [q] at f; exact f.elim
  | ok x =>
    cases q2 : mb ε with
    | bad => simp only [R.bind, q, q2] at f; exact f.elim
    | ex x y => simp only [R.bind, q, q2] at f; exact f.elim
    | ok y =>
      simp only [R.bind, q, q2] at f
      split at f
      · rename_i hij
        exact ⟨ε, M, x, y, re, q, q2, hij, f⟩
      · exact f.elim
/-- both plain locals -/
theorem ps_pm {i j : Nat} {oi oj : Bool} {ma mb : Nv → R D} {x y : Str} {a b : Expr} {px py pt pos : Pos} {kt k2 pt2} (hc : X.calm = true) (hN : X.N.Nodup) (ha : PE X a (rdX c oi ma)) (hb : PE X b (rdX c oj mb)) (hi : X.N[i]? = some x := by rfl) (hj : X.N[j]? = some y := by rfl) (hij : i ≠ j := by decide)
    (hx : X.env.scope.names.lookup x = some .local := by rfl) (hy : X.env.scope.names.lookup y = some .local := by rfl)
    (hw : swappedStores [.Tuple [.Name x px, .Name y py] kt pt] (.Tuple [a, b] k2 pt2) X.env = pure (some [x, y]) := by rfl) (hs : swapsWithSole [.Tuple [.Name x px, .Name y py] kt pt] (.Tuple [a, b] k2 pt2) pos.line X.env = pure false := by rfl)
    (st1 : starEach [a, b] X.env = (false, eval a X.env) :: starEach [b] X.env := by rfl) (st2 : starEach [b] X.env = (false, eval b X.env) :: starEach [] X.env := by rfl) :
    PS X (.Assign [.Tuple [.Name x px, .Name y py] kt pt] (.Tuple [a, b] k2 pt2) pos) (rdS c (sPm i oi j oj ma mb)) := (ps_par hc hN hi hj hij hx hy (pa_cons ha (pa_cons hb pa_nil st2) st1) hw hs).wk fun E σ H h => by
  obtain ⟨ε, M, x, y, re, h1, h2, _, f⟩ := pm_fin h
  refine pm_core (i := i) (j := j) re h1 h2 fun v w H2 hq => ⟨v, w, rfl, ?_⟩
  obtain ⟨M3, r3, e3⟩ := hq H2 (Evl.Ex.refl _)
  exact f _ H2 M3 r3 e3
/-- by way of the pair -/
theorem ps_pmT {i j : Nat} {oi oj : Bool} {ma mb : Nv → R D} (h : PS X s (tAsg (tTup (tCons (rdX c oi ma) (tCons (rdX c oj mb) tNil))) (gTup X.K 2 (gCons (gName i) (gCons (gName j) gNil))))) : PS X s (rdS c (sPm i oi j oj ma mb)) := h.wk fun E σ H h => by
  obtain ⟨ε, M, x, y, re, h1, h2, _, f⟩ := pm_fin h
  show tCons (rdX c oi ma) (tCons (rdX c oj mb) tNil) σ H fun xs H1 => xs.length ≤ sizeLine ∧ ∀ p, H1 p = none → gTup X.K 2 (gCons (gName i) (gCons (gName j) gNil)) (.ref p) σ (L2.upd H1 p (.tup xs)) E.nx
  refine pm_core (i := i) (j := j) re h1 h2 fun v w H2 hq => ⟨by show 2 ≤ sizeLine; decide, fun p n => ⟨p, [v, w], rfl, SqT.of upd_same, rfl, v, [w], rfl, w, [], rfl, rfl, ?_⟩⟩
  obtain ⟨M3, r3, e3⟩ := hq _ (Evl.Ex.new n)
  exact f _ _ M3 r3 e3
end
end Tw
set_option Elab.async false
set_option linter.all false
set_option maxRecDepth 100000
set_option maxHeartbeats 4000000
/-! Tw13: sorted(set(..)) of tuples of small numbers, all of one length -/
namespace Tw
open PySem PySem.Spec PyProof.Rows L2
/-! ### the code's order -/
theorem code_bd {B : Int} (hB : 0 < B) : ∀ l : List Int, TS.Bd B l → 0 ≤ TS.code B l ∧ TS.code B l < B ^ l.length
  | [], _ => ⟨Int.le_refl _, by show (0 : Int) < B ^ 0; rw [Int.pow_zero]; decide⟩
  | x :: r, h => by
    obtain ⟨a, b⟩ := code_bd hB r fun m hm => h m (List.mem_cons_of_mem _ hm)
    obtain ⟨x0, x1⟩ := h x List.mem_cons_self
    have p : 0 < B ^ r.length := Int.pow_pos hB
    show 0 ≤ x * B ^ r.length + TS.code B r ∧ x * B ^ r.length + TS.code B r < B ^ (r.length + 1)
    have m1 : 0 ≤ x * B ^ r.length := Int.mul_nonneg x0 (Int.le_of_lt p)
    have m2 : (x + 1) * B ^ r.length ≤ B * B ^ r.length := Int.mul_le_mul_of_nonneg_right (by omega) (Int.le_of_lt p)
    rw [Int.add_mul, Int.one_mul] at m2
    rw [Int.pow_succ, Int.mul_comm _ B]
    exact ⟨by omega, by omega⟩
theorem code_inj {B : Int} (hB : 0 < B) : ∀ (l m : List Int), TS.Bd B l → TS.Bd B m → l.length = m.length → TS.code B l = TS.code B m → l = m
  | [], [], _, _, _, _ => rfl
  | [], _ :: _, _, _, h, _ => by simp at h
  | _ :: _, [], _, _, h, _ => by simp at h
  | x :: r, y :: s, hl, hm, hlen, h => by
    have hrs : r.length = s.length := by simpa using hlen
    obtain ⟨a, b⟩ := code_bd hB r fun m hm => hl m (List.mem_cons_of_mem _ hm)
    obtain ⟨a', b'⟩ := code_bd hB s fun m hm' => hm m (List.mem_cons_of_mem _ hm')
    have h' : x * B ^ r.length + TS.code B r = y * B ^ s.length + TS.code B s := h
    rw [← hrs] at h' b'
    have p : 0 < B ^ r.length := Int.pow_pos hB
    have e : x = y := by
      by_cases q : x < y
      · have m2 : (x + 1) * B ^ r.length ≤ y * B ^ r.length := Int.mul_le_mul_of_nonneg_right (by omega) (Int.le_of_lt p)
        rw [Int.add_mul, Int.one_mul] at m2
        omega
      · by_cases q2 : y < x
        · have m2 : (y + 1) * B ^ r.length ≤ x * B ^ r.length := Int.mul_le_mul_of_nonneg_right (by omega) (Int.le_of_lt p)
          rw [Int.add_mul, Int.one_mul] at m2
          omega
        · omega
    subst e
    rw [code_inj hB r s (fun m hm => hl m (List.mem_cons_of_mem _ hm)) (fun m hm' => hm m (List.mem_cons_of_mem _ hm')) hrs (by omega)]
/-- x at its place, once -/
def ins (B : Int) (x : List Int) : List (List Int) → List (List Int)
  | [] => [x]
  | y :: r => if TS.code B x < TS.code B y then x :: y :: r else if TS.code B x = TS.code B y then y :: r else y :: ins B x r
def ssort (B : Int) (l : List (List Int)) : List (List Int) := l.foldr (ins B) []
def okT (B : Int) (d : Nat) (l : List (List Int)) : Bool := l.all fun x => decide (x.length = d) && x.all fun i => decide (0 ≤ i) && decide (i < B)
theorem okT_mem {B : Int} {d : Nat} {l : List (List Int)} (h : okT B d l = true) : ∀ x, x ∈ l → x.length = d ∧ TS.Bd B x := fun x hx => by
  have := List.all_eq_true.mp h x hx
  rw [Bool.and_eq_true] at this
  refine ⟨of_decide_eq_true this.1, fun m hm => ?_⟩
  have q := List.all_eq_true.mp this.2 m hm
  rw [Bool.and_eq_true] at q
  exact ⟨of_decide_eq_true q.1, of_decide_eq_true q.2⟩
theorem ins_mem {B : Int} (hB : 0 < B) {d : Nat} {x : List Int} (hx : x.length = d ∧ TS.Bd B x) : ∀ l : List (List Int), (∀ y, y ∈ l → y.length = d ∧ TS.Bd B y) → ∀ z, z ∈ ins B x l ↔ z = x ∨ z ∈ l
  | [], _, z => by simp [ins]
  | y :: r, h, z => by
    unfold ins
    split
    · simp
    · split
      · rename_i e
        have exy := code_inj hB x y hx.2 (h y List.mem_cons_self).2 (by rw [hx.1, (h y List.mem_cons_self).1]) e
        rw [exy]
        simp
      · rw [List.mem_cons, ins_mem hB hx r (fun w hw => h w (List.mem_cons_of_mem _ hw)) z, List.mem_cons]
        constructor
        · rintro (q | q | q)
          · exact .inr (.inl q)
          · exact .inl q
          · exact .inr (.inr q)
        · rintro (q | q | q)
          · exact .inr (.inl q)
          · exact .inl q
          · exact .inr (.inr q)
theorem ins_srt {B : Int} (hB : 0 < B) {d : Nat} {x : List Int} (hx : x.length = d ∧ TS.Bd B x) : ∀ l : List (List Int), (∀ y, y ∈ l → y.length = d ∧ TS.Bd B y) → l.Pairwise (fun a b => TS.code B a < TS.code B b) → (ins B x l).Pairwise fun a b => TS.code B a < TS.code B b
  | [], _, _ => by
    unfold ins
    exact List.pairwise_singleton _ _
  | y :: r, h, p => by
    have p' := List.pairwise_cons.mp p
    unfold ins
    split
    · rename_i lt
      refine List.pairwise_cons.mpr ⟨fun z hz => ?_, p⟩
      rcases List.mem_cons.mp hz with e | e
      · rw [e]
        exact lt
      · exact Int.lt_trans lt (p'.1 z e)
    · split
      · exact p
      · rename_i n1 n2
        refine List.pairwise_cons.mpr ⟨fun z hz => ?_, ins_srt hB hx r (fun w hw => h w (List.mem_cons_of_mem _ hw)) p'.2⟩
        rcases (ins_mem hB hx r (fun w hw => h w (List.mem_cons_of_mem _ hw)) z).mp hz with e | e
        · rw [e]
          omega
        · exact p'.1 z e
theorem ssort_ok {B : Int} (hB : 0 < B) {d : Nat} : ∀ l : List (List Int), (∀ y, y ∈ l → y.length = d ∧ TS.Bd B y) → (∀ z, z ∈ ssort B l ↔ z ∈ l) ∧ (ssort B l).Pairwise fun a b => TS.code B a < TS.code B b
  | [], _ => ⟨fun _ => Iff.rfl, List.Pairwise.nil⟩
  | x :: r, h => by
    obtain ⟨a, b⟩ := ssort_ok hB r fun y hy => h y (List.mem_cons_of_mem _ hy)
    have h' : ∀ y, y ∈ ssort B r → y.length = d ∧ TS.Bd B y := fun y hy => h y (List.mem_cons_of_mem _ ((a y).mp hy))
    have hx := h x List.mem_cons_self
    refine ⟨fun z => ?_, ins_srt hB hx _ h' b⟩
    show z ∈ ins B x (ssort B r) ↔ _
    rw [ins_mem hB hx _ h' z, a z, List.mem_cons]
/-- there is one such list -/
theorem ssort_uni {B : Int} (hB : 0 < B) {d : Nat} {l m : List (List Int)} (h : ∀ y, y ∈ l → y.length = d ∧ TS.Bd B y) (hm : ∀ z, z ∈ m ↔ z ∈ l) (nd : m.Nodup) (p : m.Pairwise fun a b => TS.code B a ≤ TS.code B b) : m = ssort B l := by
  obtain ⟨a, b⟩ := ssort_ok hB l h
  have nd2 : (ssort B l).Nodup := b.imp fun hlt e => by
    rw [e] at hlt
    exact Int.lt_irrefl _ hlt
  have perm : m.Perm (ssort B l) := (List.perm_ext_iff_of_nodup nd nd2).mpr fun z => by rw [hm z, a z]
  refine perm.eq_of_pairwise (le := fun a b => TS.code B a ≤ TS.code B b) (fun x y hx hy h1 h2 => ?_) p (b.imp fun hlt => Int.le_of_lt hlt)
  have hx' := h x ((hm x).mp hx)
  have hy' := h y ((a y).mp hy)
  exact code_inj hB x y hx'.2 hy'.2 (by rw [hx'.1, hy'.1]) (by omega)
/-! ### the mirror -/
def tupsOf : List D → Option (List (List Int))
  | [] => some []
  | .tuple ds :: r => match intsOf ds, tupsOf r with
    | some l, some ls => some (l :: ls)
    | _, _ => none
  | _ :: _ => none
def tupD (l : List Int) : D := .tuple (l.map PyData.int)
theorem tupsOf_some : ∀ {ds : List D} {ls : List (List Int)}, tupsOf ds = some ls → ds = ls.map tupD
  | [], ls, h => by cases h; rfl
  | .tuple es :: r, ls, h => by
    unfold tupsOf at h
    split at h
    · rename_i l ls' h1 h2
      cases h
      rw [intsOf_some h1, tupsOf_some h2]
      rfl
    · cases h
  | .none :: _, _, h => by cases h
  | .bool _ :: _, _, h => by cases h
  | .int _ :: _, _, h => by cases h
  | .str _ :: _, _, h => by cases h
  | .list _ :: _, _, h => by cases h
  | .dict _ :: _, _, h => by cases h
theorem tupsOf_map : ∀ ls : List (List Int), tupsOf (ls.map tupD) = some ls
  | [] => rfl
  | l :: r => by
    show (match intsOf (l.map PyData.int), tupsOf (r.map tupD) with | some l, some ls => some (l :: ls) | _, _ => none) = _
    rw [intsOf_map, tupsOf_map r]
def dSS : D → R D
  | .list ds => match tupsOf ds with
    | some (l :: ls) => if decide (1 ≤ l.length) && decide ((l :: ls).length < 64) && okT 1000 l.length (l :: ls) then .ok (.list ((ssort 1000 (l :: ls)).map tupD)) else .bad
    | _ => .bad
  | _ => .bad
section
variable {X : Cx} {c : Cf} {e : Expr} {me : Nv → R D} {p p2 pos pos2 : Pos}
theorem tups_at {K : PySem.W.Frag} {H : Hp} : ∀ {ls : List (List Int)} {vs : List V}, AtL K H (ls.map tupD) vs → ∃ ks : List (Addr × List Int), ks.map (·.2) = ls ∧ vs = ks.map (fun p => V.ref p.1) ∧ ∀ p ∈ ks, SqT K H p.1 (p.2.map V.int)
  | [], vs, h => ⟨[], rfl, h, fun _ h => by cases h⟩
  | l :: r, vs, ⟨v, ws, ev, ⟨a, xs, e1, s1, a1⟩, h2⟩ => by
    obtain ⟨ks, k1, k2, k3⟩ := tups_at h2
    have e2 := AtL.ints a1
    subst e1 e2
    refine ⟨(a, l) :: ks, by rw [List.map_cons, k1], by rw [ev, k2]; rfl, fun q hq => ?_⟩
    rcases List.mem_cons.mp hq with rfl | hq
    · exact s1
    · exact k3 q hq
theorem at_tups {K : PySem.W.Frag} {H : Hp} : ∀ (ks : List (Addr × List Int)), (∀ p ∈ ks, SqT K H p.1 (p.2.map V.int)) → AtL K H ((ks.map (·.2)).map tupD) (ks.map fun p => V.ref p.1)
  | [], _ => rfl
  | q :: r, h => by
    have intsA : ∀ l : List Int, AtL K H (l.map PyData.int) (l.map V.int) := fun l => by
      induction l with
      | nil => rfl
      | cons i s ih => exact ⟨_, _, rfl, rfl, ih⟩
    exact ⟨_, _, rfl, ⟨q.1, _, rfl, h q List.mem_cons_self, intsA q.2⟩, at_tups r fun p hp => h p (List.mem_cons_of_mem _ hp)⟩
theorem u64 {n m : Nat} (h : n + 200 < m) : n + 64 < m := by omega
theorem pe_ss (hu : X.A.units + 200 < cLine) (h : PE X e (tCB (rSortedT X.K X.prog X.w) (tCons (tCB (rSetOfT X.K X.prog X.w) (tCons (rdE c me) tNil)) tNil))) (hK : c.K = X.K := by rfl) : PE X e (rdL c (xUn dSS me)) := h.wk fun σ H Q ⟨ε, M, re, d, hm, q⟩ => by
  obtain ⟨x, h1, h2⟩ := R.bind_ok hm
  unfold dSS at h2
  split at h2
  · rename_i ds
    split at h2
    · rename_i l ls ht
      split at h2
      · rename_i hz
        cases h2
        rw [Bool.and_eq_true, Bool.and_eq_true] at hz
        have hd := of_decide_eq_true hz.1.1
        have hf := of_decide_eq_true hz.1.2
        have hok := okT_mem hz.2
        refine ⟨ε, M, re, _, h1, fun v H1 e1 hv => ?_⟩
        obtain ⟨a, xs, ev, g1, g2⟩ := hv
        rw [tupsOf_some ht] at g2
        obtain ⟨ks, k1, k2, k3⟩ := tups_at g2
        subst k2
        refine ⟨a, ks, by rw [ev], hK ▸ sql_le g1, fun p hp => hK ▸ sqt_le (k3 p hp), by rw [← k1, List.length_map] at hf; exact hf, fun b L nb sub all => ?_⟩
        have eL : Ex H1 (L2.upd H1 b (SetTO X.prog X.w b L)) := Evl.Ex.new nb
        have mem : ∀ z, z ∈ L.map (·.2) ↔ z ∈ l :: ls := fun z => by
          rw [← k1]
          constructor
          · intro hz
            obtain ⟨q, hq, rfl⟩ := List.mem_map.mp hz
            exact List.mem_map_of_mem (sub q hq)
          · intro hz
            obtain ⟨q, hq, rfl⟩ := List.mem_map.mp hz
            exact all q hq
        refine ⟨b, L, l.length, 1000, rfl, upd_same, fun p hp => hK ▸ Evl.ex_t eL (sqt_le (k3 p (sub p hp))), hd, fun p hp => hok p.2 ((mem p.2).mp (List.mem_map_of_mem hp)), fun L' r pm nd few pw nr => ?_⟩
        have eR := eL.trans (Evl.Ex.new (o := .lst (L'.map fun q => V.ref q.1)) nr)
        have e2 : L'.map (·.2) = ssort 1000 (l :: ls) := ssort_uni (by decide) hok (fun z => by rw [← mem z, (pm.map (·.2)).mem_iff]) nd (List.pairwise_map.mpr pw)
        have mM : r ∉ M := Trk.no (Trk.ex re.trk (e1.trans eL)) nr
        refine q r (.lst (L'.map fun q => V.ref q.1)) _ (Evl.fresh_back (e1.trans eL) nr) (e1.trans eR) upd_same (.inl ⟨_, _, rfl, rfl, ?_⟩)
        rw [← e2]
        refine at_tups L' fun p hp => ?_
        have hp' := k3 p (sub p (pm.mem_iff.mp hp))
        exact Evl.ex_t (Evl.Ex.trans (hid_ex eL) (hid_new (Evl.Ex.new nr) nr)) hp'
      · cases h2
    · cases h2
  · cases h2
end
end Tw
set_option Elab.async false
set_option linter.all false
set_option maxRecDepth 100000
set_option maxHeartbeats 4000000
/-! Tw14: sorted of ints and of lists of ints, by a sort that evaluates -/
namespace Tw
open PySem PySem.Spec PyProof.Rows L2
section
variable {α : Type} (le : α → α → Bool)
def inB (a : α) : List α → List α
  | [] => [a]
  | b :: r => if le a b then a :: b :: r else b :: inB a r
def isrt (l : List α) : List α := l.foldr (inB le) []
theorem inB_mid (a : α) : ∀ (l m : List α), (∀ b, b ∈ l → (!le a b) = true) → (∀ b, b ∈ m → le a b = true) → inB le a (l ++ m) = l ++ a :: m
  | [], [], _, _ => rfl
  | [], b :: r, _, h => by
    show (if le a b then a :: b :: r else b :: inB le a r) = a :: b :: r
    rw [if_pos (h b List.mem_cons_self)]
  | c :: l, m, h, h2 => by
    have hc : le a c = false := by
      have := h c List.mem_cons_self
      simpa using this
    show (if le a c then a :: c :: (l ++ m) else c :: inB le a (l ++ m)) = c :: (l ++ a :: m)
    rw [hc, if_neg Bool.false_ne_true, inB_mid a l m (fun b hb => h b (List.mem_cons_of_mem _ hb)) h2]
theorem isrt_eq (trans : ∀ (a b c : α), le a b = true → le b c = true → le a c = true) (total : ∀ (a b : α), (le a b || le b a) = true) : ∀ l : List α, l.mergeSort le = isrt le l
  | [] => by rw [List.mergeSort_nil]; rfl
  | a :: l => by
    obtain ⟨l1, l2, h1, h2, h3⟩ := List.mergeSort_cons (le := le) (fun a b c x y => trans a b c x y) total a l
    have p := List.pairwise_mergeSort (le := le) (fun a b c x y => trans a b c x y) total (a :: l)
    rw [h1] at p
    have p2 := (List.pairwise_append.mp p).2.1
    have p3 := (List.pairwise_cons.mp p2).1
    rw [h1]
    show _ = inB le a (isrt le l)
    rw [← isrt_eq trans total l, h2, inB_mid le a l1 l2 (fun b hb => h3 b hb) fun b hb => p3 b hb]
end
def leI (a b : Int) : Bool := decide (a ≤ b)
def leR (a b : List Int) : Bool := decide (a ≤ b)
def rowD' (l : List Int) : D := .list (l.map PyData.int)
def rowsOf : List D → Option (List (List Int))
  | [] => some []
  | .list ds :: r => match intsOf ds, rowsOf r with
    | some l, some ls => some (l :: ls)
    | _, _ => none
  | _ :: _ => none
theorem rowsOf_some : ∀ {ds : List D} {ls : List (List Int)}, rowsOf ds = some ls → ds = ls.map rowD'
  | [], ls, h => by cases h; rfl
  | .list es :: r, ls, h => by
    unfold rowsOf at h
    split at h
    · rename_i l ls' h1 h2
      cases h
      rw [intsOf_some h1, rowsOf_some h2]
      rfl
    · cases h
  | .none :: _, _, h => by cases h
  | .bool _ :: _, _, h => by cases h
  | .int _ :: _, _, h => by cases h
  | .str _ :: _, _, h => by cases h
  | .tuple _ :: _, _, h => by cases h
  | .dict _ :: _, _, h => by cases h
theorem rowsOf_map : ∀ ls : List (List Int), rowsOf (ls.map rowD') = some ls
  | [] => rfl
  | l :: r => by
    show (match intsOf (l.map PyData.int), rowsOf (r.map rowD') with | some l, some ls => some (l :: ls) | _, _ => none) = _
    rw [intsOf_map, rowsOf_map r]
theorem leI_ok : (∀ a b c : Int, leI a b = true → leI b c = true → leI a c = true) ∧ ∀ a b : Int, (leI a b || leI b a) = true := by
  unfold leI
  refine ⟨fun a b c h1 h2 => ?_, fun a b => ?_⟩
  · have := of_decide_eq_true h1
    have := of_decide_eq_true h2
    exact decide_eq_true (by omega)
  · rcases Int.le_total a b with h | h
    · rw [decide_eq_true h]
      rfl
    · rw [decide_eq_true h, Bool.or_true]
theorem leR_ok : (∀ a b c : List Int, leR a b = true → leR b c = true → leR a c = true) ∧ ∀ a b : List Int, (leR a b || leR b a) = true := by
  unfold leR
  refine ⟨fun a b c h1 h2 => decide_eq_true (List.le_trans (of_decide_eq_true h1) (of_decide_eq_true h2)), fun a b => ?_⟩
  rcases List.le_total a b with h | h
  · rw [decide_eq_true h]
    rfl
  · rw [decide_eq_true h, Bool.or_true]
theorem ms_ints (l : List Int) : (l.map PyData.int).mergeSort (PySem.W.dataLe false id) = (isrt leI l).map PyData.int := by
  rw [← isrt_eq leI leI_ok.1 leI_ok.2, List.map_mergeSort (r := leI)]
  intro a _ b _
  have := PySem.W.dataLe_int (β := Int) id
  exact (congrFun (congrFun this a) b).symm
theorem ms_rows (l : List (List Int)) : (l.map rowD').mergeSort (PySem.W.dataLe false id) = (isrt leR l).map rowD' := by
  rw [← isrt_eq leR leR_ok.1 leR_ok.2, List.map_mergeSort (r := leR)]
  intro a _ b _
  have := PySem.W.dataLe_rows (β := List Int) id
  exact (congrFun (congrFun this a) b).symm
def srtD (ds : List D) : List D := isrt (PySem.W.dataLe false id) ds
theorem srtD_eq (ds : List D) : srtD ds = ds.mergeSort (PySem.W.dataLe false id) := by
  have T : PySem.W.TotalLe (PySem.W.dataLe (β := D) false id) := PySem.W.sortLe_total _ false _
  exact (isrt_eq (PySem.W.dataLe false id) T.trans (fun a b => by rw [Bool.or_eq_true]; exact T.total a b) ds).symm
theorem srtD_ints (l : List Int) : srtD (l.map PyData.int) = (isrt leI l).map PyData.int := (srtD_eq _).trans (ms_ints l)
theorem srtD_rows (l : List (List Int)) : srtD (l.map rowD') = (isrt leR l).map rowD' := (srtD_eq _).trans (ms_rows l)
def kSort : List D → R D
  | [.list ds] => if okd (.list ds) && sortB ds && decide (ds.length ≤ lim) then .ok (.list (srtD ds)) else .bad
  | _ => .bad
theorem kSort_eq : kSort = kSorted := by
  funext l
  unfold kSort kSorted
  split
  · rw [srtD_eq]
  · rename_i h
    first
      | rfl
      | (split
         · exact absurd rfl (h _)
         · rfl)
theorem k_sort {X : Cx} (hu : X.A.units + 200 < cLine) : CallR X (.builtin "sorted") (rnL X.K kSort) := by
  rw [kSort_eq]
  exact k_sorted hu
end Tw
set_option Elab.async false
set_option linter.all false
set_option maxRecDepth 100000
set_option maxHeartbeats 4000000
/-! Tw15: zip of a tuple with a list -/
namespace Tw
open PySem PySem.Spec PyProof.Rows L2
def ItzM (K : PySem.W.Frag) (a b : Addr) : It :=
  ⟨fun i H => ∃ (us ws : List V) (x y : V), SqT K H a us ∧ SqL K H b ws ∧ us[i]? = some x ∧ ws[i]? = some y,
    fun i H v H' => ∃ q x y, v = .ref q ∧ H q = none ∧ H' = L2.upd H q (.tup [x, y]) ∧ (∀ us, SqT K H a us → us[i]? = some x) ∧ ∀ ws, SqL K H b ws → ws[i]? = some y,
    fun i H => ∃ us ws : List V, SqT K H a us ∧ SqL K H b ws ∧ i = min us.length ws.length⟩
theorem sub4 {z t1 t2 i1 i2 c : Addr} (h : c ∈ [z, t2, i1, i2]) : c ∈ [z, t1, t2, i1, i2] := by
  simp only [List.mem_cons, List.not_mem_nil, or_false] at h ⊢
  rcases h with h | h | h | h
  · exact .inl h
  · exact .inr (.inr (.inl h))
  · exact .inr (.inr (.inr (.inl h)))
  · exact .inr (.inr (.inr (.inr h)))
theorem turn_zM {P : Program} {w : World} {K : PySem.W.Frag} {elts : List Expr} {kk : Nat} {tpos : Pos} {a b z t1 t2 i1 i2 : Addr} (S : ZipSep2 z t1 t2 i1 i2 [i1, a] [i2, b]) (na : a ≠ i1) (nb : b ≠ i2) :
    Turn P w K (.Tuple elts kk tpos) (ItzM K a b) [z, t1, t2, i1, i2] z (fun i h => IsZip h z t1 t2 .none ∧ IsTupOf2 h t1 (.ref i1) (.ref i2) ∧ (∃ x y, IsTupOf2 h t2 x y) ∧ h.IsTupleIter i1 a i ∧ h.IsListIter i2 b i) where
  mem := List.mem_cons_self
  obj := fun i h st c hc => by
    obtain ⟨g0, g1, ⟨x, y, g2⟩, ⟨o1, e1, _, d1⟩, ⟨o2, e2, _, d2⟩⟩ := st
    simp only [List.mem_cons, List.not_mem_nil, or_false] at hc
    rcases hc with rfl | rfl | rfl | rfl | rfl
    · exact ⟨_, g0, fun v q => nomatch q⟩
    · exact ⟨_, g1, fun v q => nomatch q⟩
    · exact ⟨_, g2, fun v q => nomatch q⟩
    · refine ⟨o1, e1, fun v q => ?_⟩
      rw [d1] at q
      cases q
    · refine ⟨o2, e2, fun v q => ?_⟩
      rw [d2] at q
      cases q
  keep := fun i h h' st k => by
    obtain ⟨g0, g1, ⟨x, y, g2⟩, g3, g4⟩ := st
    refine ⟨k z (by simp) _ g0, k t1 (by simp) _ g1, ⟨x, y, k t2 (by simp) _ g2⟩, g3.at fun o q => k i1 (by simp) o q, g4.at fun o q => k i2 (by simp) o q⟩
  item := by
    intro X e1 e2 e3 hc i pins s σ H E I hf st hg
    subst e1 e2 e3
    obtain ⟨g0, g1, ⟨x0, y0, g2⟩, g3, g4⟩ := st
    obtain ⟨us, ws, x, y, qa, qb, hx, hy⟩ := hg
    obtain ⟨is, rv, p, _⟩ := I.tuple qa
    obtain ⟨js, rw', p', _⟩ := I.list qb
    obtain ⟨u, hu, ru⟩ := rv.get hx
    obtain ⟨v, hv, rv2⟩ := rw'.get hy
    have hh : X.A.in1.handled = none := I.ok.hd hc
    have W := WalksT.zipD2 (prog := X.prog) (w := X.w) (A := X.A) S (Draws.tuple hh i1 a na is.toArray) (Draws.list hh i2 b nb js.toArray)
    have hi : i < min is.toArray.size js.toArray.size := by
      have h1 := (List.getElem?_eq_some_iff.mp hu).1
      have h2 := (List.getElem?_eq_some_iff.mp hv).1
      rw [List.size_toArray, List.size_toArray]
      omega
    refine W.item i s _ _ hi ⟨g0, g1, ⟨x0, y0, g2⟩, ⟨g3, p⟩, g4, p'.isList⟩ fun q vals h1 tk hP hq hT mid hk => ⟨_, rfl, W.go elts kk tpos i q _ _ _ mid fun h2 st2 hk2 => ?_⟩
    obtain ⟨x1, x2, a1, a2, rfl⟩ := hP
    have b1 : x1 = u := by
      rw [List.getElem?_toArray, hu] at a1
      exact (Option.some.inj a1).symm
    have b2 : x2 = v := by
      rw [List.getElem?_toArray, hv] at a2
      exact (Option.some.inj a2).symm
    subst b1 b2
    have hT2 : h2.IsTuple q [x1, x2].toArray := hT.at fun o e => hk2 q o (W.apart i q _ mid) e
    have nq : H q = none := I.hok.fresh hq
    have I1 : Inv X pins σ (L2.upd H q (.tup [x, y])) { s with heap := h2, toks := tk } :=
      I.turnedNew (t' := tk) (ch := [z, t1, t2, i1, i2]) (fun c o hb e => hk2 c o (fun m => hb (sub4 m)) (hk c o (fun m => hb (sub4 m)) e)) hf hq ⟨by show 2 ≤ sizeLine; decide, [x1, x2], .cons ru (.cons rv2 .nil), hT2⟩
    obtain ⟨k0, k1, k2, ⟨k3, _⟩, k4, _⟩ := st2
    refine ⟨.ref q, _, I1, rfl, ⟨q, x, y, rfl, nq, rfl, fun l hl => by rw [I.tuple_inj hl qa]; exact hx, fun l hl => by rw [I.list_inj hl qb]; exact hy⟩, ⟨k0, k1, k2, k3, k4⟩, fun c hc => ?_⟩
    have ex : ∃ o, s.heap.get? c = some o := by
      simp only [List.mem_cons, List.not_mem_nil, or_false] at hc
      obtain ⟨o1, e1, _⟩ := g3
      obtain ⟨o2, e2, _⟩ := g4
      rcases hc with rfl | rfl | rfl | rfl | rfl
      · exact ⟨_, g0⟩
      · exact ⟨_, g1⟩
      · exact ⟨_, g2⟩
      · exact ⟨o1, e1⟩
      · exact ⟨o2, e2⟩
    have ne : c ≠ q := fun e => by
      obtain ⟨o, ho⟩ := ex
      rw [e] at ho
      exact absurd (Heap.lt_size ho) (Nat.not_lt.mpr hq)
    rw [upd_ne ne]
    exact (hf c hc).1
  done := by
    intro X e1 e2 e3 hc i pins s σ H E I hf st hg
    subst e1 e2 e3
    obtain ⟨g0, g1, ⟨x0, y0, g2⟩, g3, g4⟩ := st
    obtain ⟨us, ws, qa, qb, hi⟩ := hg
    obtain ⟨is, rv, p, _⟩ := I.tuple qa
    obtain ⟨js, rw', p', _⟩ := I.list qb
    have hh : X.A.in1.handled = none := I.ok.hd hc
    have W := WalksT.zipD2 (prog := X.prog) (w := X.w) (A := X.A) S (Draws.tuple hh i1 a na is.toArray) (Draws.list hh i2 b nb js.toArray)
    have hi2 : i = min is.toArray.size js.toArray.size := by
      rw [List.size_toArray, List.size_toArray, ← rv.length, ← rw'.length, hi]
    refine W.done s _ _ (by rw [← hi2]; exact ⟨g0, g1, ⟨x0, y0, g2⟩, ⟨g3, p⟩, g4, p'.isList⟩) fun h1 tk hk => ⟨rfl, I.turnedL (t' := tk) (ch := [z, t1, t2, i1, i2]) (fun c o hb e => hk c o (fun m => hb (sub4 m)) e) hf⟩
  self := fun A i s Q E st h => wpAny_pyIter_zip st.1 h
theorem wk_zM {K : PySem.W.Frag} {B : Hp} {a b : Addr} {vs ws : List V} {ds es : List D} (h : SqT K B a vs) (hd : AtL K B ds vs) (h' : SqL K B b ws) (hd' : AtL K B es ws) : Wk K B (ItzM K a b) (zipG ds es) := fun i H e => by
  have g1 : SqT K H a vs := Evl.ex_t e h
  have g2 : SqL K H b ws := Evl.ex_l e h'
  have n := atL_len hd
  have n' := atL_len hd'
  have l := zipG_len ds es
  refine ⟨fun hi => ⟨vs, ws, vs[i]'(by omega), ws[i]'(by omega), g1, g2, List.getElem?_eq_getElem (by omega), List.getElem?_eq_getElem (by omega)⟩, fun hi => ⟨vs, ws, g1, g2, by omega⟩, fun x H' ⟨t, y, z, e1, nt, e2, q, q'⟩ => ?_⟩
  subst e1 e2
  refine ⟨Evl.Ex.new nt, fun d hi M' tk e2 => ?_⟩
  obtain ⟨f, g, k1, k2, k3⟩ := zipG_get ds es i d hi
  subst k3
  obtain ⟨v, h1, h2⟩ := AtL.get hd k1
  obtain ⟨w, h3, h4⟩ := AtL.get hd' k2
  have u1 : v = y := Option.some.inj (h1.symm.trans (q vs g1))
  have u2 : w = z := Option.some.inj (h3.symm.trans (q' ws g2))
  subst u1 u2
  have e3 := Evl.Ex.trans e2 (hid_ex (Evl.Ex.new (o := .tup [v, w]) nt))
  exact ⟨t, _, rfl, SqT.of (hid_of upd_same (tk.no nt)), _, _, rfl, At.mono e3 f v h2, _, _, rfl, At.mono e3 g w h4, rfl⟩
/-! ### the walk -/
def iZipM (K : PySem.W.Frag) (ta : TA) : TI := fun σ H R => ta σ H fun vs H1 => ∃ a b us ws, vs = [.ref a, .ref b] ∧ SqT K H1 a us ∧ SqL K H1 b ws ∧ R (ItzM K a b) H1
theorem pi_zM {X : Cx} {e e2 : Expr} {ta : TA} {p pos tpos : Pos} {elts : List Expr} {kk : Nat} (hm : X.mg "zip" = none) (ha : PA X [e, e2] ta) (hg : Gl X "zip") (hs : starEach [e, e2] X.env = (false, eval e X.env) :: starEach [e2] X.env) (hpl : (backTo pos (starEach [e2] X.env)).any (·.1) = false) :
    PI X (.Tuple elts kk tpos) (.Call (.Name "zip" p) [e, e2] [] pos) (iZipM X.K ta) := by
  constructor
  intro pins s σ H R I h
  refine Call_ (ld_blt I hg hm PyProof.Rows.boot_zip ?_)
  refine PyProof.Rows.callWith_type1 (thn (ha.run pos pins s σ H _ I h) fun xs s1 ⟨vs, H1, I1, r1, a, b, us, ws, ev, qa, qb, q⟩ => ?_) hs hpl
  subst ev
  obtain ⟨y1, y2, rfl, ra, rb⟩ : ∃ y1 y2, xs = [y1, y2] ∧ L2.RelV (V.ref a) y1 ∧ L2.RelV (V.ref b) y2 := by
    cases r1 with
    | cons f g =>
      cases g with
      | cons f' g' =>
        cases g'
        exact ⟨_, _, rfl, f, f'⟩
  obtain rfl : y1 = Value.ref a := ra
  obtain rfl : y2 = Value.ref b := rb
  obtain ⟨is, _, p1, _⟩ := I1.tuple qa
  obtain ⟨js, _, p2, _⟩ := I1.list qb
  obtain ⟨o1, ho1, _⟩ := id p1
  have la : a < s1.heap.objs.size := Heap.lt_size ho1
  have lb : b < s1.heap.objs.size := p2.lt
  refine zip_begins2 (begins_tuple a is.toArray) (begins_list b js.toArray) p1 p2.isList fun h1 g0 g1 g2 g3 g4 hsz hk => wpAny_pyIter_zip g0 ?_
  have I2 : L2.Inv X pins σ H1 { s1 with heap := h1 } := I1.kept (t' := s1.toks) hk
  have fresh : ∀ c, c ∈ [s1.heap.objs.size + 4, s1.heap.objs.size + 2, s1.heap.objs.size + 3, s1.heap.objs.size, s1.heap.objs.size + 1] → FpOk X pins H1 c := fun c hc => by
    have le : s1.heap.objs.size ≤ c := by
      simp only [List.mem_cons, List.not_mem_nil, or_false] at hc
      rcases hc with rfl | rfl | rfl | rfl | rfl
      · exact Nat.le_add_right _ _
      · exact Nat.le_add_right _ _
      · exact Nat.le_add_right _ _
      · exact Nat.le_refl _
      · exact Nat.le_add_right _ _
    exact I1.fpOk le (I1.hok.fresh le)
  have one : ∀ {x : Addr} {c : Addr}, x < s1.heap.objs.size → c ∈ [x] → c < s1.heap.objs.size := fun hx hc => by
    rw [List.mem_singleton] at hc
    rw [hc]
    exact hx
  exact ⟨s1.heap.objs.size + 4, _, _, _, H1, rfl, I2, turn_zM (zip_sep2 (fun c hc => one la hc) fun c hc => one lb hc) (Nat.ne_of_lt la) (Nat.ne_of_lt (Nat.lt_succ_of_lt lb)), ⟨g0, g1, ⟨_, _, g2⟩, ⟨_, g3, rfl, rfl⟩, ⟨_, g4, rfl, rfl⟩⟩, fresh, q⟩
def iZm (m : Nv → R (List D)) : Nv → R (List D) := fun ε => (m ε).bind fun ds => match ds with
  | [.tuple xs, .list ys] => .ok (zipG xs ys)
  | _ => .bad
theorem pi_zm {X : Cx} {c : Cf} {ms : Nv → R (List D)} {p pos tpos : Pos} {e e2 : Expr} {elts : List Expr} {kk : Nat} (hm : X.mg "zip" = none) (ha : PA X [e, e2] (rdA c ms)) (hg : Gl X "zip" := by rfl) (hs : starEach [e, e2] X.env = (false, eval e X.env) :: starEach [e2] X.env := by rfl) (hpl : (backTo pos (starEach [e2] X.env)).any (·.1) = false := by rfl) (hK : c.K = X.K := by rfl) :
    PI X (.Tuple elts kk tpos) (.Call (.Name "zip" p) [e, e2] [] pos) (rdI c (iZm ms)) := (pi_zM hm ha hg hs hpl).wk fun σ H Q ⟨ε, M, re, ds, hm, q⟩ => by
    obtain ⟨as, h1, h2⟩ := R.bind_ok hm
    refine ⟨ε, M, re, as, h1, fun vs H1 e1 hv => ?_⟩
    split at h2
    · cases h2
      obtain ⟨v, w, ev, ⟨a, xs, e2, g1, g2⟩, ⟨b, ys, e3, g3, g4⟩⟩ := at_two hv
      exact ⟨a, b, xs, ys, by rw [ev, e2, e3], hK ▸ sqt_le g1, hK ▸ sql_le g3, q _ H1 e1 (hK ▸ wk_zM g1 g2 g3 g4)⟩
    · cases h2
end Tw
set_option Elab.async false
set_option linter.all false
set_option maxRecDepth 100000
set_option maxHeartbeats 4000000
set_option exponentiation.threshold 1000000
/-! Pl1: the programs over data, in plain Lean -/
namespace Tw
open PySem
/-! ### environments -/
theorem gt_z {s : SV} {r : Nv} : gt (s :: r) 0 = s := rfl
theorem gt_s {s : SV} {r : Nv} {i : Nat} : gt (s :: r) (i + 1) = gt r i := rfl
theorem st_z {s x : SV} {r : Nv} : st (s :: r) 0 x = x :: r := rfl
theorem st_s {s x : SV} {r : Nv} {i : Nat} : st (s :: r) (i + 1) x = s :: st r i x := rfl
theorem bind_ok {α β : Type} {a : α} {f : α → R β} : (R.ok a).bind f = f a := rfl
/-! ### small facts of data -/
theorem okd_int (i : Int) : okd (.int i) = true := rfl
theorem okd_bool (b : Bool) : okd (.bool b) = true := rfl
theorem okd_none : okd (.none) = true := rfl
theorem okd_str (x : Str) : okd (.str x) = true := rfl
theorem plain_ints : ∀ l : List Int, PyData.plainAll (l.map PyData.int) = true
  | [] => rfl
  | _ :: r => by
    show (true && PyData.plainAll (r.map PyData.int)) = true
    rw [plain_ints r]
    rfl
theorem okd_of {d : D} (h1 : d.plain = true) (h2 : d.depth ≤ 60) : okd d = true := by
  unfold okd
  rw [h1, decide_eq_true h2]
  rfl
theorem okd_ints (l : List Int) : okd (.list (l.map PyData.int)) = true := okd_of (by simp only [PyData.plain]; exact plain_ints l) (by simp only [PyData.depth, PySem.W.depth_ints]; decide)
theorem eqv_int (i j : Int) : PyData.eqv (.int i) (.int j) = decide (i = j) := by
  rw [PyData.eqv, Bool.beq_eq_decide_eq]
theorem eqv_str (x y : Str) : PyData.eqv (.str x) (.str y) = decide (x = y) := by
  rw [PyData.eqv]
  by_cases h : x = y
  · subst h
    simp
  · rw [decide_eq_false h]
    exact beq_eq_false_iff_ne.mpr h
theorem dEq_int (i j : Int) : dEq (.int i) (.int j) = .ok (.bool (decide (i = j))) := by
  unfold dEq
  rw [okd_int, okd_int, eqv_int]
  rfl
theorem dNe_int (i j : Int) : dNe (.int i) (.int j) = .ok (.bool (!decide (i = j))) := by
  unfold dNe
  rw [okd_int, okd_int, eqv_int]
  rfl
theorem dNe_str (i j : Str) : dNe (.str i) (.str j) = .ok (.bool (!decide (i = j))) := by
  unfold dNe
  rw [okd_str, okd_str, eqv_str]
  rfl
theorem dNe_same {d : D} (h : okd d = true) : dNe d d = .ok (.bool false) := by
  unfold dNe
  rw [h, SeqAt.eqv_refl_plain d (okd_iff h).1]
  rfl
theorem dEq_same {d : D} (h : okd d = true) : dEq d d = .ok (.bool true) := by
  unfold dEq
  rw [h, SeqAt.eqv_refl_plain d (okd_iff h).1]
  rfl
/-! ### loops -/
/-- a loop that is gone through -/
theorem forG_inv {g : D → Nv → R Nv} {b : Nv → R Fl} (P : Nat → Nv → Prop) : ∀ (ds : List D) (k : Nat) (ε : Nv), P k ε →
    (∀ i d ε, ds[i]? = some d → P (k + i) ε → ∃ ε1, g d ε = .ok ε1 ∧ ∃ ε2, (b ε1 = .ok (.nx ε2) ∨ b ε1 = .ok (.ct ε2)) ∧ P (k + i + 1) ε2) → ∃ ε', forG g b ds ε = .ok (.nx ε') ∧ P (k + ds.length) ε'
  | [], k, ε, h0, _ => ⟨ε, rfl, h0⟩
  | d :: ds, k, ε, h0, hs => by
    obtain ⟨ε1, h1, ε2, h2, h3⟩ := hs 0 d ε rfl h0
    obtain ⟨ε', h4, h5⟩ := forG_inv P ds (k + 1) ε2 h3 fun i e η hi hp => by
      have e1 : k + 1 + i = k + (i + 1) := by omega
      rw [e1] at hp ⊢
      exact hs (i + 1) e η (by simpa using hi) hp
    refine ⟨ε', ?_, ?_⟩
    · unfold forG
      rw [h1, bind_ok]
      rcases h2 with h2 | h2
      · rw [h2]
        exact h4
      · rw [h2]
        exact h4
    · rw [List.length_cons]
      have e1 : k + (ds.length + 1) = k + 1 + ds.length := by omega
      rw [e1]
      exact h5
/-- a loop that may end by return: by what holds of the answer -/
theorem forG_ret {g : D → Nv → R Nv} {b : Nv → R Fl} (P : Nat → Nv → Prop) (Q : D → Prop) : ∀ (ds : List D) (k : Nat) (ε : Nv), P k ε →
    (∀ i d ε, ds[i]? = some d → P (k + i) ε → ∃ ε1, g d ε = .ok ε1 ∧ ((∃ ε2, (b ε1 = .ok (.nx ε2) ∨ b ε1 = .ok (.ct ε2)) ∧ P (k + i + 1) ε2) ∨ ∃ a, b ε1 = .ok (.rt a) ∧ Q a)) →
    (∃ ε', forG g b ds ε = .ok (.nx ε') ∧ P (k + ds.length) ε') ∨ ∃ a, forG g b ds ε = .ok (.rt a) ∧ Q a
  | [], k, ε, h0, _ => .inl ⟨ε, rfl, h0⟩
  | d :: ds, k, ε, h0, hs => by
    obtain ⟨ε1, h1, h2⟩ := hs 0 d ε rfl h0
    rcases h2 with ⟨ε2, h2, h3⟩ | ⟨a, h2, h3⟩
    · have := forG_ret P Q ds (k + 1) ε2 h3 fun i e η hi hp => by
        have e1 : k + 1 + i = k + (i + 1) := by omega
        rw [e1] at hp ⊢
        exact hs (i + 1) e η (by simpa using hi) hp
      have e2 : forG g b (d :: ds) ε = forG g b ds ε2 := by
        show (g d ε).bind _ = _
        rw [h1, bind_ok]
        rcases h2 with h2 | h2
        · rw [h2]
        · rw [h2]
      rw [e2, List.length_cons]
      have e1 : k + (ds.length + 1) = k + 1 + ds.length := by omega
      rw [e1]
      exact this
    · refine .inr ⟨a, ?_, h3⟩
      show (g d ε).bind _ = _
      rw [h1, bind_ok, h2]
/-- a comprehension -/
theorem lcG_map {g : D → Nv → R Nv} {t : Nv → R Bool} {e : Nv → R D} {ε : Nv} (p : D → Bool) (v : D → D) : ∀ (ds : List D),
    (∀ d, d ∈ ds → ∃ ε1, g d ε = .ok ε1 ∧ t ε1 = .ok (p d) ∧ (p d = true → e ε1 = .ok (v d))) → lcG g t e ε ds = .ok ((ds.filter p).map v)
  | [], _ => rfl
  | d :: ds, h => by
    obtain ⟨ε1, h1, h2, h3⟩ := h d List.mem_cons_self
    have ih := lcG_map p v ds fun x hx => h x (List.mem_cons_of_mem _ hx)
    unfold lcG
    rw [h1, bind_ok, h2, bind_ok]
    cases hp : p d with
    | true =>
      rw [if_pos rfl, h3 hp, bind_ok, ih, bind_ok, List.filter_cons, hp, if_pos rfl]
      rfl
    | false =>
      rw [if_neg Bool.false_ne_true, ih, List.filter_cons, hp, if_neg Bool.false_ne_true]
/-- one over typed items, no test -/
theorem lcG_all {α : Type} {g : D → Nv → R Nv} {e : Nv → R D} {ε : Nv} (enc : α → D) (v : α → D) : ∀ (xs : List α), (∀ x, x ∈ xs → ∃ ε1, g (enc x) ε = .ok ε1 ∧ e ε1 = .ok (v x)) → lcG g tYe e ε (xs.map enc) = .ok (xs.map v)
  | [], _ => rfl
  | x :: xs, h => by
    obtain ⟨ε1, h1, h2⟩ := h x List.mem_cons_self
    have ih := lcG_all enc v xs fun y hy => h y (List.mem_cons_of_mem _ hy)
    show (g (enc x) ε).bind _ = _
    rw [h1, bind_ok]
    show (e ε1).bind _ = _
    rw [h2, bind_ok, ih, bind_ok]
    rfl
/-- .. with a test -/
theorem lcG_if {α : Type} {g : D → Nv → R Nv} {t : Nv → R Bool} {e : Nv → R D} {ε : Nv} (enc : α → D) (p : α → Bool) (v : α → D) : ∀ (xs : List α), (∀ x, x ∈ xs → ∃ ε1, g (enc x) ε = .ok ε1 ∧ t ε1 = .ok (p x) ∧ (p x = true → e ε1 = .ok (v x))) → lcG g t e ε (xs.map enc) = .ok ((xs.filter p).map v)
  | [], _ => rfl
  | x :: xs, h => by
    obtain ⟨ε1, h1, h2, h3⟩ := h x List.mem_cons_self
    have ih := lcG_if enc p v xs fun y hy => h y (List.mem_cons_of_mem _ hy)
    show (g (enc x) ε).bind _ = _
    rw [h1, bind_ok, h2, bind_ok]
    cases hp : p x with
    | true =>
      rw [if_pos rfl, h3 hp, bind_ok, ih, bind_ok, List.filter_cons, hp, if_pos rfl]
      rfl
    | false =>
      rw [if_neg Bool.false_ne_true, ih, List.filter_cons, hp, if_neg Bool.false_ne_true]
/-- a while: by a measure -/
theorem whG_inv {t : Nv → R Bool} {b : Nv → R Fl} (P : Nat → Nv → Prop) (Q : Nv → Prop) : ∀ (n : Nat) (ε : Nv), P n ε →
    (∀ n ε, P n ε → (t ε = .ok false ∧ Q ε) ∨ (t ε = .ok true ∧ ∃ ε2 n', n' < n ∧ (b ε = .ok (.nx ε2) ∨ b ε = .ok (.ct ε2)) ∧ P n' ε2)) → ∀ m, n < m → ∃ ε', whG t b m ε = .ok (.nx ε') ∧ Q ε' := by
  intro n
  induction n using Nat.strongRecOn with
  | _ n ih =>
    intro ε h hs m hm
    cases m with
    | zero => exact absurd hm (Nat.not_lt_zero _)
    | succ m =>
      rcases hs n ε h with ⟨h1, h2⟩ | ⟨h1, ε2, n', hn, h2, h3⟩
      · refine ⟨ε, ?_, h2⟩
        unfold whG
        rw [h1]
        rfl
      · obtain ⟨ε', h4, h5⟩ := ih n' hn ε2 h3 hs m (by omega)
        refine ⟨ε', ?_, h5⟩
        unfold whG
        rw [h1, bind_ok, if_pos rfl]
        rcases h2 with h2 | h2
        · rw [h2]
          exact h4
        · rw [h2]
          exact h4
/-! ### ranges, items -/
theorem rangeD_get {lo : Int} {n i : Nat} {d : D} (h : (rangeD lo n)[i]? = some d) : i < n ∧ d = .int (lo + (i : Int)) := by
  unfold rangeD at h
  rw [List.getElem?_map] at h
  by_cases hi : i < n
  · rw [List.getElem?_range hi] at h
    exact ⟨hi, (Option.some.inj h).symm⟩
  · rw [List.getElem?_eq_none_iff.mpr (by rw [List.length_range]; omega)] at h
    cases h
theorem rangeD_len (lo : Int) (n : Nat) : (rangeD lo n).length = n := by
  unfold rangeD
  rw [List.length_map, List.length_range]
theorem atI_map {α β : Type} (f : α → β) (xs : List α) (i : Int) : L2.atI (xs.map f) i = (L2.atI xs i).map f := by
  unfold L2.atI
  rw [List.length_map]
  cases L2.ixN xs.length i with
  | none => rfl
  | some j =>
    show (xs.map f)[j]? = (xs[j]?).map f
    rw [List.getElem?_map]
theorem atI_of {α : Type} {xs : List α} {i : Int} (h0 : 0 ≤ i) (h : i < xs.length) : ∃ x, xs[i.toNat]? = some x ∧ L2.atI xs i = some x := by
  have hi : i.toNat < xs.length := by omega
  refine ⟨xs[i.toNat], List.getElem?_eq_getElem hi, ?_⟩
  have := L2.atI_nat (xs := xs) (j := i.toNat) (List.getElem?_eq_getElem hi)
  rwa [Int.toNat_of_nonneg h0] at this
theorem dIx_list {xs : List D} {i : Int} {x : D} (h : L2.atI xs i = some x) : dIx (.list xs) (.int i) = .ok x := by
  show (match L2.atI xs i with | some d => R.ok d | none => R.bad) = _
  rw [h]
theorem dIx_tuple {xs : List D} {i : Int} {x : D} (h : L2.atI xs i = some x) : dIx (.tuple xs) (.int i) = .ok x := by
  show (match L2.atI xs i with | some d => R.ok d | none => R.bad) = _
  rw [h]
/-- an item of a list of ints -/
theorem dIx_ints {l : List Int} {i : Int} (h0 : 0 ≤ i) (h : i < l.length) : dIx (.list (l.map PyData.int)) (.int i) = .ok (.int (l.getD i.toNat 0)) := by
  obtain ⟨x, h1, h2⟩ := atI_of (xs := l) h0 h
  refine dIx_list ?_
  rw [atI_map, h2, List.getD_eq_getElem?_getD, h1]
  rfl
theorem ixN_of {n : Nat} {i : Int} (h0 : 0 ≤ i) (h : i < n) : L2.ixN n i = some i.toNat := by
  unfold L2.ixN
  rw [if_pos h0, if_pos h]
/-! ### arithmetic -/
theorem log2_lt {n k : Nat} (h : n < 2 ^ k) (hk : 0 < k) : n.log2 < k := PySem.Flt.log2_lt_of hk h
theorem dMul_ok {i j : Int} (hi : i.natAbs < 2 ^ 400000) (hj : j.natAbs < 2 ^ 400000) : dMul (.int i) (.int j) = .ok (.int (i * j)) := by
  have h1 := log2_lt hi (by decide)
  have h2 := log2_lt hj (by decide)
  show (if i.natAbs.log2 + j.natAbs.log2 < 1000000 then R.ok (PyData.int (i * j)) else R.bad) = _
  rw [if_pos (by omega)]
theorem lt_pow {n k m : Nat} (h : n < 2 ^ k) (hk : k ≤ m) : n < 2 ^ m := Nat.lt_of_lt_of_le h (Nat.pow_le_pow_right (by decide) hk)
theorem dMul_small {i j : Int} (hi : i.natAbs < 2 ^ 64) (hj : j.natAbs < 2 ^ 64) : dMul (.int i) (.int j) = .ok (.int (i * j)) := dMul_ok (lt_pow hi (by decide)) (lt_pow hj (by decide))
theorem dDiv_ok {i j : Int} (h0 : 0 < j) (hj : j.natAbs < 2 ^ 8999) : dDiv (.int i) (.int j) = .ok (.int (i / j)) := by
  have h2 := log2_lt hj (by decide)
  show (if 0 < j ∧ j.natAbs.log2 < 9000 then R.ok (PyData.int (i / j)) else R.bad) = _
  rw [if_pos ⟨h0, by omega⟩]
theorem dDiv_small {i j : Int} (h0 : 0 < j) (hj : j.natAbs < 2 ^ 64) : dDiv (.int i) (.int j) = .ok (.int (i / j)) := dDiv_ok h0 (lt_pow hj (by decide))
theorem dMod_ok {i j : Int} (h0 : 0 < j) : dMod (.int i) (.int j) = .ok (.int (i % j)) := by
  show (if 0 < j then R.ok (PyData.int (i % j)) else R.bad) = _
  rw [if_pos h0]
theorem cRepr_ok {d : D} (h1 : okd d = true) (h2 : d.showable = true) (h3 : d.shown.length ≤ lim) : cRepr [d] = .ok (.str d.shown) := by
  show (if okd d && d.showable && decide (d.shown.length ≤ lim) then R.ok (PyData.str d.shown) else R.bad) = _
  rw [h1, h2, decide_eq_true h3]
  rfl
/-! ### how long texts of data are -/
mutual
/-- an upper bound of a datum's text: ints below 10 ^ 12 -/
def tw : D → Nat
  | .none => 13
  | .bool _ => 13
  | .int _ => 13
  | .str x => (reprText x).length
  | .list xs => twAll xs + 3
  | .tuple xs => twAll xs + 3
  | .dict _ => 0
def twAll : List D → Nat
  | [] => 0
  | x :: xs => tw x + 2 + twAll xs
end
mutual
def smI : D → Bool
  | .int i => decide (i.natAbs < 10 ^ 12)
  | .list xs => smIAll xs
  | .tuple xs => smIAll xs
  | .dict _ => false
  | _ => true
def smIAll : List D → Bool
  | [] => true
  | x :: xs => smI x && smIAll xs
end
mutual
theorem shown_tw : ∀ d : D, smI d = true → d.shown.length ≤ tw d ∧ d.showable = true
  | .none, _ => by
    refine ⟨?_, rfl⟩
    simp only [PyData.shown, tw]
    decide
  | .bool b, _ => by
    refine ⟨?_, rfl⟩
    cases b <;> simp only [PyData.shown, tw] <;> decide
  | .int i, h => by
    simp only [smI] at h
    have h' := of_decide_eq_true h
    refine ⟨by simp only [tw]; exact PyData.shown_int_le h', ?_⟩
    simp only [PyData.showable]
    refine decide_eq_true ?_
    have := log2_lt (n := i.natAbs) (k := 64) (by omega) (by decide)
    omega
  | .str x, _ => by
    refine ⟨?_, rfl⟩
    simp only [PyData.shown, tw]
    exact Nat.le_refl _
  | .list xs, h => by
    simp only [smI] at h
    obtain ⟨h1, h2⟩ := shown_twAll xs h
    simp only [PyData.shown, tw, PyData.showable]
    refine ⟨?_, h2⟩
    have := listText_len_le (PyData.shownAll xs)
    rw [PyData.shownAll_length] at this
    omega
  | .tuple xs, h => by
    simp only [smI] at h
    obtain ⟨h1, h2⟩ := shown_twAll xs h
    simp only [PyData.shown, tw, PyData.showable]
    refine ⟨?_, h2⟩
    have := tupleText_len_le (PyData.shownAll xs)
    rw [PyData.shownAll_length] at this
    omega
  | .dict _, h => by simp only [smI] at h; cases h
theorem shown_twAll : ∀ xs : List D, smIAll xs = true → ((PyData.shownAll xs).map (·.length)).sum + 2 * xs.length ≤ twAll xs ∧ PyData.showableAll xs = true
  | [], _ => ⟨by simp [PyData.shownAll, twAll], by simp [PyData.showableAll]⟩
  | x :: xs, h => by
    simp only [smIAll, Bool.and_eq_true] at h
    obtain ⟨h1, h2⟩ := shown_tw x h.1
    obtain ⟨h3, h4⟩ := shown_twAll xs h.2
    simp only [PyData.shownAll, twAll, PyData.showableAll, h2, h4, List.map_cons, List.sum_cons, List.length_cons, Bool.and_self]
    refine ⟨?_, trivial⟩
    omega
end
theorem cRepr_tw {d : D} (h1 : okd d = true) (h2 : smI d = true) (h3 : tw d ≤ lim) : cRepr [d] = .ok (.str d.shown) :=
  cRepr_ok h1 (shown_tw d h2).2 (Nat.le_trans (shown_tw d h2).1 h3)
theorem tw_ints : ∀ l : List Int, twAll (l.map PyData.int) = 15 * l.length
  | [] => rfl
  | i :: r => by
    show 13 + 2 + twAll (r.map PyData.int) = _
    rw [tw_ints r, List.length_cons]
    omega
theorem smI_ints : ∀ l : List Int, (∀ i, i ∈ l → i.natAbs < 10 ^ 12) → smIAll (l.map PyData.int) = true
  | [], _ => rfl
  | i :: r, h => by
    show (decide (i.natAbs < 10 ^ 12) && smIAll (r.map PyData.int)) = true
    rw [decide_eq_true (h i List.mem_cons_self), smI_ints r fun j hj => h j (List.mem_cons_of_mem _ hj)]
    rfl
theorem cRepr_int {i : Int} (h : i.natAbs < 10 ^ 12) : cRepr [.int i] = .ok (.str (PyData.int i).shown) := cRepr_tw rfl (by simp only [smI]; exact decide_eq_true h) (by show 13 ≤ 1000000; decide)
theorem cRepr_ints {l : List Int} (h : ∀ i, i ∈ l → i.natAbs < 10 ^ 12) (hl : l.length ≤ 60000) : cRepr [.list (l.map PyData.int)] = .ok (.str (PyData.list (l.map PyData.int)).shown) :=
  cRepr_tw (okd_ints l) (by simp only [smI]; exact smI_ints l h) (by simp only [tw, tw_ints]; have : lim = 1000000 := rfl; omega)
end Tw
namespace Tw
open PySem
/-! ### runs of statements -/
def Runs (m : Nv → R Fl) (ε : Nv) (post : Fl → Prop) : Prop := ∃ fl, m ε = .ok fl ∧ post fl
theorem Runs.mono {m : Nv → R Fl} {ε : Nv} {p q : Fl → Prop} (h : Runs m ε p) (i : ∀ fl, p fl → q fl) : Runs m ε q := let ⟨fl, h1, h2⟩ := h; ⟨fl, h1, i fl h2⟩
theorem runs_eq {m : Nv → R Fl} {ε : Nv} {post : Fl → Prop} {fl : Fl} (h : m ε = .ok fl) (q : post fl) : Runs m ε post := ⟨fl, h, q⟩
/-- m, then n -/
theorem runs_seq {m n : Nv → R Fl} {ε : Nv} {post : Fl → Prop} (h : Runs m ε fun fl => match fl with | .nx ε' => Runs n ε' post | fl => post fl) : Runs (sSeq m n) ε post := by
  obtain ⟨fl, h1, h2⟩ := h
  have e : sSeq m n ε = match m ε with | .ok (.nx ε') => n ε' | r => r := rfl
  rw [h1] at e
  cases fl with
  | nx ε' =>
    obtain ⟨fl, h3, h4⟩ := h2
    exact ⟨fl, e.trans h3, h4⟩
  | rt d => exact ⟨_, e, h2⟩
  | bk ε' => exact ⟨_, e, h2⟩
  | ct ε' => exact ⟨_, e, h2⟩
/-- m goes through, then n -/
theorem runs_sn {m n : Nv → R Fl} {ε ε' : Nv} {post : Fl → Prop} (h : m ε = .ok (.nx ε')) (q : Runs n ε' post) : Runs (sSeq m n) ε post := runs_seq ⟨_, h, q⟩
theorem sAs_ok {i : Nat} {me : Nv → R D} {ε : Nv} {d : D} (h : me ε = .ok d) : sAs i me ε = .ok (.nx (st ε i (.im d))) := by
  unfold sAs
  rw [h, bind_ok]
theorem sAsM_ok {i : Nat} {me : Nv → R D} {ε : Nv} {d : D} (h : me ε = .ok d) : sAsM i me ε = .ok (.nx (st ε i (.mu d))) := by
  unfold sAsM
  rw [h, bind_ok]
theorem sDr_ok {me : Nv → R D} {ε : Nv} {d : D} (h : me ε = .ok d) : sDr me ε = .ok (.nx ε) := by
  unfold sDr
  rw [h, bind_ok]
theorem sRt_ok {me : Nv → R D} {ε : Nv} {d : D} (h : me ε = .ok d) : sRt me ε = .ok (.rt d) := by
  unfold sRt
  rw [h, bind_ok]
theorem sIf_t {t : Nv → R Bool} {m n : Nv → R Fl} {ε : Nv} (h : t ε = .ok true) : sIf t m n ε = m ε := by
  unfold sIf
  rw [h, bind_ok, if_pos rfl]
theorem sIf_f {t : Nv → R Bool} {m n : Nv → R Fl} {ε : Nv} (h : t ε = .ok false) : sIf t m n ε = n ε := by
  unfold sIf
  rw [h, bind_ok, if_neg Bool.false_ne_true]
theorem runs_if {t : Nv → R Bool} {m n : Nv → R Fl} {ε : Nv} {post : Fl → Prop} {b : Bool} (h : t ε = .ok b) (h1 : b = true → Runs m ε post) (h2 : b = false → Runs n ε post) : Runs (sIf t m n) ε post := by
  cases b with
  | true =>
    unfold Runs
    rw [sIf_t h]
    exact h1 rfl
  | false =>
    unfold Runs
    rw [sIf_f h]
    exact h2 rfl
/-- a loop by an invariant; answers inside by what is wanted -/
theorem runs_for {mi : Nv → R (List D)} {g : D → Nv → R Nv} {b : Nv → R Fl} {ε : Nv} {post : Fl → Prop} {ds : List D} (P : Nat → Nv → Prop) (h : mi ε = .ok ds) (h0 : P 0 ε)
    (hs : ∀ i d ε, ds[i]? = some d → P i ε → ∃ ε1, g d ε = .ok ε1 ∧ Runs b ε1 fun fl => match fl with | .nx ε2 => P (i + 1) ε2 | .ct ε2 => P (i + 1) ε2 | .bk _ => False | .rt a => post (.rt a))
    (hd : ∀ ε', P ds.length ε' → post (.nx ε')) : Runs (sFor mi g b) ε post := by
  unfold Runs sFor
  rw [h, bind_ok]
  have := forG_ret (g := g) (b := b) P (fun a => post (.rt a)) ds 0 ε h0 fun i d η hi hp => by
    rw [Nat.zero_add] at hp ⊢
    obtain ⟨ε1, h1, fl, h2, h3⟩ := hs i d η hi hp
    refine ⟨ε1, h1, ?_⟩
    cases fl with
    | nx ε2 => exact .inl ⟨ε2, .inl h2, h3⟩
    | ct ε2 => exact .inl ⟨ε2, .inr h2, h3⟩
    | bk ε2 => exact h3.elim
    | rt a => exact .inr ⟨a, h2, h3⟩
  rcases this with ⟨ε', h1, h2⟩ | ⟨a, h1, h2⟩
  · rw [Nat.zero_add] at h2
    exact ⟨_, h1, hd ε' h2⟩
  · exact ⟨_, h1, h2⟩
theorem runs_wh {t : Nv → R Bool} {b : Nv → R Fl} {ε : Nv} {post : Fl → Prop} {m : Nat} (P : Nat → Nv → Prop) (n : Nat) (h0 : P n ε) (hm : n < m)
    (hs : ∀ n ε, P n ε → (t ε = .ok false ∧ post (.nx ε)) ∨ (t ε = .ok true ∧ Runs b ε fun fl => match fl with | .nx ε2 => ∃ n', n' < n ∧ P n' ε2 | .ct ε2 => ∃ n', n' < n ∧ P n' ε2 | _ => False)) : Runs (sWh m t b) ε post := by
  obtain ⟨ε', h1, h2⟩ := whG_inv (t := t) (b := b) P (fun ε => post (.nx ε)) n ε h0 (fun n η hp => by
    rcases hs n η hp with h | ⟨h1, fl, h2, h3⟩
    · exact .inl h
    · refine .inr ⟨h1, ?_⟩
      cases fl with
      | nx ε2 =>
        obtain ⟨n', a, b⟩ := h3
        exact ⟨ε2, n', a, .inl h2, b⟩
      | ct ε2 =>
        obtain ⟨n', a, b⟩ := h3
        exact ⟨ε2, n', a, .inr h2, b⟩
      | bk ε2 => exact h3.elim
      | rt a => exact h3.elim) m hm
  exact ⟨_, h1, h2⟩
/-- the def's answer -/
theorem runF_rt {n N : Nat} {m : Nv → R Fl} {ds : List D} {d : D} (hn : ds.length = n) (h : Runs m (ds.map SV.im ++ List.replicate (N - n) SV.no) fun fl => fl = .rt d) : runF n N m ds = .ok d := by
  obtain ⟨fl, h1, h2⟩ := h
  unfold runF
  rw [if_pos hn, h1, h2]
theorem runF_some {n N : Nat} {m : Nv → R Fl} {ds : List D} {Q : D → Prop} (hn : ds.length = n) (h : Runs m (ds.map SV.im ++ List.replicate (N - n) SV.no) fun fl => ∃ d, fl = .rt d ∧ Q d) : ∃ d, runF n N m ds = .ok d ∧ Q d := by
  obtain ⟨fl, h1, d, h2, h3⟩ := h
  refine ⟨d, ?_, h3⟩
  unfold runF
  rw [if_pos hn, h1, h2]
theorem runF_nx {n N : Nat} {m : Nv → R Fl} {ds : List D} (hn : ds.length = n) (h : Runs m (ds.map SV.im ++ List.replicate (N - n) SV.no) fun fl => ∃ ε, fl = .nx ε) : runF n N m ds = .ok .none := by
  obtain ⟨fl, h1, ε, h2⟩ := h
  unfold runF
  rw [if_pos hn, h1, h2]
/-! ### operators at ints -/
theorem dAdd_i {i j : Int} : dAdd (.int i) (.int j) = .ok (.int (i + j)) := rfl
theorem dSub_i {i j : Int} : dSub (.int i) (.int j) = .ok (.int (i - j)) := rfl
theorem dNeg_i {i : Int} : dNeg (.int i) = .ok (.int (-i)) := rfl
theorem dLt_i {i j : Int} : dLt (.int i) (.int j) = .ok (.bool (decide (i < j))) := rfl
theorem dLe_i {i j : Int} : dLe (.int i) (.int j) = .ok (.bool (decide (i ≤ j))) := rfl
theorem dGt_i {i j : Int} : dGt (.int i) (.int j) = .ok (.bool (decide (j < i))) := rfl
theorem dGe_i {i j : Int} : dGe (.int i) (.int j) = .ok (.bool (decide (j ≤ i))) := rfl
theorem cLen_l {xs : List D} : cLen [.list xs] = .ok (.int xs.length) := rfl
theorem cLen_t {xs : List D} : cLen [.tuple xs] = .ok (.int xs.length) := rfl
theorem cInt_i {i : Int} : cInt [.int i] = .ok (.int i) := rfl
theorem cInt_b {b : Bool} : cInt [.bool b] = .ok (.int (if b then 1 else 0)) := rfl
theorem cAbs_i {i : Int} : cAbs [.int i] = .ok (.int (if i < 0 then -i else i)) := rfl
theorem kMax_i {i j : Int} : kMax [.int i, .int j] = .ok (.int (if j > i then j else i)) := rfl
theorem kMin_i {i j : Int} : kMin [.int i, .int j] = .ok (.int (if j < i then j else i)) := rfl
theorem cSum_ints (l : List Int) : cSum [.list (l.map PyData.int)] = .ok (.int l.sum) := by
  show (match intsOf (l.map PyData.int) with | some l => R.ok (PyData.int l.sum) | none => R.bad) = _
  rw [intsOf_map]
theorem cAll_bools (l : List Bool) : cAll [.list (l.map PyData.bool)] = .ok (.bool (l.all id)) := by
  show (match boolsOf (l.map PyData.bool) with | some l => R.ok (PyData.bool (l.all id)) | none => R.bad) = _
  rw [boolsOf_map]
theorem cAny_bools (l : List Bool) : cAny [.list (l.map PyData.bool)] = .ok (.bool (l.any id)) := by
  show (match boolsOf (l.map PyData.bool) with | some l => R.ok (PyData.bool (l.any id)) | none => R.bad) = _
  rw [boolsOf_map]
theorem dPow_i {i j : Int} (h0 : 0 ≤ j) (h1 : j ≤ 1000000) (hi : i.natAbs < 2 ^ 64) : dPow (.int i) (.int j) = .ok (.int (i ^ j.toNat)) := by
  show (if 0 ≤ j ∧ j ≤ 1000000 ∧ i.natAbs < 2 ^ 64 then R.ok (PyData.int (i ^ j.toNat)) else R.bad) = _
  rw [if_pos ⟨h0, h1, hi⟩]
theorem iRange1_ok {ms : Nv → R (List D)} {ε : Nv} {j : Int} (h : ms ε = .ok [.int j]) (h0 : -(2 ^ 62) ≤ j) (h1 : j < 2 ^ 62) : iRange1 ms ε = .ok (rangeD 0 j.toNat) := by
  unfold iRange1
  rw [h, bind_ok]
  show (if rlim j then R.ok (rangeD 0 j.toNat) else R.bad) = _
  have : rlim j = true := by
    unfold rlim
    rw [decide_eq_true h0, decide_eq_true h1]
    rfl
  rw [if_pos this]
theorem iRange2_ok {ms : Nv → R (List D)} {ε : Nv} {i j : Int} (h : ms ε = .ok [.int i, .int j]) (h0 : -(2 ^ 62) ≤ i) (h1 : i < 2 ^ 62) (h2 : -(2 ^ 62) ≤ j) (h3 : j < 2 ^ 62) : iRange2 ms ε = .ok (rangeD i (j - i).toNat) := by
  unfold iRange2
  rw [h, bind_ok]
  show (if rlim i && rlim j then R.ok (rangeD i (j - i).toNat) else R.bad) = _
  have a : rlim i = true := by
    unfold rlim
    rw [decide_eq_true h0, decide_eq_true h1]
    rfl
  have b : rlim j = true := by
    unfold rlim
    rw [decide_eq_true h2, decide_eq_true h3]
    rfl
  rw [a, b]
  rfl
theorem sAp_ok {i : Nat} {me : Nv → R D} {ε : Nv} {d : D} {ds : List D} (h : me ε = .ok d) (g : gt ε i = .mu (.list ds)) (hl : ds.length < lim) : sAp i me ε = .ok (.nx (st ε i (.mu (.list (ds ++ [d]))))) := by
  unfold sAp
  rw [h, bind_ok, g]
  show (if ds.length < lim then R.ok (Fl.nx (st ε i (.mu (.list (ds ++ [d]))))) else R.bad) = _
  rw [if_pos hl]
end Tw
namespace Tw
open PySem
theorem xLc_ok {vs : List Nat} {mi : Nv → R (List D)} {g : D → Nv → R Nv} {t : Nv → R Bool} {e : Nv → R D} {ε : Nv} {ds ys : List D} (hi : mi ε = .ok ds) (hm : lcG g t e (wipeE ε vs) ds = .ok ys) (hlen : ys.length ≤ lim) : xLc vs mi g t e ε = .ok (.list ys) := by
  unfold xLc
  rw [hi, bind_ok, hm, bind_ok, if_pos hlen]
end Tw
set_option Elab.async false
set_option linter.all false
set_option maxRecDepth 100000
set_option maxHeartbeats 4000000
set_option exponentiation.threshold 1000000
/-! Pl2: a program's value step by step, by unification -/
namespace Tw
open PySem
theorem xV_0 {d : D} {r : Nv} : xV 0 (.im d :: r) = .ok d := rfl
theorem xV_n {i : Nat} {x : SV} {r : Nv} {d : D} (h : xV i r = .ok d) : xV (i + 1) (x :: r) = .ok d := h
theorem xC_o {d : D} {ε : Nv} : xC d ε = .ok d := rfl
theorem xBin_o {f : D → D → R D} {ma mb : Nv → R D} {ε : Nv} {a b d : D} (h1 : ma ε = .ok a) (h2 : mb ε = .ok b) (h3 : f a b = .ok d) : xBin f ma mb ε = .ok d := by
  unfold xBin
  rw [h1, bind_ok, h2, bind_ok, h3]
theorem xUn_o {f : D → R D} {ma : Nv → R D} {ε : Nv} {a d : D} (h1 : ma ε = .ok a) (h3 : f a = .ok d) : xUn f ma ε = .ok d := by
  unfold xUn
  rw [h1, bind_ok, h3]
theorem xCall_o {f : List D → R D} {ms : Nv → R (List D)} {ε : Nv} {ds : List D} {d : D} (h1 : ms ε = .ok ds) (h3 : f ds = .ok d) : xCall f ms ε = .ok d := by
  unfold xCall
  rw [h1, bind_ok, h3]
theorem xNil_o {ε : Nv} : xNil ε = .ok [] := rfl
theorem xCons_o {m : Nv → R D} {ms : Nv → R (List D)} {ε : Nv} {d : D} {ds : List D} (h1 : m ε = .ok d) (h2 : ms ε = .ok ds) : xCons m ms ε = .ok (d :: ds) := by
  unfold xCons
  rw [h1, bind_ok, h2, bind_ok]
theorem xTup_o {ms : Nv → R (List D)} {ε : Nv} {ds : List D} (h : ms ε = .ok ds) : xTup ms ε = .ok (.tuple ds) := by
  unfold xTup
  rw [h, bind_ok]
theorem xLst_o {ms : Nv → R (List D)} {ε : Nv} {ds : List D} (h : ms ε = .ok ds) : xLst ms ε = .ok (.list ds) := by
  unfold xLst
  rw [h, bind_ok]
theorem xIf_t {t : Nv → R Bool} {ma mb : Nv → R D} {ε : Nv} {d : D} (h : t ε = .ok true) (h1 : ma ε = .ok d) : xIf t ma mb ε = .ok d := by
  unfold xIf
  rw [h, bind_ok, if_pos rfl, h1]
theorem xIf_f {t : Nv → R Bool} {ma mb : Nv → R D} {ε : Nv} {d : D} (h : t ε = .ok false) (h1 : mb ε = .ok d) : xIf t ma mb ε = .ok d := by
  unfold xIf
  rw [h, bind_ok, if_neg Bool.false_ne_true, h1]
theorem tC_o {m : Nv → R D} {ε : Nv} {b : Bool} (h : m ε = .ok (.bool b)) : tC' m ε = .ok b := by
  unfold tC'
  rw [h, bind_ok]
  rfl
theorem tNo_o {m : Nv → R Bool} {ε : Nv} {b : Bool} (h : m ε = .ok b) : tNo m ε = .ok (!b) := by
  unfold tNo
  rw [h, bind_ok]
theorem tOrr_o {m n : Nv → R Bool} {ε : Nv} (h1 : m ε = .ok false) (h2 : n ε = .ok false) : tOrr m n ε = .ok false := by
  unfold tOrr
  rw [h1, bind_ok, if_neg Bool.false_ne_true, h2]
theorem tOrr_t {m n : Nv → R Bool} {ε : Nv} (h1 : m ε = .ok true) : tOrr m n ε = .ok true := by
  unfold tOrr
  rw [h1, bind_ok, if_pos rfl]
theorem tOrr_2 {m n : Nv → R Bool} {ε : Nv} {b : Bool} (h1 : m ε = .ok false) (h2 : n ε = .ok b) : tOrr m n ε = .ok b := by
  unfold tOrr
  rw [h1, bind_ok, if_neg Bool.false_ne_true, h2]
theorem tAn_f {m n : Nv → R Bool} {ε : Nv} (h1 : m ε = .ok false) : tAn m n ε = .ok false := by
  unfold tAn
  rw [h1, bind_ok, if_neg Bool.false_ne_true]
theorem tAn_2 {m n : Nv → R Bool} {ε : Nv} {b : Bool} (h1 : m ε = .ok true) (h2 : n ε = .ok b) : tAn m n ε = .ok b := by
  unfold tAn
  rw [h1, bind_ok, if_pos rfl, h2]
theorem xTh_o {m : Nv → R D} {ε : Nv} {d : D} (h : m (th ε) = .ok d) (hf : flat d = true) : xTh m ε = .ok d := by
  unfold xTh
  rw [h, bind_ok, if_pos hf]
theorem tTh_o {m : Nv → R Bool} {ε : Nv} {b : Bool} (h : m (th ε) = .ok b) : tTh m ε = .ok b := h
theorem tYe_o {ε : Nv} : tYe ε = .ok true := rfl
/-- two that are the same -/
theorem ne_o {ma mb : Nv → R D} {ε : Nv} {d : D} (h1 : ma ε = .ok d) (h2 : mb ε = .ok d) (hd : okd d = true) : tC' (xBin dNe ma mb) ε = .ok false := tC_o (xBin_o h1 h2 (dNe_same hd))
theorem iSeq_o {m : Nv → R D} {ε : Nv} {xs : List D} (h : m ε = .ok (.list xs)) : iSeq m ε = .ok xs := by
  unfold iSeq
  rw [h, bind_ok]
theorem xIm_o {i : Nat} {m : Nv → R D} {ε : Nv} {ds : List D} {z : Int} {d : D} (g : gt ε i = .mu (.list ds)) (h : m ε = .ok (.int z)) (hd : dIx (.list ds) (.int z) = .ok d) : xIm i m ε = .ok d := by
  unfold xIm
  rw [h, bind_ok, g]
  exact hd
theorem dCat_o {xs ys : List D} (h : xs.length + ys.length ≤ lim) : dCat (.list xs) (.list ys) = .ok (.list (xs ++ ys)) := by
  show (if xs.length + ys.length ≤ lim then R.ok (PyData.list (xs ++ ys)) else R.bad) = _
  rw [if_pos h]
theorem dAdd_t {xs ys : List D} (h : xs.length + ys.length ≤ lim) : dAdd (.tuple xs) (.tuple ys) = .ok (.tuple (xs ++ ys)) := by
  show (if xs.length + ys.length ≤ lim then R.ok (PyData.tuple (xs ++ ys)) else R.bad) = _
  rw [if_pos h]
theorem sPr_o {i j : Nat} {ms : Nv → R (List D)} {ε : Nv} {a b : D} (h : ms ε = .ok [a, b]) : sPr i j ms ε = .ok (.nx (st (st ε i (.im a)) j (.im b))) := by
  unfold sPr
  rw [h, bind_ok]
theorem sUn_o {me : Nv → R D} {g : D → Nv → R Nv} {ε ε' : Nv} {d : D} (h : me ε = .ok d) (h2 : g d ε = .ok ε') : sUn me g ε = .ok (.nx ε') := by
  unfold sUn
  rw [h, bind_ok, h2, bind_ok]
theorem bL_2 {i j : Nat} {a b : D} {ε : Nv} : bL 2 (bsC (bN i) (bsC (bN j) bs0)) (.list [a, b]) ε = .ok (st (st ε i (.im a)) j (.im b)) := rfl
theorem bT_2 {i j : Nat} {a b : D} {ε : Nv} : bT 2 (bsC (bN i) (bsC (bN j) bs0)) (.tuple [a, b]) ε = .ok (st (st ε i (.im a)) j (.im b)) := rfl
theorem cGcd_o {a b : Int} : cGcd [.int a, .int b] = .ok (.int ((Nat.gcd a.natAbs b.natAbs : Nat) : Int)) := rfl
theorem dIx_t0 {a : D} {r : List D} : dIx (.tuple (a :: r)) (.int 0) = .ok a := by
  refine dIx_tuple ?_
  exact L2.atI_nat (xs := a :: r) (j := 0) rfl
theorem dIx_t1 {a b : D} {r : List D} : dIx (.tuple (a :: b :: r)) (.int 1) = .ok b := by
  refine dIx_tuple ?_
  exact L2.atI_nat (xs := a :: b :: r) (j := 1) rfl
/-! ### how large integers are -/
def sz (k : Nat) (i : Int) : Prop := i.natAbs < 2 ^ k
theorem sz.mono {k m : Nat} {i : Int} (h : sz k i) (hk : k ≤ m) : sz m i := lt_pow h hk
theorem sz.mul {k m : Nat} {i j : Int} (h : sz k i) (g : sz m j) : sz (k + m) (i * j) := by
  unfold sz at *
  rw [Int.natAbs_mul, Nat.pow_add]
  exact Nat.mul_lt_mul'' h g
theorem sz.add {k : Nat} {i j : Int} (h : sz k i) (g : sz k j) : sz (k + 1) (i + j) := by
  unfold sz at *
  have := Int.natAbs_add_le i j
  rw [Nat.pow_succ]
  omega
theorem sz.neg {k : Nat} {i : Int} (h : sz k i) : sz k (-i) := by
  unfold sz at *
  rwa [Int.natAbs_neg]
theorem sz.sub {k : Nat} {i j : Int} (h : sz k i) (g : sz k j) : sz (k + 1) (i - j) := by
  rw [Int.sub_eq_add_neg]
  exact h.add g.neg
theorem dMul_z {k m : Nat} {i j : Int} (h : sz k i) (g : sz m j) (hk : k ≤ 400000) (hm : m ≤ 400000) : dMul (.int i) (.int j) = .ok (.int (i * j)) := dMul_ok (lt_pow h hk) (lt_pow g hm)
theorem dDiv_z {k : Nat} {i j : Int} (h0 : 0 < j) (g : sz k j) (hk : k ≤ 8999) : dDiv (.int i) (.int j) = .ok (.int (i / j)) := dDiv_ok h0 (lt_pow g hk)
end Tw
set_option Elab.async false
set_option linter.all false
set_option maxRecDepth 100000
set_option maxHeartbeats 4000000
/-! PlFin: a mirror's value at closed data, by evaluation -/
namespace Tw
open PySem
mutual
def eqD : D → D → Bool
  | .none, .none => true
  | .bool a, .bool b => a == b
  | .int a, .int b => decide (a = b)
  | .list a, .list b => eqDs a b
  | .tuple a, .tuple b => eqDs a b
  | _, _ => false
def eqDs : List D → List D → Bool
  | [], [] => true
  | a :: r, b :: s => eqD a b && eqDs r s
  | _, _ => false
end
mutual
theorem eqD_eq : ∀ (a b : D), eqD a b = true → a = b
  | .none, b, h => by cases b <;> simp [eqD] at h <;> rfl
  | .bool a, b, h => by cases b <;> simp [eqD] at h <;> rw [h]
  | .int a, b, h => by cases b <;> simp [eqD] at h <;> rw [h]
  | .str a, b, h => by cases b <;> simp [eqD] at h
  | .dict a, b, h => by cases b <;> simp [eqD] at h
  | .list a, b, h => by
    cases b with
    | list b => rw [eqDs_eq a b (by simpa [eqD] using h)]
    | _ => simp [eqD] at h
  | .tuple a, b, h => by
    cases b with
    | tuple b => rw [eqDs_eq a b (by simpa [eqD] using h)]
    | _ => simp [eqD] at h
theorem eqDs_eq : ∀ (a b : List D), eqDs a b = true → a = b
  | [], b, h => by cases b <;> simp [eqDs] at h <;> rfl
  | a :: r, b, h => by
    cases b with
    | nil => simp [eqDs] at h
    | cons b s =>
      simp only [eqDs, Bool.and_eq_true] at h
      rw [eqD_eq a b h.1, eqDs_eq r s h.2]
end
def isR (r : R D) (d : D) : Bool := match r with
  | .ok e => eqD e d
  | _ => false
theorem isR_eq {r : R D} {d : D} (h : isR r d = true) : r = .ok d := by
  cases r with
  | ok e => rw [eqD_eq e d h]
  | ex a b => cases h
  | bad => cases h
end Tw
set_option Elab.async false
set_option linter.all false
set_option maxRecDepth 100000
set_option maxHeartbeats 4000000
set_option exponentiation.threshold 1000000
/-! Pl3: statements step by step, the environment by unification -/
namespace Tw
open PySem
theorem st_0 {s x : SV} {r : Nv} : st (x :: r) 0 s = s :: r := rfl
theorem st_n {s x : SV} {r r' : Nv} {i : Nat} (h : st r i s = r') : st (x :: r) (i + 1) s = x :: r' := by rw [← h]; rfl
theorem gt_0 {s : SV} {r : Nv} : gt (s :: r) 0 = s := rfl
theorem gt_n {s x : SV} {r : Nv} {i : Nat} (h : gt r i = s) : gt (x :: r) (i + 1) = s := h
section
variable {i j : Nat} {me ma mb mc : Nv → R D} {ms : Nv → R (List D)} {ε ε' ε1 ε2 : Nv} {a b d : D} {t m n : Nv → R Bool}
theorem sAs_o (h : me ε = .ok d) (h2 : st ε i (.im d) = ε') : sAs i me ε = .ok (.nx ε') := by rw [sAs_ok h, h2]
theorem sAsM_o (h : me ε = .ok d) (h2 : st ε i (.mu d) = ε') : sAsM i me ε = .ok (.nx ε') := by rw [sAsM_ok h, h2]
theorem sDr_o (h : me ε = .ok d) : sDr me ε = .ok (.nx ε) := sDr_ok h
theorem sFz_m (h : gt ε i = .mu d) (h2 : st ε i (.im d) = ε') : sFz i ε = .ok (.nx ε') := by
  unfold sFz
  rw [h, ← h2]
theorem sFz_i (h : gt ε i = .im d) : sFz i ε = .ok (.nx ε) := by
  unfold sFz
  rw [h]
theorem sNil_o : sNil ε = .ok (.nx ε) := rfl
theorem sRt_o (h : me ε = .ok d) : sRt me ε = .ok (.rt d) := sRt_ok h
theorem sRtM_o (h : gt ε i = .mu d) : sRtM i ε = .ok (.rt d) := by
  unfold sRtM
  rw [h]
theorem sAp_o {ds : List D} (h : me ε = .ok d) (g : gt ε i = .mu (.list ds)) (hl : ds.length < lim) (h2 : st ε i (.mu (.list (ds ++ [d]))) = ε') : sAp i me ε = .ok (.nx ε') := by rw [sAp_ok h g hl, h2]
theorem sSt_o {ds : List D} {z : Int} {k : Nat} {mi : Nv → R D} (h : me ε = .ok d) (hi : mi ε = .ok (.int z)) (g : gt ε j = .mu (.list ds)) (hz : L2.ixN ds.length z = some k) (h2 : st ε j (.mu (.list (ds.set k d))) = ε') : sSt j mi me ε = .ok (.nx ε') := by
  unfold sSt
  rw [h, bind_ok, hi, bind_ok, g]
  show (match L2.ixN ds.length z with | some n => R.ok (Fl.nx (st ε j (.mu (.list (ds.set n d))))) | none => R.bad) = _
  rw [hz, ← h2]
theorem sPm_mi (ha : ma ε = .ok a) (hb : mb ε = .ok b) (hij : i ≠ j) (h1 : st ε i (.mu a) = ε1) (h2 : st ε1 j (.im b) = ε2) : sPm i true j false ma mb ε = .ok (.nx ε2) := by
  unfold sPm
  rw [ha, bind_ok, hb, bind_ok, if_pos hij, ← h2, ← h1]
  rfl
theorem sPm_im (ha : ma ε = .ok a) (hb : mb ε = .ok b) (hij : i ≠ j) (h1 : st ε i (.im a) = ε1) (h2 : st ε1 j (.mu b) = ε2) : sPm i false j true ma mb ε = .ok (.nx ε2) := by
  unfold sPm
  rw [ha, bind_ok, hb, bind_ok, if_pos hij, ← h2, ← h1]
  rfl
theorem sPm_mm (ha : ma ε = .ok a) (hb : mb ε = .ok b) (hij : i ≠ j) (h1 : st ε i (.mu a) = ε1) (h2 : st ε1 j (.mu b) = ε2) : sPm i true j true ma mb ε = .ok (.nx ε2) := by
  unfold sPm
  rw [ha, bind_ok, hb, bind_ok, if_pos hij, ← h2, ← h1]
  rfl
theorem sPr_g (h : ms ε = .ok [a, b]) (h1 : st ε i (.im a) = ε1) (h2 : st ε1 j (.im b) = ε2) : sPr i j ms ε = .ok (.nx ε2) := by rw [sPr_o h, ← h2, ← h1]
theorem sUn_g {g : D → Nv → R Nv} (h : me ε = .ok d) (h2 : g d ε = .ok ε') : sUn me g ε = .ok (.nx ε') := sUn_o h h2
theorem bN_o (h : st ε i (.im d) = ε') : bN i d ε = .ok ε' := by
  unfold bN
  rw [h]
theorem bs0_o : bs0 [] ε = .ok ε := rfl
theorem bsC_o {f : D → Nv → R Nv} {fs : List D → Nv → R Nv} {r : List D} (h : f d ε = .ok ε1) (h2 : fs r ε1 = .ok ε2) : bsC f fs (d :: r) ε = .ok ε2 := by
  show (f d ε).bind (fun ε1 => fs r ε1) = _
  rw [h, bind_ok, h2]
theorem bT_o {k : Nat} {fs : List D → Nv → R Nv} {r : List D} (hk : r.length = k) (h2 : fs r ε = .ok ε2) : bT k fs (.tuple r) ε = .ok ε2 := by
  show (if r.length = k then fs r ε else .bad) = _
  rw [if_pos hk, h2]
theorem bL_o {k : Nat} {fs : List D → Nv → R Nv} {r : List D} (hk : r.length = k) (h2 : fs r ε = .ok ε2) : bL k fs (.list r) ε = .ok ε2 := by
  show (if r.length = k then fs r ε else .bad) = _
  rw [if_pos hk, h2]
theorem bT_2o {fs : List D → Nv → R Nv} {x y : D} (h2 : fs [x, y] ε = .ok ε2) : bT 2 fs (.tuple [x, y]) ε = .ok ε2 := h2
theorem bT_3o {fs : List D → Nv → R Nv} {x y z : D} (h2 : fs [x, y, z] ε = .ok ε2) : bT 3 fs (.tuple [x, y, z]) ε = .ok ε2 := h2
theorem bT_4o {fs : List D → Nv → R Nv} {x y z w : D} (h2 : fs [x, y, z, w] ε = .ok ε2) : bT 4 fs (.tuple [x, y, z, w]) ε = .ok ε2 := h2
theorem bL_2o {fs : List D → Nv → R Nv} {x y : D} (h2 : fs [x, y] ε = .ok ε2) : bL 2 fs (.list [x, y]) ε = .ok ε2 := h2
theorem sAu_o {f : D → D → R D} (g : gt ε i = .im a) (h : me ε = .ok b) (hf : f a b = .ok d) (h2 : st ε i (.im d) = ε') : sAu f i me ε = .ok (.nx ε') := by
  unfold sAu
  rw [g]
  show ((me ε).bind fun b => (f a b).bind fun d => R.ok (Fl.nx (st ε i (.im d)))) = _
  rw [h, bind_ok, hf, bind_ok, h2]
theorem tV_o (h : me ε = .ok (.bool k)) : tV me ε = .ok k := by
  unfold tV
  rw [h, bind_ok]
  rfl
theorem tOrr_g {x y : Bool} (h1 : m ε = .ok x) (h2 : n ε = .ok y) : tOrr m n ε = .ok (x || y) := by
  unfold tOrr
  rw [h1, bind_ok, h2]
  cases x <;> rfl
theorem tAn_g {x y : Bool} (h1 : m ε = .ok x) (h2 : n ε = .ok y) : tAn m n ε = .ok (x && y) := by
  unfold tAn
  rw [h1, bind_ok, h2]
  cases x <;> rfl
theorem tOrr_c {x y : Bool} (h1 : m ε = .ok x) (h2 : x = false → n ε = .ok y) : tOrr m n ε = .ok (x || y) := by
  unfold tOrr
  rw [h1, bind_ok]
  cases x
  · rw [h2 rfl]; rfl
  · rfl
theorem tAn_c {x y : Bool} (h1 : m ε = .ok x) (h2 : x = true → n ε = .ok y) : tAn m n ε = .ok (x && y) := by
  unfold tAn
  rw [h1, bind_ok]
  cases x
  · rfl
  · rw [h2 rfl]; rfl
theorem xOrr_g {x y : Bool} (h1 : ma ε = .ok (.bool x)) (h2 : mb ε = .ok (.bool y)) : xOrr ma mb ε = .ok (.bool (x || y)) := by
  unfold xOrr
  rw [h1, bind_ok, h2]
  cases x <;> rfl
theorem xAn_g {x y : Bool} (h1 : ma ε = .ok (.bool x)) (h2 : mb ε = .ok (.bool y)) : xAn ma mb ε = .ok (.bool (x && y)) := by
  unfold xAn
  rw [h1, bind_ok, h2]
  cases x <;> rfl
theorem xAn_c {x y : Bool} (h1 : ma ε = .ok (.bool x)) (h2 : x = true → mb ε = .ok (.bool y)) : xAn ma mb ε = .ok (.bool (x && y)) := by
  unfold xAn
  rw [h1, bind_ok]
  cases x
  · rfl
  · show mb ε = _
    rw [h2 rfl]; rfl
theorem xOrr_c {x y : Bool} (h1 : ma ε = .ok (.bool x)) (h2 : x = false → mb ε = .ok (.bool y)) : xOrr ma mb ε = .ok (.bool (x || y)) := by
  unfold xOrr
  rw [h1, bind_ok]
  cases x
  · show mb ε = _
    rw [h2 rfl]; rfl
  · rfl
theorem xNo_g {x : Bool} (h1 : ma ε = .ok (.bool x)) : xNo ma ε = .ok (.bool (!x)) := by
  unfold xNo
  rw [h1, bind_ok]
  rfl
theorem xCh_g {f g : D → D → R D} {x y : Bool} {c : D} (h1 : ma ε = .ok a) (h2 : mb ε = .ok b) (h3 : mc ε = .ok c) (h4 : f a b = .ok (.bool x)) (h5 : g b c = .ok (.bool y)) : xCh f g ma mb mc ε = .ok (.bool (x && y)) := by
  unfold xCh
  rw [h1, bind_ok, h2, bind_ok, h4, bind_ok]
  show (if x then (mc ε).bind fun d => g b d else .ok (.bool false)) = _
  rw [h3, bind_ok, h5]
  cases x <;> rfl
theorem xIf_g {x : Bool} (h : t ε = .ok x) (h1 : ma ε = .ok a) (h2 : mb ε = .ok b) : xIf t ma mb ε = .ok (if x then a else b) := by
  unfold xIf
  rw [h, bind_ok, h1, h2]
  cases x <;> rfl
theorem iSeqT_o {xs : List D} (h : me ε = .ok (.tuple xs)) : iSeq me ε = .ok xs := by
  unfold iSeq
  rw [h, bind_ok]
theorem iEnu_o {xs : List D} (h : ms ε = .ok [.list xs]) : iEnu ms ε = .ok (enumG 0 xs) := by
  unfold iEnu
  rw [h, bind_ok]
theorem iZi_o {xs ys : List D} (h : ms ε = .ok [.list xs, .list ys]) : iZi ms ε = .ok (zipG xs ys) := by
  unfold iZi
  rw [h, bind_ok]
theorem xTupS_o {ds : List D} (h : ms ε = .ok ds) (hl : ds.length ≤ lim) : xTupS ms ε = .ok (.tuple ds) := by
  unfold xTupS
  rw [h, bind_ok, if_pos hl]
theorem xLstS_o {ds : List D} (h : ms ε = .ok ds) (hl : ds.length ≤ lim) : xLstS ms ε = .ok (.list ds) := by
  unfold xLstS
  rw [h, bind_ok, if_pos hl]
theorem xStarL_o {xs ds : List D} (h : me ε = .ok (.list xs)) (h2 : ms ε = .ok ds) : xStar me ms ε = .ok (xs ++ ds) := by
  unfold xStar
  rw [h, bind_ok]
  show ((ms ε).bind fun ds => R.ok (xs ++ ds)) = _
  rw [h2, bind_ok]
theorem xStarT_o {xs ds : List D} (h : me ε = .ok (.tuple xs)) (h2 : ms ε = .ok ds) : xStar me ms ε = .ok (xs ++ ds) := by
  unfold xStar
  rw [h, bind_ok]
  show ((ms ε).bind fun ds => R.ok (xs ++ ds)) = _
  rw [h2, bind_ok]
theorem xRev_o {xs : List D} (h : me ε = .ok (.list xs)) : xRev me ε = .ok (.list xs.reverse) := by
  unfold xRev
  rw [h, bind_ok]
theorem oNone_o : oNone ε = .ok none := rfl
theorem oSome_o {z : Int} (h : me ε = .ok (.int z)) : oSome me ε = .ok (some z) := by
  unfold oSome
  rw [h, bind_ok]
theorem xSl_o {lo hi : Nv → R (Option Int)} {xs : List D} {l u : Option Int} (h : me ε = .ok (.list xs)) (h1 : lo ε = .ok l) (h2 : hi ε = .ok u) : xSl me lo hi ε = .ok (.list (cut xs l u)) := by
  unfold xSl
  rw [h, bind_ok, h1, bind_ok, h2, bind_ok]
/-- comprehensions: the turn's environment and value by unification -/
theorem lcG_a {α : Type} {g : D → Nv → R Nv} {e : Nv → R D} {enc v : α → D} {F : α → Nv} {xs : List α} (hg : ∀ x, x ∈ xs → g (enc x) ε = .ok (F x)) (he : ∀ x, x ∈ xs → e (F x) = .ok (v x)) : lcG g tYe e ε (xs.map enc) = .ok (xs.map v) :=
  lcG_all enc v xs fun x hx => ⟨F x, hg x hx, he x hx⟩
theorem lcG_i {α : Type} {g : D → Nv → R Nv} {t : Nv → R Bool} {e : Nv → R D} {enc v : α → D} {p : α → Bool} {F : α → Nv} {xs : List α} (hg : ∀ x, x ∈ xs → g (enc x) ε = .ok (F x)) (ht : ∀ x, x ∈ xs → t (F x) = .ok (p x)) (he : ∀ x, x ∈ xs → p x = true → e (F x) = .ok (v x)) : lcG g t e ε (xs.map enc) = .ok ((xs.filter p).map v) :=
  lcG_if enc p v xs fun x hx => ⟨F x, hg x hx, ht x hx, he x hx⟩
theorem wipe_0 : wipeE ε [] = ε := rfl
theorem wipe_n {v : Nat} {vs : List Nat} (h : wipeE ε vs = ε1) (h2 : st ε1 v .no = ε2) : wipeE ε (v :: vs) = ε2 := by
  rw [← h2, ← h]
  rfl
theorem xLc_a {α : Type} {vs : List Nat} {mi : Nv → R (List D)} {g : D → Nv → R Nv} {e : Nv → R D} {ε0 : Nv} {enc v : α → D} {F : α → Nv} {xs : List α} (hi : mi ε = .ok (xs.map enc)) (hw : wipeE ε vs = ε0)
    (hg : ∀ x, x ∈ xs → g (enc x) ε0 = .ok (F x)) (he : ∀ x, x ∈ xs → e (F x) = .ok (v x)) (hl : xs.length ≤ lim) : xLc vs mi g tYe e ε = .ok (.list (xs.map v)) :=
  xLc_ok hi (by rw [hw]; exact lcG_a hg he) (by rw [List.length_map]; exact hl)
theorem xLc_f {α : Type} {vs : List Nat} {mi : Nv → R (List D)} {g : D → Nv → R Nv} {t : Nv → R Bool} {e : Nv → R D} {ε0 : Nv} {enc v : α → D} {p : α → Bool} {F : α → Nv} {xs : List α} (hi : mi ε = .ok (xs.map enc)) (hw : wipeE ε vs = ε0)
    (hg : ∀ x, x ∈ xs → g (enc x) ε0 = .ok (F x)) (ht : ∀ x, x ∈ xs → t (F x) = .ok (p x)) (he : ∀ x, x ∈ xs → p x = true → e (F x) = .ok (v x)) (hl : xs.length ≤ lim) : xLc vs mi g t e ε = .ok (.list ((xs.filter p).map v)) :=
  xLc_ok hi (by rw [hw]; exact lcG_i hg ht he) (by rw [List.length_map]; exact Nat.le_trans (List.length_filter_le _ _) hl)
end
/-- what is run and then goes on or not: kinds of ends -/
theorem runs_rt {me : Nv → R D} {ε : Nv} {d : D} {post : Fl → Prop} (h : me ε = .ok d) (q : post (.rt d)) : Runs (sRt me) ε post := ⟨_, sRt_ok h, q⟩
theorem runs_rtM {i : Nat} {ε : Nv} {d : D} {post : Fl → Prop} (h : gt ε i = .mu d) (q : post (.rt d)) : Runs (sRtM i) ε post := ⟨_, sRtM_o h, q⟩
theorem runs_nx {m : Nv → R Fl} {ε ε' : Nv} {post : Fl → Prop} (h : m ε = .ok (.nx ε')) (q : post (.nx ε')) : Runs m ε post := ⟨_, h, q⟩
theorem runs_nil {ε : Nv} {post : Fl → Prop} (q : post (.nx ε)) : Runs sNil ε post := ⟨_, rfl, q⟩
/-- if: test false, nothing else: go on -/
theorem runs_no {t : Nv → R Bool} {m n : Nv → R Fl} {ε : Nv} {post : Fl → Prop} {b : Bool} (h : t ε = .ok b) (hb : b = false) (q : Runs n ε post) : Runs (sSeq (sIf t m sNil) n) ε post := by
  subst hb
  exact runs_sn (by rw [sIf_f h]; rfl) q
theorem runF_g {n N : Nat} {m : Nv → R Fl} {ds : List D} {d : D} (hn : ds.length = n) (h : Runs m (ds.map SV.im ++ List.replicate (N - n) SV.no) fun fl => (∃ ε, fl = .nx ε ∧ d = .none) ∨ fl = .rt d) : runF n N m ds = .ok d := by
  obtain ⟨fl, h1, h2⟩ := h
  unfold runF
  rw [if_pos hn, h1]
  rcases h2 with ⟨ε, rfl, rfl⟩ | rfl
  · rfl
  · rfl
/-! ### own objects read as data -/
def thS : SV → SV
  | .mu d => .im d
  | s => s
theorem th_0 : th [] = [] := rfl
theorem th_i {d : D} {r r' : Nv} (h : th r = r') : th (.im d :: r) = .im d :: r' := by rw [← h]; rfl
theorem th_m {d : D} {r r' : Nv} (h : th r = r') : th (.mu d :: r) = .im d :: r' := by rw [← h]; rfl
theorem th_n {r r' : Nv} (h : th r = r') : th (.no :: r) = .no :: r' := by rw [← h]; rfl
theorem th_x {a : SV} {r r' : Nv} (h : th r = r') : th (a :: r) = thS a :: r' := by rw [← h]; cases a <;> rfl
theorem tTh_g {m : Nv → R Bool} {ε ε' : Nv} {b : Bool} (h : th ε = ε') (h2 : m ε' = .ok b) : tTh m ε = .ok b := by
  show m (th ε) = _
  rw [h, h2]
theorem xTh_g {m : Nv → R D} {ε ε' : Nv} {d : D} (h : th ε = ε') (h2 : m ε' = .ok d) (hf : flat d = true) : xTh m ε = .ok d := xTh_o (by rw [h, h2]) hf
/-! ### equality with nothing -/
theorem dEq_nil {xs : List D} (h : okd (.list xs) = true) : dEq (.list xs) (.list []) = .ok (.bool xs.isEmpty) := by
  unfold dEq
  rw [h, show okd (.list []) = true from rfl]
  cases xs with
  | nil => rfl
  | cons x r =>
    show R.ok (PyData.bool (PyData.eqv (.list (x :: r)) (.list []))) = _
    rw [PyData.eqv]
    rfl
theorem dNe_nil {xs : List D} (h : okd (.list xs) = true) : dNe (.list xs) (.list []) = .ok (.bool (!xs.isEmpty)) := by
  unfold dNe
  rw [h, show okd (.list []) = true from rfl]
  cases xs with
  | nil => rfl
  | cons x r =>
    show R.ok (PyData.bool (!PyData.eqv (.list (x :: r)) (.list []))) = _
    rw [PyData.eqv]
    rfl
end Tw
set_option Elab.async false
set_option linter.all false
set_option maxRecDepth 100000
set_option maxHeartbeats 4000000
/-! the programs over data of each def -/
namespace My
open PySem PySem.Spec PyProof.Rows L2 Tw
def fuel : Nat := 100000
/-- check_sizes (sizes): 0 sizes 1 i 2 size -/
def m_check_sizes : Nv → R Fl :=
  (sSeq (sIf (tNo (tC' (xCh dLe dLe (xC (.int 1)) (xCall cLen (xCons (xV 0) xNil)) (xC (.int 8)))))
  sNo
  sNil)
  (sFor (iEnu (xCons (xV 0) xNil)) (bT 2 (bsC (bN 1) (bsC (bN 2) bs0)))
  (sIf (tNo (tC' (xCh dLe dLe (xC (.int 2)) (xV 2) (xC (.int 5)))))
    sNo
    sNil)))
def f_check_sizes : List D → R D := runF 1 3 m_check_sizes
/-- levels_at (run, told): 0 run 1 told 2 factor -/
def m_levels_at : Nv → R Fl :=
  (sRt (xCall kTuple (xCons (xLc [2] (iSeq (xV 1)) (bN 2) tYe (xBin dIx (xV 0) (xV 2))) xNil)))
def f_levels_at : List D → R D := runF 2 3 m_levels_at
/-- all_levels (sizes): 0 sizes 1 found 2 size 3 told 4 level -/
def m_all_levels : Nv → R Fl :=
  (sSeq (sAs 1 (xLst (xCons (xTup xNil) xNil)))
  (sSeq (sFor (iSeq (xV 0)) (bN 2)
  (sAs 1 (xLc2 [3, 4] [4] (iSeq (xV 1)) (bN 3) tYe (iRange1 (xCons (xV 2) xNil)) (bN 4) tYe (xTupS (xStar (xV 3) (xCons (xV 4) xNil))))))
  (sRt (xV 1))))
def f_all_levels : List D → R D := runF 1 5 m_all_levels
/-- subsets (many, few): 0 many 1 few 2 found 3 k 4 told -/
def m_subsets : Nv → R Fl :=
  (sSeq (sAs 2 (xLst (xCons (xLst xNil) xNil)))
  (sSeq (sFor (iRange1 (xCons (xV 0) xNil)) (bN 3)
  (sAs 2 (xBin dCat (xV 2) (xLc [4] (iSeq (xV 2)) (bN 4) (tC' (xBin dLt (xCall cLen (xCons (xV 4) xNil)) (xV 1))) (xLstS (xStar (xV 4) (xCons (xV 3) xNil)))))))
  (sRt (xCall kSort (xCons (xLc [4] (iSeq (xV 2)) (bN 4) (tC' (xBin dEq (xCall cLen (xCons (xV 4) xNil)) (xV 1))) (xV 4)) xNil)))))
def f_subsets : List D → R D := runF 2 5 m_subsets
/-- product_of (sizes): 0 sizes 1 found 2 size -/
def m_product_of : Nv → R Fl :=
  (sSeq (sAs 1 (xC (.int 1)))
  (sSeq (sFor (iSeq (xV 0)) (bN 2)
  (sAs 1 (xBin dMul (xV 1) (xV 2))))
  (sRt (xV 1))))
def f_product_of : List D → R D := runF 1 3 m_product_of
/-- check_full (sizes): 0 sizes -/
def m_check_full : Nv → R Fl :=
  (sSeq (sDr (xCall f_check_sizes (xCons (xV 0) xNil)))
  (sSeq (sIf (tC' (xBin dGt (xCall cLen (xCons (xV 0) xNil)) (xC (.int 6))))
  sNo
  sNil)
  (sIf (tC' (xBin dGt (xCall f_product_of (xCons (xV 0) xNil)) (xC (.int 64))))
  sNo
  sNil)))
def f_check_full : List D → R D := runF 1 1 m_check_full
/-- check_number (sizes, t): 0 sizes 1 t -/
def m_check_number : Nv → R Fl :=
  (sIf (tOrr (tNo (tC' (xCh dLe dLe (xC (.int 1)) (xV 1) (xC (.int 3))))) (tC' (xBin dGt (xV 1) (xCall cLen (xCons (xV 0) xNil)))))
  sNo
  sNil)
def f_check_number : List D → R D := runF 2 2 m_check_number
/-- check_sights (sizes, t): 0 sizes 1 t -/
def m_check_sights : Nv → R Fl :=
  (sSeq (sDr (xCall f_check_full (xCons (xV 0) xNil)))
  (sDr (xCall f_check_number (xCons (xV 0) (xCons (xV 1) xNil)))))
def f_check_sights : List D → R D := runF 2 2 m_check_sights
/-- check_some (runs, sizes): 0 runs 1 sizes 2 k 3 run 4 level 5 size -/
def m_check_some : Nv → R Fl :=
  (sSeq (sIf (tC' (xBin dGt (xCall cLen (xCons (xV 0) xNil)) (xC (.int 64))))
  sNo
  sNil)
  (sFor (iEnu (xCons (xV 0) xNil)) (bT 2 (bsC (bN 2) (bsC (bN 3) bs0)))
  (sIf (tOrr (tC' (xBin dNe (xCall cLen (xCons (xV 3) xNil)) (xCall cLen (xCons (xV 1) xNil)))) (tNo (tV (xCall cAll (xCons (xLc [4, 5] (iZm (xCons (xV 3) (xCons (xV 1) xNil))) (bT 2 (bsC (bN 4) (bsC (bN 5) bs0))) tYe (xCh dLe dLt (xC (.int 0)) (xV 4) (xV 5))) xNil)))))
    sNo
    sNil)))
def f_check_some : List D → R D := runF 2 6 m_check_some
/-- check_covering (runs, sizes, t): 0 runs 1 sizes 2 t -/
def m_check_covering : Nv → R Fl :=
  (sSeq (sDr (xCall f_check_sizes (xCons (xV 1) xNil)))
  (sSeq (sDr (xCall f_check_some (xCons (xV 0) (xCons (xV 1) xNil))))
  (sDr (xCall f_check_sights (xCons (xV 1) (xCons (xV 2) xNil))))))
def f_check_covering : List D → R D := runF 3 3 m_check_covering
/-- sights_of (sizes, t): 0 sizes 1 t 2 found 3 told 4 levels 5 factor -/
def m_sights_of : Nv → R Fl :=
  (sSeq (sAsM 2 (xLst xNil))
  (sSeq (sFor (iSeq (xCall f_subsets (xCons (xCall cLen (xCons (xV 0) xNil)) (xCons (xV 1) xNil)))) (bN 3)
  (sEx 2 (xLc [4] (iSeq (xCall f_all_levels (xCons (xLc [5] (iSeq (xV 3)) (bN 5) tYe (xBin dIx (xV 0) (xV 5))) xNil))) (bN 4) tYe (xTup (xCons (xV 3) (xCons (xV 4) xNil))))))
  (sRtM 2)))
def f_sights_of : List D → R D := runF 2 6 m_sights_of
/-- has (run, sight): 0 run 1 sight -/
def m_has : Nv → R Fl :=
  (sRt (xBin dEq (xCall f_levels_at (xCons (xV 0) (xCons (xBin dIx (xV 1) (xC (.int 0))) xNil))) (xBin dIx (xV 1) (xC (.int 1)))))
def f_has : List D → R D := runF 2 2 m_has
/-- missing_of (runs, sizes, t): 0 runs 1 sizes 2 t 3 sight 4 run -/
def m_missing_of : Nv → R Fl :=
  (sRt (xLc [3] (iSeq (xCall f_sights_of (xCons (xV 1) (xCons (xV 2) xNil)))) (bN 3) (tNo (tV (xCall cAny (xCons (xLc [4] (iSeq (xV 0)) (bN 4) tYe (xCall f_has (xCons (xV 4) (xCons (xV 3) xNil)))) xNil)))) (xV 3)))
def f_missing_of : List D → R D := runF 3 5 m_missing_of
/-- floor_of (sizes, t): 0 sizes 1 t -/
def m_floor_of : Nv → R Fl :=
  (sRt (xCall f_product_of (xCons (xSl (xCall kSort (xCons (xV 0) xNil)) (oSome (xBin dSub (xCall cLen (xCons (xV 0) xNil)) (xV 1))) oNone) xNil)))
def f_floor_of : List D → R D := runF 2 2 m_floor_of
/-- next_of (left, sizes): 0 left 1 sizes 2 runs 3 many 4 run 5 sight -/
def m_next_of : Nv → R Fl :=
  (sSeq (sAs 2 (xCall f_all_levels (xCons (xV 1) xNil)))
  (sSeq (sAs 3 (xLc [4] (iSeq (xV 2)) (bN 4) tYe (xCall cLen (xCons (xLc [5] (iSeq (xV 0)) (bN 5) (tV (xCall f_has (xCons (xV 4) (xCons (xV 5) xNil)))) (xV 5)) xNil))))
  (sRt (xBin dIx (xV 2) (xBin dIdx (xV 3) (xCall kMax (xCons (xV 3) xNil)))))))
def f_next_of : List D → R D := runF 2 6 m_next_of
/-- sights (sizes, t): 0 sizes 1 t -/
def m_sights : Nv → R Fl :=
  (sSeq (sDr (xCall f_check_sights (xCons (xV 0) (xCons (xV 1) xNil))))
  (sRt (xCall f_sights_of (xCons (xV 0) (xCons (xV 1) xNil)))))
def f_sights : List D → R D := runF 2 2 m_sights
/-- missing (runs, sizes, t): 0 runs 1 sizes 2 t -/
def m_missing : Nv → R Fl :=
  (sSeq (sDr (xCall f_check_covering (xCons (xV 0) (xCons (xV 1) (xCons (xV 2) xNil)))))
  (sRt (xCall f_missing_of (xCons (xV 0) (xCons (xV 1) (xCons (xV 2) xNil))))))
def f_missing : List D → R D := runF 3 3 m_missing
/-- floor (sizes, t): 0 sizes 1 t -/
def m_floor : Nv → R Fl :=
  (sSeq (sDr (xCall f_check_sights (xCons (xV 0) (xCons (xV 1) xNil))))
  (sRt (xCall f_floor_of (xCons (xV 0) (xCons (xV 1) xNil)))))
def f_floor : List D → R D := runF 2 2 m_floor
/-- next_run (runs, sizes, t): 0 runs 1 sizes 2 t 3 left -/
def m_next_run : Nv → R Fl :=
  (sSeq (sDr (xCall f_check_covering (xCons (xV 0) (xCons (xV 1) (xCons (xV 2) xNil)))))
  (sSeq (sAs 3 (xCall f_missing_of (xCons (xV 0) (xCons (xV 1) (xCons (xV 2) xNil)))))
  (sRt (xIf (tC' (xBin dGt (xCall cLen (xCons (xV 3) xNil)) (xC (.int 0)))) (xCall f_next_of (xCons (xV 3) (xCons (xV 1) xNil))) (xC .none)))))
def f_next_run : List D → R D := runF 3 4 m_next_run
/-- greedy (sizes, t): 0 sizes 1 t 2 found 3 left 4 run 5 sight -/
def m_greedy : Nv → R Fl :=
  (sSeq (sDr (xCall f_check_sights (xCons (xV 0) (xCons (xV 1) xNil))))
  (sSeq (sAsM 2 (xLst xNil))
  (sSeq (sAs 3 (xCall f_sights_of (xCons (xV 0) (xCons (xV 1) xNil))))
  (sSeq (sWh fuel (tC' (xBin dGt (xCall cLen (xCons (xV 3) xNil)) (xC (.int 0))))
  (sSeq (sAs 4 (xCall f_next_of (xCons (xV 3) (xCons (xV 0) xNil))))
    (sSeq (sAp 2 (xV 4))
    (sAs 3 (xLc [5] (iSeq (xV 3)) (bN 5) (tNo (tV (xCall f_has (xCons (xV 4) (xCons (xV 5) xNil))))) (xV 5))))))
  (sRtM 2)))))
def f_greedy : List D → R D := runF 2 6 m_greedy
/-- cover_of (left, runs, size): 0 left 1 runs 2 size 3 run 4 rest 5 sight -/
def m_cover_of (self : List D → R D) : Nv → R Fl :=
  (sSeq (sIf (tC' (xBin dEq (xCall cLen (xCons (xV 0) xNil)) (xC (.int 0))))
  (sRt (xLst xNil))
  sNil)
  (sSeq (sIf (tC' (xBin dEq (xV 2) (xC (.int 0))))
  (sRt (xC .none))
  sNil)
  (sSeq (sFor (iSeq (xV 1)) (bN 3)
  (sIf (tV (xCall f_has (xCons (xV 3) (xCons (xBin dIx (xV 0) (xC (.int 0))) xNil))))
    (sSeq (sAs 4 (xCall self (xCons (xLc [5] (iSeq (xV 0)) (bN 5) (tNo (tV (xCall f_has (xCons (xV 3) (xCons (xV 5) xNil))))) (xV 5)) (xCons (xV 1) (xCons (xBin dSub (xV 2) (xC (.int 1))) xNil)))))
      (sIf (tC' (xBin dIsNot (xV 4) (xC .none)))
      (sRt (xLstS (xCons (xV 3) (xStar (xV 4) xNil))))
      sNil))
    sNil))
  (sRt (xC .none)))))
def r_cover_of : Nat → List D → R D
  | 0 => fun _ => .bad
  | n + 1 => runF 3 6 (m_cover_of (r_cover_of n))
def f_cover_of : List D → R D := r_cover_of 40
/-- fewest (sizes, t): 0 sizes 1 t 2 runs 3 size 4 found -/
def m_fewest : Nv → R Fl :=
  (sSeq (sDr (xCall f_check_sights (xCons (xV 0) (xCons (xV 1) xNil))))
  (sSeq (sAs 2 (xCall f_all_levels (xCons (xV 0) xNil)))
  (sSeq (sIf (tC' (xBin dGt (xCall cLen (xCons (xV 2) xNil)) (xC (.int 12))))
  sNo
  sNil)
  (sSeq (sAs 3 (xCall f_floor_of (xCons (xV 0) (xCons (xV 1) xNil))))
  (sSeq (sAs 4 (xCall f_cover_of (xCons (xCall f_sights_of (xCons (xV 0) (xCons (xV 1) xNil))) (xCons (xV 2) (xCons (xV 3) xNil)))))
  (sSeq (sWh fuel (tC' (xBin dIs (xV 4) (xC .none)))
  (sSeq (sAs 3 (xBin dAdd (xV 3) (xC (.int 1))))
    (sAs 4 (xCall f_cover_of (xCons (xCall f_sights_of (xCons (xV 0) (xCons (xV 1) xNil))) (xCons (xV 2) (xCons (xV 3) xNil)))))))
  (sRt (xCall kSort (xCons (xV 4) xNil)))))))))
def f_fewest : List D → R D := runF 2 5 m_fewest
/-- _law_draws (script): 0 script 1 draws 2 k 3 rest 4 turn 5 mixed -/
def m__law_draws : Nv → R Fl :=
  (sSeq (sAsM 1 (xLst xNil))
  (sSeq (sFor (iRange1 (xCons (xCall kMin (xCons (xC (.int 63)) (xCons (xCall cLen (xCons (xV 0) xNil)) xNil))) xNil)) (bN 2)
  (sSeq (sAs 3 (xCall cAbs (xCons (xBin dIx (xV 0) (xV 2)) xNil)))
    (sIf (tC' (xBin dGe (xV 3) (xBin dPow (xC (.int 10)) (xC (.int 18)))))
    (sFor (iRange1 (xCons (xC (.int 60)) xNil)) (bN 4)
      (sIf (tC' (xBin dGt (xV 3) (xC (.int 0))))
        (sSeq (sAp 1 (xBin dMod (xCall cInt (xCons (xV 3) xNil)) (xC (.int 65536))))
          (sAs 3 (xBin dDiv (xV 3) (xC (.int 65536)))))
        sNil))
    (sSeq (sAs 5 (xBin dMod (xCall cInt (xCons (xBin dAdd (xBin dMul (xV 3) (xC (.int 48271))) (xBin dMul (xBin dAdd (xV 2) (xC (.int 1))) (xC (.int 69621)))) xNil)) (xC (.int 2147483647))))
      (sSeq (sAs 5 (xBin dMod (xCall cInt (xCons (xBin dAdd (xBin dAdd (xBin dMul (xV 5) (xC (.int 16807))) (xBin dMul (xC (.int 11)) (xV 2))) (xC (.int 5))) xNil)) (xC (.int 2147483629))))
      (sSeq (sAp 1 (xBin dMod (xCall cInt (xCons (xV 5) xNil)) (xC (.int 65536))))
      (sAp 1 (xBin dMod (xCall cInt (xCons (xBin dDiv (xV 5) (xC (.int 65536))) xNil)) (xC (.int 32768))))))))))
  (sRtM 1)))
def f__law_draws : List D → R D := runF 1 6 m__law_draws
/-- _law_mix (draws, k, many): 0 draws 1 k 2 many 3 cell -/
def m__law_mix : Nv → R Fl :=
  (sSeq (sAs 3 (xC (.int 0)))
  (sSeq (sIf (tC' (xBin dGt (xCall cLen (xCons (xV 0) xNil)) (xC (.int 0))))
  (sAs 3 (xBin dIx (xV 0) (xBin dMod (xCall cInt (xCons (xV 1) xNil)) (xCall cLen (xCons (xV 0) xNil)))))
  sNil)
  (sSeq (sIf (tC' (xBin dLt (xV 1) (xCall cLen (xCons (xV 0) xNil))))
  (sRt (xBin dMod (xCall cInt (xCons (xV 3) xNil)) (xV 2)))
  sNil)
  (sRt (xBin dMod (xCall cInt (xCons (xBin dDiv (xCall cInt (xCons (xBin dAdd (xBin dMul (xV 3) (xC (.int 7919))) (xBin dMul (xV 1) (xC (.int 104729)))) xNil)) (xC (.int 3))) xNil)) (xV 2))))))
def f__law_mix : List D → R D := runF 3 4 m__law_mix
/-- _law_sizes (draws, k, most, full): 0 draws 1 k 2 most 3 full 4 i 5 found 6 whole 7 size -/
def m__law_sizes : Nv → R Fl :=
  (sSeq (sPm 5 true 6 false (xLst xNil) (xC (.int 1)))
  (sSeq (sFor (iRange1 (xCons (xBin dAdd (xC (.int 1)) (xCall f__law_mix (xCons (xV 0) (xCons (xV 1) (xCons (xV 2) xNil))))) xNil)) (bN 4)
  (sSeq (sAs 7 (xBin dIx (xLst (xCons (xC (.int 2)) (xCons (xC (.int 2)) (xCons (xC (.int 3)) (xCons (xC (.int 4)) xNil))))) (xCall f__law_mix (xCons (xV 0) (xCons (xBin dAdd (xBin dAdd (xV 1) (xC (.int 1))) (xV 4)) (xCons (xC (.int 4)) xNil))))))
    (sIf (tC' (xBin dLe (xBin dMul (xV 6) (xV 7)) (xV 3)))
    (sSeq (sAp 5 (xV 7))
      (sAs 6 (xBin dMul (xV 6) (xV 7))))
    sNil)))
  (sRtM 5)))
def f__law_sizes : List D → R D := runF 4 8 m__law_sizes
/-- _law_full (sizes): 0 sizes 1 found 2 size 3 later 4 told 5 level -/
def m__law_full : Nv → R Fl :=
  (sSeq (sAs 1 (xLst (xCons (xTup xNil) xNil)))
  (sSeq (sFor (iSeq (xV 0)) (bN 2)
  (sSeq (sAs 3 (xLst xNil))
    (sSeq (sFor (iSeq (xV 1)) (bN 4)
    (sAs 3 (xBin dCat (xV 3) (xLc [5] (iRange1 (xCons (xV 2) xNil)) (bN 5) tYe (xBin dAdd (xV 4) (xTup (xCons (xV 5) xNil)))))))
    (sAs 1 (xV 3)))))
  (sRt (xV 1))))
def f__law_full : List D → R D := runF 1 6 m__law_full
/-- _law_lists (many, few): 0 many 1 few 2 found 3 k 4 told -/
def m__law_lists : Nv → R Fl :=
  (sSeq (sAs 2 (xLst (xCons (xLst xNil) xNil)))
  (sSeq (sFor (iRange1 (xCons (xV 0) xNil)) (bN 3)
  (sAs 2 (xBin dCat (xV 2) (xLc [4] (iSeq (xV 2)) (bN 4) (tC' (xBin dLt (xCall cLen (xCons (xV 4) xNil)) (xV 1))) (xBin dCat (xV 4) (xLst (xCons (xV 3) xNil)))))))
  (sRt (xCall kSort (xCons (xLc [4] (iSeq (xV 2)) (bN 4) (tC' (xBin dEq (xCall cLen (xCons (xV 4) xNil)) (xV 1))) (xV 4)) xNil)))))
def f__law_lists : List D → R D := runF 2 5 m__law_lists
/-- _law_sights (sizes, t): 0 sizes 1 t 2 found 3 told 4 levels 5 i -/
def m__law_sights : Nv → R Fl :=
  (sSeq (sAs 2 (xLst xNil))
  (sSeq (sFor (iSeq (xCall f__law_lists (xCons (xCall cLen (xCons (xV 0) xNil)) (xCons (xV 1) xNil)))) (bN 3)
  (sAs 2 (xBin dCat (xV 2) (xLc [4] (iSeq (xCall f__law_full (xCons (xLc [5] (iSeq (xV 3)) (bN 5) tYe (xBin dIx (xV 0) (xV 5))) xNil))) (bN 4) tYe (xTup (xCons (xV 3) (xCons (xV 4) xNil)))))))
  (sRt (xV 2))))
def f__law_sights : List D → R D := runF 2 6 m__law_sights
/-- _law_has (run, sight): 0 run 1 sight 2 i -/
def m__law_has : Nv → R Fl :=
  (sRt (xBin dEq (xCall kTuple (xCons (xLc [2] (iSeq (xBin dIx (xV 1) (xC (.int 0)))) (bN 2) tYe (xBin dIx (xV 0) (xV 2))) xNil)) (xBin dIx (xV 1) (xC (.int 1)))))
def f__law_has : List D → R D := runF 2 3 m__law_has
/-- _law_runs (draws, k, sizes, most): 0 draws 1 k 2 sizes 3 most 4 full 5 j -/
def m__law_runs : Nv → R Fl :=
  (sSeq (sAs 4 (xCall f__law_full (xCons (xV 2) xNil)))
  (sRt (xLc [5] (iRange1 (xCons (xCall f__law_mix (xCons (xV 0) (xCons (xV 1) (xCons (xBin dAdd (xV 3) (xC (.int 1))) xNil)))) xNil)) (bN 5) tYe (xBin dIx (xV 4) (xCall f__law_mix (xCons (xV 0) (xCons (xBin dAdd (xBin dAdd (xV 1) (xC (.int 1))) (xV 5)) (xCons (xCall cLen (xCons (xV 4) xNil)) xNil))))))))
def f__law_runs : List D → R D := runF 4 6 m__law_runs
/-- _law_next (left, full): 0 left 1 full 2 many 3 run 4 sight -/
def m__law_next : Nv → R Fl :=
  (sSeq (sAs 2 (xLc [3] (iSeq (xV 1)) (bN 3) tYe (xCall cLen (xCons (xLc [4] (iSeq (xV 0)) (bN 4) (tV (xCall f__law_has (xCons (xV 3) (xCons (xV 4) xNil)))) (xV 4)) xNil))))
  (sRt (xBin dIx (xV 1) (xBin dIdx (xV 2) (xCall kMax (xCons (xV 2) xNil))))))
def f__law_next : List D → R D := runF 2 5 m__law_next
/-- _law_can (left, full, size): 0 left 1 full 2 size 3 run 4 sight -/
def m__law_can (self : List D → R D) : Nv → R Fl :=
  (sSeq (sIf (tC' (xBin dEq (xV 0) (xLst xNil)))
  (sRt (xC (.bool true)))
  sNil)
  (sSeq (sIf (tC' (xBin dEq (xV 2) (xC (.int 0))))
  (sRt (xC (.bool false)))
  sNil)
  (sSeq (sFor (iSeq (xLc [3] (iSeq (xV 1)) (bN 3) (tV (xCall f__law_has (xCons (xV 3) (xCons (xBin dIx (xV 0) (xC (.int 0))) xNil)))) (xV 3))) (bN 3)
  (sIf (tV (xCall self (xCons (xLc [4] (iSeq (xV 0)) (bN 4) (tNo (tV (xCall f__law_has (xCons (xV 3) (xCons (xV 4) xNil))))) (xV 4)) (xCons (xV 1) (xCons (xBin dSub (xV 2) (xC (.int 1))) xNil)))))
    (sRt (xC (.bool true)))
    sNil))
  (sRt (xC (.bool false))))))
def r__law_can : Nat → List D → R D
  | 0 => fun _ => .bad
  | n + 1 => runF 3 5 (m__law_can (r__law_can n))
def f__law_can : List D → R D := r__law_can 40
/-- law (script): 0 script 1 draws 2 sizes 3 t 4 most 5 size 6 turn 7 told 8 full 9 every 10 runs 11 kept 12 left 13 due 14 found 15 least 16 sight 17 run -/
def m_law : Nv → R Fl :=
  (sSeq (sAs 1 (xCall f__law_draws (xCons (xV 0) xNil)))
  (sSeq (sAs 2 (xCall f__law_sizes (xCons (xV 1) (xCons (xC (.int 10)) (xCons (xC (.int 5)) (xCons (xC (.int 36)) xNil))))))
  (sSeq (sAs 3 (xBin dAdd (xC (.int 1)) (xCall f__law_mix (xCons (xV 1) (xCons (xC (.int 0)) (xCons (xCall kMin (xCons (xC (.int 3)) (xCons (xCall cLen (xCons (xV 2) xNil)) xNil))) xNil))))))
  (sSeq (sUn (xTup (xCons (xCall f__law_full (xCons (xV 2) xNil)) (xCons (xCall f__law_sights (xCons (xV 2) (xCons (xV 3) xNil))) xNil))) (bT 2 (bsC (bN 8) (bsC (bN 9) bs0))))
  (sSeq (sAs 4 (xC (.int 1)))
  (sSeq (sFor (iSeq (xSl (xRev (xCall kSort (xCons (xV 2) xNil))) oNone (oSome (xV 3)))) (bN 5)
  (sAs 4 (xBin dMul (xV 4) (xV 5))))
  (sSeq (sIf (tOrr (tC' (xBin dNe (xCall cRepr (xCons (xCall f_sights (xCons (xV 2) (xCons (xV 3) xNil))) xNil)) (xCall cRepr (xCons (xV 9) xNil)))) (tC' (xBin dNe (xCall cRepr (xCons (xCall f_floor (xCons (xV 2) (xCons (xV 3) xNil))) xNil)) (xCall cRepr (xCons (xV 4) xNil)))))
  (sRt (xC (.bool false)))
  sNil)
  (sSeq (sFor (iRange1 (xCons (xC (.int 3)) xNil)) (bN 6)
  (sSeq (sAs 10 (xCall f__law_runs (xCons (xV 1) (xCons (xBin dAdd (xC (.int 20)) (xBin dMul (xC (.int 10)) (xV 6))) (xCons (xV 2) (xCons (xC (.int 8)) xNil))))))
    (sSeq (sAs 11 (xCall cRepr (xCons (xTup (xCons (xV 10) (xCons (xV 2) xNil))) xNil)))
    (sSeq (sAs 12 (xLc [16] (iSeq (xV 9)) (bN 16) (tC' (xBin dEq (xLc [17] (iSeq (xV 10)) (bN 17) (tV (xCall f__law_has (xCons (xV 17) (xCons (xV 16) xNil)))) (xV 17)) (xLst xNil))) (xV 16)))
    (sSeq (sAsM 7 (xCall f_missing (xCons (xV 10) (xCons (xV 2) (xCons (xV 3) xNil)))))
    (sSeq (sIf (tTh (tC' (xBin dNe (xCall cRepr (xCons (xV 7) xNil)) (xCall cRepr (xCons (xV 12) xNil)))))
    (sRt (xC (.bool false)))
    sNil)
    (sSeq (sAs 13 (xC .none))
    (sSeq (sIf (tC' (xBin dNe (xV 12) (xLst xNil)))
    (sSeq (sAs 13 (xCall f__law_next (xCons (xV 12) (xCons (xV 8) xNil))))
      (sIf (tC' (xBin dLt (xBin dMul (xCall cLen (xCons (xLc [16] (iSeq (xV 12)) (bN 16) (tV (xCall f__law_has (xCons (xV 13) (xCons (xV 16) xNil)))) (xV 16)) xNil)) (xV 4)) (xCall cLen (xCons (xV 12) xNil))))
      (sRt (xC (.bool false)))
      sNil))
    sNil)
    (sSeq (sIf (tOrr (tC' (xBin dNe (xCall cRepr (xCons (xCall f_next_run (xCons (xV 10) (xCons (xV 2) (xCons (xV 3) xNil)))) xNil)) (xCall cRepr (xCons (xV 13) xNil)))) (tC' (xBin dNe (xCall cRepr (xCons (xTup (xCons (xV 10) (xCons (xV 2) xNil))) xNil)) (xV 11))))
    (sRt (xC (.bool false)))
    sNil)
    (sSeq (sAp 7 (xTup xNil))
    (sIf (tC' (xBin dNe (xCall cRepr (xCons (xCall f_missing (xCons (xV 10) (xCons (xV 2) (xCons (xV 3) xNil)))) xNil)) (xCall cRepr (xCons (xV 12) xNil))))
    (sRt (xC (.bool false)))
    sNil)))))))))))
  (sSeq (sPm 14 true 12 false (xLst xNil) (xV 9))
  (sSeq (sWh fuel (tC' (xBin dNe (xV 12) (xLst xNil)))
  (sSeq (sAp 14 (xCall f__law_next (xCons (xV 12) (xCons (xV 8) xNil))))
    (sAs 12 (xLc [16] (iSeq (xV 12)) (bN 16) (tNo (tV (xCall f__law_has (xCons (xIm 14 (xUn dNeg (xC (.int 1)))) (xCons (xV 16) xNil))))) (xV 16)))))
  (sSeq (sFz 14) (sSeq (sAsM 7 (xCall f_greedy (xCons (xV 2) (xCons (xV 3) xNil))))
  (sSeq (sFz 7) (sSeq (sIf (tOrr (tC' (xBin dNe (xCall cRepr (xCons (xV 7) xNil)) (xCall cRepr (xCons (xV 14) xNil)))) (tOrr (tC' (xBin dNe (xCall f_missing (xCons (xV 7) (xCons (xV 2) (xCons (xV 3) xNil)))) (xLst xNil))) (tC' (xBin dEq (xCall f_missing (xCons (xSl (xV 7) oNone (oSome (xUn dNeg (xC (.int 1))))) (xCons (xV 2) (xCons (xV 3) xNil)))) (xLst xNil)))))
  (sRt (xC (.bool false)))
  sNil)
  (sSeq (sIf (tC' (xBin dLe (xCall cLen (xCons (xV 8) xNil)) (xC (.int 12))))
  (sSeq (sAsM 15 (xCall f_fewest (xCons (xV 2) (xCons (xV 3) xNil))))
    (sSeq (sIf (tOrr (tTh (tC' (xBin dNe (xV 15) (xUn dSS (xV 15))))) (tOrr (tTh (tC' (xBin dNe (xLc [17] (iSeq (xV 15)) (bN 17) (tC' (xBin dNotIn (xV 17) (xV 8))) (xV 17)) (xLst xNil)))) (tTh (tC' (xBin dNe (xCall f_missing (xCons (xV 15) (xCons (xV 2) (xCons (xV 3) xNil)))) (xLst xNil))))))
    (sRt (xC (.bool false)))
    sNil)
    (sSeq (sIf (tOrr (tNo (tTh (tC' (xCh dLe dLe (xV 4) (xCall cLen (xCons (xV 15) xNil)) (xCall cLen (xCons (xV 7) xNil)))))) (tV (xCall f__law_can (xCons (xV 9) (xCons (xV 8) (xCons (xBin dSub (xTh (xCall cLen (xCons (xV 15) xNil))) (xC (.int 1))) xNil))))))
    (sRt (xC (.bool false)))
    sNil)
    (sSeq (sAp 15 (xTup xNil))
    (sSeq (sFz 15) sNil)))))
  sNil)
  (sRt (xBin dEq (xCall f_missing (xCons (xV 8) (xCons (xV 2) (xCons (xV 3) xNil)))) (xLst xNil))))))))))))))))))
def f_law : List D → R D := runF 1 18 m_law
end My
set_option Elab.async false
set_option linter.all false
set_option maxRecDepth 100000
set_option maxHeartbeats 4000000
/-! PlDraws: the draws and their mixing, the same in every law -/
namespace My
open PySem Tw
local macro_rules | `(tactic| walk_at "ev") => `(tactic| simp only [xCall, xCons, xNil, xBin, xUn, xV, xC, xTup, xLst, xIm, gt, st, bind_ok, R.bind, bN, bT, bsC, bs0, tC', tV, tNo, tAn, tOrr, boD, truD, iSeq, dAdd_i, dSub_i, dNeg_i, dLt_i, dLe_i, dGt_i, dGe_i, dEq_int, dNe_int, cLen_l, cLen_t, cInt_i, cInt_b, cAbs_i, kMax_i, kMin_i, List.length_map, List.length_cons, List.length_nil])
def il (l : List Int) : D := .list (l.map PyData.int)
/-- what _law_draws gives: ints from 0 on, below 65536, at most 3780 -/
structure DrawsOk (ds : List Int) : Prop where
  len : ds.length ≤ 3780
  mem : ∀ d, d ∈ ds → 0 ≤ d ∧ d < 65536
theorem below_app {ds : List Int} {d : Int} (h1 : ∀ d, d ∈ ds → 0 ≤ d ∧ d < 65536) (h : 0 ≤ d ∧ d < 65536) : ∀ e, e ∈ ds ++ [d] → 0 ≤ e ∧ e < 65536 := fun e he => by
  rcases List.mem_append.mp he with z | z
  · exact h1 e z
  · rw [List.mem_singleton] at z
    rw [z]
    exact h
theorem il_app (ds : List Int) (d : Int) : (ds.map PyData.int) ++ [PyData.int d] = (ds ++ [d]).map PyData.int := by rw [List.map_append]; rfl
theorem lim_eq : lim = 1000000 := rfl
theorem mod_in (x : Int) {n : Int} (h : 0 < n) : 0 ≤ x % n ∧ x % n < n := ⟨Int.emod_nonneg _ (by omega), Int.emod_lt_of_pos _ h⟩
theorem draws_ok {ns : List Int} (hn : ns.length ≤ 63) : ∃ ds, f__law_draws [il ns] = .ok (il ds) ∧ DrawsOk ds := by
  have hlim := lim_eq
  have main : ∃ d, f__law_draws [il ns] = .ok d ∧ ∃ ds, d = il ds ∧ DrawsOk ds := by
    unfold f__law_draws
    refine runF_some rfl ?_
    unfold m__law_draws
    refine runs_sn (ε' := [.im (il ns), .mu (.list []), .no, .no, .no, .no]) (by rw [sAsM_ok (d := .list []) (by walk_at "ev")]; rfl) ?_
    refine runs_seq (runs_for (ds := rangeD 0 ns.length) (fun i ε => ∃ ds a b c d, ε = [.im (il ns), .mu (il ds), a, b, c, d] ∧ ds.length ≤ 60 * i ∧ ∀ d, d ∈ ds → 0 ≤ d ∧ d < 65536) ?_ ⟨[], _, _, _, _, rfl, by simp, by simp⟩ ?_ ?_)
    · rw [iRange1_ok (j := (ns.length : Int)) ?_ (by omega) (by omega)]
      · rfl
      · simp only [il]
        walk_at "ev"
        rw [show (if (ns.length : Int) < 63 then (ns.length : Int) else 63) = ns.length by split <;> omega]
    · rintro i d ε hd ⟨ds, a, b, c, e, rfl, hl, hm⟩
      obtain ⟨hi, rfl⟩ := rangeD_get hd
      have hidx := dIx_ints (l := ns) (i := (i : Int)) (by omega) (by omega)
      refine ⟨[.im (il ns), .mu (il ds), .im (.int (i : Int)), b, c, e], by simp only [bN, st, Int.zero_add], ?_⟩
      obtain ⟨r, hr⟩ : ∃ r, r = (if ns.getD (i : Int).toNat 0 < 0 then -(ns.getD (i : Int).toNat 0) else ns.getD (i : Int).toNat 0) := ⟨_, rfl⟩
      have hr0 : 0 ≤ r := by rw [hr]; split <;> omega
      refine runs_sn (ε' := [.im (il ns), .mu (il ds), .im (.int (i : Int)), .im (.int r), c, e]) ?_ ?_
      · rw [sAs_ok (d := .int r) ?_]
        · rfl
        · simp only [il]
          walk_at "ev"
          rw [hidx]
          walk_at "ev"
          rw [hr]
      · have h18 : dPow (.int 10) (.int 18) = .ok (.int 1000000000000000000) := dPow_i (by decide) (by decide) (by decide)
        refine runs_if (b := decide ((1000000000000000000 : Int) ≤ r)) ?_ (fun hb => ?_) (fun hb => ?_)
        · walk_at "ev"
          rw [h18]
          walk_at "ev"
        · -- a long cell: its digits
          refine runs_for (ds := rangeD 0 60) (fun j ε => ∃ ds r c, ε = [.im (il ns), .mu (il ds), .im (.int (i : Int)), .im (.int r), c, e] ∧ 0 ≤ r ∧ ds.length ≤ 60 * i + j ∧ ∀ d, d ∈ ds → 0 ≤ d ∧ d < 65536) ?_ ⟨ds, r, c, rfl, hr0, by omega, hm⟩ ?_ ?_
          · rw [iRange1_ok (j := 60) (by walk_at "ev") (by decide) (by decide)]
            rfl
          · rintro j d ε hd ⟨ds, r, c, rfl, hr0, hl, hm⟩
            obtain ⟨hj, rfl⟩ := rangeD_get hd
            refine ⟨[.im (il ns), .mu (il ds), .im (.int (i : Int)), .im (.int r), .im (.int ((j : Nat) : Int)), e], by simp only [bN, st, Int.zero_add], ?_⟩
            refine runs_if (b := decide (0 < r)) (by walk_at "ev") (fun hb => ?_) (fun hb => ?_)
            · refine runs_sn (ε' := [.im (il ns), .mu (il (ds ++ [r % 65536])), .im (.int (i : Int)), .im (.int r), .im (.int ((j : Nat) : Int)), e]) ?_ ?_
              · rw [sAp_ok (d := .int (r % 65536)) (ds := ds.map PyData.int) ?_ rfl (by rw [List.length_map]; omega)]
                · rw [il_app]
                  rfl
                · walk_at "ev"
                  rw [dMod_ok (by decide)]
              · refine runs_eq (sAs_ok (d := .int (r / 65536)) ?_) ⟨ds ++ [r % 65536], r / 65536, _, rfl, by omega, ?_, below_app hm (mod_in r (by decide))⟩
                · walk_at "ev"
                  rw [dDiv_small (by decide) (by decide)]
                · rw [List.length_append, List.length_singleton]
                  omega
            · exact runs_eq rfl ⟨ds, r, _, rfl, hr0, by omega, hm⟩
          · rintro ε' ⟨ds, r, c, rfl, hr0, hl, hm⟩
            rw [rangeD_len] at hl
            exact ⟨ds, _, _, _, _, rfl, by omega, hm⟩
        · -- a short one: two mixed numbers
          have hb' : r < 1000000000000000000 := by
            have := of_decide_eq_false hb
            omega
          obtain ⟨m1, e1⟩ : ∃ m1 : Int, m1 = (r * 48271 + ((i : Int) + 1) * 69621) % 2147483647 := ⟨_, rfl⟩
          have b1 : 0 ≤ m1 ∧ m1 < 2147483647 := by rw [e1]; exact mod_in _ (by decide)
          obtain ⟨m2, e2⟩ : ∃ m2 : Int, m2 = (m1 * 16807 + 11 * (i : Int) + 5) % 2147483629 := ⟨_, rfl⟩
          have b2 : 0 ≤ m2 ∧ m2 < 2147483629 := by rw [e2]; exact mod_in _ (by decide)
          refine runs_sn (ε' := [.im (il ns), .mu (il ds), .im (.int (i : Int)), .im (.int r), c, .im (.int m1)]) ?_ ?_
          · rw [sAs_ok (d := .int m1) ?_]
            · rfl
            · walk_at "ev"
              rw [dMul_small (by omega) (by decide), dMul_small (by omega) (by decide)]
              walk_at "ev"
              rw [dMod_ok (by decide), e1]
          refine runs_sn (ε' := [.im (il ns), .mu (il ds), .im (.int (i : Int)), .im (.int r), c, .im (.int m2)]) ?_ ?_
          · rw [sAs_ok (d := .int m2) ?_]
            · rfl
            · walk_at "ev"
              rw [dMul_small (by omega) (by decide), dMul_small (by decide) (by omega)]
              walk_at "ev"
              rw [dMod_ok (by decide), e2]
          refine runs_sn (ε' := [.im (il ns), .mu (il (ds ++ [m2 % 65536])), .im (.int (i : Int)), .im (.int r), c, .im (.int m2)]) ?_ ?_
          · rw [sAp_ok (d := .int (m2 % 65536)) (ds := ds.map PyData.int) ?_ rfl (by rw [List.length_map]; omega)]
            · rw [il_app]
              rfl
            · walk_at "ev"
              rw [dMod_ok (by decide)]
          refine runs_eq (sAp_ok (d := .int (m2 / 65536 % 32768)) (ds := (ds ++ [m2 % 65536]).map PyData.int) ?_ rfl (by rw [List.length_map, List.length_append, List.length_singleton]; omega)) ?_
          · walk_at "ev"
            rw [dDiv_small (by decide) (by decide)]
            walk_at "ev"
            rw [dMod_ok (by decide)]
          · refine ⟨ds ++ [m2 % 65536] ++ [m2 / 65536 % 32768], _, _, _, _, by rw [il_app]; rfl, ?_, below_app (below_app hm (mod_in _ (by decide))) ?_⟩
            · rw [List.length_append, List.length_append, List.length_singleton, List.length_singleton]
              omega
            · have := mod_in (m2 / 65536) (n := 32768) (by decide)
              omega
    · rintro ε' ⟨ds, a, b, c, d, rfl, hl, hm⟩
      rw [rangeD_len] at hl
      exact runs_eq rfl ⟨_, rfl, ds, rfl, by omega, hm⟩
  obtain ⟨d, h1, ds, rfl, h2⟩ := main
  exact ⟨ds, h1, h2⟩
theorem mix_ok {ds : List Int} (h : DrawsOk ds) {k many : Int} (h0 : 0 ≤ k) (hk : k < 2 ^ 40) (h1 : 0 < many) : ∃ r, f__law_mix [il ds, .int k, .int many] = .ok (.int r) ∧ 0 ≤ r ∧ r < many := by
  have main : ∃ d, f__law_mix [il ds, .int k, .int many] = .ok d ∧ ∃ r, d = .int r ∧ 0 ≤ r ∧ r < many := by
    unfold f__law_mix
    refine runF_some rfl ?_
    unfold m__law_mix
    refine runs_sn (ε' := [.im (il ds), .im (.int k), .im (.int many), .im (.int 0)]) (by rw [sAs_ok (d := .int 0) (by walk_at "ev")]; rfl) ?_
    refine runs_seq (Runs.mono (p := fun fl => ∃ v : Int, 0 ≤ v ∧ v < 65536 ∧ fl = .nx [.im (il ds), .im (.int k), .im (.int many), .im (.int v)]) ?_ ?_)
    · refine runs_if (b := decide (0 < (ds.length : Int))) ?_ (fun hb => ?_) (fun hb => ?_)
      · simp only [il]
        walk_at "ev"
      · have hl : 0 < (ds.length : Int) := of_decide_eq_true hb
        have hm := mod_in k hl
        have hidx := dIx_ints (l := ds) (i := k % ds.length) hm.1 hm.2
        have hin : ds.getD (k % ds.length).toNat 0 ∈ ds := by
          rw [List.getD_eq_getElem?_getD, List.getElem?_eq_getElem (by omega)]
          exact List.getElem_mem _
        refine runs_eq (sAs_ok (d := .int (ds.getD (k % ds.length).toNat 0)) ?_) ⟨_, (h.mem _ hin).1, (h.mem _ hin).2, rfl⟩
        simp only [il]
        walk_at "ev"
        rw [dMod_ok hl]
        walk_at "ev"
        rw [hidx]
      · exact runs_eq rfl ⟨0, by decide, by decide, rfl⟩
    · rintro fl ⟨v, v0, v1, rfl⟩
      show Runs _ _ _
      refine runs_seq ?_
      refine runs_if (b := decide (k < (ds.length : Int))) ?_ (fun hb => ?_) (fun hb => ?_)
      · simp only [il]
        walk_at "ev"
      · refine runs_eq (sRt_ok (d := .int (v % many)) ?_) ⟨_, rfl, _, rfl, mod_in _ h1⟩
        walk_at "ev"
        rw [dMod_ok h1]
      · refine runs_eq rfl ?_
        show Runs _ _ _
        refine runs_eq (sRt_ok (d := .int ((v * 7919 + k * 104729) / 3 % many)) ?_) ⟨_, rfl, _, rfl, mod_in _ h1⟩
        walk_at "ev"
        rw [dMul_small (by omega) (by decide), dMul_small (by omega) (by decide)]
        walk_at "ev"
        rw [dDiv_small (by decide) (by decide)]
        walk_at "ev"
        rw [dMod_ok h1]
  obtain ⟨d, h1, r, rfl, h2⟩ := main
  exact ⟨r, h1, h2⟩
end My
set_option Elab.async false
set_option linter.all false
set_option maxRecDepth 100000
set_option maxHeartbeats 4000000
namespace My
open PySem Tw
/-! ### the lists of sizes, all of them -/
def prodL (l : List Int) : Int := l.foldl (· * ·) 1
def sizesN : Nat → List (List Int)
  | 0 => [[]]
  | n + 1 => sizesN n ++ ((sizesN n).filter fun l => decide (l.length = n)).flatMap fun l => ([2, 3, 4] : List Int).filterMap fun s => if prodL l * s ≤ 36 then some (l ++ [s]) else none
def allSizes : List (List Int) := (sizesN 5).filter fun l => decide (1 ≤ l.length)
/-! ### runs and sights, plain -/
def fullL : List Int → List (List Int)
  | l => l.foldl (fun acc s => acc.flatMap fun told => (List.range s.toNat).map fun (k : Nat) => told ++ [(k : Int)]) [[]]
def subsL (many few : Nat) : List (List Int) := match few with
  | 1 => (List.range many).map fun (a : Nat) => [(a : Int)]
  | 2 => (List.range many).flatMap fun (a : Nat) => ((List.range many).filter fun b => decide (a < b)).map fun (b : Nat) => [(a : Int), (b : Int)]
  | 3 => (List.range many).flatMap fun (a : Nat) => ((List.range many).filter fun b => decide (a < b)).flatMap fun (b : Nat) => ((List.range many).filter fun c => decide (b < c)).map fun (c : Nat) => [(a : Int), (b : Int), (c : Int)]
  | _ => []
def sightsL (sizes : List Int) (t : Nat) : List (List Int × List Int) := (subsL sizes.length t).flatMap fun told => (fullL (told.map fun i => sizes.getD i.toNat 0)).map fun lv => (told, lv)
def sightD (s : List Int × List Int) : D := .tuple [il s.1, tupD s.2]
def sightsD (l : List (List Int × List Int)) : D := .list (l.map sightD)
def fullD (l : List (List Int)) : D := .list (l.map tupD)
def insI (x : Int) : List Int → List Int
  | [] => [x]
  | y :: r => if y ≤ x then x :: y :: r else y :: insI x r
def downL (l : List Int) : List Int := l.foldr insI []
def floorL (sizes : List Int) (t : Nat) : Int := prodL ((downL sizes).take t)
def tOk (sizes : List Int) (t : Nat) : Bool := decide (1 ≤ t) && decide (t ≤ 3) && decide (t ≤ sizes.length)
theorem fin_full : allSizes.all (fun s => isR (f__law_full [il s]) (fullD (fullL s)) && isR (f_all_levels [il s]) (fullD (fullL s)) && isR (f_check_sizes [il s]) .none && isR (f_check_full [il s]) .none) = true := by decide +kernel
theorem fin_sights : allSizes.all (fun s => [1, 2, 3].all fun t => !tOk s t || (isR (f__law_sights [il s, .int (t : Int)]) (sightsD (sightsL s t)) && isR (f_sights_of [il s, .int (t : Int)]) (sightsD (sightsL s t)) && isR (f_floor_of [il s, .int (t : Int)]) (.int (floorL s t)))) = true := by decide +kernel
end My
set_option Elab.async false
set_option linter.all false
set_option maxRecDepth 100000
set_option maxHeartbeats 4000000
set_option exponentiation.threshold 1000000
namespace My
open PySem Tw
theorem tV_o {m : Nv → R D} {ε : Nv} {b : Bool} (h : m ε = .ok (.bool b)) : tV m ε = .ok b := by
  unfold tV
  rw [h, bind_ok]
  rfl
local macro_rules | `(tactic| walk_at "go") => `(tactic| repeat' (with_reducible first | exact xV_0 | exact xC_o | exact xNil_o | apply xV_n | apply xBin_o | apply xUn_o | apply xTup_o | apply xLst_o | apply xCall_o | apply xCons_o | apply tC_o | apply tV_o | apply tNo_o | apply iSeq_o | assumption | exact dAdd_i | exact dSub_i | exact dNeg_i | exact dIx_t0 | exact dIx_t1 | exact cInt_i | exact cAbs_i | exact cLen_l | exact cLen_t | exact dLt_i | exact dGt_i | exact dEq_int _ _ | exact dNe_int _ _))
/-! ### data -/
theorem eqvAll_ints : ∀ a b : List Int, PyData.eqvAll (a.map PyData.int) (b.map PyData.int) = decide (a = b)
  | [], [] => rfl
  | [], _ :: _ => by simp [PyData.eqvAll]
  | _ :: _, [] => by simp [PyData.eqvAll]
  | x :: r, y :: s => by
    rw [List.map_cons, List.map_cons, PyData.eqvAll, eqvAll_ints r s, eqv_int]
    by_cases h : x = y
    · subst h
      simp
    · simp [h]
theorem okd_tup (l : List Int) : okd (tupD l) = true := okd_of (by unfold tupD; simp only [PyData.plain]; exact plain_ints l) (by unfold tupD; simp only [PyData.depth, PySem.W.depth_ints]; decide)
theorem dEq_tup (a b : List Int) : dEq (tupD a) (tupD b) = .ok (.bool (decide (a = b))) := by
  unfold dEq
  rw [okd_tup, okd_tup]
  show R.ok (PyData.bool (PyData.eqv (.tuple (a.map PyData.int)) (.tuple (b.map PyData.int)))) = _
  rw [PyData.eqv, eqvAll_ints]
theorem dIx_tup {l : List Int} {i : Int} (h0 : 0 ≤ i) (h : i < l.length) : dIx (tupD l) (.int i) = .ok (.int (l.getD i.toNat 0)) := by
  obtain ⟨x, h1, h2⟩ := atI_of (xs := l) h0 h
  refine dIx_tuple ?_
  rw [atI_map, h2, List.getD_eq_getElem?_getD, h1]
  rfl
/-- a sight's places lie in a run of n levels -/
def inL (n : Nat) (s : List Int × List Int) : Prop := (∀ i, i ∈ s.1 → 0 ≤ i ∧ i < (n : Int)) ∧ s.1.length ≤ 100
def at_ (run : List Int) (idx : List Int) : List Int := idx.map fun i => run.getD i.toNat 0
def hasB (run : List Int) (s : List Int × List Int) : Bool := decide (at_ run s.1 = s.2)
theorem at_lc {run : List Int} {idx : List Int} (h : ∀ i, i ∈ idx → 0 ≤ i ∧ i < (run.length : Int)) : ∀ (g : Int → Nv) , (∀ i, xV 0 (g i) = .ok (tupD run) → True) → True := fun _ _ => trivial
theorem levels_ok {run : List Int} {idx : List Int} (h : ∀ i, i ∈ idx → 0 ≤ i ∧ i < (run.length : Int)) (hl : idx.length ≤ 100) : f_levels_at [tupD run, il idx] = .ok (tupD (at_ run idx)) := by
  have hlim := lim_eq
  unfold f_levels_at
  refine runF_rt rfl ?_
  unfold m_levels_at
  change Runs _ [.im (tupD run), .im (il idx), .no] _
  have hz := xLc_ok (vs := [2]) (mi := iSeq (xV 1)) (ε := [.im (tupD run), .im (il idx), .no]) rfl (lcG_all (g := bN 2) (e := xBin dIx (xV 0) (xV 2)) PyData.int (fun i => PyData.int (run.getD i.toNat 0)) idx (fun i hi => by
    refine ⟨[.im (tupD run), .im (il idx), .im (.int i)], rfl, ?_⟩
    have a := dIx_tup (h i hi).1 (h i hi).2
    walk_at "go")) (by rw [List.length_map]; omega)
  refine runs_eq (sRt_ok (d := tupD (at_ run idx)) (xCall_o (xCons_o hz xNil_o) ?_)) rfl
  show R.ok (PyData.tuple _) = _
  unfold tupD at_
  rw [List.map_map]
  rfl
theorem has_ok {run : List Int} {s : List Int × List Int} (h : inL run.length s) : f_has [tupD run, sightD s] = .ok (.bool (hasB run s)) := by
  unfold f_has
  refine runF_rt rfl ?_
  unfold m_has
  change Runs _ [.im (tupD run), .im (sightD s)] _
  have a := levels_ok h.1 h.2
  have d0 : dIx (sightD s) (.int 0) = .ok (il s.1) := dIx_t0
  have d1 : dIx (sightD s) (.int 1) = .ok (tupD s.2) := dIx_t1
  have e := dEq_tup (at_ run s.1) s.2
  exact runs_eq (sRt_ok (d := .bool (hasB run s)) (by walk_at "go"; exact e)) rfl
theorem law_has_ok {run : List Int} {s : List Int × List Int} (h : inL run.length s) : f__law_has [tupD run, sightD s] = .ok (.bool (hasB run s)) := by
  have hlim := lim_eq
  unfold f__law_has
  refine runF_rt rfl ?_
  unfold m__law_has
  change Runs _ [.im (tupD run), .im (sightD s), .no] _
  have d0 : dIx (sightD s) (.int 0) = .ok (il s.1) := dIx_t0
  have d1 : dIx (sightD s) (.int 1) = .ok (tupD s.2) := dIx_t1
  have hl := h.2
  have hz := xLc_ok (vs := [2]) (mi := iSeq (xBin dIx (xV 1) (xC (.int 0)))) (ε := [.im (tupD run), .im (sightD s), .no]) (ds := s.1.map PyData.int) (iSeq_o (xBin_o (xV_n xV_0) xC_o d0)) (lcG_all (g := bN 2) (e := xBin dIx (xV 0) (xV 2)) PyData.int (fun i => PyData.int (run.getD i.toNat 0)) s.1 (fun i hi => by
    refine ⟨[.im (tupD run), .im (sightD s), .im (.int i)], rfl, ?_⟩
    have a := dIx_tup (h.1 i hi).1 (h.1 i hi).2
    walk_at "go")) (by rw [List.length_map]; omega)
  have k : kTuple [.list (s.1.map fun i => PyData.int (run.getD i.toNat 0))] = .ok (tupD (at_ run s.1)) := by
    show R.ok (PyData.tuple _) = _
    unfold tupD at_
    rw [List.map_map]
    rfl
  have e := dEq_tup (at_ run s.1) s.2
  exact runs_eq (sRt_ok (d := .bool (hasB run s)) (xBin_o (xCall_o (xCons_o hz xNil_o) k) (by walk_at "go") e)) rfl
/-! ### what is seen -/
abbrev Sg := List Int × List Int
def seen (left : List Sg) (run : List Int) : Nat := (left.filter fun s => hasB run s).length
def many (left : List Sg) (full : List (List Int)) : List Int := full.map fun r => ((seen left r : Nat) : Int)
/-- the greatest, and where it stands first -/
structure Next (left : List Sg) (full : List (List Int)) (r : List Int) : Prop where
  mem : r ∈ full
  max : ∀ q, q ∈ full → seen left q ≤ seen left r
end My
set_option Elab.async false
set_option linter.all false
set_option maxRecDepth 100000
set_option maxHeartbeats 4000000
set_option exponentiation.threshold 1000000
namespace My
open PySem Tw
local macro_rules | `(tactic| walk_at "go") => `(tactic| repeat' (with_reducible first | exact xV_0 | exact xC_o | exact xNil_o | apply xV_n | apply xBin_o | apply xUn_o | apply xTup_o | apply xLst_o | apply xCall_o | apply xCons_o | apply tC_o | apply tV_o | apply tNo_o | apply iSeq_o | assumption | exact dAdd_i | exact dSub_i | exact dNeg_i | exact dIx_t0 | exact dIx_t1 | exact cInt_i | exact cAbs_i | exact cLen_l | exact cLen_t | exact dLt_i | exact dGt_i | exact dEq_int _ _ | exact dNe_int _ _))
/-! ### greatest of a list of ints -/
theorem alike_ints (l : List Int) : alikeB (l.map PyData.int) = true := by
  unfold alikeB
  rw [Bool.and_eq_true]
  refine ⟨List.all_eq_true.mpr fun x hx => List.all_eq_true.mpr fun y hy => ?_, List.all_eq_true.mpr fun x hx => ?_⟩
  · obtain ⟨a, _, rfl⟩ := List.mem_map.mp hx
    obtain ⟨b, _, rfl⟩ := List.mem_map.mp hy
    simp [PySem.W.alike]
  · obtain ⟨a, _, rfl⟩ := List.mem_map.mp hx
    rfl
theorem foldl_max {v : Int} : ∀ (l : List Int) (x : Int), (v = x ∨ v ∈ l) → x ≤ v → (∀ y, y ∈ l → y ≤ v) → l.foldl max x = v
  | [], x, h, _, _ => by
    rcases h with h | h
    · exact h.symm
    · cases h
  | y :: r, x, h, hx, hl => by
    have hy := hl y List.mem_cons_self
    show r.foldl max (max x y) = v
    refine foldl_max r (max x y) ?_ (by omega) fun z hz => hl z (List.mem_cons_of_mem _ hz)
    rcases h with h | h
    · left
      omega
    · rcases List.mem_cons.mp h with h | h
      · left
        omega
      · right
        exact h
theorem kMax_ints {l : List Int} {v : Int} (h : v ∈ l) (hl : ∀ y, y ∈ l → y ≤ v) : kMax [il l] = .ok (.int v) := by
  cases l with
  | nil => cases h
  | cons x r =>
    show (if okd (.list ((x :: r).map PyData.int)) && alikeB ((x :: r).map PyData.int) then R.ok (PySem.W.maxD (.int x) (r.map PyData.int)) else R.bad) = _
    rw [okd_ints, alike_ints]
    show R.ok (PySem.W.maxD (.int x) (r.map PyData.int)) = _
    rw [PySem.W.maxD_ints, foldl_max r x (by simpa using h) (hl x List.mem_cons_self) fun y hy => hl y (List.mem_cons_of_mem _ hy)]

def maxN (l : List Int) : Int := l.foldl max 0
theorem maxN_ge : ∀ (l : List Int) (a : Int), a ≤ l.foldl max a ∧ ∀ y, y ∈ l → y ≤ l.foldl max a
  | [], a => ⟨Int.le_refl _, fun _ h => by cases h⟩
  | x :: r, a => by
    obtain ⟨h1, h2⟩ := maxN_ge r (max a x)
    refine ⟨?_, fun y hy => ?_⟩
    · show a ≤ r.foldl max (max a x)
      omega
    · show y ≤ r.foldl max (max a x)
      rcases List.mem_cons.mp hy with e | e
      · omega
      · exact h2 y e
theorem maxN_mem : ∀ (l : List Int) (a : Int), l.foldl max a = a ∨ l.foldl max a ∈ l
  | [], a => .inl rfl
  | x :: r, a => by
    rcases maxN_mem r (max a x) with h | h
    · show r.foldl max (max a x) = a ∨ _
      rw [h]
      by_cases q : x ≤ a
      · left
        omega
      · right
        show r.foldl max (max a x) ∈ _
        rw [h, show max a x = x by omega]
        exact List.mem_cons_self
    · right
      exact List.mem_cons_of_mem _ h
theorem maxN_ok {l : List Int} (h : ∀ y, y ∈ l → 0 ≤ y) (ne : l ≠ []) : maxN l ∈ l ∧ ∀ y, y ∈ l → y ≤ maxN l := by
  refine ⟨?_, (maxN_ge l 0).2⟩
  rcases maxN_mem l 0 with e | e
  · cases l with
    | nil => exact absurd rfl ne
    | cons x r =>
      have h1 := h x List.mem_cons_self
      have h2 := (maxN_ge (x :: r) 0).2 x List.mem_cons_self
      have : x = maxN (x :: r) := by
        unfold maxN
        omega
      rw [← this]
      exact List.mem_cons_self
  · exact e
theorem canLay_ints : ∀ l : List Int, PyData.canLayAll0 (l.map PyData.int) = true
  | [] => rfl
  | x :: r => by
    rw [List.map_cons, PyData.canLayAll0, canLay_ints r]
    rfl
theorem shaped_ints (l : List Int) : SeqAt.shaped (.list (l.map PyData.int)) = true := by
  unfold SeqAt.shaped
  rw [Bool.and_eq_true]
  refine ⟨?_, decide_eq_true ?_⟩
  · rw [PyData.canLay0]
    exact canLay_ints l
  · simp only [PyData.depth, PySem.W.depth_ints]
    decide
theorem findIdx_ints (v : Int) : ∀ l : List Int, (l.map PyData.int).findIdx? (fun z => PyData.eqv z (.int v)) = l.findIdx? fun x => decide (x = v)
  | [] => rfl
  | x :: r => by
    rw [List.map_cons, List.findIdx?_cons, List.findIdx?_cons, findIdx_ints v r, eqv_int]
theorem dIdx_ints {l : List Int} {v : Int} (h : v ∈ l) : ∃ j, j < l.length ∧ l[j]? = some v ∧ l.findIdx? (fun x => decide (x = v)) = some j ∧ dIdx (il l) (.int v) = .ok (.int (j : Int)) := by
  cases e : l.findIdx? (fun x => decide (x = v)) with
  | none =>
    have := List.findIdx?_eq_none_iff.mp e v h
    simp at this
  | some j =>
    obtain ⟨h1, h2, h3⟩ := List.findIdx?_eq_some_iff_getElem.mp e
    refine ⟨j, h1, ?_, rfl, ?_⟩
    · rw [List.getElem?_eq_getElem h1, of_decide_eq_true h2]
    · unfold dIdx il
      show (if okd (.list (l.map PyData.int)) && okd (.int v) && SeqAt.shaped (.list (l.map PyData.int)) && SeqAt.shaped (.int v) then (match (l.map PyData.int).findIdx? (fun z => PyData.eqv z (.int v)) with | some j => R.ok (PyData.int (j : Int)) | none => .bad) else .bad) = _
      rw [okd_ints, okd_int, shaped_ints, findIdx_ints, e]
      rfl
/-! ### the next run -/
def nextL (left : List Sg) (full : List (List Int)) : List Int := full.getD (((many left full).findIdx? fun x => decide (x = maxN (many left full))).getD 0) []
theorem next_is {left : List Sg} {full : List (List Int)} (ne : full ≠ []) : ∃ j, j < full.length ∧ full[j]? = some (nextL left full) ∧ kMax [il (many left full)] = .ok (.int (maxN (many left full))) ∧ dIdx (il (many left full)) (.int (maxN (many left full))) = .ok (.int (j : Int)) ∧ Next left full (nextL left full) := by
  have hne : many left full ≠ [] := fun z => ne (List.map_eq_nil_iff.mp z)
  have hm := maxN_ok (l := many left full) (fun y hy => by
    obtain ⟨r, _, rfl⟩ := List.mem_map.mp hy
    omega) hne
  obtain ⟨j, h1, h2, h3, h4⟩ := dIdx_ints hm.1
  have hj : j < full.length := by
    unfold many at h1
    rwa [List.length_map] at h1
  have en : nextL left full = full[j] := by
    unfold nextL
    rw [h3, Option.getD_some, List.getD_eq_getElem?_getD, List.getElem?_eq_getElem hj]
    rfl
  refine ⟨j, hj, by rw [en, List.getElem?_eq_getElem hj], kMax_ints hm.1 hm.2, h4, by rw [en]; exact List.getElem_mem hj, fun q hq => ?_⟩
  have e2 : ((seen left (nextL left full) : Nat) : Int) = maxN (many left full) := by
    unfold many at h2
    rw [List.getElem?_map, List.getElem?_eq_getElem hj] at h2
    rw [en]
    exact Option.some.inj h2
  have := hm.2 _ (List.mem_map_of_mem (f := fun r => ((seen left r : Nat) : Int)) hq)
  have h5 : ((seen left q : Nat) : Int) ≤ maxN (many left full) := this
  omega
structure Ok (n : Nat) (left : List Sg) (full : List (List Int)) : Prop where
  l : ∀ s, s ∈ left → inL n s
  r : ∀ q, q ∈ full → q.length = n
  ll : left.length ≤ 1000
  lf : full.length ≤ 1000
theorem fullD_ix {full : List (List Int)} {j : Nat} {r : List Int} (h : full[j]? = some r) : dIx (fullD full) (.int (j : Int)) = .ok (tupD r) := by
  refine dIx_list (L2.atI_nat ?_)
  rw [List.getElem?_map, h]
  rfl
theorem many_eq (left : List Sg) (full : List (List Int)) : PyData.list (full.map fun r => PyData.int ((seen left r : Nat) : Int)) = il (many left full) := by
  unfold il many
  rw [List.map_map]
  rfl
theorem law_next_ok {n : Nat} {left : List Sg} {full : List (List Int)} (o : Ok n left full) (ne : full ≠ []) : f__law_next [sightsD left, fullD full] = .ok (tupD (nextL left full)) := by
  have hlim := lim_eq
  have hll := o.ll
  have hlf := o.lf
  unfold f__law_next
  refine runF_rt rfl ?_
  unfold m__law_next
  change Runs _ [.im (sightsD left), .im (fullD full), .no, .no, .no] _
  have hz := xLc_ok (vs := [3]) (mi := iSeq (xV 1)) (ε := [.im (sightsD left), .im (fullD full), .no, .no, .no]) rfl (lcG_all (g := bN 3) (e := xCall cLen (xCons (xLc [4] (iSeq (xV 0)) (bN 4) (tV (xCall f__law_has (xCons (xV 3) (xCons (xV 4) xNil)))) (xV 4)) xNil)) tupD (fun r => PyData.int ((seen left r : Nat) : Int)) full (fun r hr => by
    refine ⟨[.im (sightsD left), .im (fullD full), .no, .im (tupD r), .no], rfl, ?_⟩
    have hi := xLc_ok (vs := [4]) (mi := iSeq (xV 0)) (ε := [.im (sightsD left), .im (fullD full), .no, .im (tupD r), .no]) rfl (lcG_if (g := bN 4) (t := tV (xCall f__law_has (xCons (xV 3) (xCons (xV 4) xNil)))) (e := xV 4) sightD (fun s => hasB r s) sightD left (fun s hs => by
      have a := law_has_ok (run := r) (s := s) (by rw [o.r r hr]; exact o.l s hs)
      exact ⟨[.im (sightsD left), .im (fullD full), .no, .im (tupD r), .im (sightD s)], rfl, by walk_at "go", fun _ => by walk_at "go"⟩)) (by
        rw [List.length_map]
        have := List.length_filter_le (fun s => hasB r s) left
        omega)
    refine xCall_o (xCons_o hi xNil_o) ?_
    rw [cLen_l, List.length_map]
    rfl)) (by rw [List.length_map]; omega)
  rw [many_eq] at hz
  refine runs_sn (sAs_ok hz) ?_
  change Runs _ [.im (sightsD left), .im (fullD full), .im (il (many left full)), .no, .no] _
  obtain ⟨j, h1, h2, h3, h4, _⟩ := next_is (left := left) ne
  have h5 := fullD_ix h2
  exact runs_eq (sRt_ok (d := tupD (nextL left full)) (by walk_at "go")) rfl
theorem next_ok {n : Nat} {left : List Sg} {sizes : List Int} {full : List (List Int)} (o : Ok n left full) (ne : full ≠ []) (hf : f_all_levels [il sizes] = .ok (fullD full)) : f_next_of [sightsD left, il sizes] = .ok (tupD (nextL left full)) := by
  have hlim := lim_eq
  have hll := o.ll
  have hlf := o.lf
  unfold f_next_of
  refine runF_rt rfl ?_
  unfold m_next_of
  change Runs _ [.im (sightsD left), .im (il sizes), .no, .no, .no, .no] _
  refine runs_sn (sAs_ok (d := fullD full) (by walk_at "go")) ?_
  change Runs _ [.im (sightsD left), .im (il sizes), .im (fullD full), .no, .no, .no] _
  have hz := xLc_ok (vs := [4]) (mi := iSeq (xV 2)) (ε := [.im (sightsD left), .im (il sizes), .im (fullD full), .no, .no, .no]) rfl (lcG_all (g := bN 4) (e := xCall cLen (xCons (xLc [5] (iSeq (xV 0)) (bN 5) (tV (xCall f_has (xCons (xV 4) (xCons (xV 5) xNil)))) (xV 5)) xNil)) tupD (fun r => PyData.int ((seen left r : Nat) : Int)) full (fun r hr => by
    refine ⟨[.im (sightsD left), .im (il sizes), .im (fullD full), .no, .im (tupD r), .no], rfl, ?_⟩
    have hi := xLc_ok (vs := [5]) (mi := iSeq (xV 0)) (ε := [.im (sightsD left), .im (il sizes), .im (fullD full), .no, .im (tupD r), .no]) rfl (lcG_if (g := bN 5) (t := tV (xCall f_has (xCons (xV 4) (xCons (xV 5) xNil)))) (e := xV 5) sightD (fun s => hasB r s) sightD left (fun s hs => by
      have a := has_ok (run := r) (s := s) (by rw [o.r r hr]; exact o.l s hs)
      exact ⟨[.im (sightsD left), .im (il sizes), .im (fullD full), .no, .im (tupD r), .im (sightD s)], rfl, by walk_at "go", fun _ => by walk_at "go"⟩)) (by
        rw [List.length_map]
        have := List.length_filter_le (fun s => hasB r s) left
        omega)
    refine xCall_o (xCons_o hi xNil_o) ?_
    rw [cLen_l, List.length_map]
    rfl)) (by rw [List.length_map]; omega)
  rw [many_eq] at hz
  refine runs_sn (sAs_ok hz) ?_
  change Runs _ [.im (sightsD left), .im (il sizes), .im (fullD full), .im (il (many left full)), .no, .no] _
  obtain ⟨j, h1, h2, h3, h4, _⟩ := next_is (left := left) ne
  have h5 := fullD_ix h2
  exact runs_eq (sRt_ok (d := tupD (nextL left full)) (by walk_at "go")) rfl
end My
set_option Elab.async false
set_option linter.all false
set_option maxRecDepth 100000
set_option maxHeartbeats 4000000
set_option exponentiation.threshold 1000000
namespace My
open PySem Tw
local macro_rules | `(tactic| walk_at "go") => `(tactic| repeat' (with_reducible first | exact xV_0 | exact xC_o | exact xNil_o | apply xV_n | apply xBin_o | apply xUn_o | apply xTup_o | apply xLst_o | apply xCall_o | apply xCons_o | apply tC_o | apply tV_o | apply tNo_o | apply iSeq_o | assumption | exact dAdd_i | exact dSub_i | exact dNeg_i | exact dIx_t0 | exact dIx_t1 | exact cInt_i | exact cAbs_i | exact cLen_l | exact cLen_t | exact dLt_i | exact dGt_i | exact dEq_int _ _ | exact dNe_int _ _))

/-! ### what is missing -/
def missL (every : List Sg) (runs : List (List Int)) : List Sg := every.filter fun s => !(runs.any fun r => hasB r s)
/-- the closed facts of sizes and number -/
structure Sz (s : List Int) (t : Nat) : Prop where
  full : f_all_levels [il s] = .ok (fullD (fullL s))
  lfull : f__law_full [il s] = .ok (fullD (fullL s))
  cs : f_check_sizes [il s] = .ok .none
  cf : f_check_full [il s] = .ok .none
  si : f_sights_of [il s, .int (t : Int)] = .ok (sightsD (sightsL s t))
  lsi : f__law_sights [il s, .int (t : Int)] = .ok (sightsD (sightsL s t))
  fl : f_floor_of [il s, .int (t : Int)] = .ok (.int (floorL s t))
  t1 : 1 ≤ t
  t3 : t ≤ 3
  tl : t ≤ s.length
  l5 : s.length ≤ 5
  bd : ∀ q, q ∈ fullL s → q.length = s.length ∧ ∀ k, k < s.length → 0 ≤ q.getD k 0 ∧ q.getD k 0 < s.getD k 0
  ne : fullL s ≠ []
  lf : (fullL s).length ≤ 36
  ls : (sightsL s t).length ≤ 200
  inl : ∀ g, g ∈ sightsL s t → inL s.length g
theorem allB {α : Type} {p : α → Bool} {l : List α} (h : l.all p = true) {x : α} (hx : x ∈ l) : p x = true := List.all_eq_true.mp h x hx
def szB (s : List Int) : Bool := decide (s.length ≤ 5) && decide (1 ≤ (fullL s).length) && decide ((fullL s).length ≤ 36) && (fullL s).all (fun q => decide (q.length = s.length) && (List.range s.length).all fun k => decide (0 ≤ q.getD k 0) && decide (q.getD k 0 < s.getD k 0)) && [1, 2, 3].all fun t => !tOk s t || (decide ((sightsL s t).length ≤ 200) && (sightsL s t).all fun g => decide (g.1.length ≤ 100) && g.1.all fun i => decide (0 ≤ i) && decide (i < (s.length : Int)))
theorem fin_sz : allSizes.all szB = true := by decide +kernel
theorem sz_of {s : List Int} {t : Nat} (hs : s ∈ allSizes) (h1 : 1 ≤ t) (h3 : t ≤ 3) (hl : t ≤ s.length) : Sz s t := by
  have a := allB fin_full hs
  simp only [Bool.and_eq_true] at a
  have ht : t ∈ [1, 2, 3] := by
    have : t = 1 ∨ t = 2 ∨ t = 3 := by omega
    rcases this with rfl | rfl | rfl <;> simp
  have tk : tOk s t = true := by
    unfold tOk
    rw [decide_eq_true h1, decide_eq_true h3, decide_eq_true hl]
    rfl
  have b := allB (allB fin_sights hs) ht
  rw [tk] at b
  simp only [Bool.not_true, Bool.false_or, Bool.and_eq_true] at b
  have c := allB fin_sz hs
  unfold szB at c
  simp only [Bool.and_eq_true] at c
  obtain ⟨⟨⟨⟨c1, c2⟩, c3⟩, c4⟩, c5⟩ := c
  have d := allB c5 ht
  rw [tk] at d
  simp only [Bool.not_true, Bool.false_or, Bool.and_eq_true] at d
  refine ⟨isR_eq a.1.1.2, isR_eq a.1.1.1, isR_eq a.1.2, isR_eq a.2, isR_eq b.1.2, isR_eq b.1.1, isR_eq b.2, h1, h3, hl, of_decide_eq_true c1, fun q hq => ?_, fun z => ?_, of_decide_eq_true c3, of_decide_eq_true d.1, fun g hg => ?_⟩
  · have e := allB c4 hq
    rw [Bool.and_eq_true] at e
    refine ⟨of_decide_eq_true e.1, fun k hk => ?_⟩
    have f := allB e.2 (List.mem_range.mpr hk)
    rw [Bool.and_eq_true] at f
    exact ⟨of_decide_eq_true f.1, of_decide_eq_true f.2⟩
  · have := of_decide_eq_true c2
    rw [z] at this
    simp at this
  · have e := allB d.2 hg
    rw [Bool.and_eq_true] at e
    refine ⟨fun i hi => ?_, of_decide_eq_true e.1⟩
    have f := allB e.2 hi
    rw [Bool.and_eq_true] at f
    exact ⟨of_decide_eq_true f.1, of_decide_eq_true f.2⟩
theorem Sz.ok {s : List Int} {t : Nat} (z : Sz s t) {left : List Sg} (h : ∀ g, g ∈ left → g ∈ sightsL s t) (hl : left.length ≤ 1000) : Ok s.length left (fullL s) :=
  ⟨fun g hg => z.inl g (h g hg), fun q hq => (z.bd q hq).1, hl, Nat.le_trans z.lf (by decide)⟩
theorem check_number_ok {s : List Int} {t : Nat} (z : Sz s t) : f_check_number [il s, .int (t : Int)] = .ok .none := by
  unfold f_check_number
  refine runF_nx rfl ?_
  unfold m_check_number
  change Runs _ [.im (il s), .im (.int (t : Int))] _
  have h1 := z.t1
  have h3 := z.t3
  have hl := z.tl
  refine runs_if (b := false) ?_ (fun q => by cases q) (fun _ => runs_eq rfl ⟨_, rfl⟩)
  refine tOrr_o (tNo_o (b := true) ?_) ?_
  · simp only [tC', xCh, xC, xV, gt, bind_ok, R.bind, dLe_i, boD, truD]
    rw [decide_eq_true (show (1 : Int) ≤ (t : Int) by omega)]
    simp only [if_true]
    rw [decide_eq_true (show (t : Int) ≤ 3 by omega)]
    rfl
  · have e : cLen [il s] = .ok (.int (s.length : Int)) := by
      unfold il
      rw [cLen_l, List.length_map]
    refine (show _ = R.ok (decide ((s.length : Int) < (t : Int))) from by walk_at "go").trans ?_
    rw [decide_eq_false (by omega)]
theorem check_sights_ok {s : List Int} {t : Nat} (z : Sz s t) : f_check_sights [il s, .int (t : Int)] = .ok .none := by
  unfold f_check_sights
  refine runF_nx rfl ?_
  unfold m_check_sights
  change Runs _ [.im (il s), .im (.int (t : Int))] _
  have a := z.cf
  have b := check_number_ok z
  refine runs_sn (sDr_ok (d := .none) (by walk_at "go")) ?_
  exact runs_eq (sDr_ok (d := .none) (by walk_at "go")) ⟨_, rfl⟩
theorem sights_ok {s : List Int} {t : Nat} (z : Sz s t) : f_sights [il s, .int (t : Int)] = .ok (sightsD (sightsL s t)) := by
  unfold f_sights
  refine runF_rt rfl ?_
  unfold m_sights
  change Runs _ [.im (il s), .im (.int (t : Int))] _
  have a := check_sights_ok z
  have b := z.si
  refine runs_sn (sDr_ok (d := .none) (by walk_at "go")) ?_
  exact runs_eq (sRt_ok (d := sightsD (sightsL s t)) (by walk_at "go")) rfl
theorem floor_ok {s : List Int} {t : Nat} (z : Sz s t) : f_floor [il s, .int (t : Int)] = .ok (.int (floorL s t)) := by
  unfold f_floor
  refine runF_rt rfl ?_
  unfold m_floor
  change Runs _ [.im (il s), .im (.int (t : Int))] _
  have a := check_sights_ok z
  have b := z.fl
  refine runs_sn (sDr_ok (d := .none) (by walk_at "go")) ?_
  exact runs_eq (sRt_ok (d := .int (floorL s t)) (by walk_at "go")) rfl
theorem zip_ints : ∀ a b : List Int, zipG (a.map PyData.int) (b.map PyData.int) = (List.zip a b).map fun p => PyData.tuple [.int p.1, .int p.2]
  | [], _ => rfl
  | _ :: _, [] => rfl
  | x :: r, y :: s => by
    show PyData.tuple [.int x, .int y] :: zipG (r.map PyData.int) (s.map PyData.int) = _
    rw [zip_ints r s]
    rfl
theorem zip_bd {a b : List Int} (hl : a.length = b.length) (h : ∀ k, k < b.length → 0 ≤ a.getD k 0 ∧ a.getD k 0 < b.getD k 0) : ∀ p, p ∈ List.zip a b → 0 ≤ p.1 ∧ p.1 < p.2 := fun p hp => by
  obtain ⟨k, hk, e⟩ := List.getElem_of_mem hp
  rw [List.length_zip] at hk
  have q := h k (by omega)
  rw [List.getD_eq_getElem?_getD, List.getD_eq_getElem?_getD, List.getElem?_eq_getElem (by omega), List.getElem?_eq_getElem (by omega)] at q
  rw [← e, List.getElem_zip]
  exact q
theorem check_some_ok {s : List Int} {t : Nat} (z : Sz s t) {runs : List (List Int)} (h : ∀ r, r ∈ runs → r ∈ fullL s) (hl : runs.length ≤ 64) : f_check_some [fullD runs, il s] = .ok .none := by
  have hlim := lim_eq
  unfold f_check_some
  refine runF_nx rfl ?_
  unfold m_check_some
  change Runs _ [.im (fullD runs), .im (il s), .no, .no, .no, .no] _
  have e : cLen [fullD runs] = .ok (.int (runs.length : Int)) := by
    unfold fullD
    rw [cLen_l, List.length_map]
  have es : cLen [il s] = .ok (.int (s.length : Int)) := by
    unfold il
    rw [cLen_l, List.length_map]
  refine runs_seq (runs_if (b := false) ?_ (fun q => by cases q) (fun _ => runs_eq rfl ?_))
  · refine (show _ = R.ok (decide ((64 : Int) < (runs.length : Int))) from by walk_at "go").trans ?_
    rw [decide_eq_false (by omega)]
  show Runs _ _ _
  refine runs_for (ds := enumG 0 (runs.map tupD)) (fun i ε => ∃ a b, ε = [.im (fullD runs), .im (il s), a, b, .no, .no]) rfl ⟨_, _, rfl⟩ ?_ (fun ε' _ => ⟨ε', rfl⟩)
  rintro i d ε hd ⟨a, b, rfl⟩
  obtain ⟨e', h1, rfl⟩ := enumG_get 0 _ i d hd
  rw [List.getElem?_map] at h1
  obtain ⟨r, hr, rfl⟩ := Option.map_eq_some_iff.mp h1
  have hb := z.bd r (h r (List.mem_of_getElem? hr))
  refine ⟨[.im (fullD runs), .im (il s), .im (.int ((0 + i : Nat) : Int)), .im (tupD r), .no, .no], rfl, ?_⟩
  refine runs_if (b := false) ?_ (fun q => by cases q) (fun _ => runs_eq rfl ⟨_, _, rfl⟩)
  have er : cLen [tupD r] = .ok (.int (r.length : Int)) := by
    unfold tupD
    rw [cLen_t, List.length_map]
  refine tOrr_o ?_ (tNo_o (tV_o (b := true) ?_))
  · rw [hb.1] at er
    exact ne_o (d := .int (s.length : Int)) (by walk_at "go") (by walk_at "go") rfl
  · have hi : iZm (xCons (xV 3) (xCons (xV 1) xNil)) [.im (fullD runs), .im (il s), .im (.int ((0 + i : Nat) : Int)), .im (tupD r), .no, .no] = .ok ((List.zip r s).map fun p => PyData.tuple [.int p.1, .int p.2]) := by
      unfold iZm
      rw [show xCons (xV 3) (xCons (xV 1) xNil) [.im (fullD runs), .im (il s), .im (.int ((0 + i : Nat) : Int)), .im (tupD r), .no, .no] = .ok [tupD r, il s] from by walk_at "go", bind_ok]
      show R.ok (zipG (r.map PyData.int) (s.map PyData.int)) = _
      rw [zip_ints]
    have hz := xLc_ok (vs := [4, 5]) hi (lcG_all (g := bT 2 (bsC (bN 4) (bsC (bN 5) bs0))) (e := xCh dLe dLt (xC (.int 0)) (xV 4) (xV 5)) (fun p : Int × Int => PyData.tuple [.int p.1, .int p.2]) (fun _ => PyData.bool true) (List.zip r s) (fun p hp => by
      refine ⟨[.im (fullD runs), .im (il s), .im (.int ((0 + i : Nat) : Int)), .im (tupD r), .im (.int p.1), .im (.int p.2)], rfl, ?_⟩
      have q := zip_bd hb.1 hb.2 p hp
      simp only [xCh, xC, xV, gt, bind_ok, R.bind, dLe_i, dLt_i, boD, truD]
      rw [decide_eq_true q.1]
      simp only [if_true]
      rw [decide_eq_true q.2])) (by
        rw [List.length_map, List.length_zip]
        have := z.l5
        omega)
    refine xCall_o (xCons_o hz xNil_o) ?_
    have eb : (List.zip r s).map (fun _ => PyData.bool true) = ((List.zip r s).map fun _ => true).map PyData.bool := by
      rw [List.map_map]
      rfl
    rw [eb, cAll_bools]
    congr 2
    simp
theorem check_covering_ok {s : List Int} {t : Nat} (z : Sz s t) {runs : List (List Int)} (h : ∀ r, r ∈ runs → r ∈ fullL s) (hl : runs.length ≤ 64) : f_check_covering [fullD runs, il s, .int (t : Int)] = .ok .none := by
  unfold f_check_covering
  refine runF_nx rfl ?_
  unfold m_check_covering
  change Runs _ [.im (fullD runs), .im (il s), .im (.int (t : Int))] _
  have a := z.cs
  have b := check_some_ok z h hl
  have c := check_sights_ok z
  refine runs_sn (sDr_ok (d := .none) (by walk_at "go")) ?_
  refine runs_sn (sDr_ok (d := .none) (by walk_at "go")) ?_
  exact runs_eq (sDr_ok (d := .none) (by walk_at "go")) ⟨_, rfl⟩
theorem any_ids (l : List Bool) : l.any id = l.any fun b => b := rfl
theorem missing_of_ok {s : List Int} {t : Nat} (z : Sz s t) {runs : List (List Int)} (h : ∀ r, r ∈ runs → r ∈ fullL s) (hl : runs.length ≤ 64) : f_missing_of [fullD runs, il s, .int (t : Int)] = .ok (sightsD (missL (sightsL s t) runs)) := by
  have hlim := lim_eq
  have hls := z.ls
  unfold f_missing_of
  refine runF_rt rfl ?_
  unfold m_missing_of
  change Runs _ [.im (fullD runs), .im (il s), .im (.int (t : Int)), .no, .no] _
  have a := z.si
  have hz := xLc_ok (vs := [3]) (mi := iSeq (xCall f_sights_of (xCons (xV 1) (xCons (xV 2) xNil)))) (ε := [.im (fullD runs), .im (il s), .im (.int (t : Int)), .no, .no]) (ds := (sightsL s t).map sightD) (iSeq_o (xCall_o (ds := [il s, .int (t : Int)]) (by walk_at "go") a))
    (lcG_if (g := bN 3) (t := tNo (tV (xCall cAny (xCons (xLc [4] (iSeq (xV 0)) (bN 4) tYe (xCall f_has (xCons (xV 4) (xCons (xV 3) xNil)))) xNil)))) (e := xV 3) sightD (fun g => !(runs.any fun r => hasB r g)) sightD (sightsL s t) (fun g hg => by
    refine ⟨[.im (fullD runs), .im (il s), .im (.int (t : Int)), .im (sightD g), .no], rfl, ?_, fun _ => by walk_at "go"⟩
    have hi := xLc_ok (vs := [4]) (mi := iSeq (xV 0)) (ε := [.im (fullD runs), .im (il s), .im (.int (t : Int)), .im (sightD g), .no]) rfl (lcG_all (g := bN 4) (e := xCall f_has (xCons (xV 4) (xCons (xV 3) xNil))) tupD (fun r => PyData.bool (hasB r g)) runs (fun r hr => by
      have b := has_ok (run := r) (s := g) (by rw [(z.bd r (h r hr)).1]; exact z.inl g hg)
      exact ⟨[.im (fullD runs), .im (il s), .im (.int (t : Int)), .im (sightD g), .im (tupD r)], rfl, by walk_at "go"⟩)) (by rw [List.length_map]; omega)
    refine tNo_o (tV_o (xCall_o (xCons_o hi xNil_o) ?_))
    have eb : runs.map (fun r => PyData.bool (hasB r g)) = (runs.map fun r => hasB r g).map PyData.bool := by
      rw [List.map_map]
      rfl
    rw [eb, cAny_bools, List.any_map]
    rfl)) (by
      rw [List.length_map]
      have := List.length_filter_le (fun g => !(runs.any fun r => hasB r g)) (sightsL s t)
      omega)
  exact runs_eq (sRt_ok hz) rfl
theorem missing_ok {s : List Int} {t : Nat} (z : Sz s t) {runs : List (List Int)} (h : ∀ r, r ∈ runs → r ∈ fullL s) (hl : runs.length ≤ 64) : f_missing [fullD runs, il s, .int (t : Int)] = .ok (sightsD (missL (sightsL s t) runs)) := by
  unfold f_missing
  refine runF_rt rfl ?_
  unfold m_missing
  change Runs _ [.im (fullD runs), .im (il s), .im (.int (t : Int))] _
  have a := check_covering_ok z h hl
  have b := missing_of_ok z h hl
  refine runs_sn (sDr_ok (d := .none) (by walk_at "go")) ?_
  exact runs_eq (sRt_ok (d := sightsD (missL (sightsL s t) runs)) (by walk_at "go")) rfl
end My
set_option Elab.async false
set_option linter.all false
set_option maxRecDepth 100000
set_option maxHeartbeats 4000000
set_option exponentiation.threshold 1000000
namespace My
open PySem Tw
local macro_rules | `(tactic| walk_at "go") => `(tactic| repeat' (with_reducible first | exact xV_0 | exact xC_o | exact xNil_o | apply xV_n | apply xBin_o | apply xUn_o | apply xTup_o | apply xLst_o | apply xCall_o | apply xCons_o | apply tC_o | apply tV_o | apply tNo_o | apply iSeq_o | assumption | exact dAdd_i | exact dSub_i | exact dNeg_i | exact dIx_t0 | exact dIx_t1 | exact cInt_i | exact cAbs_i | exact cLen_l | exact cLen_t | exact dLt_i | exact dGt_i | exact dEq_int _ _ | exact dNe_int _ _))

/-! ### texts -/
def smS (g : Sg) : Prop := (g.1.length ≤ 10 ∧ ∀ i, i ∈ g.1 → i.natAbs < 10 ^ 12) ∧ g.2.length ≤ 10 ∧ ∀ i, i ∈ g.2 → i.natAbs < 10 ^ 12
def smSB (g : Sg) : Bool := decide (g.1.length ≤ 10) && (g.1.all fun i => decide (i.natAbs < 100)) && decide (g.2.length ≤ 10) && g.2.all fun i => decide (i.natAbs < 100)
theorem smS_of {g : Sg} (h : smSB g = true) : smS g := by
  unfold smSB at h
  simp only [Bool.and_eq_true] at h
  obtain ⟨⟨⟨h1, h2⟩, h3⟩, h4⟩ := h
  refine ⟨⟨of_decide_eq_true h1, fun i hi => ?_⟩, of_decide_eq_true h3, fun i hi => ?_⟩
  · have := of_decide_eq_true (allB h2 hi)
    omega
  · have := of_decide_eq_true (allB h4 hi)
    omega
theorem fin_sm : allSizes.all (fun s => [1, 2, 3].all fun t => !tOk s t || (sightsL s t).all smSB) = true := by decide +kernel
theorem sg_data {g : Sg} (h : smS g) : (sightD g).plain = true ∧ (sightD g).depth ≤ 3 ∧ smI (sightD g) = true ∧ tw (sightD g) ≤ 400 := by
  unfold sightD il tupD
  refine ⟨?_, ?_, ?_, ?_⟩
  · simp only [PyData.plain, PyData.plainAll, plain_ints]
    rfl
  · simp only [PyData.depth, PyData.depthAll, PySem.W.depth_ints]
    decide
  · simp only [smI, smIAll]
    rw [smI_ints _ h.1.2, smI_ints _ h.2.2]
    rfl
  · simp only [tw, twAll, tw_ints]
    have := h.1.1
    have := h.2.1
    omega
theorem sgs_data : ∀ l : List Sg, (∀ g, g ∈ l → smS g) → PyData.plainAll (l.map sightD) = true ∧ PyData.depthAll (l.map sightD) ≤ 3 ∧ smIAll (l.map sightD) = true ∧ twAll (l.map sightD) ≤ 402 * l.length
  | [], _ => ⟨rfl, Nat.zero_le _, rfl, Nat.le_refl _⟩
  | g :: r, h => by
    obtain ⟨a, b, c, d⟩ := sg_data (h g List.mem_cons_self)
    obtain ⟨a', b', c', d'⟩ := sgs_data r fun x hx => h x (List.mem_cons_of_mem _ hx)
    rw [List.map_cons, List.length_cons]
    simp only [PyData.plainAll, PyData.depthAll, smIAll, twAll, a, a', c, c']
    refine ⟨rfl, Nat.max_le.mpr ⟨b, b'⟩, rfl, by omega⟩
theorem okd_sights {l : List Sg} (h : ∀ g, g ∈ l → smS g) : okd (sightsD l) = true := by
  obtain ⟨a, b, _, _⟩ := sgs_data l h
  unfold sightsD
  refine okd_of ?_ ?_
  · simp only [PyData.plain]
    exact a
  · simp only [PyData.depth]
    omega
theorem cRepr_sights {l : List Sg} (h : ∀ g, g ∈ l → smS g) (hl : l.length ≤ 2000) : cRepr [sightsD l] = .ok (.str (sightsD l).shown) := by
  obtain ⟨_, _, c, d⟩ := sgs_data l h
  have hlim := lim_eq
  refine cRepr_tw (okd_sights h) ?_ ?_
  · unfold sightsD
    simp only [smI]
    exact c
  · unfold sightsD
    simp only [tw]
    omega
/-- runs: short, small -/
def smR (r : List Int) : Prop := r.length ≤ 10 ∧ ∀ i, i ∈ r → i.natAbs < 10 ^ 12
theorem run_data {r : List Int} (h : smR r) : (tupD r).plain = true ∧ (tupD r).depth ≤ 2 ∧ smI (tupD r) = true ∧ tw (tupD r) ≤ 160 := by
  unfold tupD
  refine ⟨?_, ?_, ?_, ?_⟩
  · simp only [PyData.plain, plain_ints]
  · simp only [PyData.depth, PySem.W.depth_ints]
    decide
  · simp only [smI]
    exact smI_ints _ h.2
  · simp only [tw, tw_ints]
    have := h.1
    omega
theorem runs_data : ∀ l : List (List Int), (∀ r, r ∈ l → smR r) → PyData.plainAll (l.map tupD) = true ∧ PyData.depthAll (l.map tupD) ≤ 2 ∧ smIAll (l.map tupD) = true ∧ twAll (l.map tupD) ≤ 162 * l.length
  | [], _ => ⟨rfl, Nat.zero_le _, rfl, Nat.le_refl _⟩
  | g :: r, h => by
    obtain ⟨a, b, c, d⟩ := run_data (h g List.mem_cons_self)
    obtain ⟨a', b', c', d'⟩ := runs_data r fun x hx => h x (List.mem_cons_of_mem _ hx)
    rw [List.map_cons, List.length_cons]
    simp only [PyData.plainAll, PyData.depthAll, smIAll, twAll, a, a', c, c']
    refine ⟨rfl, Nat.max_le.mpr ⟨b, b'⟩, rfl, by omega⟩
theorem cRepr_run {r : List Int} (h : smR r) : cRepr [tupD r] = .ok (.str (tupD r).shown) := by
  obtain ⟨a, b, c, d⟩ := run_data h
  have hlim := lim_eq
  exact cRepr_tw (okd_of a (by omega)) c (by omega)
theorem cRepr_runs {l : List (List Int)} (h : ∀ r, r ∈ l → smR r) (hl : l.length ≤ 2000) : cRepr [fullD l] = .ok (.str (fullD l).shown) := by
  obtain ⟨a, b, c, d⟩ := runs_data l h
  have hlim := lim_eq
  unfold fullD
  refine cRepr_tw (okd_of ?_ ?_) ?_ ?_
  · simp only [PyData.plain]
    exact a
  · simp only [PyData.depth]
    omega
  · simp only [smI]
    exact c
  · simp only [tw]
    omega
theorem cRepr_both {l : List (List Int)} {s : List Int} (h : ∀ r, r ∈ l → smR r) (hl : l.length ≤ 2000) (hs : smR s) : cRepr [.tuple [fullD l, il s]] = .ok (.str (PyData.tuple [fullD l, il s]).shown) := by
  obtain ⟨a, b, c, d⟩ := runs_data l h
  have hlim := lim_eq
  have h1 := hs.1
  unfold fullD il
  refine cRepr_tw (okd_of ?_ ?_) ?_ ?_
  · simp only [PyData.plain, PyData.plainAll, a, plain_ints]
    rfl
  · simp only [PyData.depth, PyData.depthAll, PySem.W.depth_ints]
    omega
  · simp only [smI, smIAll, c, smI_ints _ hs.2]
    rfl
  · simp only [tw, twAll, tw_ints]
    omega
/-! ### next_run -/
theorem next_run_ok {s : List Int} {t : Nat} (z : Sz s t) {runs : List (List Int)} (h : ∀ r, r ∈ runs → r ∈ fullL s) (hl : runs.length ≤ 64) : f_next_run [fullD runs, il s, .int (t : Int)] = .ok (if missL (sightsL s t) runs = [] then .none else tupD (nextL (missL (sightsL s t) runs) (fullL s))) := by
  have hlim := lim_eq
  have hls := z.ls
  unfold f_next_run
  refine runF_rt rfl ?_
  unfold m_next_run
  change Runs _ [.im (fullD runs), .im (il s), .im (.int (t : Int)), .no] _
  have a := check_covering_ok z h hl
  have b := missing_of_ok z h hl
  obtain ⟨left, el⟩ : ∃ left, left = missL (sightsL s t) runs := ⟨_, rfl⟩
  have hsub : ∀ g, g ∈ left → g ∈ sightsL s t := fun g hg => by
    rw [el] at hg
    exact (List.mem_filter.mp hg).1
  have hlen : left.length ≤ 1000 := by
    rw [el]
    exact Nat.le_trans (List.length_filter_le _ _) (Nat.le_trans z.ls (by decide))
  rw [← el] at b ⊢
  refine runs_sn (sDr_ok (d := .none) (by walk_at "go")) ?_
  refine runs_sn (sAs_ok (d := sightsD left) (by walk_at "go")) ?_
  change Runs _ [.im (fullD runs), .im (il s), .im (.int (t : Int)), .im (sightsD left)] _
  have c := next_ok (z.ok hsub hlen) z.ne z.full
  have e : cLen [sightsD left] = .ok (.int (left.length : Int)) := by
    unfold sightsD
    rw [cLen_l, List.length_map]
  have tt : tC' (xBin dGt (xCall cLen (xCons (xV 3) xNil)) (xC (.int 0))) [.im (fullD runs), .im (il s), .im (.int (t : Int)), .im (sightsD left)] = .ok (decide ((0 : Int) < (left.length : Int))) := by walk_at "go"
  by_cases hz : left = []
  · rw [if_pos hz]
    rw [hz, decide_eq_false (by simp)] at tt
    rw [hz]
    exact runs_eq (sRt_ok (d := .none) (xIf_f tt xC_o)) rfl
  · rw [if_neg hz]
    have : 0 < left.length := List.length_pos_iff.mpr hz
    rw [decide_eq_true (by omega)] at tt
    exact runs_eq (sRt_ok (d := tupD (nextL left (fullL s))) (xIf_t tt (by walk_at "go"))) rfl
end My
set_option Elab.async false
set_option linter.all false
set_option maxRecDepth 100000
set_option maxHeartbeats 4000000
set_option exponentiation.threshold 1000000
namespace My
open PySem Tw
local macro_rules | `(tactic| walk_at "go") => `(tactic| repeat' (with_reducible first | exact xV_0 | exact xC_o | exact xNil_o | apply xV_n | apply xBin_o | apply xUn_o | apply xTup_o | apply xLst_o | apply xCall_o | apply xCons_o | apply tC_o | apply tV_o | apply tNo_o | apply iSeq_o | assumption | exact dAdd_i | exact dSub_i | exact dNeg_i | exact dIx_t0 | exact dIx_t1 | exact cInt_i | exact cAbs_i | exact cLen_l | exact cLen_t | exact dLt_i | exact dGt_i | exact dEq_int _ _ | exact dNe_int _ _))

/-! ### the greatest is no less than the mean -/
def cnt (full : List (List Int)) (g : Sg) : Nat := (full.filter fun q => hasB q g).length
theorem seen_cons (g : Sg) (left : List Sg) (q : List Int) : seen (g :: left) q = (if hasB q g then 1 else 0) + seen left q := by
  unfold seen
  rw [List.filter_cons]
  split
  · rw [List.length_cons]
    omega
  · omega
theorem cnt_sum (g : Sg) : ∀ full : List (List Int), (full.map fun q => if hasB q g then 1 else 0).sum = cnt full g
  | [] => rfl
  | q :: r => by
    rw [List.map_cons, List.sum_cons, cnt_sum g r]
    unfold cnt
    rw [List.filter_cons]
    split
    · rw [List.length_cons]
      omega
    · omega
theorem sum_add (f g : List Int → Nat) : ∀ l : List (List Int), (l.map fun q => f q + g q).sum = (l.map f).sum + (l.map g).sum
  | [] => rfl
  | q :: r => by
    rw [List.map_cons, List.map_cons, List.map_cons, List.sum_cons, List.sum_cons, List.sum_cons, sum_add f g r]
    omega
theorem both_ways (full : List (List Int)) : ∀ left : List Sg, (full.map (seen left)).sum = (left.map (cnt full)).sum
  | [] => by
    have : full.map (seen []) = full.map fun _ => 0 := List.map_congr_left fun q _ => rfl
    rw [this]
    induction full with
    | nil => rfl
    | cons q r ih =>
      rw [List.map_cons, List.sum_cons, ih (List.map_congr_left fun q _ => rfl)]
      rfl
  | g :: left => by
    have e : full.map (seen (g :: left)) = full.map fun q => (if hasB q g then 1 else 0) + seen left q := List.map_congr_left fun q _ => seen_cons g left q
    rw [e, sum_add, cnt_sum, both_ways full left, List.map_cons, List.sum_cons]
theorem sum_ge (c m : Nat) (f : Sg → Nat) : ∀ l : List Sg, (∀ g, g ∈ l → c ≤ f g * m) → l.length * c ≤ (l.map f).sum * m
  | [], _ => by simp
  | g :: r, h => by
    have a := h g List.mem_cons_self
    have b := sum_ge c m f r fun x hx => h x (List.mem_cons_of_mem _ hx)
    rw [List.map_cons, List.sum_cons, List.length_cons, Nat.add_mul, Nat.add_mul]
    omega
theorem sum_le (k : Nat) (f : List Int → Nat) : ∀ l : List (List Int), (∀ q, q ∈ l → f q ≤ k) → (l.map f).sum ≤ l.length * k
  | [], _ => by simp
  | g :: r, h => by
    have a := h g List.mem_cons_self
    have b := sum_le k f r fun x hx => h x (List.mem_cons_of_mem _ hx)
    rw [List.map_cons, List.sum_cons, List.length_cons, Nat.add_mul]
    omega
theorem mean_ok {full : List (List Int)} {left : List Sg} {m : Nat} {r : List Int} (h : ∀ g, g ∈ left → full.length ≤ cnt full g * m) (nx : Next left full r) : left.length ≤ seen left r * m := by
  have a := sum_ge full.length m (cnt full) left h
  rw [← both_ways] at a
  have b := Nat.mul_le_mul_right m (sum_le (seen left r) (seen left) full fun q hq => nx.max q hq)
  have p : 0 < full.length := List.length_pos_of_mem nx.mem
  have c : left.length * full.length ≤ (seen left r * m) * full.length := by
    rw [Nat.mul_comm (seen left r * m), ← Nat.mul_assoc]
    exact Nat.le_trans a b
  exact Nat.le_of_mul_le_mul_right c p
theorem fin_cnt : allSizes.all (fun s => [1, 2, 3].all fun t => !tOk s t || (decide (0 ≤ floorL s t) && (sightsL s t).all fun g => decide ((fullL s).length ≤ cnt (fullL s) g * (floorL s t).toNat) && (fullL s).any fun q => hasB q g)) = true := by decide +kernel
/-! ### the greedy cover, plain -/
def stepG (full : List (List Int)) (left : List Sg) : List Sg := left.filter fun g => !hasB (nextL left full) g
def greedyL (full : List (List Int)) : Nat → List Sg → List (List Int)
  | 0, _ => []
  | _ + 1, [] => []
  | n + 1, g :: r => nextL (g :: r) full :: greedyL full n (stepG full (g :: r))
theorem part_len {α : Type} (p : α → Bool) : ∀ l : List α, (l.filter p).length + (l.filter fun x => !p x).length = l.length
  | [] => rfl
  | x :: r => by
    have ih := part_len p r
    rw [List.filter_cons, List.filter_cons]
    cases h : p x with
    | true =>
      simp only [Bool.not_true, if_true, Bool.false_eq_true, if_false, List.length_cons]
      omega
    | false =>
      simp only [Bool.not_false, if_true, Bool.false_eq_true, if_false, List.length_cons]
      omega
/-- each sight is had by some run -/
def Cov (full : List (List Int)) (left : List Sg) : Prop := ∀ g, g ∈ left → ∃ q, q ∈ full ∧ hasB q g = true
theorem seen_pos {left : List Sg} {q : List Int} {g : Sg} (hg : g ∈ left) (h : hasB q g = true) : 0 < seen left q := List.length_pos_of_mem (List.mem_filter.mpr ⟨hg, h⟩)
theorem step_lt {full : List (List Int)} {left : List Sg} (ne : full ≠ []) (hl : left ≠ []) (c : Cov full left) : (stepG full left).length < left.length := by
  obtain ⟨_, _, _, _, _, nx⟩ := next_is (left := left) ne
  cases left with
  | nil => exact absurd rfl hl
  | cons g r =>
    obtain ⟨q, hq, hg⟩ := c g List.mem_cons_self
    have p := Nat.lt_of_lt_of_le (seen_pos (List.mem_cons_self) hg) (nx.max q hq)
    have e : seen (g :: r) (nextL (g :: r) full) + (stepG full (g :: r)).length = (g :: r).length := by
      unfold seen stepG
      exact part_len _ _
    omega
theorem cov_step {full : List (List Int)} {left : List Sg} (c : Cov full left) : Cov full (stepG full left) := fun g hg => c g (List.mem_filter.mp hg).1
theorem greedy_fuel {full : List (List Int)} (ne : full ≠ []) : ∀ (n m : Nat) (left : List Sg), Cov full left → left.length ≤ n → left.length ≤ m → greedyL full n left = greedyL full m left
  | 0, 0, _, _, _, _ => rfl
  | 0, m + 1, [], _, _, _ => rfl
  | 0, m + 1, g :: r, _, h, _ => by simp at h
  | n + 1, 0, [], _, _, _ => rfl
  | n + 1, 0, g :: r, _, _, h => by simp at h
  | n + 1, m + 1, [], _, _, _ => rfl
  | n + 1, m + 1, g :: r, c, h1, h2 => by
    have lt := step_lt ne (by simp) c
    show _ :: _ = _ :: _
    rw [greedy_fuel ne n m (stepG full (g :: r)) (cov_step c) (by omega) (by omega)]
end My
set_option Elab.async false
set_option linter.all false
set_option maxRecDepth 100000
set_option maxHeartbeats 4000000
set_option exponentiation.threshold 1000000
namespace My
open PySem Tw
local macro_rules | `(tactic| walk_at "go") => `(tactic| repeat' (with_reducible first | exact xV_0 | exact xC_o | exact xNil_o | apply xV_n | apply xBin_o | apply xUn_o | apply xTup_o | apply xLst_o | apply xCall_o | apply xCons_o | apply tC_o | apply tV_o | apply tNo_o | apply iSeq_o | assumption | exact dAdd_i | exact dSub_i | exact dNeg_i | exact dIx_t0 | exact dIx_t1 | exact cInt_i | exact cAbs_i | exact cLen_l | exact cLen_t | exact dLt_i | exact dGt_i | exact dEq_int _ _ | exact dNe_int _ _))

theorem filt_lc {s : List Int} {t : Nat} (z : Sz s t) {left : List Sg} (hsub : ∀ g, g ∈ left → g ∈ sightsL s t) (r : List Int) (hr : r ∈ fullL s) : ∀ g, g ∈ left → inL r.length g := fun g hg => by
  rw [(z.bd r hr).1]
  exact z.inl g (hsub g hg)
theorem greedy_ok {s : List Int} {t : Nat} (z : Sz s t) (cv : Cov (fullL s) (sightsL s t)) : f_greedy [il s, .int (t : Int)] = .ok (fullD (greedyL (fullL s) 200 (sightsL s t))) := by
  have hlim := lim_eq
  have hls := z.ls
  unfold f_greedy
  refine runF_rt rfl ?_
  unfold m_greedy
  change Runs _ [.im (il s), .im (.int (t : Int)), .no, .no, .no, .no] _
  have a := check_sights_ok z
  have b := z.si
  refine runs_sn (sDr_ok (d := .none) (by walk_at "go")) ?_
  refine runs_sn (sAsM_ok (d := fullD []) (by walk_at "go"; rfl)) ?_
  change Runs _ [.im (il s), .im (.int (t : Int)), .mu (fullD []), .no, .no, .no] _
  refine runs_sn (sAs_ok (d := sightsD (sightsL s t)) (by walk_at "go")) ?_
  change Runs _ [.im (il s), .im (.int (t : Int)), .mu (fullD []), .im (sightsD (sightsL s t)), .no, .no] _
  refine runs_seq (runs_wh (fun n ε => ∃ found left a b, ε = [.im (il s), .im (.int (t : Int)), .mu (fullD found), .im (sightsD left), a, b] ∧ n = left.length ∧ (∀ g, g ∈ left → g ∈ sightsL s t) ∧ found.length + left.length ≤ 200 ∧ found ++ greedyL (fullL s) left.length left = greedyL (fullL s) 200 (sightsL s t)) (sightsL s t).length
    ⟨[], sightsL s t, _, _, rfl, rfl, fun _ h => h, by rw [List.length_nil]; omega, greedy_fuel z.ne _ _ _ cv (Nat.le_refl _) hls⟩ (by show _ < 100000; omega) ?_)
  rintro n ε ⟨found, left, a, b, rfl, rfl, hsub, hlen, hg⟩
  have e : cLen [sightsD left] = .ok (.int (left.length : Int)) := by
    unfold sightsD
    rw [cLen_l, List.length_map]
  have tt : tC' (xBin dGt (xCall cLen (xCons (xV 3) xNil)) (xC (.int 0))) [.im (il s), .im (.int (t : Int)), .mu (fullD found), .im (sightsD left), a, b] = .ok (decide ((0 : Int) < (left.length : Int))) := by walk_at "go"
  cases left with
  | nil =>
    left
    refine ⟨tt, ?_⟩
    have hg' : found = greedyL (fullL s) 200 (sightsL s t) := by
      have : greedyL (fullL s) ([] : List Sg).length [] = [] := rfl
      rw [this, List.append_nil] at hg
      exact hg
    rw [hg']
    exact runs_eq rfl rfl
  | cons g r =>
    right
    refine ⟨by rw [tt, decide_eq_true (by rw [List.length_cons]; omega)], ?_⟩
    have c := next_ok (z.ok hsub (by omega)) z.ne z.full
    obtain ⟨_, _, _, _, _, nx⟩ := next_is (left := g :: r) z.ne
    have cv' : Cov (fullL s) (g :: r) := fun x hx => cv x (hsub x hx)
    have lt := step_lt z.ne (by simp) cv'
    refine runs_sn (sAs_ok (d := tupD (nextL (g :: r) (fullL s))) (by walk_at "go")) ?_
    change Runs _ [.im (il s), .im (.int (t : Int)), .mu (fullD found), .im (sightsD (g :: r)), .im (tupD (nextL (g :: r) (fullL s))), b] _
    refine runs_sn (sAp_ok (d := tupD (nextL (g :: r) (fullL s))) (ds := found.map tupD) (by walk_at "go") rfl (by rw [List.length_map]; omega)) ?_
    have e1 : (found.map tupD) ++ [tupD (nextL (g :: r) (fullL s))] = (found ++ [nextL (g :: r) (fullL s)]).map tupD := by
      rw [List.map_append]
      rfl
    rw [e1]
    change Runs _ [.im (il s), .im (.int (t : Int)), .mu (fullD (found ++ [nextL (g :: r) (fullL s)])), .im (sightsD (g :: r)), .im (tupD (nextL (g :: r) (fullL s))), b] _
    have hz := xLc_ok (vs := [5]) (mi := iSeq (xV 3)) (ε := [.im (il s), .im (.int (t : Int)), .mu (fullD (found ++ [nextL (g :: r) (fullL s)])), .im (sightsD (g :: r)), .im (tupD (nextL (g :: r) (fullL s))), b]) rfl (lcG_if (g := bN 5) (t := tNo (tV (xCall f_has (xCons (xV 4) (xCons (xV 5) xNil))))) (e := xV 5) sightD (fun x => !hasB (nextL (g :: r) (fullL s)) x) sightD (g :: r) (fun x hx => by
      have h1 := has_ok (filt_lc z hsub _ nx.mem x hx)
      exact ⟨[.im (il s), .im (.int (t : Int)), .mu (fullD (found ++ [nextL (g :: r) (fullL s)])), .im (sightsD (g :: r)), .im (tupD (nextL (g :: r) (fullL s))), .im (sightD x)], rfl, by walk_at "go", fun _ => by walk_at "go"⟩)) (by
        rw [List.length_map]
        refine Nat.le_trans (List.length_filter_le _ _) ?_
        omega)
    refine runs_eq (sAs_ok hz) ⟨(stepG (fullL s) (g :: r)).length, lt, found ++ [nextL (g :: r) (fullL s)], stepG (fullL s) (g :: r), _, _, rfl, rfl, fun x hx => hsub x (List.mem_filter.mp hx).1, ?_, ?_⟩
    · rw [List.length_append]
      show found.length + 1 + _ ≤ 200
      omega
    · rw [← hg, List.append_assoc]
      show found ++ (nextL (g :: r) (fullL s) :: _) = found ++ (nextL (g :: r) (fullL s) :: greedyL (fullL s) r.length (stepG (fullL s) (g :: r)))
      rw [greedy_fuel z.ne _ r.length _ (cov_step cv') (Nat.le_refl _) (by rw [List.length_cons] at lt; omega)]
      rfl
end My
set_option Elab.async false
set_option linter.all false
set_option maxRecDepth 100000
set_option maxHeartbeats 4000000
set_option exponentiation.threshold 1000000
namespace My
open PySem Tw
local macro_rules | `(tactic| walk_at "go") => `(tactic| repeat' (with_reducible first | exact xV_0 | exact xC_o | exact xNil_o | exact st_0 | exact gt_0 | exact sNil_o | exact wipe_0 | apply wipe_n | exact bs0_o | apply xV_n | apply st_n | apply gt_n | apply sAs_o | apply sAsM_o | apply sDr_o | apply sPr_g | apply sUn_g | apply bN_o | apply bsC_o | apply bT_o | apply xBin_o | apply xUn_o | apply xTup_o | apply xLst_o | apply xCall_o | apply xCons_o | apply tC_o | apply tV_o | apply tNo_o | apply tTh_g | exact th_0 | apply th_i | apply th_m | apply th_n | apply th_x | apply tOrr_g | apply tAn_g | apply xNo_g | apply xOrr_g | apply xAn_g | apply xCh_g | apply iSeq_o | assumption | exact dAdd_i | exact dSub_i | exact dNeg_i | exact dIx_t0 | exact dIx_t1 | exact cInt_i | exact cAbs_i | exact cLen_l | exact cLen_t | exact dLt_i | exact dGt_i | exact dLe_i | exact dGe_i | exact dEq_int _ _ | exact dNe_int _ _ | exact kMin_i | exact kMax_i | exact rfl))
/-! ### the law's sizes -/
theorem fin_step : (sizesN 5).all (fun l => decide (5 ≤ l.length) || ([2, 3, 4] : List Int).all fun s => !decide (prodL l * s ≤ 36) || (sizesN 5).contains (l ++ [s])) = true := by decide +kernel
theorem fin_prod : (sizesN 5).all (fun l => decide (prodL l ≤ 36) && decide (1 ≤ prodL l)) = true := by decide +kernel
theorem step_in {l : List Int} {s : Int} (h : l ∈ sizesN 5) (hl : l.length < 5) (hs : s ∈ ([2, 3, 4] : List Int)) (hp : prodL l * s ≤ 36) : l ++ [s] ∈ sizesN 5 := by
  have a := allB fin_step h
  rw [decide_eq_false (by omega), Bool.false_or] at a
  have b := allB a hs
  rw [decide_eq_true hp] at b
  simpa using b
theorem prodL_snoc (l : List Int) (s : Int) : prodL (l ++ [s]) = prodL l * s := by
  unfold prodL
  rw [List.foldl_append]
  rfl
theorem four_ix {r : Int} (h0 : 0 ≤ r) (h : r < 4) : ∃ s, s ∈ ([2, 3, 4] : List Int) ∧ dIx (.list [.int 2, .int 2, .int 3, .int 4]) (.int r) = .ok (.int s) := by
  have : r = 0 ∨ r = 1 ∨ r = 2 ∨ r = 3 := by omega
  rcases this with rfl | rfl | rfl | rfl
  · exact ⟨2, by simp, rfl⟩
  · exact ⟨2, by simp, rfl⟩
  · exact ⟨3, by simp, rfl⟩
  · exact ⟨4, by simp, rfl⟩
theorem law_sizes_ok {ds : List Int} (hd : DrawsOk ds) : ∃ s, f__law_sizes [il ds, .int 10, .int 5, .int 36] = .ok (il s) ∧ s ∈ allSizes := by
  have main : ∃ d, f__law_sizes [il ds, .int 10, .int 5, .int 36] = .ok d ∧ ∃ s, d = il s ∧ s ∈ allSizes := by
    unfold f__law_sizes
    refine runF_some rfl ?_
    unfold m__law_sizes
    change Runs _ [.im (il ds), .im (.int 10), .im (.int 5), .im (.int 36), .no, .no, .no, .no] _
    obtain ⟨r0, e0, r00, r01⟩ := mix_ok hd (k := 10) (many := 5) (by decide) (by decide) (by decide)
    refine runs_sn (sPm_mi (by walk_at "go") (by walk_at "go") (by decide) (by walk_at "go") (by walk_at "go")) ?_
    refine runs_seq (runs_for (ds := rangeD 0 (1 + r0).toNat) (fun i ε => ∃ l a b, ε = [.im (il ds), .im (.int 10), .im (.int 5), .im (.int 36), a, .mu (il l), .im (.int (prodL l)), b] ∧ l ∈ sizesN 5 ∧ l.length ≤ i ∧ (0 < i → 1 ≤ l.length)) (iRange1_ok (by walk_at "go") (by omega) (by omega)) ⟨[], _, _, rfl, by decide, by decide, by omega⟩ ?_ ?_)
    · rintro i d ε hdd ⟨l, a, b, rfl, hl, hl2, hl3⟩
      obtain ⟨hi, rfl⟩ := rangeD_get hdd
      refine ⟨_, bN_o (by walk_at "go"), ?_⟩
      obtain ⟨r1, e1, r10, r11⟩ := mix_ok hd (k := 10 + 1 + (0 + (i : Int))) (many := 4) (by omega) (by omega) (by decide)
      obtain ⟨s, hs, e2⟩ := four_ix r10 r11
      have p := allB fin_prod hl
      rw [Bool.and_eq_true] at p
      have p1 := of_decide_eq_true p.1
      have p2 := of_decide_eq_true p.2
      have hs4 : 2 ≤ s ∧ s ≤ 4 := by simp at hs; omega
      have m : dMul (.int (prodL l)) (.int s) = .ok (.int (prodL l * s)) := dMul_small (by omega) (by omega)
      refine runs_sn (by walk_at "go") ?_
      refine runs_if (by walk_at "go") (fun hb => ?_) (fun hb => ?_)
      · have hb' := of_decide_eq_true hb
        have hlim := lim_eq
        have h6 := step_in hl (by omega) hs hb'
        refine runs_sn (sAp_o (ds := l.map PyData.int) (by walk_at "go") rfl (by rw [List.length_map]; omega) (by walk_at "go")) ?_
        refine runs_nx (by walk_at "go") ⟨l ++ [s], _, _, by rw [prodL_snoc, il_app]; rfl, h6, by rw [List.length_append]; simp; omega, fun _ => by rw [List.length_append]; simp⟩
      · refine runs_nil ⟨l, _, _, rfl, hl, by omega, fun _ => ?_⟩
        have hb' := of_decide_eq_false hb
        cases l with
        | nil =>
          have : prodL [] = 1 := rfl
          rw [this] at hb'
          omega
        | cons x r => simp
    · rintro ε' ⟨l, a, b, rfl, hl, hl2, hl3⟩
      rw [rangeD_len] at hl3
      refine runs_rtM (d := il l) (by walk_at "go") ⟨_, rfl, l, rfl, ?_⟩
      unfold allSizes
      exact List.mem_filter.mpr ⟨hl, decide_eq_true (hl3 (by omega))⟩
  obtain ⟨d, h1, s, rfl, h2⟩ := main
  exact ⟨s, h1, h2⟩
/-! ### the law's runs -/
theorem law_runs_ok {ds : List Int} (hd : DrawsOk ds) {s : List Int} {t : Nat} (z : Sz s t) {k : Int} (k0 : 0 ≤ k) (k1 : k < 2 ^ 30) : ∃ runs, f__law_runs [il ds, .int k, il s, .int 8] = .ok (fullD runs) ∧ runs.length ≤ 8 ∧ ∀ r, r ∈ runs → r ∈ fullL s := by
  obtain ⟨r0, e0, r00, r01⟩ := mix_ok hd (k := k) (many := 8 + 1) k0 (by omega) (by decide)
  have hn : 0 < ((fullL s).length : Int) := by
    have := List.length_pos_iff.mpr z.ne
    omega
  have pick : ∀ i : Nat, i < r0.toNat → ∃ q, q ∈ fullL s ∧ xBin dIx (xV 4) (xCall f__law_mix (xCons (xV 0) (xCons (xBin dAdd (xBin dAdd (xV 1) (xC (.int 1))) (xV 5)) (xCons (xCall cLen (xCons (xV 4) xNil)) xNil)))) [.im (il ds), .im (.int k), .im (il s), .im (.int 8), .im (fullD (fullL s)), .im (.int (0 + (i : Int)))] = .ok (tupD q) := by
    intro i hi
    obtain ⟨r1, e1, r10, r11⟩ := mix_ok hd (k := k + 1 + (0 + (i : Int))) (many := ((fullL s).length : Int)) (by omega) (by omega) hn
    have hr : r1.toNat < (fullL s).length := by omega
    refine ⟨(fullL s)[r1.toNat], List.getElem_mem hr, ?_⟩
    have e : cLen [fullD (fullL s)] = .ok (.int ((fullL s).length : Int)) := by
      unfold fullD
      rw [cLen_l, List.length_map]
    have e2 := fullD_ix (full := fullL s) (j := r1.toNat) (List.getElem?_eq_getElem hr)
    rw [Int.toNat_of_nonneg r10] at e2
    walk_at "go"
  obtain ⟨F, hF⟩ : ∃ F : Nat → List Int, ∀ i, i < r0.toNat → F i ∈ fullL s ∧ xBin dIx (xV 4) (xCall f__law_mix (xCons (xV 0) (xCons (xBin dAdd (xBin dAdd (xV 1) (xC (.int 1))) (xV 5)) (xCons (xCall cLen (xCons (xV 4) xNil)) xNil)))) [.im (il ds), .im (.int k), .im (il s), .im (.int 8), .im (fullD (fullL s)), .im (.int (0 + (i : Int)))] = .ok (tupD (F i)) :=
    ⟨fun i => if h : i < r0.toNat then (pick i h).choose else [], fun i hi => by
      simp only [dif_pos hi]
      exact (pick i hi).choose_spec⟩
  have hlim := lim_eq
  have hlf := z.lfull
  refine ⟨(List.range r0.toNat).map F, ?_, by rw [List.length_map, List.length_range]; omega, fun r hr => ?_⟩
  · unfold f__law_runs
    refine runF_rt rfl ?_
    unfold m__law_runs
    change Runs _ [.im (il ds), .im (.int k), .im (il s), .im (.int 8), .no, .no] _
    refine runs_sn (by walk_at "go") ?_
    refine runs_rt (xLc_a (enc := fun (i : Nat) => PyData.int (0 + (i : Int))) (v := fun i => tupD (F i)) (xs := List.range r0.toNat) (iRange1_ok (by walk_at "go") (by omega) (by omega)) (by walk_at "go") (fun i _ => by walk_at "go") (fun i hi => (hF i (List.mem_range.mp hi)).2) (by rw [List.length_range]; omega)) ?_
    unfold fullD
    rw [List.map_map]
    rfl
  · obtain ⟨i, hi, rfl⟩ := List.mem_map.mp hr
    exact (hF i (List.mem_range.mp hi)).1
end My
set_option Elab.async false
set_option linter.all false
set_option maxRecDepth 100000
set_option maxHeartbeats 4000000
set_option exponentiation.threshold 1000000
namespace My
open PySem Tw
local macro_rules | `(tactic| walk_at "go") => `(tactic| repeat' (with_reducible first | exact xV_0 | exact xC_o | exact xNil_o | exact st_0 | exact gt_0 | exact sNil_o | exact wipe_0 | apply wipe_n | exact bs0_o | apply xV_n | apply st_n | apply gt_n | apply sAs_o | apply sAsM_o | apply sDr_o | apply sPr_g | apply sUn_g | apply bN_o | apply bsC_o | apply bT_o | apply xBin_o | apply xUn_o | apply xTup_o | apply xLst_o | apply xCall_o | apply xCons_o | apply tC_o | apply tV_o | apply tNo_o | apply tTh_g | exact th_0 | apply th_i | apply th_m | apply th_n | apply th_x | apply tOrr_g | apply tAn_g | apply xNo_g | apply xOrr_g | apply xAn_g | apply xCh_g | apply iSeq_o | assumption | exact dAdd_i | exact dSub_i | exact dNeg_i | exact dIx_t0 | exact dIx_t1 | exact cInt_i | exact cAbs_i | exact cLen_l | exact cLen_t | exact dLt_i | exact dGt_i | exact dLe_i | exact dGe_i | exact dEq_int _ _ | exact dNe_int _ _ | exact kMin_i | exact kMax_i | exact rfl))
/-! ### one turn of the law -/
def turnM : Nv → R Fl :=
  (sSeq (sAs 10 (xCall f__law_runs (xCons (xV 1) (xCons (xBin dAdd (xC (.int 20)) (xBin dMul (xC (.int 10)) (xV 6))) (xCons (xV 2) (xCons (xC (.int 8)) xNil))))))
    (sSeq (sAs 11 (xCall cRepr (xCons (xTup (xCons (xV 10) (xCons (xV 2) xNil))) xNil)))
    (sSeq (sAs 12 (xLc [16] (iSeq (xV 9)) (bN 16) (tC' (xBin dEq (xLc [17] (iSeq (xV 10)) (bN 17) (tV (xCall f__law_has (xCons (xV 17) (xCons (xV 16) xNil)))) (xV 17)) (xLst xNil))) (xV 16)))
    (sSeq (sAsM 7 (xCall f_missing (xCons (xV 10) (xCons (xV 2) (xCons (xV 3) xNil)))))
    (sSeq (sIf (tTh (tC' (xBin dNe (xCall cRepr (xCons (xV 7) xNil)) (xCall cRepr (xCons (xV 12) xNil)))))
    (sRt (xC (.bool false)))
    sNil)
    (sSeq (sAs 13 (xC .none))
    (sSeq (sIf (tC' (xBin dNe (xV 12) (xLst xNil)))
    (sSeq (sAs 13 (xCall f__law_next (xCons (xV 12) (xCons (xV 8) xNil))))
      (sIf (tC' (xBin dLt (xBin dMul (xCall cLen (xCons (xLc [16] (iSeq (xV 12)) (bN 16) (tV (xCall f__law_has (xCons (xV 13) (xCons (xV 16) xNil)))) (xV 16)) xNil)) (xV 4)) (xCall cLen (xCons (xV 12) xNil))))
      (sRt (xC (.bool false)))
      sNil))
    sNil)
    (sSeq (sIf (tOrr (tC' (xBin dNe (xCall cRepr (xCons (xCall f_next_run (xCons (xV 10) (xCons (xV 2) (xCons (xV 3) xNil)))) xNil)) (xCall cRepr (xCons (xV 13) xNil)))) (tC' (xBin dNe (xCall cRepr (xCons (xTup (xCons (xV 10) (xCons (xV 2) xNil))) xNil)) (xV 11))))
    (sRt (xC (.bool false)))
    sNil)
    (sSeq (sAp 7 (xTup xNil))
    (sIf (tC' (xBin dNe (xCall cRepr (xCons (xCall f_missing (xCons (xV 10) (xCons (xV 2) (xCons (xV 3) xNil)))) xNil)) (xCall cRepr (xCons (xV 12) xNil))))
    (sRt (xC (.bool false)))
    sNil))))))))))
def lawEnv (s0 : SV) (ds s : List Int) (t : Nat) (a5 a6 a7 a10 a11 a12 a13 a14 a15 a16 a17 : SV) : Nv :=
  [s0, .im (il ds), .im (il s), .im (.int (t : Int)), .im (.int (floorL s t)), a5, a6, a7, .im (fullD (fullL s)), .im (sightsD (sightsL s t)), a10, a11, a12, a13, a14, a15, a16, a17]
theorem isEmpty_any (p : List Int → Bool) (l : List (List Int)) : (l.filter p).isEmpty = !(l.any p) := by
  induction l with
  | nil => rfl
  | cons x r ih =>
    rw [List.filter_cons, List.any_cons]
    cases h : p x with
    | true => rfl
    | false =>
      rw [Bool.false_or]
      exact ih
/-- what is closed, besides -/
structure Sm (s : List Int) (t : Nat) : Prop where
  sm : ∀ g, g ∈ sightsL s t → smS g
  smr : ∀ r, r ∈ fullL s → smR r
  sms : smR s
  fl0 : 0 ≤ floorL s t
  flb : floorL s t ≤ 64
  cnt : ∀ g, g ∈ sightsL s t → (fullL s).length ≤ cnt (fullL s) g * (floorL s t).toNat
  cov : Cov (fullL s) (sightsL s t)
theorem fin_smr : allSizes.all (fun s => (fullL s).all (fun r => decide (r.length ≤ 10) && r.all fun i => decide (i.natAbs < 100)) && decide (s.length ≤ 10) && s.all (fun i => decide (i.natAbs < 100)) && [1, 2, 3].all fun t => decide (floorL s t ≤ 64)) = true := by decide +kernel
theorem sm_of {s : List Int} {t : Nat} (hs : s ∈ allSizes) (z : Sz s t) : Sm s t := by
  have ht : t ∈ [1, 2, 3] := by
    have h1 := z.t1
    have h3 := z.t3
    have : t = 1 ∨ t = 2 ∨ t = 3 := by omega
    rcases this with rfl | rfl | rfl <;> simp
  have tk : tOk s t = true := by
    unfold tOk
    rw [decide_eq_true z.t1, decide_eq_true z.t3, decide_eq_true z.tl]
    rfl
  have b := allB (allB fin_sm hs) ht
  rw [tk] at b
  simp only [Bool.not_true, Bool.false_or] at b
  have c := allB (allB fin_cnt hs) ht
  rw [tk] at c
  simp only [Bool.not_true, Bool.false_or, Bool.and_eq_true] at c
  have d := allB fin_smr hs
  simp only [Bool.and_eq_true] at d
  obtain ⟨⟨⟨d1, d2⟩, d3⟩, d4⟩ := d
  have big : ∀ i : Int, i.natAbs < 100 → i.natAbs < 10 ^ 12 := fun i h => by omega
  refine ⟨fun g hg => smS_of (allB b hg), fun r hr => ?_, ⟨of_decide_eq_true d2, fun i hi => big i (of_decide_eq_true (allB d3 hi))⟩, of_decide_eq_true c.1, of_decide_eq_true (allB d4 ht), fun g hg => ?_, fun g hg => ?_⟩
  · have e := allB d1 hr
    rw [Bool.and_eq_true] at e
    exact ⟨of_decide_eq_true e.1, fun i hi => big i (of_decide_eq_true (allB e.2 hi))⟩
  · have e := allB c.2 hg
    rw [Bool.and_eq_true] at e
    exact of_decide_eq_true e.1
  · have e := allB c.2 hg
    rw [Bool.and_eq_true] at e
    obtain ⟨q, h1, h2⟩ := List.any_eq_true.mp e.2
    exact ⟨q, h1, h2⟩
theorem okd_runs {l : List (List Int)} (h : ∀ r, r ∈ l → smR r) : okd (fullD l) = true := by
  obtain ⟨a, b, _, _⟩ := runs_data l h
  unfold fullD
  refine okd_of ?_ ?_
  · simp only [PyData.plain]
    exact a
  · simp only [PyData.depth]
    omega
theorem dEq_str_same (x : Str) : dNe (.str x) (.str x) = .ok (.bool false) := dNe_same rfl
theorem turn_ok {s0 : SV} {ds s : List Int} {t : Nat} (hd : DrawsOk ds) (z : Sz s t) (m : Sm s t) {i : Nat} (hi : i < 3) {a5 a7 a10 a11 a12 a13 a14 a15 a16 a17 : SV} :
    Runs turnM (lawEnv s0 ds s t a5 (.im (.int (0 + (i : Int)))) a7 a10 a11 a12 a13 a14 a15 a16 a17) fun fl => ∃ a6 a7 a10 a11 a12 a13 a16 a17, fl = .nx (lawEnv s0 ds s t a5 a6 a7 a10 a11 a12 a13 a14 a15 a16 a17) := by
  have hlim := lim_eq
  unfold turnM lawEnv
  obtain ⟨runs, e1, hl, hr⟩ := law_runs_ok hd z (k := 20 + 10 * (0 + (i : Int))) (by omega) (by omega)
  have em : dMul (.int 10) (.int (0 + (i : Int))) = .ok (.int (10 * (0 + (i : Int)))) := dMul_small (by decide) (by omega)
  refine runs_sn (by walk_at "go") ?_
  have e2 := cRepr_both (l := runs) (s := s) (fun r h => m.smr r (hr r h)) (by omega) m.sms
  refine runs_sn (by walk_at "go") ?_
  obtain ⟨left, el⟩ : ∃ left, left = missL (sightsL s t) runs := ⟨_, rfl⟩
  have hsub : ∀ g, g ∈ left → g ∈ sightsL s t := fun g hg => by
    rw [el] at hg
    exact (List.mem_filter.mp hg).1
  have hlen : left.length ≤ 200 := by
    rw [el]
    exact Nat.le_trans (List.length_filter_le _ _) z.ls
  have hls := z.ls
  -- what is left
  refine runs_sn (sAs_o (d := sightsD left) ?_ (by walk_at "go")) ?_
  · have hz := xLc_f (vs := [16]) (mi := iSeq (xV 9)) (g := bN 16) (t := tC' (xBin dEq (xLc [17] (iSeq (xV 10)) (bN 17) (tV (xCall f__law_has (xCons (xV 17) (xCons (xV 16) xNil)))) (xV 17)) (xLst xNil))) (e := xV 16)
      (ε := [s0, .im (il ds), .im (il s), .im (.int (t : Int)), .im (.int (floorL s t)), a5, .im (.int (0 + (i : Int))), a7, .im (fullD (fullL s)), .im (sightsD (sightsL s t)), .im (fullD runs), .im (.str (PyData.tuple [fullD runs, il s]).shown), a12, a13, a14, a15, a16, a17])
      (enc := sightD) (v := sightD) (p := fun g => !(runs.any fun r => hasB r g)) (xs := sightsL s t) rfl (by walk_at "go") (fun g _ => by walk_at "go") (fun g hg => ?_) (fun g _ _ => by walk_at "go") (by omega)
    · rw [el]
      exact hz
    · have hy := xLc_f (vs := [17]) (mi := iSeq (xV 10)) (g := bN 17) (t := tV (xCall f__law_has (xCons (xV 17) (xCons (xV 16) xNil)))) (e := xV 17)
        (ε := [s0, .im (il ds), .im (il s), .im (.int (t : Int)), .im (.int (floorL s t)), a5, .im (.int (0 + (i : Int))), a7, .im (fullD (fullL s)), .im (sightsD (sightsL s t)), .im (fullD runs), .im (.str (PyData.tuple [fullD runs, il s]).shown), a12, a13, a14, a15, .im (sightD g), a17])
        (enc := tupD) (v := tupD) (p := fun r => hasB r g) (xs := runs) rfl (by walk_at "go") (fun r _ => by walk_at "go") (fun r hr' => by
          have a := law_has_ok (run := r) (s := g) (by rw [(z.bd r (hr r hr')).1]; exact z.inl g hg)
          walk_at "go") (fun r _ _ => by walk_at "go") (by omega)
      refine tC_o (xBin_o hy (xLst_o xNil_o) ?_)
      have := dEq_nil (xs := (runs.filter fun r => hasB r g).map tupD) (okd_runs fun r h => m.smr r (hr r (List.mem_filter.mp h).1))
      rw [this, List.isEmpty_map, isEmpty_any]
  have e3 := missing_ok z hr (by omega)
  rw [← el] at e3
  have e4 := cRepr_sights (l := left) (fun g hg => m.sm g (hsub g hg)) (by omega)
  have e5 := dEq_str_same (sightsD left).shown
  refine runs_sn (by walk_at "go") ?_
  refine runs_no (by walk_at "go") rfl ?_
  refine runs_sn (by walk_at "go") ?_
  have oks : okd (sightsD left) = true := okd_sights fun g hg => m.sm g (hsub g hg)
  have e6 : dNe (sightsD left) (.list []) = .ok (.bool (!left.isEmpty)) := by
    have := dNe_nil (xs := left.map sightD) oks
    rw [List.isEmpty_map] at this
    exact this
  -- what is next
  refine runs_seq (Runs.mono (p := fun fl => ∃ a16, fl = .nx [s0, .im (il ds), .im (il s), .im (.int (t : Int)), .im (.int (floorL s t)), a5, .im (.int (0 + (i : Int))), .mu (sightsD left), .im (fullD (fullL s)), .im (sightsD (sightsL s t)), .im (fullD runs), .im (.str (PyData.tuple [fullD runs, il s]).shown), .im (sightsD left), .im (if left = [] then .none else tupD (nextL left (fullL s))), a14, a15, a16, a17]) ?_ ?_)
  · refine runs_if (by walk_at "go") (fun hb => ?_) (fun hb => ?_)
    · have hne : left ≠ [] := fun q => by rw [q] at hb; cases hb
      rw [if_neg hne]
      have e7 := law_next_ok (z.ok hsub (by omega)) z.ne
      obtain ⟨_, _, _, _, _, nx⟩ := next_is (left := left) z.ne
      refine runs_sn (by walk_at "go") ?_
      have hz := xLc_f (vs := [16]) (mi := iSeq (xV 12)) (g := bN 16) (t := tV (xCall f__law_has (xCons (xV 13) (xCons (xV 16) xNil)))) (e := xV 16)
        (ε := [s0, .im (il ds), .im (il s), .im (.int (t : Int)), .im (.int (floorL s t)), a5, .im (.int (0 + (i : Int))), .mu (sightsD left), .im (fullD (fullL s)), .im (sightsD (sightsL s t)), .im (fullD runs), .im (.str (PyData.tuple [fullD runs, il s]).shown), .im (sightsD left), .im (tupD (nextL left (fullL s))), a14, a15, a16, a17])
        (enc := sightD) (v := sightD) (p := fun g => hasB (nextL left (fullL s)) g) (xs := left) rfl (by walk_at "go") (fun g _ => by walk_at "go") (fun g hg => by
          have a := law_has_ok (run := nextL left (fullL s)) (s := g) (by rw [(z.bd _ nx.mem).1]; exact z.inl g (hsub g hg))
          walk_at "go") (fun g _ _ => by walk_at "go") (by omega)
      have e8 : cLen [.list ((left.filter fun g => hasB (nextL left (fullL s)) g).map sightD)] = .ok (.int ((seen left (nextL left (fullL s)) : Nat) : Int)) := by
        rw [cLen_l, List.length_map]
        rfl
      have e9 : cLen [sightsD left] = .ok (.int (left.length : Int)) := by
        unfold sightsD
        rw [cLen_l, List.length_map]
      have sl : seen left (nextL left (fullL s)) ≤ 200 := Nat.le_trans (List.length_filter_le _ _) hlen
      have f1 := m.fl0
      have f2 := m.flb
      have e10 : dMul (.int ((seen left (nextL left (fullL s)) : Nat) : Int)) (.int (floorL s t)) = .ok (.int (((seen left (nextL left (fullL s)) : Nat) : Int) * floorL s t)) := dMul_small (by omega) (by omega)
      have mean := mean_ok (fun g hg => m.cnt g (hsub g hg)) nx
      have mean2 : (left.length : Int) ≤ ((seen left (nextL left (fullL s)) : Nat) : Int) * floorL s t := by
        have q : floorL s t = (((floorL s t).toNat : Nat) : Int) := (Int.toNat_of_nonneg f1).symm
        rw [q, ← Int.natCast_mul]
        omega
      refine runs_if (by walk_at "go") (fun hb2 => ?_) (fun hb2 => runs_nil ⟨_, rfl⟩)
      have := of_decide_eq_true hb2
      omega
    · have he : left = [] := by
        cases left with
        | nil => rfl
        | cons x r => cases hb
      rw [if_pos he]
      exact runs_nil ⟨_, rfl⟩
  · rintro fl ⟨b16, rfl⟩
    show Runs _ _ _
    have e7 := next_run_ok z hr (by omega)
    rw [← el] at e7
    have e8 : cRepr [if left = [] then PyData.none else tupD (nextL left (fullL s))] = .ok (.str (if left = [] then PyData.none else tupD (nextL left (fullL s))).shown) := by
      by_cases h : left = []
      · rw [if_pos h]
        exact cRepr_tw rfl rfl (by show 13 ≤ 1000000; decide)
      · rw [if_neg h]
        obtain ⟨_, _, _, _, _, nx⟩ := next_is (left := left) z.ne
        exact cRepr_run (m.smr _ nx.mem)
    have e9 := dEq_str_same (if left = [] then PyData.none else tupD (nextL left (fullL s))).shown
    have e10 := dEq_str_same (PyData.tuple [fullD runs, il s]).shown
    refine runs_no (by walk_at "go") (by rfl) ?_
    refine runs_sn (sAp_o (ds := left.map sightD) (d := .tuple []) (by walk_at "go") rfl (by rw [List.length_map]; omega) (by walk_at "go")) ?_
    refine runs_if (b := false) (by walk_at "go") (fun q => by cases q) (fun _ => runs_nil ⟨_, _, _, _, _, _, _, _, rfl⟩)
end My
set_option Elab.async false
set_option linter.all false
set_option maxRecDepth 100000
set_option maxHeartbeats 4000000
set_option exponentiation.threshold 1000000
namespace My
open PySem Tw
local macro_rules | `(tactic| walk_at "go") => `(tactic| repeat' (with_reducible first | exact xV_0 | exact xC_o | exact xNil_o | exact st_0 | exact gt_0 | exact sNil_o | exact wipe_0 | apply wipe_n | exact bs0_o | apply xV_n | apply st_n | apply gt_n | apply sAs_o | apply sAsM_o | apply sDr_o | apply sPr_g | apply sUn_g | apply bN_o | apply bsC_o | apply bT_o | apply xBin_o | apply xUn_o | apply xTup_o | apply xLst_o | apply xCall_o | apply xCons_o | apply tC_o | apply tV_o | apply tNo_o | apply tTh_g | exact th_0 | apply th_i | apply th_m | apply th_n | apply th_x | apply tOrr_g | apply tAn_g | apply xNo_g | apply xOrr_g | apply xAn_g | apply xCh_g | apply iSeq_o | assumption | exact dAdd_i | exact dSub_i | exact dNeg_i | exact dIx_t0 | exact dIx_t1 | exact cInt_i | exact cAbs_i | exact cLen_l | exact cLen_t | exact dLt_i | exact dGt_i | exact dLe_i | exact dGe_i | exact dEq_int _ _ | exact dNe_int _ _ | exact kMin_i | exact kMax_i | exact rfl))
/-! ### the greedy runs: how many, what they cover -/
theorem filt_lt (p p' : List Int → Bool) : ∀ l : List (List Int), (∀ x, x ∈ l → p' x = true → p x = true) → (∃ x, x ∈ l ∧ p x = true ∧ p' x = false) → (l.filter p').length < (l.filter p).length
  | [], _, ⟨x, h, _⟩ => by cases h
  | y :: r, hs, ⟨x, hx, h1, h2⟩ => by
    have le : ∀ l : List (List Int), (∀ x, x ∈ l → p' x = true → p x = true) → (l.filter p').length ≤ (l.filter p).length := fun l => by
      induction l with
      | nil => exact fun _ => Nat.le_refl _
      | cons z q ih =>
        intro h
        have a := ih fun x hx => h x (List.mem_cons_of_mem _ hx)
        have b := h z List.mem_cons_self
        rw [List.filter_cons, List.filter_cons]
        cases e : p' z with
        | true =>
          rw [b e]
          simp only [if_true, List.length_cons]
          omega
        | false =>
          cases p z
          · simpa using a
          · simp only [if_true, Bool.false_eq_true, if_false, List.length_cons]
            omega
    have b := hs y List.mem_cons_self
    have hr := le r fun x hx => hs x (List.mem_cons_of_mem _ hx)
    rw [List.filter_cons, List.filter_cons]
    rcases List.mem_cons.mp hx with e | e
    · subst e
      rw [h1, h2]
      simp only [if_true, Bool.false_eq_true, if_false, List.length_cons]
      omega
    · have ih := filt_lt p p' r (fun x hx => hs x (List.mem_cons_of_mem _ hx)) ⟨x, e, h1, h2⟩
      cases e1 : p' y with
      | true =>
        rw [b e1]
        simp only [if_true, List.length_cons]
        omega
      | false =>
        cases p y
        · simpa using ih
        · simp only [if_true, Bool.false_eq_true, if_false, List.length_cons]
          omega
def useful (full : List (List Int)) (left : List Sg) : Nat := (full.filter fun q => decide (0 < seen left q)).length
theorem useful_step {full : List (List Int)} {left : List Sg} (ne : full ≠ []) (hl : left ≠ []) (c : Cov full left) : useful full (stepG full left) < useful full left := by
  obtain ⟨_, _, _, _, _, nx⟩ := next_is (left := left) ne
  have sub : ∀ q, seen (stepG full left) q ≤ seen left q := fun q => by
    unfold seen stepG
    rw [List.filter_filter]
    induction left with
    | nil => exact Nat.le_refl _
    | cons g r _ =>
      generalize nextL (g :: r) full = u
      generalize (g :: r) = w
      induction w with
      | nil => exact Nat.le_refl _
      | cons a b ih =>
        rw [List.filter_cons, List.filter_cons]
        cases hasB q a
        · simpa using ih
        · cases hasB u a
          · simp only [Bool.not_false, Bool.and_self, if_true, List.length_cons]
            omega
          · simp only [Bool.not_true, Bool.and_false, Bool.false_eq_true, if_false, if_true, List.length_cons]
            omega
  refine filt_lt _ _ full (fun x _ h => ?_) ⟨nextL left full, nx.mem, ?_, ?_⟩
  · have := of_decide_eq_true h
    have := sub x
    exact decide_eq_true (by omega)
  · cases left with
    | nil => exact absurd rfl hl
    | cons g r =>
      obtain ⟨q, hq, hg⟩ := c g List.mem_cons_self
      exact decide_eq_true (Nat.lt_of_lt_of_le (seen_pos List.mem_cons_self hg) (nx.max q hq))
  · refine decide_eq_false (fun h => ?_)
    unfold seen at h
    obtain ⟨g, hg⟩ := List.exists_mem_of_length_pos h
    have h1 := List.mem_filter.mp hg
    have h2 := (List.mem_filter.mp h1.1).2
    rw [h1.2] at h2
    cases h2
theorem greedy_len {full : List (List Int)} (ne : full ≠ []) : ∀ (n : Nat) (left : List Sg), Cov full left → (greedyL full n left).length ≤ useful full left
  | 0, _, _ => Nat.zero_le _
  | _ + 1, [], _ => Nat.zero_le _
  | n + 1, g :: r, c => by
    have h1 := greedy_len ne n (stepG full (g :: r)) (cov_step c)
    have h2 := useful_step ne (by simp) c
    show (greedyL full n (stepG full (g :: r))).length + 1 ≤ _
    omega
theorem greedy_mem {full : List (List Int)} (ne : full ≠ []) : ∀ (n : Nat) (left : List Sg), ∀ q, q ∈ greedyL full n left → q ∈ full
  | 0, _, q, h => by cases h
  | _ + 1, [], q, h => by cases h
  | n + 1, g :: r, q, h => by
    rcases List.mem_cons.mp h with e | e
    · obtain ⟨_, _, _, _, _, nx⟩ := next_is (left := g :: r) ne
      rw [e]
      exact nx.mem
    · exact greedy_mem ne n _ q e
theorem greedy_cov {full : List (List Int)} (ne : full ≠ []) : ∀ (n : Nat) (left : List Sg), Cov full left → left.length ≤ n → ∀ g, g ∈ left → ∃ q, q ∈ greedyL full n left ∧ hasB q g = true
  | 0, [], _, _, g, h => by cases h
  | 0, _ :: _, _, h, _, _ => by simp at h
  | _ + 1, [], _, _, g, h => by cases h
  | n + 1, x :: r, c, hl, g, hg => by
    have lt := step_lt ne (by simp) c
    cases e : hasB (nextL (x :: r) full) g with
    | true => exact ⟨_, List.mem_cons_self, e⟩
    | false =>
      obtain ⟨q, h1, h2⟩ := greedy_cov ne n (stepG full (x :: r)) (cov_step c) (by omega) g (List.mem_filter.mpr ⟨hg, by rw [e]; rfl⟩)
      exact ⟨q, List.mem_cons_of_mem _ h1, h2⟩
theorem greedy_last {full : List (List Int)} (ne : full ≠ []) : ∀ (n : Nat) (left : List Sg), left ≠ [] → Cov full left → left.length ≤ n → ∃ g, g ∈ left ∧ ∀ q, q ∈ (greedyL full n left).dropLast → hasB q g = false
  | 0, left, hn, _, hl => absurd (List.eq_nil_of_length_eq_zero (by omega)) hn
  | _ + 1, [], hn, _, _ => absurd rfl hn
  | n + 1, x :: r, _, c, hl => by
    have lt := step_lt ne (by simp) c
    have e : greedyL full (n + 1) (x :: r) = nextL (x :: r) full :: greedyL full n (stepG full (x :: r)) := rfl
    rw [e]
    by_cases h : stepG full (x :: r) = []
    · rw [h]
      refine ⟨x, List.mem_cons_self, fun q hq => ?_⟩
      have : greedyL full n [] = [] := by cases n <;> rfl
      rw [this] at hq
      cases hq
    · obtain ⟨g, h1, h2⟩ := greedy_last ne n (stepG full (x :: r)) h (cov_step c) (by omega)
      refine ⟨g, (List.mem_filter.mp h1).1, fun q hq => ?_⟩
      have hne : greedyL full n (stepG full (x :: r)) ≠ [] := fun z => by
        obtain ⟨q', a, _⟩ := greedy_cov ne n (stepG full (x :: r)) (cov_step c) (by omega) g h1
        rw [z] at a
        cases a
      rw [List.dropLast_cons_of_ne_nil hne] at hq
      rcases List.mem_cons.mp hq with e | e
      · have := (List.mem_filter.mp h1).2
        rw [e]
        simpa using this
      · exact h2 q e
theorem miss_nil {every : List Sg} {runs : List (List Int)} (h : ∀ g, g ∈ every → ∃ q, q ∈ runs ∧ hasB q g = true) : missL every runs = [] := by
  refine List.filter_eq_nil_iff.mpr fun g hg => ?_
  obtain ⟨q, h1, h2⟩ := h g hg
  rw [List.any_eq_true.mpr ⟨q, h1, h2⟩]
  exact Bool.false_ne_true
theorem miss_ne {every : List Sg} {runs : List (List Int)} {g : Sg} (hg : g ∈ every) (h : ∀ q, q ∈ runs → hasB q g = false) : missL every runs ≠ [] := fun z => by
  have : g ∈ missL every runs := List.mem_filter.mpr ⟨hg, by
    rw [Bool.not_eq_true', List.any_eq_false]
    exact fun q hq => by rw [h q hq]; exact Bool.false_ne_true⟩
  rw [z] at this
  cases this
/-! ### the law's own greedy runs -/
def whM : Nv → R Fl := sWh fuel (tC' (xBin dNe (xV 12) (xLst xNil)))
  (sSeq (sAp 14 (xCall f__law_next (xCons (xV 12) (xCons (xV 8) xNil))))
    (sAs 12 (xLc [16] (iSeq (xV 12)) (bN 16) (tNo (tV (xCall f__law_has (xCons (xIm 14 (xUn dNeg (xC (.int 1)))) (xCons (xV 16) xNil))))) (xV 16))))
theorem ix_last {l : List D} {x : D} : dIx (.list (l ++ [x])) (.int (-1)) = .ok x := by
  refine dIx_list ?_
  unfold L2.atI
  have : L2.ixN (l ++ [x]).length (-1) = some l.length := by
    unfold L2.ixN
    rw [List.length_append, List.length_singleton, if_neg (by decide), if_pos (by omega)]
    congr 1
    omega
  rw [this]
  simp
theorem wh_ok {s0 : SV} {ds s : List Int} {t : Nat} (z : Sz s t) (m : Sm s t) {a5 a6 a7 a10 a11 a13 a15 a16 a17 : SV} :
    Runs whM (lawEnv s0 ds s t a5 a6 a7 a10 a11 (.im (sightsD (sightsL s t))) a13 (.mu (.list [])) a15 a16 a17) fun fl => ∃ a16, fl = .nx (lawEnv s0 ds s t a5 a6 a7 a10 a11 (.im (sightsD [])) a13 (.mu (fullD (greedyL (fullL s) 200 (sightsL s t)))) a15 a16 a17) := by
  have hlim := lim_eq
  have hls := z.ls
  unfold whM lawEnv
  refine runs_wh (fun n ε => ∃ found left a16, ε = lawEnv s0 ds s t a5 a6 a7 a10 a11 (.im (sightsD left)) a13 (.mu (fullD found)) a15 a16 a17 ∧ n = left.length ∧ (∀ g, g ∈ left → g ∈ sightsL s t) ∧ found.length + left.length ≤ 200 ∧ found ++ greedyL (fullL s) left.length left = greedyL (fullL s) 200 (sightsL s t)) (sightsL s t).length
    ⟨[], sightsL s t, _, rfl, rfl, fun _ h => h, by rw [List.length_nil]; omega, greedy_fuel z.ne _ _ _ m.cov (Nat.le_refl _) hls⟩ (by show _ < 100000; omega) ?_
  rintro n ε ⟨found, left, b16, rfl, rfl, hsub, hlen, hg⟩
  unfold lawEnv
  have oks : okd (sightsD left) = true := okd_sights fun g hg => m.sm g (hsub g hg)
  have e6 : dNe (sightsD left) (.list []) = .ok (.bool (!left.isEmpty)) := by
    have := dNe_nil (xs := left.map sightD) oks
    rw [List.isEmpty_map] at this
    exact this
  cases left with
  | nil =>
    left
    replace e6 : dNe (sightsD []) (.list []) = .ok (.bool false) := e6
    refine ⟨by walk_at "go", ?_⟩
    have : greedyL (fullL s) ([] : List Sg).length [] = [] := rfl
    rw [this, List.append_nil] at hg
    rw [← hg]
    exact ⟨_, rfl⟩
  | cons g r =>
    right
    replace e6 : dNe (sightsD (g :: r)) (.list []) = .ok (.bool true) := e6
    refine ⟨by walk_at "go", ?_⟩
    have c := law_next_ok (z.ok hsub (by omega)) z.ne
    obtain ⟨_, _, _, _, _, nx⟩ := next_is (left := g :: r) z.ne
    have cv' : Cov (fullL s) (g :: r) := fun x hx => m.cov x (hsub x hx)
    have lt := step_lt z.ne (by simp) cv'
    refine runs_sn (sAp_o (d := tupD (nextL (g :: r) (fullL s))) (ds := found.map tupD) (by walk_at "go") rfl (by rw [List.length_map]; omega) (by walk_at "go")) ?_
    have hz := xLc_f (vs := [16]) (mi := iSeq (xV 12)) (g := bN 16) (t := tNo (tV (xCall f__law_has (xCons (xIm 14 (xUn dNeg (xC (.int 1)))) (xCons (xV 16) xNil))))) (e := xV 16)
        (ε := lawEnv s0 ds s t a5 a6 a7 a10 a11 (.im (sightsD (g :: r))) a13 (.mu (.list (found.map tupD ++ [tupD (nextL (g :: r) (fullL s))]))) a15 b16 a17)
        (enc := sightD) (v := sightD) (p := fun x => !hasB (nextL (g :: r) (fullL s)) x) (F := fun x => lawEnv s0 ds s t a5 a6 a7 a10 a11 (.im (sightsD (g :: r))) a13 (.mu (.list (found.map tupD ++ [tupD (nextL (g :: r) (fullL s))]))) a15 (.im (sightD x)) a17) (xs := g :: r) rfl rfl (fun x _ => rfl) (fun x hx => by
          have a := law_has_ok (run := nextL (g :: r) (fullL s)) (s := x) (by rw [(z.bd _ nx.mem).1]; exact z.inl x (hsub x hx))
          have il := ix_last (l := found.map tupD) (x := tupD (nextL (g :: r) (fullL s)))
          unfold lawEnv
          refine tNo_o (tV_o (xCall_o (xCons_o (xIm_o (z := -1) (by walk_at "go") (by walk_at "go") il) (by walk_at "go")) a))) (fun x _ _ => by unfold lawEnv; walk_at "go") (by omega)
    refine runs_nx (sAs_o hz (by walk_at "go")) ⟨_, lt, found ++ [nextL (g :: r) (fullL s)], stepG (fullL s) (g :: r), b16, ?_, rfl, fun x hx => hsub x (List.mem_filter.mp hx).1, ?_, ?_⟩
    · unfold fullD
      rw [List.map_append]
      rfl
    · rw [List.length_append]
      show found.length + 1 + _ ≤ 200
      omega
    · rw [← hg, List.append_assoc]
      show found ++ (nextL (g :: r) (fullL s) :: _) = found ++ (nextL (g :: r) (fullL s) :: greedyL (fullL s) r.length (stepG (fullL s) (g :: r)))
      rw [greedy_fuel z.ne _ r.length _ (cov_step cv') (Nat.le_refl _) (by rw [List.length_cons] at lt; omega)]
      rfl
/-! ### the fewest runs: by evaluation -/
def unI : D → Int
  | .int i => i
  | _ => 0
def unT : D → List Int
  | .tuple l => l.map unI
  | _ => []
def ungD : D → List (List Int)
  | .list xs => xs.map unT
  | _ => []
def fewL (s : List Int) (t : Nat) : List (List Int) := match f_fewest [il s, .int (t : Int)] with | .ok d => ungD d | _ => []
def fewB (s : List Int) (t : Nat) : Bool :=
  let f := fewL s t
  isR (f_fewest [il s, .int (t : Int)]) (fullD f) && isR (dSS (fullD f)) (fullD f) && (f.all fun r => (fullL s).contains r) && decide (missL (sightsL s t) f = []) && decide (floorL s t ≤ (f.length : Int)) && decide (f.length ≤ (greedyL (fullL s) 200 (sightsL s t)).length) && isR (f__law_can [sightsD (sightsL s t), fullD (fullL s), .int ((f.length : Int) - 1)]) (.bool false) && decide (f.length ≤ 60)
theorem fin_few : allSizes.all (fun s => decide (12 < (fullL s).length) || [1, 2, 3].all fun t => !tOk s t || fewB s t) = true := by decide +kernel
theorem fin_nes : allSizes.all (fun s => [1, 2, 3].all fun t => !tOk s t || !(sightsL s t).isEmpty) = true := by decide +kernel
def fewM : Nv → R Fl :=
  (sSeq (sAsM 15 (xCall f_fewest (xCons (xV 2) (xCons (xV 3) xNil))))
    (sSeq (sIf (tOrr (tTh (tC' (xBin dNe (xV 15) (xUn dSS (xV 15))))) (tOrr (tTh (tC' (xBin dNe (xLc [17] (iSeq (xV 15)) (bN 17) (tC' (xBin dNotIn (xV 17) (xV 8))) (xV 17)) (xLst xNil)))) (tTh (tC' (xBin dNe (xCall f_missing (xCons (xV 15) (xCons (xV 2) (xCons (xV 3) xNil)))) (xLst xNil))))))
    (sRt (xC (.bool false)))
    sNil)
    (sSeq (sIf (tOrr (tNo (tTh (tC' (xCh dLe dLe (xV 4) (xCall cLen (xCons (xV 15) xNil)) (xCall cLen (xCons (xV 7) xNil)))))) (tV (xCall f__law_can (xCons (xV 9) (xCons (xV 8) (xCons (xBin dSub (xTh (xCall cLen (xCons (xV 15) xNil))) (xC (.int 1))) xNil))))))
    (sRt (xC (.bool false)))
    sNil)
    (sSeq (sAp 15 (xTup xNil))
    (sSeq (sFz 15) sNil)))))
end My
set_option Elab.async false
set_option linter.all false
set_option maxRecDepth 100000
set_option maxHeartbeats 4000000
set_option exponentiation.threshold 1000000
namespace My
open PySem Tw
local macro_rules | `(tactic| walk_at "go") => `(tactic| repeat' (with_reducible first | exact xV_0 | exact xC_o | exact xNil_o | exact st_0 | exact gt_0 | exact sNil_o | exact wipe_0 | apply wipe_n | exact bs0_o | apply xV_n | apply st_n | apply gt_n | apply sAs_o | apply sAsM_o | apply sDr_o | apply sPr_g | apply sUn_g | apply bN_o | apply bsC_o | apply bT_2o | apply bT_3o | apply bT_4o | apply bL_2o | apply xBin_o | apply xUn_o | apply xTup_o | apply xLst_o | apply xCall_o | apply xCons_o | apply tC_o | apply tV_o | apply tNo_o | apply tTh_g | exact th_0 | apply th_i | apply th_m | apply th_n | apply th_x | apply tOrr_g | apply tAn_g | apply xNo_g | apply xOrr_g | apply xAn_g | apply xCh_g | apply iSeq_o | assumption | exact dAdd_i | exact dSub_i | exact dNeg_i | exact dIx_t0 | exact dIx_t1 | exact cInt_i | exact cAbs_i | exact cLen_l | exact cLen_t | exact dLt_i | exact dGt_i | exact dLe_i | exact dGe_i | exact dEq_int _ _ | exact dNe_int _ _ | exact kMin_i | exact kMax_i | exact rfl))
/-! ### the fewest runs, the end -/
theorem dNotIn_mem {x : D} {xs : List D} (hx : x ∈ xs) (h1 : okd x = true) (h2 : okd (.list xs) = true) : dNotIn x (.list xs) = .ok (.bool false) := by
  unfold dNotIn
  simp only [h1, h2, Bool.and_self, if_true]
  rw [show (xs.any fun y => PyData.eqv y x) = true from List.any_eq_true.mpr ⟨x, hx, SeqAt.eqv_refl_plain x (okd_iff h1).1⟩]
  rfl
structure Few (s : List Int) (t : Nat) (F : List (List Int)) : Prop where
  f : f_fewest [il s, .int (t : Int)] = .ok (fullD F)
  ss : dSS (fullD F) = .ok (fullD F)
  mem : ∀ r, r ∈ F → r ∈ fullL s
  ms : missL (sightsL s t) F = []
  lo : floorL s t ≤ (F.length : Int)
  hi : F.length ≤ (greedyL (fullL s) 200 (sightsL s t)).length
  can : f__law_can [sightsD (sightsL s t), fullD (fullL s), .int ((F.length : Int) - 1)] = .ok (.bool false)
  l60 : F.length ≤ 60
theorem tk_of {s : List Int} {t : Nat} (z : Sz s t) : t ∈ [1, 2, 3] ∧ tOk s t = true := by
  have h1 := z.t1
  have h3 := z.t3
  refine ⟨?_, ?_⟩
  · have : t = 1 ∨ t = 2 ∨ t = 3 := by omega
    rcases this with rfl | rfl | rfl <;> simp
  · unfold tOk
    rw [decide_eq_true z.t1, decide_eq_true z.t3, decide_eq_true z.tl]
    rfl
theorem few_of {s : List Int} {t : Nat} (hs : s ∈ allSizes) (z : Sz s t) (h12 : (fullL s).length ≤ 12) : Few s t (fewL s t) := by
  obtain ⟨ht, tk⟩ := tk_of z
  have a := allB fin_few hs
  rw [decide_eq_false (by omega), Bool.false_or] at a
  have b := allB a ht
  rw [tk] at b
  simp only [Bool.not_true, Bool.false_or] at b
  unfold fewB at b
  simp only [Bool.and_eq_true] at b
  obtain ⟨⟨⟨⟨⟨⟨⟨b1, b2⟩, b3⟩, b4⟩, b5⟩, b6⟩, b7⟩, b8⟩ := b
  exact ⟨isR_eq b1, isR_eq b2, fun r hr => by simpa using allB b3 hr, of_decide_eq_true b4, of_decide_eq_true b5, of_decide_eq_true b6, isR_eq b7, of_decide_eq_true b8⟩
theorem nes_of {s : List Int} {t : Nat} (hs : s ∈ allSizes) (z : Sz s t) : sightsL s t ≠ [] := by
  obtain ⟨ht, tk⟩ := tk_of z
  have b := allB (allB fin_nes hs) ht
  rw [tk] at b
  intro q
  rw [q] at b
  cases b
theorem few_ok {s0 : SV} {ds s : List Int} {t : Nat} (hs : s ∈ allSizes) (z : Sz s t) (m : Sm s t) (h12 : (fullL s).length ≤ 12) {G : List (List Int)} (hG : G = greedyL (fullL s) 200 (sightsL s t)) {a5 a6 a10 a11 a12 a13 a14 a15 a16 a17 : SV} :
    Runs fewM (lawEnv s0 ds s t a5 a6 (.im (fullD G)) a10 a11 a12 a13 a14 a15 a16 a17) fun fl => ∃ a15 a16 a17, fl = .nx (lawEnv s0 ds s t a5 a6 (.im (fullD G)) a10 a11 a12 a13 a14 a15 a16 a17) := by
  have hlim := lim_eq
  obtain ⟨F, hF⟩ : ∃ F, F = fewL s t := ⟨_, rfl⟩
  have w := few_of hs z h12
  rw [← hF] at w
  unfold fewM lawEnv
  have e1 := w.f
  have e2 := w.ss
  have okF : okd (fullD F) = true := okd_runs fun r hr => m.smr r (w.mem r hr)
  have okA : okd (fullD (fullL s)) = true := okd_runs m.smr
  have e3 := dNe_same okF
  have e4 := missing_ok z w.mem (by have := w.l60; omega)
  rw [w.ms] at e4
  have e5 : dNe (sightsD []) (.list []) = .ok (.bool false) := rfl
  have e6 := w.can
  have e7 : cLen [fullD F] = .ok (.int (F.length : Int)) := by
    unfold fullD
    rw [cLen_l, List.length_map]
  have e8 : cLen [fullD G] = .ok (.int (G.length : Int)) := by
    unfold fullD
    rw [cLen_l, List.length_map]
  have h1 := w.lo
  have h2 := w.hi
  have h3 := w.l60
  rw [← hG] at h2
  refine runs_sn (by walk_at "go") ?_
  have hy := xLc_f (vs := [17]) (mi := iSeq (xV 15)) (g := bN 17) (t := tC' (xBin dNotIn (xV 17) (xV 8))) (e := xV 17)
        (ε := [thS s0, .im (il ds), .im (il s), .im (.int (t : Int)), .im (.int (floorL s t)), thS a5, thS a6, .im (fullD G), .im (fullD (fullL s)), .im (sightsD (sightsL s t)), thS a10, thS a11, thS a12, thS a13, thS a14, .im (fullD F), thS a16, thS a17])
        (enc := tupD) (v := tupD) (p := fun _ => false) (xs := F) rfl (by walk_at "go") (fun r _ => by walk_at "go") (fun r hr => by
          have a := dNotIn_mem (List.mem_map_of_mem (f := tupD) (w.mem r hr)) (okd_tup r) okA
          have a' : dNotIn (tupD r) (fullD (fullL s)) = .ok (.bool false) := a
          walk_at "go") (fun r _ _ => by walk_at "go") (by omega)
  have e0 : (F.filter fun _ => false).map tupD = [] := by simp
  rw [e0] at hy
  have e9 : dNe (.list []) (.list []) = .ok (.bool false) := rfl
  refine runs_no (tOrr_g (by walk_at "go") (tOrr_g (tTh_g (by walk_at "go") (tC_o (xBin_o hy (xLst_o xNil_o) e9))) (by walk_at "go"))) (by rfl) ?_
  refine runs_no (tOrr_g (by walk_at "go") (tV_o (xCall_o (xCons_o (by walk_at "go") (xCons_o (by walk_at "go") (xCons_o (xBin_o (xTh_g (by walk_at "go") (by walk_at "go") rfl) xC_o dSub_i) xNil_o))) e6))) (by rw [decide_eq_true h1, decide_eq_true (by omega)]; rfl) ?_
  refine runs_sn (sAp_o (d := .tuple []) (ds := F.map tupD) (by walk_at "go") rfl (by rw [List.length_map]; omega) (by walk_at "go")) ?_
  refine runs_sn (sFz_m (by walk_at "go") (by walk_at "go")) ?_
  exact runs_nil ⟨_, _, _, rfl⟩
/-! ### the law -/
theorem fin_sort : allSizes.all (fun s => isR (kSort [il s]) (il (downL s).reverse) && (downL s).all (fun x => decide (2 ≤ x) && decide (x ≤ 4)) && [0, 1, 2, 3].all fun k => decide (prodL ((downL s).take k) ≤ 64) && decide (0 ≤ prodL ((downL s).take k))) = true := by decide +kernel
theorem cut_0 (l : List D) (t : Nat) (h : t ≤ l.length) : cut l none (some (t : Int)) = l.take t := by
  unfold cut
  have e1 : HT.sIx l.length 0 none = 0 := rfl
  have e2 : HT.sIx l.length l.length (some (t : Int)) = t := by
    unfold HT.sIx
    simp only
    split
    · omega
    · omega
  rw [e1, e2]
  simp
theorem downL_len (s : List Int) : (downL s).length = s.length := by
  unfold downL
  induction s with
  | nil => rfl
  | cons x r ih =>
    rw [List.foldr_cons, List.length_cons, ← ih]
    generalize r.foldr insI [] = l
    induction l with
    | nil => rfl
    | cons y q ih =>
      unfold insI
      split
      · rfl
      · rw [List.length_cons, ih, List.length_cons]
theorem turns_ok {s0 : SV} {ds s : List Int} {t : Nat} (hd : DrawsOk ds) (z : Sz s t) (m : Sm s t) {a5 a6 a7 a10 a11 a12 a13 a14 a15 a16 a17 : SV} :
    Runs (sFor (iRange1 (xCons (xC (.int 3)) xNil)) (bN 6) turnM) (lawEnv s0 ds s t a5 a6 a7 a10 a11 a12 a13 a14 a15 a16 a17) fun fl => ∃ a6 a7 a10 a11 a12 a13 a16 a17, fl = .nx (lawEnv s0 ds s t a5 a6 a7 a10 a11 a12 a13 a14 a15 a16 a17) := by
  refine runs_for (ds := rangeD 0 3) (fun _ ε => ∃ a6 a7 a10 a11 a12 a13 a16 a17, ε = lawEnv s0 ds s t a5 a6 a7 a10 a11 a12 a13 a14 a15 a16 a17) (iRange1_ok (j := 3) rfl (by decide) (by decide)) ⟨_, _, _, _, _, _, _, _, rfl⟩ ?_ ?_
  · rintro i d ε hdd ⟨a6, a7, a10, a11, a12, a13, a16, a17, rfl⟩
    obtain ⟨hi, rfl⟩ := rangeD_get hdd
    refine ⟨lawEnv s0 ds s t a5 (.im (.int (0 + (i : Int)))) a7 a10 a11 a12 a13 a14 a15 a16 a17, rfl, ?_⟩
    refine Runs.mono (turn_ok hd z m hi) ?_
    rintro fl ⟨b6, b7, b10, b11, b12, b13, b16, b17, rfl⟩
    exact ⟨_, _, _, _, _, _, _, _, rfl⟩
  · rintro ε' ⟨a6, a7, a10, a11, a12, a13, a16, a17, rfl⟩
    exact ⟨_, _, _, _, _, _, _, _, rfl⟩
theorem law_true (ns : List Int) (hn : ns.length ≤ 63) : f_law [.list (ns.map PyData.int)] = .ok (.bool true) := by
  have hlim := lim_eq
  obtain ⟨ds, hds, hd⟩ := draws_ok hn
  obtain ⟨s, hsz, hs⟩ := law_sizes_ok hd
  unfold f_law
  refine runF_rt rfl ?_
  unfold m_law
  change Runs _ [.im (il ns), .no, .no, .no, .no, .no, .no, .no, .no, .no, .no, .no, .no, .no, .no, .no, .no, .no] _
  have hl5 : 1 ≤ s.length ∧ s.length ≤ 5 := by
    have c := allB fin_sz hs
    unfold szB at c
    simp only [Bool.and_eq_true] at c
    refine ⟨?_, of_decide_eq_true c.1.1.1.1⟩
    unfold allSizes at hs
    exact of_decide_eq_true (List.mem_filter.mp hs).2
  have els : cLen [il s] = .ok (.int (s.length : Int)) := by
    unfold il
    rw [cLen_l, List.length_map]
  obtain ⟨r0, e0, r00, r01⟩ := mix_ok hd (k := 0) (many := if (s.length : Int) < 3 then (s.length : Int) else 3) (by decide) (by decide) (by split <;> omega)
  obtain ⟨t, et⟩ : ∃ t : Nat, 1 + r0 = (t : Int) := ⟨(1 + r0).toNat, by omega⟩
  have t1 : 1 ≤ t := by omega
  have t3 : t ≤ 3 := by split at r01 <;> omega
  have tl : t ≤ s.length := by split at r01 <;> omega
  have z := sz_of hs t1 t3 tl
  have m := sm_of hs z
  refine runs_sn (by walk_at "go") ?_
  refine runs_sn (by walk_at "go") ?_
  refine runs_sn (by walk_at "go") ?_
  rw [et]
  have e1 := z.lfull
  have e2 := z.lsi
  refine runs_sn (by walk_at "go") ?_
  refine runs_sn (by walk_at "go") ?_
  have q := allB fin_sort hs
  simp only [Bool.and_eq_true] at q
  obtain ⟨⟨q1, q2⟩, q3⟩ := q
  have ks := isR_eq q1
  have it : iSeq (xSl (xRev (xCall kSort (xCons (xV 2) xNil))) oNone (oSome (xV 3))) [.im (il ns), .im (il ds), .im (il s), .im (.int (t : Int)), .im (.int 1), .no, .no, .no, .im (fullD (fullL s)), .im (sightsD (sightsL s t)), .no, .no, .no, .no, .no, .no, .no, .no] = .ok (((downL s).take t).map PyData.int) := by
    refine iSeq_o (Eq.trans (xSl_o (xRev_o (xCall_o (xCons_o (by walk_at "go") xNil_o) ks)) oNone_o (oSome_o (by walk_at "go"))) ?_)
    rw [← List.map_reverse, List.reverse_reverse, cut_0 _ t (by rw [List.length_map, downL_len]; exact tl), List.map_take]
  refine runs_seq (runs_for (ds := ((downL s).take t).map PyData.int) (fun i ε => ∃ a5, ε = [.im (il ns), .im (il ds), .im (il s), .im (.int (t : Int)), .im (.int (prodL ((downL s).take i))), a5, .no, .no, .im (fullD (fullL s)), .im (sightsD (sightsL s t)), .no, .no, .no, .no, .no, .no, .no, .no]) it ⟨_, rfl⟩ ?_ ?_)
  · rintro i d ε hdd ⟨a5, rfl⟩
    rw [List.getElem?_map] at hdd
    obtain ⟨x, hx, rfl⟩ := Option.map_eq_some_iff.mp hdd
    have hi : i < t := by
      have := (List.getElem?_eq_some_iff.mp hx).1
      rw [List.length_take] at this
      omega
    rw [List.getElem?_take_of_lt hi] at hx
    have xb := allB q2 (List.mem_of_getElem? hx)
    rw [Bool.and_eq_true] at xb
    have x1 := of_decide_eq_true xb.1
    have x2 := of_decide_eq_true xb.2
    have pb := allB q3 (show i ∈ [0, 1, 2, 3] by have : i = 0 ∨ i = 1 ∨ i = 2 := by omega
                                                 rcases this with rfl | rfl | rfl <;> simp)
    rw [Bool.and_eq_true] at pb
    have p1 := of_decide_eq_true pb.1
    have p2 := of_decide_eq_true pb.2
    have em : dMul (.int (prodL ((downL s).take i))) (.int x) = .ok (.int (prodL ((downL s).take i) * x)) := dMul_small (by omega) (by omega)
    refine ⟨_, bN_o (by walk_at "go"), ?_⟩
    refine runs_nx (by walk_at "go") ⟨.im (.int x), ?_⟩
    rw [List.take_succ, hx]
    show _ = [_, _, _, _, SV.im (.int (prodL ((downL s).take i ++ [x]))), _, _, _, _, _, _, _, _, _, _, _, _, _]
    rw [prodL_snoc]
  rintro ε' ⟨a5, rfl⟩
  rw [List.length_map, List.length_take, Nat.min_eq_left (by rw [downL_len]; exact tl)]
  show Runs _ [.im (il ns), .im (il ds), .im (il s), .im (.int (t : Int)), .im (.int (floorL s t)), a5, .no, .no, .im (fullD (fullL s)), .im (sightsD (sightsL s t)), .no, .no, .no, .no, .no, .no, .no, .no] _
  have e3 := sights_ok z
  have e4 := floor_ok z
  have hls := z.ls
  have e5 := cRepr_sights (l := sightsL s t) m.sm (by omega)
  have e6 := dEq_str_same (sightsD (sightsL s t)).shown
  have e7 : cRepr [.int (floorL s t)] = .ok (.str (PyData.int (floorL s t)).shown) := cRepr_int (by have := m.fl0; have := m.flb; omega)
  have e8 := dEq_str_same (PyData.int (floorL s t)).shown
  refine runs_no (by walk_at "go") (by rfl) ?_
  refine runs_seq (Runs.mono (turns_ok hd z m) ?_)
  rintro fl ⟨a6, a7, a10, a11, a12, a13, a16, a17, rfl⟩
  show Runs _ _ _
  refine runs_sn (ε' := lawEnv (.im (il ns)) ds s t a5 a6 a7 a10 a11 (.im (sightsD (sightsL s t))) a13 (.mu (.list [])) .no a16 a17) rfl ?_
  refine runs_seq (Runs.mono (wh_ok z m) ?_)
  rintro fl ⟨b16, rfl⟩
  show Runs _ _ _
  obtain ⟨G, hG⟩ : ∃ G, G = greedyL (fullL s) 200 (sightsL s t) := ⟨_, rfl⟩
  have hg := greedy_ok z m.cov
  rw [← hG] at hg ⊢
  have gm : ∀ q, q ∈ G → q ∈ fullL s := fun q hq => greedy_mem z.ne 200 (sightsL s t) q (hG ▸ hq)
  have gl : G.length ≤ 36 := by
    have a := greedy_len z.ne 200 (sightsL s t) m.cov
    rw [← hG] at a
    have b : useful (fullL s) (sightsL s t) ≤ (fullL s).length := List.length_filter_le _ _
    have := z.lf
    omega
  have gc : missL (sightsL s t) G = [] := miss_nil fun g h => hG ▸ greedy_cov z.ne 200 (sightsL s t) m.cov hls g h
  obtain ⟨g, hgm, hgl⟩ := greedy_last z.ne 200 (sightsL s t) (nes_of hs z) m.cov hls
  rw [← hG] at hgl
  have gd : missL (sightsL s t) G.dropLast ≠ [] := miss_ne hgm hgl
  have f1 := missing_ok z gm (by omega)
  rw [gc] at f1
  have f2 := missing_ok z (runs := G.dropLast) (fun q hq => gm q (List.dropLast_subset _ hq)) (by rw [List.length_dropLast]; omega)
  have f3 := cRepr_runs (l := G) (fun r h => m.smr r (gm r h)) (by omega)
  have f4 := dEq_str_same (fullD G).shown
  have f5 : dNe (sightsD []) (.list []) = .ok (.bool false) := rfl
  have f6 : dEq (sightsD (missL (sightsL s t) G.dropLast)) (.list []) = .ok (.bool false) := by
    have ok : okd (sightsD (missL (sightsL s t) G.dropLast)) = true := okd_sights fun g hg => m.sm g (List.mem_filter.mp hg).1
    have := dEq_nil (xs := (missL (sightsL s t) G.dropLast).map sightD) ok
    rw [List.isEmpty_map] at this
    rw [show dEq (sightsD (missL (sightsL s t) G.dropLast)) (.list []) = _ from this]
    cases e : missL (sightsL s t) G.dropLast with
    | nil => exact absurd e gd
    | cons x r => rfl
  have f7 : cut (G.map tupD) none (some (-1)) = G.dropLast.map tupD := by
    unfold cut
    have e1 : HT.sIx (G.map tupD).length 0 none = 0 := rfl
    have e2 : HT.sIx (G.map tupD).length (G.map tupD).length (some (-1)) = G.length - 1 := by
      unfold HT.sIx
      rw [List.length_map]
      simp only
      split
      · omega
      · omega
    rw [e1, e2, List.drop_zero, Nat.sub_zero, List.dropLast_eq_take, List.map_take]
  unfold lawEnv
  refine runs_sn (sFz_m (by walk_at "go") (by walk_at "go")) ?_
  refine runs_sn (by walk_at "go") ?_
  refine runs_sn (sFz_m (by walk_at "go") (by walk_at "go")) ?_
  refine runs_no (tOrr_g (by walk_at "go") (tOrr_g (by walk_at "go") (tC_o (xBin_o (xCall_o (xCons_o (Eq.trans (xSl_o (xs := G.map tupD) (show _ = R.ok (fullD G) from by walk_at "go") oNone_o (oSome_o (by walk_at "go"))) (congrArg R.ok (congrArg PyData.list f7))) (by walk_at "go")) f2) (xLst_o xNil_o) f6)))) (by rfl) ?_
  have elf : cLen [fullD (fullL s)] = .ok (.int ((fullL s).length : Int)) := by
    unfold fullD
    rw [cLen_l, List.length_map]
  have fin1 := missing_ok z (runs := fullL s) (fun q h => h) (by have := z.lf; omega)
  rw [miss_nil fun g h => m.cov g h] at fin1
  have fin2 : dEq (sightsD []) (.list []) = .ok (.bool true) := rfl
  refine runs_seq (Runs.mono (p := fun fl => ∃ a15 a16 a17, fl = .nx (lawEnv (.im (il ns)) ds s t a5 a6 (.im (fullD G)) a10 a11 (.im (sightsD [])) a13 (.im (fullD G)) a15 a16 a17)) ?_ ?_)
  · refine runs_if (by walk_at "go") (fun hb => ?_) (fun hb => runs_nil ⟨_, _, _, rfl⟩)
    have hb' := of_decide_eq_true hb
    exact few_ok hs z m (by omega) hG
  · rintro fl ⟨b15, b16, b17, rfl⟩
    show Runs _ _ _
    unfold lawEnv
    exact runs_rt (d := .bool true) (by walk_at "go") rfl
end My
set_option Elab.async false
set_option linter.all false
set_option maxRecDepth 100000
set_option maxHeartbeats 4000000
/-! the text's defs are these programs -/
namespace My
open PySem PySem.Spec PyProof.Rows L2 Tw
def topS (i : Nat) : Stmt := PySem.Challenge.pw_triedwares_k50_whole_covers_and_next_run.main.body.getD i (.Pass ⟨0, 0, 0, 0⟩)
abbrev s_check_sizes : Stmt := topS 12
theorem sc_check_sizes : FnScope ["sizes", "i", "size"] ["sizes"] (defScope s_check_sizes) := ⟨rfl, rfl, rfl, by decide +kernel, rfl, by decide +kernel, by decide +kernel⟩
abbrev s_levels_at : Stmt := topS 13
theorem sc_levels_at : FnScope ["run", "told", "factor"] ["run", "told"] (defScope s_levels_at) := ⟨rfl, rfl, rfl, by decide +kernel, rfl, by decide +kernel, by decide +kernel⟩
abbrev s_all_levels : Stmt := topS 14
theorem sc_all_levels : FnScope ["sizes", "found", "size", "told", "level"] ["sizes"] (defScope s_all_levels) := ⟨rfl, rfl, rfl, by decide +kernel, rfl, by decide +kernel, by decide +kernel⟩
abbrev s_subsets : Stmt := topS 15
theorem sc_subsets : FnScope ["many", "few", "found", "k", "told"] ["many", "few"] (defScope s_subsets) := ⟨rfl, rfl, rfl, by decide +kernel, rfl, by decide +kernel, by decide +kernel⟩
abbrev s_product_of : Stmt := topS 21
theorem sc_product_of : FnScope ["sizes", "found", "size"] ["sizes"] (defScope s_product_of) := ⟨rfl, rfl, rfl, by decide +kernel, rfl, by decide +kernel, by decide +kernel⟩
abbrev s_check_full : Stmt := topS 22
theorem sc_check_full : FnScope ["sizes"] ["sizes"] (defScope s_check_full) := ⟨rfl, rfl, rfl, by decide +kernel, rfl, by decide +kernel, by decide +kernel⟩
abbrev s_check_number : Stmt := topS 24
theorem sc_check_number : FnScope ["sizes", "t"] ["sizes", "t"] (defScope s_check_number) := ⟨rfl, rfl, rfl, by decide +kernel, rfl, by decide +kernel, by decide +kernel⟩
abbrev s_check_sights : Stmt := topS 23
theorem sc_check_sights : FnScope ["sizes", "t"] ["sizes", "t"] (defScope s_check_sights) := ⟨rfl, rfl, rfl, by decide +kernel, rfl, by decide +kernel, by decide +kernel⟩
abbrev s_check_some : Stmt := topS 26
theorem sc_check_some : FnScope ["runs", "sizes", "k", "run", "level", "size"] ["runs", "sizes"] (defScope s_check_some) := ⟨rfl, rfl, rfl, by decide +kernel, rfl, by decide +kernel, by decide +kernel⟩
abbrev s_check_covering : Stmt := topS 25
theorem sc_check_covering : FnScope ["runs", "sizes", "t"] ["runs", "sizes", "t"] (defScope s_check_covering) := ⟨rfl, rfl, rfl, by decide +kernel, rfl, by decide +kernel, by decide +kernel⟩
abbrev s_sights_of : Stmt := topS 27
theorem sc_sights_of : FnScope ["sizes", "t", "found", "told", "levels", "factor"] ["sizes", "t"] (defScope s_sights_of) := ⟨rfl, rfl, rfl, by decide +kernel, rfl, by decide +kernel, by decide +kernel⟩
abbrev s_has : Stmt := topS 28
theorem sc_has : FnScope ["run", "sight"] ["run", "sight"] (defScope s_has) := ⟨rfl, rfl, rfl, by decide +kernel, rfl, by decide +kernel, by decide +kernel⟩
abbrev s_missing_of : Stmt := topS 29
theorem sc_missing_of : FnScope ["runs", "sizes", "t", "sight", "run"] ["runs", "sizes", "t"] (defScope s_missing_of) := ⟨rfl, rfl, rfl, by decide +kernel, rfl, by decide +kernel, by decide +kernel⟩
abbrev s_floor_of : Stmt := topS 30
theorem sc_floor_of : FnScope ["sizes", "t"] ["sizes", "t"] (defScope s_floor_of) := ⟨rfl, rfl, rfl, by decide +kernel, rfl, by decide +kernel, by decide +kernel⟩
abbrev s_next_of : Stmt := topS 31
theorem sc_next_of : FnScope ["left", "sizes", "runs", "many", "run", "sight"] ["left", "sizes"] (defScope s_next_of) := ⟨rfl, rfl, rfl, by decide +kernel, rfl, by decide +kernel, by decide +kernel⟩
abbrev s_sights : Stmt := topS 32
theorem sc_sights : FnScope ["sizes", "t"] ["sizes", "t"] (defScope s_sights) := ⟨rfl, rfl, rfl, by decide +kernel, rfl, by decide +kernel, by decide +kernel⟩
abbrev s_missing : Stmt := topS 33
theorem sc_missing : FnScope ["runs", "sizes", "t"] ["runs", "sizes", "t"] (defScope s_missing) := ⟨rfl, rfl, rfl, by decide +kernel, rfl, by decide +kernel, by decide +kernel⟩
abbrev s_floor : Stmt := topS 34
theorem sc_floor : FnScope ["sizes", "t"] ["sizes", "t"] (defScope s_floor) := ⟨rfl, rfl, rfl, by decide +kernel, rfl, by decide +kernel, by decide +kernel⟩
abbrev s_next_run : Stmt := topS 35
theorem sc_next_run : FnScope ["runs", "sizes", "t", "left"] ["runs", "sizes", "t"] (defScope s_next_run) := ⟨rfl, rfl, rfl, by decide +kernel, rfl, by decide +kernel, by decide +kernel⟩
abbrev s_greedy : Stmt := topS 36
theorem sc_greedy : FnScope ["sizes", "t", "found", "left", "run", "sight"] ["sizes", "t"] (defScope s_greedy) := ⟨rfl, rfl, rfl, by decide +kernel, rfl, by decide +kernel, by decide +kernel⟩
abbrev s_cover_of : Stmt := topS 37
theorem sc_cover_of : FnScope ["left", "runs", "size", "run", "rest", "sight"] ["left", "runs", "size"] (defScope s_cover_of) := ⟨rfl, rfl, rfl, by decide +kernel, rfl, by decide +kernel, by decide +kernel⟩
abbrev s_fewest : Stmt := topS 38
theorem sc_fewest : FnScope ["sizes", "t", "runs", "size", "found"] ["sizes", "t"] (defScope s_fewest) := ⟨rfl, rfl, rfl, by decide +kernel, rfl, by decide +kernel, by decide +kernel⟩
abbrev s__law_draws : Stmt := topS 40
theorem sc__law_draws : FnScope ["script", "draws", "k", "rest", "turn", "mixed"] ["script"] (defScope s__law_draws) := ⟨rfl, rfl, rfl, by decide +kernel, rfl, by decide +kernel, by decide +kernel⟩
abbrev s__law_mix : Stmt := topS 41
theorem sc__law_mix : FnScope ["draws", "k", "many", "cell"] ["draws", "k", "many"] (defScope s__law_mix) := ⟨rfl, rfl, rfl, by decide +kernel, rfl, by decide +kernel, by decide +kernel⟩
abbrev s__law_sizes : Stmt := topS 42
theorem sc__law_sizes : FnScope ["draws", "k", "most", "full", "i", "found", "whole", "size"] ["draws", "k", "most", "full"] (defScope s__law_sizes) := ⟨rfl, rfl, rfl, by decide +kernel, rfl, by decide +kernel, by decide +kernel⟩
abbrev s__law_full : Stmt := topS 43
theorem sc__law_full : FnScope ["sizes", "found", "size", "later", "told", "level"] ["sizes"] (defScope s__law_full) := ⟨rfl, rfl, rfl, by decide +kernel, rfl, by decide +kernel, by decide +kernel⟩
abbrev s__law_lists : Stmt := topS 44
theorem sc__law_lists : FnScope ["many", "few", "found", "k", "told"] ["many", "few"] (defScope s__law_lists) := ⟨rfl, rfl, rfl, by decide +kernel, rfl, by decide +kernel, by decide +kernel⟩
abbrev s__law_sights : Stmt := topS 45
theorem sc__law_sights : FnScope ["sizes", "t", "found", "told", "levels", "i"] ["sizes", "t"] (defScope s__law_sights) := ⟨rfl, rfl, rfl, by decide +kernel, rfl, by decide +kernel, by decide +kernel⟩
abbrev s__law_has : Stmt := topS 46
theorem sc__law_has : FnScope ["run", "sight", "i"] ["run", "sight"] (defScope s__law_has) := ⟨rfl, rfl, rfl, by decide +kernel, rfl, by decide +kernel, by decide +kernel⟩
abbrev s__law_runs : Stmt := topS 47
theorem sc__law_runs : FnScope ["draws", "k", "sizes", "most", "full", "j"] ["draws", "k", "sizes", "most"] (defScope s__law_runs) := ⟨rfl, rfl, rfl, by decide +kernel, rfl, by decide +kernel, by decide +kernel⟩
abbrev s__law_next : Stmt := topS 48
theorem sc__law_next : FnScope ["left", "full", "many", "run", "sight"] ["left", "full"] (defScope s__law_next) := ⟨rfl, rfl, rfl, by decide +kernel, rfl, by decide +kernel, by decide +kernel⟩
abbrev s__law_can : Stmt := topS 49
theorem sc__law_can : FnScope ["left", "full", "size", "run", "sight"] ["left", "full", "size"] (defScope s__law_can) := ⟨rfl, rfl, rfl, by decide +kernel, rfl, by decide +kernel, by decide +kernel⟩
abbrev s_law : Stmt := topS 50
theorem sc_law : FnScope ["script", "draws", "sizes", "t", "most", "size", "turn", "told", "full", "every", "runs", "kept", "left", "due", "found", "least", "sight", "run"] ["script"] (defScope s_law) := ⟨rfl, rfl, rfl, by decide +kernel, rfl, by decide +kernel, by decide +kernel⟩
/-- what the top has left -/
structure Top (K : PySem.W.Frag) (mg : Str → Option Value) : Type where
  a_check_sizes : Addr
  d_check_sizes : FuncData
  F_check_sizes : Fun K "check_sizes" "check_sizes" s_check_sizes a_check_sizes d_check_sizes
  g_check_sizes : mg "check_sizes" = some (.ref a_check_sizes)
  b_check_sizes : Binds K d_check_sizes ["sizes"] []
  a_levels_at : Addr
  d_levels_at : FuncData
  F_levels_at : Fun K "levels_at" "levels_at" s_levels_at a_levels_at d_levels_at
  g_levels_at : mg "levels_at" = some (.ref a_levels_at)
  b_levels_at : Binds K d_levels_at ["run", "told"] []
  a_all_levels : Addr
  d_all_levels : FuncData
  F_all_levels : Fun K "all_levels" "all_levels" s_all_levels a_all_levels d_all_levels
  g_all_levels : mg "all_levels" = some (.ref a_all_levels)
  b_all_levels : Binds K d_all_levels ["sizes"] []
  a_subsets : Addr
  d_subsets : FuncData
  F_subsets : Fun K "subsets" "subsets" s_subsets a_subsets d_subsets
  g_subsets : mg "subsets" = some (.ref a_subsets)
  b_subsets : Binds K d_subsets ["many", "few"] []
  a_product_of : Addr
  d_product_of : FuncData
  F_product_of : Fun K "product_of" "product_of" s_product_of a_product_of d_product_of
  g_product_of : mg "product_of" = some (.ref a_product_of)
  b_product_of : Binds K d_product_of ["sizes"] []
  a_check_full : Addr
  d_check_full : FuncData
  F_check_full : Fun K "check_full" "check_full" s_check_full a_check_full d_check_full
  g_check_full : mg "check_full" = some (.ref a_check_full)
  b_check_full : Binds K d_check_full ["sizes"] []
  a_check_number : Addr
  d_check_number : FuncData
  F_check_number : Fun K "check_number" "check_number" s_check_number a_check_number d_check_number
  g_check_number : mg "check_number" = some (.ref a_check_number)
  b_check_number : Binds K d_check_number ["sizes", "t"] []
  a_check_sights : Addr
  d_check_sights : FuncData
  F_check_sights : Fun K "check_sights" "check_sights" s_check_sights a_check_sights d_check_sights
  g_check_sights : mg "check_sights" = some (.ref a_check_sights)
  b_check_sights : Binds K d_check_sights ["sizes", "t"] []
  a_check_some : Addr
  d_check_some : FuncData
  F_check_some : Fun K "check_some" "check_some" s_check_some a_check_some d_check_some
  g_check_some : mg "check_some" = some (.ref a_check_some)
  b_check_some : Binds K d_check_some ["runs", "sizes"] []
  a_check_covering : Addr
  d_check_covering : FuncData
  F_check_covering : Fun K "check_covering" "check_covering" s_check_covering a_check_covering d_check_covering
  g_check_covering : mg "check_covering" = some (.ref a_check_covering)
  b_check_covering : Binds K d_check_covering ["runs", "sizes", "t"] []
  a_sights_of : Addr
  d_sights_of : FuncData
  F_sights_of : Fun K "sights_of" "sights_of" s_sights_of a_sights_of d_sights_of
  g_sights_of : mg "sights_of" = some (.ref a_sights_of)
  b_sights_of : Binds K d_sights_of ["sizes", "t"] []
  a_has : Addr
  d_has : FuncData
  F_has : Fun K "has" "has" s_has a_has d_has
  g_has : mg "has" = some (.ref a_has)
  b_has : Binds K d_has ["run", "sight"] []
  a_missing_of : Addr
  d_missing_of : FuncData
  F_missing_of : Fun K "missing_of" "missing_of" s_missing_of a_missing_of d_missing_of
  g_missing_of : mg "missing_of" = some (.ref a_missing_of)
  b_missing_of : Binds K d_missing_of ["runs", "sizes", "t"] []
  a_floor_of : Addr
  d_floor_of : FuncData
  F_floor_of : Fun K "floor_of" "floor_of" s_floor_of a_floor_of d_floor_of
  g_floor_of : mg "floor_of" = some (.ref a_floor_of)
  b_floor_of : Binds K d_floor_of ["sizes", "t"] []
  a_next_of : Addr
  d_next_of : FuncData
  F_next_of : Fun K "next_of" "next_of" s_next_of a_next_of d_next_of
  g_next_of : mg "next_of" = some (.ref a_next_of)
  b_next_of : Binds K d_next_of ["left", "sizes"] []
  a_sights : Addr
  d_sights : FuncData
  F_sights : Fun K "sights" "sights" s_sights a_sights d_sights
  g_sights : mg "sights" = some (.ref a_sights)
  b_sights : Binds K d_sights ["sizes", "t"] []
  a_missing : Addr
  d_missing : FuncData
  F_missing : Fun K "missing" "missing" s_missing a_missing d_missing
  g_missing : mg "missing" = some (.ref a_missing)
  b_missing : Binds K d_missing ["runs", "sizes", "t"] []
  a_floor : Addr
  d_floor : FuncData
  F_floor : Fun K "floor" "floor" s_floor a_floor d_floor
  g_floor : mg "floor" = some (.ref a_floor)
  b_floor : Binds K d_floor ["sizes", "t"] []
  a_next_run : Addr
  d_next_run : FuncData
  F_next_run : Fun K "next_run" "next_run" s_next_run a_next_run d_next_run
  g_next_run : mg "next_run" = some (.ref a_next_run)
  b_next_run : Binds K d_next_run ["runs", "sizes", "t"] []
  a_greedy : Addr
  d_greedy : FuncData
  F_greedy : Fun K "greedy" "greedy" s_greedy a_greedy d_greedy
  g_greedy : mg "greedy" = some (.ref a_greedy)
  b_greedy : Binds K d_greedy ["sizes", "t"] []
  a_cover_of : Addr
  d_cover_of : FuncData
  F_cover_of : Fun K "cover_of" "cover_of" s_cover_of a_cover_of d_cover_of
  g_cover_of : mg "cover_of" = some (.ref a_cover_of)
  b_cover_of : Binds K d_cover_of ["left", "runs", "size"] []
  a_fewest : Addr
  d_fewest : FuncData
  F_fewest : Fun K "fewest" "fewest" s_fewest a_fewest d_fewest
  g_fewest : mg "fewest" = some (.ref a_fewest)
  b_fewest : Binds K d_fewest ["sizes", "t"] []
  a__law_draws : Addr
  d__law_draws : FuncData
  F__law_draws : Fun K "_law_draws" "_law_draws" s__law_draws a__law_draws d__law_draws
  g__law_draws : mg "_law_draws" = some (.ref a__law_draws)
  b__law_draws : Binds K d__law_draws ["script"] []
  a__law_mix : Addr
  d__law_mix : FuncData
  F__law_mix : Fun K "_law_mix" "_law_mix" s__law_mix a__law_mix d__law_mix
  g__law_mix : mg "_law_mix" = some (.ref a__law_mix)
  b__law_mix : Binds K d__law_mix ["draws", "k", "many"] []
  a__law_sizes : Addr
  d__law_sizes : FuncData
  F__law_sizes : Fun K "_law_sizes" "_law_sizes" s__law_sizes a__law_sizes d__law_sizes
  g__law_sizes : mg "_law_sizes" = some (.ref a__law_sizes)
  b__law_sizes : Binds K d__law_sizes ["draws", "k", "most", "full"] []
  a__law_full : Addr
  d__law_full : FuncData
  F__law_full : Fun K "_law_full" "_law_full" s__law_full a__law_full d__law_full
  g__law_full : mg "_law_full" = some (.ref a__law_full)
  b__law_full : Binds K d__law_full ["sizes"] []
  a__law_lists : Addr
  d__law_lists : FuncData
  F__law_lists : Fun K "_law_lists" "_law_lists" s__law_lists a__law_lists d__law_lists
  g__law_lists : mg "_law_lists" = some (.ref a__law_lists)
  b__law_lists : Binds K d__law_lists ["many", "few"] []
  a__law_sights : Addr
  d__law_sights : FuncData
  F__law_sights : Fun K "_law_sights" "_law_sights" s__law_sights a__law_sights d__law_sights
  g__law_sights : mg "_law_sights" = some (.ref a__law_sights)
  b__law_sights : Binds K d__law_sights ["sizes", "t"] []
  a__law_has : Addr
  d__law_has : FuncData
  F__law_has : Fun K "_law_has" "_law_has" s__law_has a__law_has d__law_has
  g__law_has : mg "_law_has" = some (.ref a__law_has)
  b__law_has : Binds K d__law_has ["run", "sight"] []
  a__law_runs : Addr
  d__law_runs : FuncData
  F__law_runs : Fun K "_law_runs" "_law_runs" s__law_runs a__law_runs d__law_runs
  g__law_runs : mg "_law_runs" = some (.ref a__law_runs)
  b__law_runs : Binds K d__law_runs ["draws", "k", "sizes", "most"] []
  a__law_next : Addr
  d__law_next : FuncData
  F__law_next : Fun K "_law_next" "_law_next" s__law_next a__law_next d__law_next
  g__law_next : mg "_law_next" = some (.ref a__law_next)
  b__law_next : Binds K d__law_next ["left", "full"] []
  a__law_can : Addr
  d__law_can : FuncData
  F__law_can : Fun K "_law_can" "_law_can" s__law_can a__law_can d__law_can
  g__law_can : mg "_law_can" = some (.ref a__law_can)
  b__law_can : Binds K d__law_can ["left", "full", "size"] []
  a_law : Addr
  d_law : FuncData
  F_law : Fun K "law" "law" s_law a_law d_law
  g_law : mg "law" = some (.ref a_law)
  b_law : Binds K d_law ["script"] []
  t_LEAST_SIZE : Tok
  c_LEAST_SIZE : mg "LEAST_SIZE" = some (.int 2 t_LEAST_SIZE)
  t_MOST_COVERED : Tok
  c_MOST_COVERED : mg "MOST_COVERED" = some (.int 6 t_MOST_COVERED)
  t_MOST_FACTORS : Tok
  c_MOST_FACTORS : mg "MOST_FACTORS" = some (.int 8 t_MOST_FACTORS)
  t_MOST_FEWEST : Tok
  c_MOST_FEWEST : mg "MOST_FEWEST" = some (.int 12 t_MOST_FEWEST)
  t_MOST_FULL : Tok
  c_MOST_FULL : mg "MOST_FULL" = some (.int 64 t_MOST_FULL)
  t_MOST_SIZE : Tok
  c_MOST_SIZE : mg "MOST_SIZE" = some (.int 5 t_MOST_SIZE)
  t_MOST_T : Tok
  c_MOST_T : mg "MOST_T" = some (.int 3 t_MOST_T)
  z_abs : mg "abs" = none
  z_all : mg "all" = none
  z_any : mg "any" = none
  z_enumerate : mg "enumerate" = none
  z_int : mg "int" = none
  z_len : mg "len" = none
  z_max : mg "max" = none
  z_min : mg "min" = none
  z_range : mg "range" = none
  z_repr : mg "repr" = none
  z_set : mg "set" = none
  z_sorted : mg "sorted" = none
  z_tuple : mg "tuple" = none
  z_zip : mg "zip" = none
section
variable {P : Program} {w : World} {K : PySem.W.Frag} {mg : Str → Option Value} {base : Heap}
theorem ok_check_sizes (T : Top K mg) : FnG P w K mg base 1 T.a_check_sizes T.d_check_sizes ["sizes"] (spF K f_check_sizes) :=
  def_F T.F_check_sizes sc_check_sizes rfl (by decide) fun cdv A outer s H E M hr hG =>
  (ss_c (ps_i (pt_no (pt_ch (o_le (units_of hr)) (o_le (units_of hr)) pk_int (pe_bi k_len T.z_len (by decide +kernel) (pa_c (pe_v (pv 0)) pa_n)) (pk_gi T.c_MOST_FACTORS)))
  (ss_1 ps_no)
  ss_nil)
  (ss_1 (ps_fr PassesOwn.never rfl (pi_e T.z_enumerate (pa_c (pe_v (pv 0)) pa_n)) (pg_tup (n := 2) rfl (pgs_cons (pg_name (i := 1) sc_check_sizes.nd rfl (by first | exact Or.inl rfl | exact Or.inr rfl)) (pgs_cons (pg_name (i := 2) sc_check_sizes.nd rfl (by first | exact Or.inl rfl | exact Or.inr rfl)) pgs_nil))) (gok_t (gsok_c (gok_n 1) (gsok_c (gok_n 2) gsok_0)))
  (ss_1 (ps_i (pt_no (pt_ch (o_le (units_of hr)) (o_le (units_of hr)) (pk_gi T.c_LEAST_SIZE) (pe_v (pv 2)) (pk_gi T.c_MOST_SIZE)))
    (ss_1 ps_no)
    ss_nil)))))
theorem ok_levels_at (T : Top K mg) : FnG P w K mg base 1 T.a_levels_at T.d_levels_at ["run", "told"] (spF K f_levels_at) :=
  def_F T.F_levels_at sc_levels_at rfl (by decide) fun cdv A outer s H E M hr hG =>
  (ss_1 (ps_rt rfl (pe_ty k_tuple T.z_tuple (by decide +kernel) (pa_c (PE.lE (pe_co (own := [("factor", 2)]) rfl sc_levels_at.nd (pi_l (pe_v (pv 1))) (blkOk_by (N := ["run", "told", "factor"]) (sc := defScope s_levels_at) (by decide +kernel)) (gok_n 2) (by decide) (fun _ _ _ _ _ => (pg_name (i := 2) sc_levels_at.nd rfl (by first | exact Or.inl rfl | exact Or.inr rfl))) (fun _ _ _ _ _ => pts_y) (fun _ _ _ _ _ => (pe_i (pe_v (pv 0)) (pe_v (pv 2)))))) pa_n))))
theorem ok_all_levels (T : Top K mg) : FnG P w K mg base 1 T.a_all_levels T.d_all_levels ["sizes"] (spF K f_all_levels) :=
  def_F T.F_all_levels sc_all_levels rfl (by decide) fun cdv A outer s H E M hr hG =>
  (ss_c (ps_as (i := 1) sc_all_levels.nd (PE.lE (pe_li (pa_c (pe_tu pa_n (hl := xNil_len)) pa_n) (hl := (xCons_len xNil_len)))))
  (ss_c (ps_fr PassesOwn.never rfl (pi_l (pe_v (pv 0))) (pg_name (i := 2) sc_all_levels.nd rfl (by first | exact Or.inl rfl | exact Or.inr rfl)) (gok_n 2)
  (ss_1 (ps_co2 (i := 1) (own := [("told", 3), ("level", 4)]) [4] rfl sc_all_levels.nd (pi_l (pe_v (pv 1))) (blkOk_by (N := ["sizes", "found", "size", "told", "level"]) (sc := defScope s_all_levels) (by decide +kernel)) (gok_n 3) (by decide) (gok_n 4) (by decide) (by decide) (fun _ _ _ _ _ => (pg_name (i := 3) sc_all_levels.nd rfl (by first | exact Or.inl rfl | exact Or.inr rfl))) (fun _ _ _ _ _ => pts_y) (fun _ _ _ _ _ => (pi_r1 T.z_range (pa_c (pe_v (pv 2)) pa_n))) (fun _ _ _ _ _ => (pg_name (i := 4) sc_all_levels.nd rfl (by first | exact Or.inl rfl | exact Or.inr rfl))) (fun _ _ _ _ _ => pts_y) (fun _ _ _ _ _ => (pe_tuS (pa_s (pe_v (pv 3)) (pa_c (pe_v (pv 4)) pa_n)))) (sw_true rfl rfl rfl (by decide +kernel)))))
  (ss_1 (ps_rt rfl (pe_v (pv 1))))))
theorem ok_subsets (T : Top K mg) : FnG P w K mg base 1 T.a_subsets T.d_subsets ["many", "few"] (spN K f_subsets) :=
  def_N T.F_subsets sc_subsets rfl (by decide) (by unfold m_subsets; repeat first | exact nnx_rt | exact nnx_rtM | exact nnx_no | refine nnx_seq ?_ | refine nnx_if ?_ ?_) fun cdv A outer s H E M hr hG =>
  (ss_c (ps_as (i := 2) sc_subsets.nd (PE.lE (pe_li (pa_c (PE.lE (pe_li pa_n (hl := xNil_len))) pa_n) (hl := (xCons_len xNil_len)))))
  (ss_c (ps_fr PassesOwn.never rfl (pi_r1 T.z_range (pa_c (pe_v (pv 0)) pa_n)) (pg_name (i := 3) sc_subsets.nd rfl (by first | exact Or.inl rfl | exact Or.inr rfl)) (gok_n 3)
  (ss_1 (ps_as (i := 2) sc_subsets.nd (PE.lE (pe_binL o_cat (pe_v (pv 2)) (PE.lE (pe_co (own := [("told", 4)]) rfl sc_subsets.nd (pi_l (pe_v (pv 2))) (blkOk_by (N := ["many", "few", "found", "k", "told"]) (sc := defScope s_subsets) (by decide +kernel)) (gok_n 4) (by decide) (fun _ _ _ _ _ => (pg_name (i := 4) sc_subsets.nd rfl (by first | exact Or.inl rfl | exact Or.inr rfl))) (fun _ _ _ _ _ => (pts_one (pt_cp (o_lt (units_of hr)) (pe_bi k_len T.z_len (by decide +kernel) (pa_c (pe_v (pv 4)) pa_n)) (pe_v (pv 1))))) (fun _ _ _ _ _ => (PE.lE (pe_liS (pa_s (pe_v (pv 4)) (pa_c (pe_v (pv 3)) pa_n))))))))))))
  (ss_1 (ps_rtL rfl (pe_biL (k_sort (units_of hr)) T.z_sorted (by decide +kernel) (pa_c (PE.lE (pe_co (own := [("told", 4)]) rfl sc_subsets.nd (pi_l (pe_v (pv 2))) (blkOk_by (N := ["many", "few", "found", "k", "told"]) (sc := defScope s_subsets) (by decide +kernel)) (gok_n 4) (by decide) (fun _ _ _ _ _ => (pg_name (i := 4) sc_subsets.nd rfl (by first | exact Or.inl rfl | exact Or.inr rfl))) (fun _ _ _ _ _ => (pts_one (pt_cp (o_eq (units_of hr)) (pe_bi k_len T.z_len (by decide +kernel) (pa_c (pe_v (pv 4)) pa_n)) (pe_v (pv 1))))) (fun _ _ _ _ _ => (pe_v (pv 4))))) pa_n))))))
theorem ok_product_of (T : Top K mg) : FnG P w K mg base 1 T.a_product_of T.d_product_of ["sizes"] (spF K f_product_of) :=
  def_F T.F_product_of sc_product_of rfl (by decide) fun cdv A outer s H E M hr hG =>
  (ss_c (ps_as (i := 1) sc_product_of.nd pk_int)
  (ss_c (ps_fr PassesOwn.never rfl (pi_l (pe_v (pv 0))) (pg_name (i := 2) sc_product_of.nd rfl (by first | exact Or.inl rfl | exact Or.inr rfl)) (gok_n 2)
  (ss_1 (ps_as (i := 1) sc_product_of.nd (pe_bin o_mul (pe_v (pv 1)) (pe_v (pv 2))))))
  (ss_1 (ps_rt rfl (pe_v (pv 1))))))
theorem ok_check_full (T : Top K mg) (G_check_sizes : FnG P w K mg base 1 T.a_check_sizes T.d_check_sizes ["sizes"] (spF K f_check_sizes)) (G_product_of : FnG P w K mg base 1 T.a_product_of T.d_product_of ["sizes"] (spF K f_product_of)) : FnG P w K mg base 2 T.a_check_full T.d_check_full ["sizes"] (spF K f_check_full) :=
  def_F T.F_check_full sc_check_full rfl (by decide) fun cdv A outer s H E M hr hG =>
  (ss_c (ps_dr (pf G_check_sizes (hr.mono (by decide)) hG T.g_check_sizes T.F_check_sizes.kp T.b_check_sizes (pa_c (pe_v (pv 0)) pa_n)))
  (ss_c (ps_i (pt_cp (o_gt (units_of hr)) (pe_bi k_len T.z_len (by decide +kernel) (pa_c (pe_v (pv 0)) pa_n)) (pk_gi T.c_MOST_COVERED))
  (ss_1 ps_no)
  ss_nil)
  (ss_1 (ps_i (pt_cp (o_gt (units_of hr)) (pf G_product_of (hr.mono (by decide)) hG T.g_product_of T.F_product_of.kp T.b_product_of (pa_c (pe_v (pv 0)) pa_n)) (pk_gi T.c_MOST_FULL))
  (ss_1 ps_no)
  ss_nil))))
theorem ok_check_number (T : Top K mg) : FnG P w K mg base 1 T.a_check_number T.d_check_number ["sizes", "t"] (spF K f_check_number) :=
  def_F T.F_check_number sc_check_number rfl (by decide) fun cdv A outer s H E M hr hG =>
  (ss_1 (ps_i (L2.PW.pt (pw_orr (pt_no (pt_ch (o_le (units_of hr)) (o_le (units_of hr)) pk_int (pe_v (pv 1)) (pk_gi T.c_MOST_T))) (L2.pw_or1 (pt_cp (o_gt (units_of hr)) (pe_v (pv 1)) (pe_bi k_len T.z_len (by decide +kernel) (pa_c (pe_v (pv 0)) pa_n))))))
  (ss_1 ps_no)
  ss_nil))
theorem ok_check_sights (T : Top K mg) (G_check_full : FnG P w K mg base 2 T.a_check_full T.d_check_full ["sizes"] (spF K f_check_full)) (G_check_number : FnG P w K mg base 1 T.a_check_number T.d_check_number ["sizes", "t"] (spF K f_check_number)) : FnG P w K mg base 3 T.a_check_sights T.d_check_sights ["sizes", "t"] (spF K f_check_sights) :=
  def_F T.F_check_sights sc_check_sights rfl (by decide) fun cdv A outer s H E M hr hG =>
  (ss_c (ps_dr (pf G_check_full (hr.mono (by decide)) hG T.g_check_full T.F_check_full.kp T.b_check_full (pa_c (pe_v (pv 0)) pa_n)))
  (ss_1 (ps_dr (pf G_check_number (hr.mono (by decide)) hG T.g_check_number T.F_check_number.kp T.b_check_number (pa_c (pe_v (pv 0)) (pa_c (pe_v (pv 1)) pa_n))))))
theorem ok_check_some (T : Top K mg) : FnG P w K mg base 1 T.a_check_some T.d_check_some ["runs", "sizes"] (spF K f_check_some) :=
  def_F T.F_check_some sc_check_some rfl (by decide) fun cdv A outer s H E M hr hG =>
  (ss_c (ps_i (pt_cp (o_gt (units_of hr)) (pe_bi k_len T.z_len (by decide +kernel) (pa_c (pe_v (pv 0)) pa_n)) (pk_gi T.c_MOST_FULL))
  (ss_1 ps_no)
  ss_nil)
  (ss_1 (ps_fr PassesOwn.never rfl (pi_e T.z_enumerate (pa_c (pe_v (pv 0)) pa_n)) (pg_tup (n := 2) rfl (pgs_cons (pg_name (i := 2) sc_check_some.nd rfl (by first | exact Or.inl rfl | exact Or.inr rfl)) (pgs_cons (pg_name (i := 3) sc_check_some.nd rfl (by first | exact Or.inl rfl | exact Or.inr rfl)) pgs_nil))) (gok_t (gsok_c (gok_n 2) (gsok_c (gok_n 3) gsok_0)))
  (ss_1 (ps_i (L2.PW.pt (pw_orr (pt_cp (o_ne (units_of hr)) (pe_bi k_len T.z_len (by decide +kernel) (pa_c (pe_v (pv 3)) pa_n)) (pe_bi k_len T.z_len (by decide +kernel) (pa_c (pe_v (pv 1)) pa_n))) (L2.pw_or1 (pt_no (pt_v (pe_bi (k_all rfl) T.z_all (by decide +kernel) (pa_c (PE.lE (pe_co (own := [("level", 4), ("size", 5)]) rfl sc_check_some.nd (pi_zm T.z_zip (pa_c (pe_v (pv 3)) (pa_c (pe_v (pv 1)) pa_n))) (blkOk_by (N := ["runs", "sizes", "k", "run", "level", "size"]) (sc := defScope s_check_some) (by decide +kernel)) (gok_t (gsok_c (gok_n 4) (gsok_c (gok_n 5) gsok_0))) (by decide) (fun _ _ _ _ _ => (pg_tup (n := 2) rfl (pgs_cons (pg_name (i := 4) sc_check_some.nd rfl (by first | exact Or.inl rfl | exact Or.inr rfl)) (pgs_cons (pg_name (i := 5) sc_check_some.nd rfl (by first | exact Or.inl rfl | exact Or.inr rfl)) pgs_nil)))) (fun _ _ _ _ _ => pts_y) (fun _ _ _ _ _ => (pe_ch (o_le (units_of hr)) (o_lt (units_of hr)) pk_int (pe_v (pv 4)) (pe_v (pv 5)))))) pa_n)))))))
    (ss_1 ps_no)
    ss_nil)))))
theorem ok_check_covering (T : Top K mg) (G_check_sizes : FnG P w K mg base 1 T.a_check_sizes T.d_check_sizes ["sizes"] (spF K f_check_sizes)) (G_check_some : FnG P w K mg base 1 T.a_check_some T.d_check_some ["runs", "sizes"] (spF K f_check_some)) (G_check_sights : FnG P w K mg base 3 T.a_check_sights T.d_check_sights ["sizes", "t"] (spF K f_check_sights)) : FnG P w K mg base 4 T.a_check_covering T.d_check_covering ["runs", "sizes", "t"] (spF K f_check_covering) :=
  def_F T.F_check_covering sc_check_covering rfl (by decide) fun cdv A outer s H E M hr hG =>
  (ss_c (ps_dr (pf G_check_sizes (hr.mono (by decide)) hG T.g_check_sizes T.F_check_sizes.kp T.b_check_sizes (pa_c (pe_v (pv 1)) pa_n)))
  (ss_c (ps_dr (pf G_check_some (hr.mono (by decide)) hG T.g_check_some T.F_check_some.kp T.b_check_some (pa_c (pe_v (pv 0)) (pa_c (pe_v (pv 1)) pa_n))))
  (ss_1 (ps_dr (pf G_check_sights (hr.mono (by decide)) hG T.g_check_sights T.F_check_sights.kp T.b_check_sights (pa_c (pe_v (pv 1)) (pa_c (pe_v (pv 2)) pa_n)))))))
theorem ok_sights_of (T : Top K mg) (G_subsets : FnG P w K mg base 1 T.a_subsets T.d_subsets ["many", "few"] (spN K f_subsets)) (G_all_levels : FnG P w K mg base 1 T.a_all_levels T.d_all_levels ["sizes"] (spF K f_all_levels)) : FnG P w K mg base 2 T.a_sights_of T.d_sights_of ["sizes", "t"] (spN K f_sights_of) :=
  def_N T.F_sights_of sc_sights_of rfl (by decide) (by unfold m_sights_of; repeat first | exact nnx_rt | exact nnx_rtM | exact nnx_no | refine nnx_seq ?_ | refine nnx_if ?_ ?_) fun cdv A outer s H E M hr hG =>
  (ss_c (ps_asM (i := 2) sc_sights_of.nd (pe_li pa_n (hl := xNil_len)))
  (ss_c (ps_fr PassesOwn.never rfl (pi_l (PE.lE (pfL G_subsets (hr.mono (by decide)) hG T.g_subsets T.F_subsets.kp T.b_subsets (pa_c (pe_bi k_len T.z_len (by decide +kernel) (pa_c (pe_v (pv 0)) pa_n)) (pa_c (pe_v (pv 1)) pa_n))))) (pg_name (i := 3) sc_sights_of.nd rfl (by first | exact Or.inl rfl | exact Or.inr rfl)) (gok_n 3)
  (ss_1 (ps_ex (i := 2) (ps_expr (pe_bm PySem.F.plainAttrs_list PySem.F.slot_list_extend PySem.F.type_list_extend mt_extend (pv 2) (pa_cons (pe_co (own := [("levels", 4)]) rfl sc_sights_of.nd (pi_l (pf G_all_levels (hr.mono (by decide)) hG T.g_all_levels T.F_all_levels.kp T.b_all_levels (pa_c (PE.lE (pe_co (own := [("factor", 5)]) rfl sc_sights_of.nd (pi_l (pe_v (pv 3))) (blkOk_by (N := ["sizes", "t", "found", "told", "levels", "factor"]) (sc := defScope s_sights_of) (by decide +kernel)) (gok_n 5) (by decide) (fun _ _ _ _ _ => (pg_name (i := 5) sc_sights_of.nd rfl (by first | exact Or.inl rfl | exact Or.inr rfl))) (fun _ _ _ _ _ => pts_y) (fun _ _ _ _ _ => (pe_i (pe_v (pv 0)) (pe_v (pv 5)))))) pa_n))) (blkOk_by (N := ["sizes", "t", "found", "told", "levels", "factor"]) (sc := defScope s_sights_of) (by decide +kernel)) (gok_n 4) (by decide) (fun _ _ _ _ _ => (pg_name (i := 4) sc_sights_of.nd rfl (by first | exact Or.inl rfl | exact Or.inr rfl))) (fun _ _ _ _ _ => pts_y) (fun _ _ _ _ _ => (pe_tu (pa_c (pe_v (pv 3)) (pa_c (pe_v (pv 4)) pa_n)) (hl := (xCons_len (xCons_len xNil_len)))))) pa_nil))))))
  (ss_1 (ps_rtM (pv 2)))))
theorem ok_has (T : Top K mg) (G_levels_at : FnG P w K mg base 1 T.a_levels_at T.d_levels_at ["run", "told"] (spF K f_levels_at)) : FnG P w K mg base 2 T.a_has T.d_has ["run", "sight"] (spF K f_has) :=
  def_F T.F_has sc_has rfl (by decide) fun cdv A outer s H E M hr hG =>
  (ss_1 (ps_rt rfl (pe_cp (o_eq (units_of hr)) (pf G_levels_at (hr.mono (by decide)) hG T.g_levels_at T.F_levels_at.kp T.b_levels_at (pa_c (pe_v (pv 0)) (pa_c (pe_i (pe_v (pv 1)) pk_int) pa_n))) (pe_i (pe_v (pv 1)) pk_int))))
theorem ok_missing_of (T : Top K mg) (G_sights_of : FnG P w K mg base 2 T.a_sights_of T.d_sights_of ["sizes", "t"] (spN K f_sights_of)) (G_has : FnG P w K mg base 2 T.a_has T.d_has ["run", "sight"] (spF K f_has)) : FnG P w K mg base 3 T.a_missing_of T.d_missing_of ["runs", "sizes", "t"] (spN K f_missing_of) :=
  def_N T.F_missing_of sc_missing_of rfl (by decide) (by unfold m_missing_of; repeat first | exact nnx_rt | exact nnx_rtM | exact nnx_no | refine nnx_seq ?_ | refine nnx_if ?_ ?_) fun cdv A outer s H E M hr hG =>
  (ss_1 (ps_rtL rfl (pe_co (own := [("sight", 3)]) rfl sc_missing_of.nd (pi_l (PE.lE (pfL G_sights_of (hr.mono (by decide)) hG T.g_sights_of T.F_sights_of.kp T.b_sights_of (pa_c (pe_v (pv 1)) (pa_c (pe_v (pv 2)) pa_n))))) (blkOk_by (N := ["runs", "sizes", "t", "sight", "run"]) (sc := defScope s_missing_of) (by decide +kernel)) (gok_n 3) (by decide) (fun _ _ _ _ _ => (pg_name (i := 3) sc_missing_of.nd rfl (by first | exact Or.inl rfl | exact Or.inr rfl))) (fun _ _ _ _ _ => (pts_one (pt_no (pt_v (pe_bi (k_any rfl) T.z_any (by decide +kernel) (pa_c (PE.lE (pe_co (own := [("run", 4)]) rfl sc_missing_of.nd (pi_l (pe_v (pv 0))) (blkOk_by (by with_unfolding_all rfl)) (gok_n 4) (by decide) (fun _ _ _ _ _ => (pg_name (i := 4) sc_missing_of.nd rfl (by first | exact Or.inl rfl | exact Or.inr rfl))) (fun _ _ _ _ _ => pts_y) (fun _ _ _ _ _ => (pf G_has (hr.mono (by decide)) hG T.g_has T.F_has.kp T.b_has (pa_c (pe_v (pv 4)) (pa_c (pe_v (pv 3)) pa_n)))))) pa_n)))))) (fun _ _ _ _ _ => (pe_v (pv 3))))))
theorem ok_floor_of (T : Top K mg) (G_product_of : FnG P w K mg base 1 T.a_product_of T.d_product_of ["sizes"] (spF K f_product_of)) : FnG P w K mg base 2 T.a_floor_of T.d_floor_of ["sizes", "t"] (spF K f_floor_of) :=
  def_F T.F_floor_of sc_floor_of rfl (by decide) fun cdv A outer s H E M hr hG =>
  (ss_1 (ps_rt rfl (pf G_product_of (hr.mono (by decide)) hG T.g_product_of T.F_product_of.kp T.b_product_of (pa_c (PE.lE (pe_sl (PE.lE (pe_biL (k_sort (units_of hr)) T.z_sorted (by decide +kernel) (pa_c (pe_v (pv 0)) pa_n))) (po_s (pe_bin o_sub (pe_bi k_len T.z_len (by decide +kernel) (pa_c (pe_v (pv 0)) pa_n)) (pe_v (pv 1)))) po_n)) pa_n))))
theorem ok_next_of (T : Top K mg) (G_all_levels : FnG P w K mg base 1 T.a_all_levels T.d_all_levels ["sizes"] (spF K f_all_levels)) (G_has : FnG P w K mg base 2 T.a_has T.d_has ["run", "sight"] (spF K f_has)) : FnG P w K mg base 3 T.a_next_of T.d_next_of ["left", "sizes"] (spF K f_next_of) :=
  def_F T.F_next_of sc_next_of rfl (by decide) fun cdv A outer s H E M hr hG =>
  (ss_c (ps_as (i := 2) sc_next_of.nd (pf G_all_levels (hr.mono (by decide)) hG T.g_all_levels T.F_all_levels.kp T.b_all_levels (pa_c (pe_v (pv 1)) pa_n)))
  (ss_c (ps_co (i := 3) (own := [("run", 4)]) rfl sc_next_of.nd (pi_l (pe_v (pv 2))) (blkOk_by (N := ["left", "sizes", "runs", "many", "run", "sight"]) (sc := defScope s_next_of) (by decide +kernel)) (gok_n 4) (by decide) (fun _ _ _ _ _ => (pg_name (i := 4) sc_next_of.nd rfl (by first | exact Or.inl rfl | exact Or.inr rfl))) (fun _ _ _ _ _ => pts_y) (fun _ _ _ _ _ => (pe_bi k_len T.z_len (by decide +kernel) (pa_c (PE.lE (pe_co (own := [("sight", 5)]) rfl sc_next_of.nd (pi_l (pe_v (pv 0))) (blkOk_by (by with_unfolding_all rfl)) (gok_n 5) (by decide) (fun _ _ _ _ _ => (pg_name (i := 5) sc_next_of.nd rfl (by first | exact Or.inl rfl | exact Or.inr rfl))) (fun _ _ _ _ _ => (pts_one (pt_v (pf G_has (hr.mono (by decide)) hG T.g_has T.F_has.kp T.b_has (pa_c (pe_v (pv 4)) (pa_c (pe_v (pv 5)) pa_n)))))) (fun _ _ _ _ _ => (pe_v (pv 5))))) pa_n))) (sw_true rfl rfl rfl (by decide +kernel)))
  (ss_1 (ps_rt rfl (pe_i (pe_v (pv 2)) (pe_idx (u65 (units_of hr)) (pe_bm PySem.F.plainAttrs_list PySem.F.slot_list_index PySem.F.type_list_index (mt_indexD (u65 (units_of hr))) (pe_v (pv 3)) (pa_cons (pe_bi (k_max rfl (units_of hr)) T.z_max (by decide +kernel) (pa_c (pe_v (pv 3)) pa_n)) pa_nil))))))))
theorem ok_sights (T : Top K mg) (G_check_sights : FnG P w K mg base 3 T.a_check_sights T.d_check_sights ["sizes", "t"] (spF K f_check_sights)) (G_sights_of : FnG P w K mg base 2 T.a_sights_of T.d_sights_of ["sizes", "t"] (spN K f_sights_of)) : FnG P w K mg base 4 T.a_sights T.d_sights ["sizes", "t"] (spN K f_sights) :=
  def_N T.F_sights sc_sights rfl (by decide) (by unfold m_sights; repeat first | exact nnx_rt | exact nnx_rtM | exact nnx_no | refine nnx_seq ?_ | refine nnx_if ?_ ?_) fun cdv A outer s H E M hr hG =>
  (ss_c (ps_dr (pf G_check_sights (hr.mono (by decide)) hG T.g_check_sights T.F_check_sights.kp T.b_check_sights (pa_c (pe_v (pv 0)) (pa_c (pe_v (pv 1)) pa_n))))
  (ss_1 (ps_rtL rfl (pfL G_sights_of (hr.mono (by decide)) hG T.g_sights_of T.F_sights_of.kp T.b_sights_of (pa_c (pe_v (pv 0)) (pa_c (pe_v (pv 1)) pa_n))))))
theorem ok_missing (T : Top K mg) (G_check_covering : FnG P w K mg base 4 T.a_check_covering T.d_check_covering ["runs", "sizes", "t"] (spF K f_check_covering)) (G_missing_of : FnG P w K mg base 3 T.a_missing_of T.d_missing_of ["runs", "sizes", "t"] (spN K f_missing_of)) : FnG P w K mg base 5 T.a_missing T.d_missing ["runs", "sizes", "t"] (spN K f_missing) :=
  def_N T.F_missing sc_missing rfl (by decide) (by unfold m_missing; repeat first | exact nnx_rt | exact nnx_rtM | exact nnx_no | refine nnx_seq ?_ | refine nnx_if ?_ ?_) fun cdv A outer s H E M hr hG =>
  (ss_c (ps_dr (pf G_check_covering (hr.mono (by decide)) hG T.g_check_covering T.F_check_covering.kp T.b_check_covering (pa_c (pe_v (pv 0)) (pa_c (pe_v (pv 1)) (pa_c (pe_v (pv 2)) pa_n)))))
  (ss_1 (ps_rtL rfl (pfL G_missing_of (hr.mono (by decide)) hG T.g_missing_of T.F_missing_of.kp T.b_missing_of (pa_c (pe_v (pv 0)) (pa_c (pe_v (pv 1)) (pa_c (pe_v (pv 2)) pa_n)))))))
theorem ok_floor (T : Top K mg) (G_check_sights : FnG P w K mg base 3 T.a_check_sights T.d_check_sights ["sizes", "t"] (spF K f_check_sights)) (G_floor_of : FnG P w K mg base 2 T.a_floor_of T.d_floor_of ["sizes", "t"] (spF K f_floor_of)) : FnG P w K mg base 4 T.a_floor T.d_floor ["sizes", "t"] (spF K f_floor) :=
  def_F T.F_floor sc_floor rfl (by decide) fun cdv A outer s H E M hr hG =>
  (ss_c (ps_dr (pf G_check_sights (hr.mono (by decide)) hG T.g_check_sights T.F_check_sights.kp T.b_check_sights (pa_c (pe_v (pv 0)) (pa_c (pe_v (pv 1)) pa_n))))
  (ss_1 (ps_rt rfl (pf G_floor_of (hr.mono (by decide)) hG T.g_floor_of T.F_floor_of.kp T.b_floor_of (pa_c (pe_v (pv 0)) (pa_c (pe_v (pv 1)) pa_n))))))
theorem ok_next_run (T : Top K mg) (G_check_covering : FnG P w K mg base 4 T.a_check_covering T.d_check_covering ["runs", "sizes", "t"] (spF K f_check_covering)) (G_missing_of : FnG P w K mg base 3 T.a_missing_of T.d_missing_of ["runs", "sizes", "t"] (spN K f_missing_of)) (G_next_of : FnG P w K mg base 3 T.a_next_of T.d_next_of ["left", "sizes"] (spF K f_next_of)) : FnG P w K mg base 5 T.a_next_run T.d_next_run ["runs", "sizes", "t"] (spF K f_next_run) :=
  def_F T.F_next_run sc_next_run rfl (by decide) fun cdv A outer s H E M hr hG =>
  (ss_c (ps_dr (pf G_check_covering (hr.mono (by decide)) hG T.g_check_covering T.F_check_covering.kp T.b_check_covering (pa_c (pe_v (pv 0)) (pa_c (pe_v (pv 1)) (pa_c (pe_v (pv 2)) pa_n)))))
  (ss_c (ps_as (i := 3) sc_next_run.nd (PE.lE (pfL G_missing_of (hr.mono (by decide)) hG T.g_missing_of T.F_missing_of.kp T.b_missing_of (pa_c (pe_v (pv 0)) (pa_c (pe_v (pv 1)) (pa_c (pe_v (pv 2)) pa_n))))))
  (ss_1 (ps_rt rfl (pe_ife (pt_cp (o_gt (units_of hr)) (pe_bi k_len T.z_len (by decide +kernel) (pa_c (pe_v (pv 3)) pa_n)) pk_int) (pf G_next_of (hr.mono (by decide)) hG T.g_next_of T.F_next_of.kp T.b_next_of (pa_c (pe_v (pv 3)) (pa_c (pe_v (pv 1)) pa_n))) pk_non)))))
theorem ok_greedy (T : Top K mg) (G_check_sights : FnG P w K mg base 3 T.a_check_sights T.d_check_sights ["sizes", "t"] (spF K f_check_sights)) (G_sights_of : FnG P w K mg base 2 T.a_sights_of T.d_sights_of ["sizes", "t"] (spN K f_sights_of)) (G_next_of : FnG P w K mg base 3 T.a_next_of T.d_next_of ["left", "sizes"] (spF K f_next_of)) (G_has : FnG P w K mg base 2 T.a_has T.d_has ["run", "sight"] (spF K f_has)) : FnG P w K mg base 4 T.a_greedy T.d_greedy ["sizes", "t"] (spN K f_greedy) :=
  def_N T.F_greedy sc_greedy rfl (by decide) (by unfold m_greedy; repeat first | exact nnx_rt | exact nnx_rtM | exact nnx_no | refine nnx_seq ?_ | refine nnx_if ?_ ?_) fun cdv A outer s H E M hr hG =>
  (ss_c (ps_dr (pf G_check_sights (hr.mono (by decide)) hG T.g_check_sights T.F_check_sights.kp T.b_check_sights (pa_c (pe_v (pv 0)) (pa_c (pe_v (pv 1)) pa_n))))
  (ss_c (ps_asM (i := 2) sc_greedy.nd (pe_li pa_n (hl := xNil_len)))
  (ss_c (ps_as (i := 3) sc_greedy.nd (PE.lE (pfL G_sights_of (hr.mono (by decide)) hG T.g_sights_of T.F_sights_of.kp T.b_sights_of (pa_c (pe_v (pv 0)) (pa_c (pe_v (pv 1)) pa_n)))))
  (ss_c (ps_wh fuel PassesOwn.never (pt_cp (o_gt (units_of hr)) (pe_bi k_len T.z_len (by decide +kernel) (pa_c (pe_v (pv 3)) pa_n)) pk_int)
  (ss_c (ps_as (i := 4) sc_greedy.nd (pf G_next_of (hr.mono (by decide)) hG T.g_next_of T.F_next_of.kp T.b_next_of (pa_c (pe_v (pv 3)) (pa_c (pe_v (pv 0)) pa_n))))
    (ss_c (ps_ap (i := 2) (ps_expr (pe_bm PySem.F.plainAttrs_list PySem.F.slot_list_append PySem.F.type_list_append mt_append (pv 2) (pa_cons (pe_v (pv 4)) pa_nil))))
    (ss_1 (ps_co (i := 3) (own := [("sight", 5)]) rfl sc_greedy.nd (pi_l (pe_v (pv 3))) (blkOk_by (N := ["sizes", "t", "found", "left", "run", "sight"]) (sc := defScope s_greedy) (by decide +kernel)) (gok_n 5) (by decide) (fun _ _ _ _ _ => (pg_name (i := 5) sc_greedy.nd rfl (by first | exact Or.inl rfl | exact Or.inr rfl))) (fun _ _ _ _ _ => (pts_one (pt_no (pt_v (pf G_has (hr.mono (by decide)) hG T.g_has T.F_has.kp T.b_has (pa_c (pe_v (pv 4)) (pa_c (pe_v (pv 5)) pa_n))))))) (fun _ _ _ _ _ => (pe_v (pv 5))) (sw_true rfl rfl rfl (by decide +kernel)))))))
  (ss_1 (ps_rtM (pv 2)))))))
theorem okr_cover_of (T : Top K mg) (G_has : FnG P w K mg base 2 T.a_has T.d_has ["run", "sight"] (spF K f_has)) : ∀ n : Nat, FnG P w K mg base (2 + n) T.a_cover_of T.d_cover_of ["left", "runs", "size"] (spF K (r_cover_of n))
  | 0 => fn_bad
  | n + 1 => by
    have G_self : FnG P w K mg base (2 + n) T.a_cover_of T.d_cover_of ["left", "runs", "size"] (spF K (r_cover_of n)) := okr_cover_of T G_has n
    exact def_F T.F_cover_of sc_cover_of rfl (by decide) fun cdv A outer s H E M hr hG =>
  (ss_c (ps_i (pt_cp (o_eq (units_of hr)) (pe_bi k_len T.z_len (by decide +kernel) (pa_c (pe_v (pv 0)) pa_n)) pk_int)
  (ss_1 (ps_rt rfl (PE.lE (pe_li pa_n (hl := xNil_len)))))
  ss_nil)
  (ss_c (ps_i (pt_cp (o_eq (units_of hr)) (pe_v (pv 2)) pk_int)
  (ss_1 (ps_rt rfl pk_non))
  ss_nil)
  (ss_c (ps_fr PassesOwn.never rfl (pi_l (pe_v (pv 1))) (pg_name (i := 3) sc_cover_of.nd rfl (by first | exact Or.inl rfl | exact Or.inr rfl)) (gok_n 3)
  (ss_1 (ps_i (pt_v (pf G_has (hr.mono (Nat.le_trans (show 2 ≤ 2 by decide) (Nat.le_add_right 2 n))) hG T.g_has T.F_has.kp T.b_has (pa_c (pe_v (pv 3)) (pa_c (pe_i (pe_v (pv 0)) pk_int) pa_n))))
    (ss_c (ps_as (i := 4) sc_cover_of.nd (pf G_self hr hG T.g_cover_of T.F_cover_of.kp T.b_cover_of (pa_c (PE.lE (pe_co (own := [("sight", 5)]) rfl sc_cover_of.nd (pi_l (pe_v (pv 0))) (blkOk_by (N := ["left", "runs", "size", "run", "rest", "sight"]) (sc := defScope s_cover_of) (by decide +kernel)) (gok_n 5) (by decide) (fun _ _ _ _ _ => (pg_name (i := 5) sc_cover_of.nd rfl (by first | exact Or.inl rfl | exact Or.inr rfl))) (fun _ _ _ _ _ => (pts_one (pt_no (pt_v (pf G_has (hr.mono (Nat.le_trans (show 2 ≤ 2 by decide) (Nat.le_add_right 2 n))) hG T.g_has T.F_has.kp T.b_has (pa_c (pe_v (pv 3)) (pa_c (pe_v (pv 5)) pa_n))))))) (fun _ _ _ _ _ => (pe_v (pv 5))))) (pa_c (pe_v (pv 1)) (pa_c (pe_bin o_sub (pe_v (pv 2)) pk_int) pa_n)))))
      (ss_1 (ps_i (pt_cp o_isnot (pe_v (pv 4)) pk_non)
      (ss_1 (ps_rt rfl (PE.lE (pe_liS (pa_c (pe_v (pv 3)) (pa_s (pe_v (pv 4)) pa_n))))))
      ss_nil)))
    ss_nil)))
  (ss_1 (ps_rt rfl pk_non)))))
theorem ok_cover_of (T : Top K mg) (G_has : FnG P w K mg base 2 T.a_has T.d_has ["run", "sight"] (spF K f_has)) : FnG P w K mg base 42 T.a_cover_of T.d_cover_of ["left", "runs", "size"] (spF K f_cover_of) := okr_cover_of T G_has 40
theorem ok_fewest (T : Top K mg) (G_check_sights : FnG P w K mg base 3 T.a_check_sights T.d_check_sights ["sizes", "t"] (spF K f_check_sights)) (G_all_levels : FnG P w K mg base 1 T.a_all_levels T.d_all_levels ["sizes"] (spF K f_all_levels)) (G_floor_of : FnG P w K mg base 2 T.a_floor_of T.d_floor_of ["sizes", "t"] (spF K f_floor_of)) (G_cover_of : FnG P w K mg base 42 T.a_cover_of T.d_cover_of ["left", "runs", "size"] (spF K f_cover_of)) (G_sights_of : FnG P w K mg base 2 T.a_sights_of T.d_sights_of ["sizes", "t"] (spN K f_sights_of)) : FnG P w K mg base 43 T.a_fewest T.d_fewest ["sizes", "t"] (spN K f_fewest) :=
  def_N T.F_fewest sc_fewest rfl (by decide) (by unfold m_fewest; repeat first | exact nnx_rt | exact nnx_rtM | exact nnx_no | refine nnx_seq ?_ | refine nnx_if ?_ ?_) fun cdv A outer s H E M hr hG =>
  (ss_c (ps_dr (pf G_check_sights (hr.mono (by decide)) hG T.g_check_sights T.F_check_sights.kp T.b_check_sights (pa_c (pe_v (pv 0)) (pa_c (pe_v (pv 1)) pa_n))))
  (ss_c (ps_as (i := 2) sc_fewest.nd (pf G_all_levels (hr.mono (by decide)) hG T.g_all_levels T.F_all_levels.kp T.b_all_levels (pa_c (pe_v (pv 0)) pa_n)))
  (ss_c (ps_i (pt_cp (o_gt (units_of hr)) (pe_bi k_len T.z_len (by decide +kernel) (pa_c (pe_v (pv 2)) pa_n)) (pk_gi T.c_MOST_FEWEST))
  (ss_1 ps_no)
  ss_nil)
  (ss_c (ps_as (i := 3) sc_fewest.nd (pf G_floor_of (hr.mono (by decide)) hG T.g_floor_of T.F_floor_of.kp T.b_floor_of (pa_c (pe_v (pv 0)) (pa_c (pe_v (pv 1)) pa_n))))
  (ss_c (ps_as (i := 4) sc_fewest.nd (pf G_cover_of (hr.mono (by decide)) hG T.g_cover_of T.F_cover_of.kp T.b_cover_of (pa_c (PE.lE (pfL G_sights_of (hr.mono (by decide)) hG T.g_sights_of T.F_sights_of.kp T.b_sights_of (pa_c (pe_v (pv 0)) (pa_c (pe_v (pv 1)) pa_n)))) (pa_c (pe_v (pv 2)) (pa_c (pe_v (pv 3)) pa_n)))))
  (ss_c (ps_wh fuel PassesOwn.never (pt_cp o_is (pe_v (pv 4)) pk_non)
  (ss_c (ps_as (i := 3) sc_fewest.nd (pe_bin o_add (pe_v (pv 3)) pk_int))
    (ss_1 (ps_as (i := 4) sc_fewest.nd (pf G_cover_of (hr.mono (by decide)) hG T.g_cover_of T.F_cover_of.kp T.b_cover_of (pa_c (PE.lE (pfL G_sights_of (hr.mono (by decide)) hG T.g_sights_of T.F_sights_of.kp T.b_sights_of (pa_c (pe_v (pv 0)) (pa_c (pe_v (pv 1)) pa_n)))) (pa_c (pe_v (pv 2)) (pa_c (pe_v (pv 3)) pa_n))))))))
  (ss_1 (ps_rtL rfl (pe_biL (k_sort (units_of hr)) T.z_sorted (by decide +kernel) (pa_c (pe_v (pv 4)) pa_n))))))))))
theorem ok__law_draws (T : Top K mg) : FnG P w K mg base 1 T.a__law_draws T.d__law_draws ["script"] (spN K f__law_draws) :=
  def_N T.F__law_draws sc__law_draws rfl (by decide) (by unfold m__law_draws; repeat first | exact nnx_rt | exact nnx_rtM | exact nnx_no | refine nnx_seq ?_ | refine nnx_if ?_ ?_) fun cdv A outer s H E M hr hG =>
  (ss_c (ps_asM (i := 1) sc__law_draws.nd (pe_li pa_n (hl := xNil_len)))
  (ss_c (ps_fr PassesOwn.never rfl (pi_r1 T.z_range (pa_c (pe_bi (k_min rfl (units_of hr)) T.z_min (by decide +kernel) (pa_c pk_int (pa_c (pe_bi k_len T.z_len (by decide +kernel) (pa_c (pe_v (pv 0)) pa_n)) pa_n))) pa_n)) (pg_name (i := 2) sc__law_draws.nd rfl (by first | exact Or.inl rfl | exact Or.inr rfl)) (gok_n 2)
  (ss_c (ps_as (i := 3) sc__law_draws.nd (pe_bi k_abs T.z_abs (by decide +kernel) (pa_c (pe_i (pe_v (pv 0)) (pe_v (pv 2))) pa_n)))
    (ss_1 (ps_i (pt_cp (o_ge (units_of hr)) (pe_v (pv 3)) (pe_bin o_pow pk_int pk_int))
    (ss_1 (ps_fr PassesOwn.never rfl (pi_r1 T.z_range (pa_c pk_int pa_n)) (pg_name (i := 4) sc__law_draws.nd rfl (by first | exact Or.inl rfl | exact Or.inr rfl)) (gok_n 4)
      (ss_1 (ps_i (pt_cp (o_gt (units_of hr)) (pe_v (pv 3)) pk_int)
        (ss_c (ps_ap (i := 1) (ps_expr (pe_bm PySem.F.plainAttrs_list PySem.F.slot_list_append PySem.F.type_list_append mt_append (pv 1) (pa_cons (pe_bin o_mod (pe_ty k_int T.z_int (by decide +kernel) (pa_c (pe_v (pv 3)) pa_n)) pk_int) pa_nil))))
          (ss_1 (ps_as (i := 3) sc__law_draws.nd (pe_bin o_div (pe_v (pv 3)) pk_int))))
        ss_nil))))
    (ss_c (ps_as (i := 5) sc__law_draws.nd (pe_bin o_mod (pe_ty k_int T.z_int (by decide +kernel) (pa_c (pe_bin o_add (pe_bin o_mul (pe_v (pv 3)) pk_int) (pe_bin o_mul (pe_bin o_add (pe_v (pv 2)) pk_int) pk_int)) pa_n)) pk_int))
      (ss_c (ps_as (i := 5) sc__law_draws.nd (pe_bin o_mod (pe_ty k_int T.z_int (by decide +kernel) (pa_c (pe_bin o_add (pe_bin o_add (pe_bin o_mul (pe_v (pv 5)) pk_int) (pe_bin o_mul pk_int (pe_v (pv 2)))) pk_int) pa_n)) pk_int))
      (ss_c (ps_ap (i := 1) (ps_expr (pe_bm PySem.F.plainAttrs_list PySem.F.slot_list_append PySem.F.type_list_append mt_append (pv 1) (pa_cons (pe_bin o_mod (pe_ty k_int T.z_int (by decide +kernel) (pa_c (pe_v (pv 5)) pa_n)) pk_int) pa_nil))))
      (ss_1 (ps_ap (i := 1) (ps_expr (pe_bm PySem.F.plainAttrs_list PySem.F.slot_list_append PySem.F.type_list_append mt_append (pv 1) (pa_cons (pe_bin o_mod (pe_ty k_int T.z_int (by decide +kernel) (pa_c (pe_bin o_div (pe_v (pv 5)) pk_int) pa_n)) pk_int) pa_nil))))))))))))
  (ss_1 (ps_rtM (pv 1)))))
theorem ok__law_mix (T : Top K mg) : FnG P w K mg base 1 T.a__law_mix T.d__law_mix ["draws", "k", "many"] (spF K f__law_mix) :=
  def_F T.F__law_mix sc__law_mix rfl (by decide) fun cdv A outer s H E M hr hG =>
  (ss_c (ps_as (i := 3) sc__law_mix.nd pk_int)
  (ss_c (ps_i (pt_cp (o_gt (units_of hr)) (pe_bi k_len T.z_len (by decide +kernel) (pa_c (pe_v (pv 0)) pa_n)) pk_int)
  (ss_1 (ps_as (i := 3) sc__law_mix.nd (pe_i (pe_v (pv 0)) (pe_bin o_mod (pe_ty k_int T.z_int (by decide +kernel) (pa_c (pe_v (pv 1)) pa_n)) (pe_bi k_len T.z_len (by decide +kernel) (pa_c (pe_v (pv 0)) pa_n))))))
  ss_nil)
  (ss_c (ps_i (pt_cp (o_lt (units_of hr)) (pe_v (pv 1)) (pe_bi k_len T.z_len (by decide +kernel) (pa_c (pe_v (pv 0)) pa_n)))
  (ss_1 (ps_rt rfl (pe_bin o_mod (pe_ty k_int T.z_int (by decide +kernel) (pa_c (pe_v (pv 3)) pa_n)) (pe_v (pv 2)))))
  ss_nil)
  (ss_1 (ps_rt rfl (pe_bin o_mod (pe_ty k_int T.z_int (by decide +kernel) (pa_c (pe_bin o_div (pe_ty k_int T.z_int (by decide +kernel) (pa_c (pe_bin o_add (pe_bin o_mul (pe_v (pv 3)) pk_int) (pe_bin o_mul (pe_v (pv 1)) pk_int)) pa_n)) pk_int) pa_n)) (pe_v (pv 2))))))))
theorem ok__law_sizes (T : Top K mg) (G__law_mix : FnG P w K mg base 1 T.a__law_mix T.d__law_mix ["draws", "k", "many"] (spF K f__law_mix)) : FnG P w K mg base 2 T.a__law_sizes T.d__law_sizes ["draws", "k", "most", "full"] (spN K f__law_sizes) :=
  def_N T.F__law_sizes sc__law_sizes rfl (by decide) (by unfold m__law_sizes; repeat first | exact nnx_rt | exact nnx_rtM | exact nnx_no | refine nnx_seq ?_ | refine nnx_if ?_ ?_) fun cdv A outer s H E M hr hG =>
  (ss_c (ps_pm (i := 5) (j := 6) (oi := true) (oj := false) rfl sc__law_sizes.nd (pe_li pa_n (hl := xNil_len)) pk_int)
  (ss_c (ps_fr PassesOwn.never rfl (pi_r1 T.z_range (pa_c (pe_bin o_add pk_int (pf G__law_mix (hr.mono (by decide)) hG T.g__law_mix T.F__law_mix.kp T.b__law_mix (pa_c (pe_v (pv 0)) (pa_c (pe_v (pv 1)) (pa_c (pe_v (pv 2)) pa_n))))) pa_n)) (pg_name (i := 4) sc__law_sizes.nd rfl (by first | exact Or.inl rfl | exact Or.inr rfl)) (gok_n 4)
  (ss_c (ps_as (i := 7) sc__law_sizes.nd (pe_i (PE.lE (pe_li (pa_c pk_int (pa_c pk_int (pa_c pk_int (pa_c pk_int pa_n)))) (hl := (xCons_len (xCons_len (xCons_len (xCons_len xNil_len))))))) (pf G__law_mix (hr.mono (by decide)) hG T.g__law_mix T.F__law_mix.kp T.b__law_mix (pa_c (pe_v (pv 0)) (pa_c (pe_bin o_add (pe_bin o_add (pe_v (pv 1)) pk_int) (pe_v (pv 4))) (pa_c pk_int pa_n))))))
    (ss_1 (ps_i (pt_cp (o_le (units_of hr)) (pe_bin o_mul (pe_v (pv 6)) (pe_v (pv 7))) (pe_v (pv 3)))
    (ss_c (ps_ap (i := 5) (ps_expr (pe_bm PySem.F.plainAttrs_list PySem.F.slot_list_append PySem.F.type_list_append mt_append (pv 5) (pa_cons (pe_v (pv 7)) pa_nil))))
      (ss_1 (ps_as (i := 6) sc__law_sizes.nd (pe_bin o_mul (pe_v (pv 6)) (pe_v (pv 7))))))
    ss_nil))))
  (ss_1 (ps_rtM (pv 5)))))
theorem ok__law_full (T : Top K mg) : FnG P w K mg base 1 T.a__law_full T.d__law_full ["sizes"] (spF K f__law_full) :=
  def_F T.F__law_full sc__law_full rfl (by decide) fun cdv A outer s H E M hr hG =>
  (ss_c (ps_as (i := 1) sc__law_full.nd (PE.lE (pe_li (pa_c (pe_tu pa_n (hl := xNil_len)) pa_n) (hl := (xCons_len xNil_len)))))
  (ss_c (ps_fr PassesOwn.never rfl (pi_l (pe_v (pv 0))) (pg_name (i := 2) sc__law_full.nd rfl (by first | exact Or.inl rfl | exact Or.inr rfl)) (gok_n 2)
  (ss_c (ps_as (i := 3) sc__law_full.nd (PE.lE (pe_li pa_n (hl := xNil_len))))
    (ss_c (ps_fr PassesOwn.never rfl (pi_l (pe_v (pv 1))) (pg_name (i := 4) sc__law_full.nd rfl (by first | exact Or.inl rfl | exact Or.inr rfl)) (gok_n 4)
    (ss_1 (ps_as (i := 3) sc__law_full.nd (PE.lE (pe_binL o_cat (pe_v (pv 3)) (PE.lE (pe_co (own := [("level", 5)]) rfl sc__law_full.nd (pi_r1 T.z_range (pa_c (pe_v (pv 2)) pa_n)) (blkOk_by (N := ["sizes", "found", "size", "later", "told", "level"]) (sc := defScope s__law_full) (by decide +kernel)) (gok_n 5) (by decide) (fun _ _ _ _ _ => (pg_name (i := 5) sc__law_full.nd rfl (by first | exact Or.inl rfl | exact Or.inr rfl))) (fun _ _ _ _ _ => pts_y) (fun _ _ _ _ _ => (pe_bin o_add (pe_v (pv 4)) (pe_tu (pa_c (pe_v (pv 5)) pa_n) (hl := (xCons_len xNil_len))))))))))))
    (ss_1 (ps_as (i := 1) sc__law_full.nd (pe_v (pv 3)))))))
  (ss_1 (ps_rt rfl (pe_v (pv 1))))))
theorem ok__law_lists (T : Top K mg) : FnG P w K mg base 1 T.a__law_lists T.d__law_lists ["many", "few"] (spN K f__law_lists) :=
  def_N T.F__law_lists sc__law_lists rfl (by decide) (by unfold m__law_lists; repeat first | exact nnx_rt | exact nnx_rtM | exact nnx_no | refine nnx_seq ?_ | refine nnx_if ?_ ?_) fun cdv A outer s H E M hr hG =>
  (ss_c (ps_as (i := 2) sc__law_lists.nd (PE.lE (pe_li (pa_c (PE.lE (pe_li pa_n (hl := xNil_len))) pa_n) (hl := (xCons_len xNil_len)))))
  (ss_c (ps_fr PassesOwn.never rfl (pi_r1 T.z_range (pa_c (pe_v (pv 0)) pa_n)) (pg_name (i := 3) sc__law_lists.nd rfl (by first | exact Or.inl rfl | exact Or.inr rfl)) (gok_n 3)
  (ss_1 (ps_as (i := 2) sc__law_lists.nd (PE.lE (pe_binL o_cat (pe_v (pv 2)) (PE.lE (pe_co (own := [("told", 4)]) rfl sc__law_lists.nd (pi_l (pe_v (pv 2))) (blkOk_by (N := ["many", "few", "found", "k", "told"]) (sc := defScope s__law_lists) (by decide +kernel)) (gok_n 4) (by decide) (fun _ _ _ _ _ => (pg_name (i := 4) sc__law_lists.nd rfl (by first | exact Or.inl rfl | exact Or.inr rfl))) (fun _ _ _ _ _ => (pts_one (pt_cp (o_lt (units_of hr)) (pe_bi k_len T.z_len (by decide +kernel) (pa_c (pe_v (pv 4)) pa_n)) (pe_v (pv 1))))) (fun _ _ _ _ _ => (PE.lE (pe_binL o_cat (pe_v (pv 4)) (PE.lE (pe_li (pa_c (pe_v (pv 3)) pa_n) (hl := (xCons_len xNil_len))))))))))))))
  (ss_1 (ps_rtL rfl (pe_biL (k_sort (units_of hr)) T.z_sorted (by decide +kernel) (pa_c (PE.lE (pe_co (own := [("told", 4)]) rfl sc__law_lists.nd (pi_l (pe_v (pv 2))) (blkOk_by (N := ["many", "few", "found", "k", "told"]) (sc := defScope s__law_lists) (by decide +kernel)) (gok_n 4) (by decide) (fun _ _ _ _ _ => (pg_name (i := 4) sc__law_lists.nd rfl (by first | exact Or.inl rfl | exact Or.inr rfl))) (fun _ _ _ _ _ => (pts_one (pt_cp (o_eq (units_of hr)) (pe_bi k_len T.z_len (by decide +kernel) (pa_c (pe_v (pv 4)) pa_n)) (pe_v (pv 1))))) (fun _ _ _ _ _ => (pe_v (pv 4))))) pa_n))))))
theorem ok__law_sights (T : Top K mg) (G__law_lists : FnG P w K mg base 1 T.a__law_lists T.d__law_lists ["many", "few"] (spN K f__law_lists)) (G__law_full : FnG P w K mg base 1 T.a__law_full T.d__law_full ["sizes"] (spF K f__law_full)) : FnG P w K mg base 2 T.a__law_sights T.d__law_sights ["sizes", "t"] (spF K f__law_sights) :=
  def_F T.F__law_sights sc__law_sights rfl (by decide) fun cdv A outer s H E M hr hG =>
  (ss_c (ps_as (i := 2) sc__law_sights.nd (PE.lE (pe_li pa_n (hl := xNil_len))))
  (ss_c (ps_fr PassesOwn.never rfl (pi_l (PE.lE (pfL G__law_lists (hr.mono (by decide)) hG T.g__law_lists T.F__law_lists.kp T.b__law_lists (pa_c (pe_bi k_len T.z_len (by decide +kernel) (pa_c (pe_v (pv 0)) pa_n)) (pa_c (pe_v (pv 1)) pa_n))))) (pg_name (i := 3) sc__law_sights.nd rfl (by first | exact Or.inl rfl | exact Or.inr rfl)) (gok_n 3)
  (ss_1 (ps_as (i := 2) sc__law_sights.nd (PE.lE (pe_binL o_cat (pe_v (pv 2)) (PE.lE (pe_co (own := [("levels", 4)]) rfl sc__law_sights.nd (pi_l (pf G__law_full (hr.mono (by decide)) hG T.g__law_full T.F__law_full.kp T.b__law_full (pa_c (PE.lE (pe_co (own := [("i", 5)]) rfl sc__law_sights.nd (pi_l (pe_v (pv 3))) (blkOk_by (N := ["sizes", "t", "found", "told", "levels", "i"]) (sc := defScope s__law_sights) (by decide +kernel)) (gok_n 5) (by decide) (fun _ _ _ _ _ => (pg_name (i := 5) sc__law_sights.nd rfl (by first | exact Or.inl rfl | exact Or.inr rfl))) (fun _ _ _ _ _ => pts_y) (fun _ _ _ _ _ => (pe_i (pe_v (pv 0)) (pe_v (pv 5)))))) pa_n))) (blkOk_by (N := ["sizes", "t", "found", "told", "levels", "i"]) (sc := defScope s__law_sights) (by decide +kernel)) (gok_n 4) (by decide) (fun _ _ _ _ _ => (pg_name (i := 4) sc__law_sights.nd rfl (by first | exact Or.inl rfl | exact Or.inr rfl))) (fun _ _ _ _ _ => pts_y) (fun _ _ _ _ _ => (pe_tu (pa_c (pe_v (pv 3)) (pa_c (pe_v (pv 4)) pa_n)) (hl := (xCons_len (xCons_len xNil_len))))))))))))
  (ss_1 (ps_rt rfl (pe_v (pv 2))))))
theorem ok__law_has (T : Top K mg) : FnG P w K mg base 1 T.a__law_has T.d__law_has ["run", "sight"] (spF K f__law_has) :=
  def_F T.F__law_has sc__law_has rfl (by decide) fun cdv A outer s H E M hr hG =>
  (ss_1 (ps_rt rfl (pe_cp (o_eq (units_of hr)) (pe_ty k_tuple T.z_tuple (by decide +kernel) (pa_c (PE.lE (pe_co (own := [("i", 2)]) rfl sc__law_has.nd (pi_l (pe_i (pe_v (pv 1)) pk_int)) (blkOk_by (N := ["run", "sight", "i"]) (sc := defScope s__law_has) (by decide +kernel)) (gok_n 2) (by decide) (fun _ _ _ _ _ => (pg_name (i := 2) sc__law_has.nd rfl (by first | exact Or.inl rfl | exact Or.inr rfl))) (fun _ _ _ _ _ => pts_y) (fun _ _ _ _ _ => (pe_i (pe_v (pv 0)) (pe_v (pv 2)))))) pa_n)) (pe_i (pe_v (pv 1)) pk_int))))
theorem ok__law_runs (T : Top K mg) (G__law_full : FnG P w K mg base 1 T.a__law_full T.d__law_full ["sizes"] (spF K f__law_full)) (G__law_mix : FnG P w K mg base 1 T.a__law_mix T.d__law_mix ["draws", "k", "many"] (spF K f__law_mix)) : FnG P w K mg base 2 T.a__law_runs T.d__law_runs ["draws", "k", "sizes", "most"] (spN K f__law_runs) :=
  def_N T.F__law_runs sc__law_runs rfl (by decide) (by unfold m__law_runs; repeat first | exact nnx_rt | exact nnx_rtM | exact nnx_no | refine nnx_seq ?_ | refine nnx_if ?_ ?_) fun cdv A outer s H E M hr hG =>
  (ss_c (ps_as (i := 4) sc__law_runs.nd (pf G__law_full (hr.mono (by decide)) hG T.g__law_full T.F__law_full.kp T.b__law_full (pa_c (pe_v (pv 2)) pa_n)))
  (ss_1 (ps_rtL rfl (pe_co (own := [("j", 5)]) rfl sc__law_runs.nd (pi_r1 T.z_range (pa_c (pf G__law_mix (hr.mono (by decide)) hG T.g__law_mix T.F__law_mix.kp T.b__law_mix (pa_c (pe_v (pv 0)) (pa_c (pe_v (pv 1)) (pa_c (pe_bin o_add (pe_v (pv 3)) pk_int) pa_n)))) pa_n)) (blkOk_by (N := ["draws", "k", "sizes", "most", "full", "j"]) (sc := defScope s__law_runs) (by decide +kernel)) (gok_n 5) (by decide) (fun _ _ _ _ _ => (pg_name (i := 5) sc__law_runs.nd rfl (by first | exact Or.inl rfl | exact Or.inr rfl))) (fun _ _ _ _ _ => pts_y) (fun _ _ _ _ _ => (pe_i (pe_v (pv 4)) (pf G__law_mix (hr.mono (by decide)) hG T.g__law_mix T.F__law_mix.kp T.b__law_mix (pa_c (pe_v (pv 0)) (pa_c (pe_bin o_add (pe_bin o_add (pe_v (pv 1)) pk_int) (pe_v (pv 5))) (pa_c (pe_bi k_len T.z_len (by decide +kernel) (pa_c (pe_v (pv 4)) pa_n)) pa_n))))))))))
theorem ok__law_next (T : Top K mg) (G__law_has : FnG P w K mg base 1 T.a__law_has T.d__law_has ["run", "sight"] (spF K f__law_has)) : FnG P w K mg base 2 T.a__law_next T.d__law_next ["left", "full"] (spF K f__law_next) :=
  def_F T.F__law_next sc__law_next rfl (by decide) fun cdv A outer s H E M hr hG =>
  (ss_c (ps_co (i := 2) (own := [("run", 3)]) rfl sc__law_next.nd (pi_l (pe_v (pv 1))) (blkOk_by (N := ["left", "full", "many", "run", "sight"]) (sc := defScope s__law_next) (by decide +kernel)) (gok_n 3) (by decide) (fun _ _ _ _ _ => (pg_name (i := 3) sc__law_next.nd rfl (by first | exact Or.inl rfl | exact Or.inr rfl))) (fun _ _ _ _ _ => pts_y) (fun _ _ _ _ _ => (pe_bi k_len T.z_len (by decide +kernel) (pa_c (PE.lE (pe_co (own := [("sight", 4)]) rfl sc__law_next.nd (pi_l (pe_v (pv 0))) (blkOk_by (by with_unfolding_all rfl)) (gok_n 4) (by decide) (fun _ _ _ _ _ => (pg_name (i := 4) sc__law_next.nd rfl (by first | exact Or.inl rfl | exact Or.inr rfl))) (fun _ _ _ _ _ => (pts_one (pt_v (pf G__law_has (hr.mono (by decide)) hG T.g__law_has T.F__law_has.kp T.b__law_has (pa_c (pe_v (pv 3)) (pa_c (pe_v (pv 4)) pa_n)))))) (fun _ _ _ _ _ => (pe_v (pv 4))))) pa_n))) (sw_true rfl rfl rfl (by decide +kernel)))
  (ss_1 (ps_rt rfl (pe_i (pe_v (pv 1)) (pe_idx (u65 (units_of hr)) (pe_bm PySem.F.plainAttrs_list PySem.F.slot_list_index PySem.F.type_list_index (mt_indexD (u65 (units_of hr))) (pe_v (pv 2)) (pa_cons (pe_bi (k_max rfl (units_of hr)) T.z_max (by decide +kernel) (pa_c (pe_v (pv 2)) pa_n)) pa_nil)))))))
theorem okr__law_can (T : Top K mg) (G__law_has : FnG P w K mg base 1 T.a__law_has T.d__law_has ["run", "sight"] (spF K f__law_has)) : ∀ n : Nat, FnG P w K mg base (1 + n) T.a__law_can T.d__law_can ["left", "full", "size"] (spF K (r__law_can n))
  | 0 => fn_bad
  | n + 1 => by
    have G_self : FnG P w K mg base (1 + n) T.a__law_can T.d__law_can ["left", "full", "size"] (spF K (r__law_can n)) := okr__law_can T G__law_has n
    exact def_F T.F__law_can sc__law_can rfl (by decide) fun cdv A outer s H E M hr hG =>
  (ss_c (ps_i (pt_cp (o_eq (units_of hr)) (pe_v (pv 0)) (PE.lE (pe_li pa_n (hl := xNil_len))))
  (ss_1 (ps_rt rfl pk_bl))
  ss_nil)
  (ss_c (ps_i (pt_cp (o_eq (units_of hr)) (pe_v (pv 2)) pk_int)
  (ss_1 (ps_rt rfl pk_bl))
  ss_nil)
  (ss_c (ps_fr PassesOwn.never rfl (pi_l (PE.lE (pe_co (own := [("run", 3)]) rfl sc__law_can.nd (pi_l (pe_v (pv 1))) (blkOk_by (N := ["left", "full", "size", "run", "sight"]) (sc := defScope s__law_can) (by decide +kernel)) (gok_n 3) (by decide) (fun _ _ _ _ _ => (pg_name (i := 3) sc__law_can.nd rfl (by first | exact Or.inl rfl | exact Or.inr rfl))) (fun _ _ _ _ _ => (pts_one (pt_v (pf G__law_has (hr.mono (Nat.le_trans (show 1 ≤ 1 by decide) (Nat.le_add_right 1 n))) hG T.g__law_has T.F__law_has.kp T.b__law_has (pa_c (pe_v (pv 3)) (pa_c (pe_i (pe_v (pv 0)) pk_int) pa_n)))))) (fun _ _ _ _ _ => (pe_v (pv 3)))))) (pg_name (i := 3) sc__law_can.nd rfl (by first | exact Or.inl rfl | exact Or.inr rfl)) (gok_n 3)
  (ss_1 (ps_i (pt_v (pf G_self hr hG T.g__law_can T.F__law_can.kp T.b__law_can (pa_c (PE.lE (pe_co (own := [("sight", 4)]) rfl sc__law_can.nd (pi_l (pe_v (pv 0))) (blkOk_by (N := ["left", "full", "size", "run", "sight"]) (sc := defScope s__law_can) (by decide +kernel)) (gok_n 4) (by decide) (fun _ _ _ _ _ => (pg_name (i := 4) sc__law_can.nd rfl (by first | exact Or.inl rfl | exact Or.inr rfl))) (fun _ _ _ _ _ => (pts_one (pt_no (pt_v (pf G__law_has (hr.mono (Nat.le_trans (show 1 ≤ 1 by decide) (Nat.le_add_right 1 n))) hG T.g__law_has T.F__law_has.kp T.b__law_has (pa_c (pe_v (pv 3)) (pa_c (pe_v (pv 4)) pa_n))))))) (fun _ _ _ _ _ => (pe_v (pv 4))))) (pa_c (pe_v (pv 1)) (pa_c (pe_bin o_sub (pe_v (pv 2)) pk_int) pa_n)))))
    (ss_1 (ps_rt rfl pk_bl))
    ss_nil)))
  (ss_1 (ps_rt rfl pk_bl)))))
theorem ok__law_can (T : Top K mg) (G__law_has : FnG P w K mg base 1 T.a__law_has T.d__law_has ["run", "sight"] (spF K f__law_has)) : FnG P w K mg base 41 T.a__law_can T.d__law_can ["left", "full", "size"] (spF K f__law_can) := okr__law_can T G__law_has 40
theorem ok_law (T : Top K mg) (G__law_draws : FnG P w K mg base 1 T.a__law_draws T.d__law_draws ["script"] (spN K f__law_draws)) (G__law_sizes : FnG P w K mg base 2 T.a__law_sizes T.d__law_sizes ["draws", "k", "most", "full"] (spN K f__law_sizes)) (G_greedy : FnG P w K mg base 4 T.a_greedy T.d_greedy ["sizes", "t"] (spN K f_greedy)) (G__law_mix : FnG P w K mg base 1 T.a__law_mix T.d__law_mix ["draws", "k", "many"] (spF K f__law_mix)) (G__law_full : FnG P w K mg base 1 T.a__law_full T.d__law_full ["sizes"] (spF K f__law_full)) (G__law_sights : FnG P w K mg base 2 T.a__law_sights T.d__law_sights ["sizes", "t"] (spF K f__law_sights)) (G__law_runs : FnG P w K mg base 2 T.a__law_runs T.d__law_runs ["draws", "k", "sizes", "most"] (spN K f__law_runs)) (G_missing : FnG P w K mg base 5 T.a_missing T.d_missing ["runs", "sizes", "t"] (spN K f_missing)) (G_fewest : FnG P w K mg base 43 T.a_fewest T.d_fewest ["sizes", "t"] (spN K f_fewest)) (G__law_next : FnG P w K mg base 2 T.a__law_next T.d__law_next ["left", "full"] (spF K f__law_next)) (G__law_can : FnG P w K mg base 41 T.a__law_can T.d__law_can ["left", "full", "size"] (spF K f__law_can)) (G_sights : FnG P w K mg base 4 T.a_sights T.d_sights ["sizes", "t"] (spN K f_sights)) (G_floor : FnG P w K mg base 4 T.a_floor T.d_floor ["sizes", "t"] (spF K f_floor)) (G_next_run : FnG P w K mg base 5 T.a_next_run T.d_next_run ["runs", "sizes", "t"] (spF K f_next_run)) (G__law_has : FnG P w K mg base 1 T.a__law_has T.d__law_has ["run", "sight"] (spF K f__law_has)) : FnG P w K mg base 44 T.a_law T.d_law ["script"] (spF K f_law) :=
  def_F T.F_law sc_law rfl (by decide) fun cdv A outer s H E M hr hG =>
  (ss_c (ps_as (i := 1) sc_law.nd (PE.lE (pfL G__law_draws (hr.mono (by decide)) hG T.g__law_draws T.F__law_draws.kp T.b__law_draws (pa_c (pe_v (pv 0)) pa_n))))
  (ss_c (ps_as (i := 2) sc_law.nd (PE.lE (pfL G__law_sizes (hr.mono (by decide)) hG T.g__law_sizes T.F__law_sizes.kp T.b__law_sizes (pa_c (pe_v (pv 1)) (pa_c pk_int (pa_c pk_int (pa_c pk_int pa_n)))))))
  (ss_c (ps_as (i := 3) sc_law.nd (pe_bin o_add pk_int (pf G__law_mix (hr.mono (by decide)) hG T.g__law_mix T.F__law_mix.kp T.b__law_mix (pa_c (pe_v (pv 1)) (pa_c pk_int (pa_c (pe_bi (k_min rfl (units_of hr)) T.z_min (by decide +kernel) (pa_c pk_int (pa_c (pe_bi k_len T.z_len (by decide +kernel) (pa_c (pe_v (pv 2)) pa_n)) pa_n))) pa_n))))))
  (ss_c (ps_un (ps_asg (pe_tu (pa_c (pf G__law_full (hr.mono (by decide)) hG T.g__law_full T.F__law_full.kp T.b__law_full (pa_c (pe_v (pv 2)) pa_n)) (pa_c (pf G__law_sights (hr.mono (by decide)) hG T.g__law_sights T.F__law_sights.kp T.b__law_sights (pa_c (pe_v (pv 2)) (pa_c (pe_v (pv 3)) pa_n))) pa_n)) (hl := (xCons_len (xCons_len xNil_len)))) (pg_tup (n := 2) rfl (pgs_cons (pg_name (i := 8) sc_law.nd rfl (by first | exact Or.inl rfl | exact Or.inr rfl)) (pgs_cons (pg_name (i := 9) sc_law.nd rfl (by first | exact Or.inl rfl | exact Or.inr rfl)) pgs_nil)))) (gok_t (gsok_c (gok_n 8) (gsok_c (gok_n 9) gsok_0))))
  (ss_c (ps_as (i := 4) sc_law.nd pk_int)
  (ss_c (ps_fr PassesOwn.never rfl (pi_l (PE.lE (pe_sl (PE.lE (pe_rv (PE.lE (pe_biL (k_sort (units_of hr)) T.z_sorted (by decide +kernel) (pa_c (pe_v (pv 2)) pa_n))))) po_n (po_s (pe_v (pv 3)))))) (pg_name (i := 5) sc_law.nd rfl (by first | exact Or.inl rfl | exact Or.inr rfl)) (gok_n 5)
  (ss_1 (ps_as (i := 4) sc_law.nd (pe_bin o_mul (pe_v (pv 4)) (pe_v (pv 5))))))
  (ss_c (ps_i (L2.PW.pt (pw_orr (pt_cp (o_ne (units_of hr)) (pe_bi (k_repr hG (units_of hr)) T.z_repr (by decide +kernel) (pa_c (PE.lE (pfL G_sights (hr.mono (by decide)) hG T.g_sights T.F_sights.kp T.b_sights (pa_c (pe_v (pv 2)) (pa_c (pe_v (pv 3)) pa_n)))) pa_n)) (pe_bi (k_repr hG (units_of hr)) T.z_repr (by decide +kernel) (pa_c (pe_v (pv 9)) pa_n))) (L2.pw_or1 (pt_cp (o_ne (units_of hr)) (pe_bi (k_repr hG (units_of hr)) T.z_repr (by decide +kernel) (pa_c (pf G_floor (hr.mono (by decide)) hG T.g_floor T.F_floor.kp T.b_floor (pa_c (pe_v (pv 2)) (pa_c (pe_v (pv 3)) pa_n))) pa_n)) (pe_bi (k_repr hG (units_of hr)) T.z_repr (by decide +kernel) (pa_c (pe_v (pv 4)) pa_n))))))
  (ss_1 (ps_rt rfl pk_bl))
  ss_nil)
  (ss_c (ps_fr PassesOwn.never rfl (pi_r1 T.z_range (pa_c pk_int pa_n)) (pg_name (i := 6) sc_law.nd rfl (by first | exact Or.inl rfl | exact Or.inr rfl)) (gok_n 6)
  (ss_c (ps_as (i := 10) sc_law.nd (PE.lE (pfL G__law_runs (hr.mono (by decide)) hG T.g__law_runs T.F__law_runs.kp T.b__law_runs (pa_c (pe_v (pv 1)) (pa_c (pe_bin o_add pk_int (pe_bin o_mul pk_int (pe_v (pv 6)))) (pa_c (pe_v (pv 2)) (pa_c pk_int pa_n)))))))
    (ss_c (ps_as (i := 11) sc_law.nd (pe_bi (k_repr hG (units_of hr)) T.z_repr (by decide +kernel) (pa_c (pe_tu (pa_c (pe_v (pv 10)) (pa_c (pe_v (pv 2)) pa_n)) (hl := (xCons_len (xCons_len xNil_len)))) pa_n)))
    (ss_c (ps_co (i := 12) (own := [("sight", 16)]) rfl sc_law.nd (pi_l (pe_v (pv 9))) (blkOk_by (N := ["script", "draws", "sizes", "t", "most", "size", "turn", "told", "full", "every", "runs", "kept", "left", "due", "found", "least", "sight", "run"]) (sc := defScope s_law) (by decide +kernel)) (gok_n 16) (by decide) (fun _ _ _ _ _ => (pg_name (i := 16) sc_law.nd rfl (by first | exact Or.inl rfl | exact Or.inr rfl))) (fun _ _ _ _ _ => (pts_one (pt_cp (o_eq (units_of hr)) (PE.lE (pe_co (own := [("run", 17)]) rfl sc_law.nd (pi_l (pe_v (pv 10))) (blkOk_by (by with_unfolding_all rfl)) (gok_n 17) (by decide) (fun _ _ _ _ _ => (pg_name (i := 17) sc_law.nd rfl (by first | exact Or.inl rfl | exact Or.inr rfl))) (fun _ _ _ _ _ => (pts_one (pt_v (pf G__law_has (hr.mono (by decide)) hG T.g__law_has T.F__law_has.kp T.b__law_has (pa_c (pe_v (pv 17)) (pa_c (pe_v (pv 16)) pa_n)))))) (fun _ _ _ _ _ => (pe_v (pv 17))))) (PE.lE (pe_li pa_n (hl := xNil_len)))))) (fun _ _ _ _ _ => (pe_v (pv 16))) (sw_true rfl rfl rfl (by decide +kernel)))
    (ss_c (ps_asM (i := 7) sc_law.nd (pfL G_missing (hr.mono (by decide)) hG T.g_missing T.F_missing.kp T.b_missing (pa_c (pe_v (pv 10)) (pa_c (pe_v (pv 2)) (pa_c (pe_v (pv 3)) pa_n)))))
    (ss_c (ps_i (pt_th (pt_cp (o_ne (units_of hr)) (pe_bi (k_repr hG (units_of hr)) T.z_repr (by decide +kernel) (pa_c (pe_v (pv 7)) pa_n)) (pe_bi (k_repr hG (units_of hr)) T.z_repr (by decide +kernel) (pa_c (pe_v (pv 12)) pa_n))))
    (ss_1 (ps_rt rfl pk_bl))
    ss_nil)
    (ss_c (ps_as (i := 13) sc_law.nd pk_non)
    (ss_c (ps_i (pt_cp (o_ne (units_of hr)) (pe_v (pv 12)) (PE.lE (pe_li pa_n (hl := xNil_len))))
    (ss_c (ps_as (i := 13) sc_law.nd (pf G__law_next (hr.mono (by decide)) hG T.g__law_next T.F__law_next.kp T.b__law_next (pa_c (pe_v (pv 12)) (pa_c (pe_v (pv 8)) pa_n))))
      (ss_1 (ps_i (pt_cp (o_lt (units_of hr)) (pe_bin o_mul (pe_bi k_len T.z_len (by decide +kernel) (pa_c (PE.lE (pe_co (own := [("sight", 16)]) rfl sc_law.nd (pi_l (pe_v (pv 12))) (blkOk_by (N := ["script", "draws", "sizes", "t", "most", "size", "turn", "told", "full", "every", "runs", "kept", "left", "due", "found", "least", "sight", "run"]) (sc := defScope s_law) (by decide +kernel)) (gok_n 16) (by decide) (fun _ _ _ _ _ => (pg_name (i := 16) sc_law.nd rfl (by first | exact Or.inl rfl | exact Or.inr rfl))) (fun _ _ _ _ _ => (pts_one (pt_v (pf G__law_has (hr.mono (by decide)) hG T.g__law_has T.F__law_has.kp T.b__law_has (pa_c (pe_v (pv 13)) (pa_c (pe_v (pv 16)) pa_n)))))) (fun _ _ _ _ _ => (pe_v (pv 16))))) pa_n)) (pe_v (pv 4))) (pe_bi k_len T.z_len (by decide +kernel) (pa_c (pe_v (pv 12)) pa_n)))
      (ss_1 (ps_rt rfl pk_bl))
      ss_nil)))
    ss_nil)
    (ss_c (ps_i (L2.PW.pt (pw_orr (pt_cp (o_ne (units_of hr)) (pe_bi (k_repr hG (units_of hr)) T.z_repr (by decide +kernel) (pa_c (pf G_next_run (hr.mono (by decide)) hG T.g_next_run T.F_next_run.kp T.b_next_run (pa_c (pe_v (pv 10)) (pa_c (pe_v (pv 2)) (pa_c (pe_v (pv 3)) pa_n)))) pa_n)) (pe_bi (k_repr hG (units_of hr)) T.z_repr (by decide +kernel) (pa_c (pe_v (pv 13)) pa_n))) (L2.pw_or1 (pt_cp (o_ne (units_of hr)) (pe_bi (k_repr hG (units_of hr)) T.z_repr (by decide +kernel) (pa_c (pe_tu (pa_c (pe_v (pv 10)) (pa_c (pe_v (pv 2)) pa_n)) (hl := (xCons_len (xCons_len xNil_len)))) pa_n)) (pe_v (pv 11))))))
    (ss_1 (ps_rt rfl pk_bl))
    ss_nil)
    (ss_c (ps_ap (i := 7) (ps_expr (pe_bm PySem.F.plainAttrs_list PySem.F.slot_list_append PySem.F.type_list_append mt_append (pv 7) (pa_cons (pe_tu pa_n (hl := xNil_len)) pa_nil))))
    (ss_1 (ps_i (pt_cp (o_ne (units_of hr)) (pe_bi (k_repr hG (units_of hr)) T.z_repr (by decide +kernel) (pa_c (PE.lE (pfL G_missing (hr.mono (by decide)) hG T.g_missing T.F_missing.kp T.b_missing (pa_c (pe_v (pv 10)) (pa_c (pe_v (pv 2)) (pa_c (pe_v (pv 3)) pa_n))))) pa_n)) (pe_bi (k_repr hG (units_of hr)) T.z_repr (by decide +kernel) (pa_c (pe_v (pv 12)) pa_n)))
    (ss_1 (ps_rt rfl pk_bl))
    ss_nil))))))))))))
  (ss_c (ps_pmT (i := 14) (j := 12) (oi := true) (oj := false) (ps_asg (L2.pe_tup (pa_cons (pe_li pa_n (hl := xNil_len)) (pa_cons (pe_v (pv 9)) pa_nil))) (pg_tup (n := 2) rfl (pgs_cons (pg_name (i := 14) sc_law.nd rfl (by first | exact Or.inl rfl | exact Or.inr rfl)) (pgs_cons (pg_name (i := 12) sc_law.nd rfl (by first | exact Or.inl rfl | exact Or.inr rfl)) pgs_nil)))))
  (ss_c (ps_wh fuel PassesOwn.never (pt_cp (o_ne (units_of hr)) (pe_v (pv 12)) (PE.lE (pe_li pa_n (hl := xNil_len))))
  (ss_c (ps_ap (i := 14) (ps_expr (pe_bm PySem.F.plainAttrs_list PySem.F.slot_list_append PySem.F.type_list_append mt_append (pv 14) (pa_cons (pf G__law_next (hr.mono (by decide)) hG T.g__law_next T.F__law_next.kp T.b__law_next (pa_c (pe_v (pv 12)) (pa_c (pe_v (pv 8)) pa_n))) pa_nil))))
    (ss_1 (ps_co (i := 12) (own := [("sight", 16)]) rfl sc_law.nd (pi_l (pe_v (pv 12))) (blkOk_by (N := ["script", "draws", "sizes", "t", "most", "size", "turn", "told", "full", "every", "runs", "kept", "left", "due", "found", "least", "sight", "run"]) (sc := defScope s_law) (by decide +kernel)) (gok_n 16) (by decide) (fun _ _ _ _ _ => (pg_name (i := 16) sc_law.nd rfl (by first | exact Or.inl rfl | exact Or.inr rfl))) (fun _ _ _ _ _ => (pts_one (pt_no (pt_v (pf G__law_has (hr.mono (by decide)) hG T.g__law_has T.F__law_has.kp T.b__law_has (pa_c (pe_im (pv 14) (pe_un1 o_neg pk_int)) (pa_c (pe_v (pv 16)) pa_n))))))) (fun _ _ _ _ _ => (pe_v (pv 16))) (sw_true rfl rfl rfl (by decide +kernel))))))
  (ss_fz 14 (ss_c (ps_asM (i := 7) sc_law.nd (pfL G_greedy (hr.mono (by decide)) hG T.g_greedy T.F_greedy.kp T.b_greedy (pa_c (pe_v (pv 2)) (pa_c (pe_v (pv 3)) pa_n))))
  (ss_fz 7 (ss_c (ps_i (L2.PW.pt (pw_orr (pt_cp (o_ne (units_of hr)) (pe_bi (k_repr hG (units_of hr)) T.z_repr (by decide +kernel) (pa_c (pe_v (pv 7)) pa_n)) (pe_bi (k_repr hG (units_of hr)) T.z_repr (by decide +kernel) (pa_c (pe_v (pv 14)) pa_n))) (pw_orr (pt_cp (o_ne (units_of hr)) (PE.lE (pfL G_missing (hr.mono (by decide)) hG T.g_missing T.F_missing.kp T.b_missing (pa_c (pe_v (pv 7)) (pa_c (pe_v (pv 2)) (pa_c (pe_v (pv 3)) pa_n))))) (PE.lE (pe_li pa_n (hl := xNil_len)))) (L2.pw_or1 (pt_cp (o_eq (units_of hr)) (PE.lE (pfL G_missing (hr.mono (by decide)) hG T.g_missing T.F_missing.kp T.b_missing (pa_c (PE.lE (pe_sl (pe_v (pv 7)) po_n (po_s (pe_un1 o_neg pk_int)))) (pa_c (pe_v (pv 2)) (pa_c (pe_v (pv 3)) pa_n))))) (PE.lE (pe_li pa_n (hl := xNil_len))))))))
  (ss_1 (ps_rt rfl pk_bl))
  ss_nil)
  (ss_c (ps_i (pt_cp (o_le (units_of hr)) (pe_bi k_len T.z_len (by decide +kernel) (pa_c (pe_v (pv 8)) pa_n)) pk_int)
  (ss_c (ps_asM (i := 15) sc_law.nd (pfL G_fewest (hr.mono (by decide)) hG T.g_fewest T.F_fewest.kp T.b_fewest (pa_c (pe_v (pv 2)) (pa_c (pe_v (pv 3)) pa_n))))
    (ss_c (ps_i (L2.PW.pt (pw_orr (pt_th (pt_cp (o_ne (units_of hr)) (pe_v (pv 15)) (PE.lE (pe_ss (units_of hr) (pe_callB (cr_sortedT rfl) rfl T.z_sorted (by decide +kernel) (pa_cons (pe_callTy (cr_setOfT rfl (u64 (units_of hr))) rfl T.z_set (by decide +kernel) (pa_cons (pe_v (pv 15)) pa_nil)) pa_nil)))))) (pw_orr (pt_th (pt_cp (o_ne (units_of hr)) (PE.lE (pe_co (own := [("run", 17)]) rfl sc_law.nd (pi_l (pe_v (pv 15))) (blkOk_by (N := ["script", "draws", "sizes", "t", "most", "size", "turn", "told", "full", "every", "runs", "kept", "left", "due", "found", "least", "sight", "run"]) (sc := defScope s_law) (by decide +kernel)) (gok_n 17) (by decide) (fun _ _ _ _ _ => (pg_name (i := 17) sc_law.nd rfl (by first | exact Or.inl rfl | exact Or.inr rfl))) (fun _ _ _ _ _ => (pts_one (pt_cp (o_notin (units_of hr)) (pe_v (pv 17)) (pe_v (pv 8))))) (fun _ _ _ _ _ => (pe_v (pv 17))))) (PE.lE (pe_li pa_n (hl := xNil_len))))) (L2.pw_or1 (pt_th (pt_cp (o_ne (units_of hr)) (PE.lE (pfL G_missing (hr.mono (by decide)) hG T.g_missing T.F_missing.kp T.b_missing (pa_c (pe_v (pv 15)) (pa_c (pe_v (pv 2)) (pa_c (pe_v (pv 3)) pa_n))))) (PE.lE (pe_li pa_n (hl := xNil_len)))))))))
    (ss_1 (ps_rt rfl pk_bl))
    ss_nil)
    (ss_c (ps_i (L2.PW.pt (pw_orr (pt_no (pt_th (pt_ch (o_le (units_of hr)) (o_le (units_of hr)) (pe_v (pv 4)) (pe_bi k_len T.z_len (by decide +kernel) (pa_c (pe_v (pv 15)) pa_n)) (pe_bi k_len T.z_len (by decide +kernel) (pa_c (pe_v (pv 7)) pa_n))))) (L2.pw_or1 (pt_v (pf G__law_can (hr.mono (by decide)) hG T.g__law_can T.F__law_can.kp T.b__law_can (pa_c (pe_v (pv 9)) (pa_c (pe_v (pv 8)) (pa_c (pe_bin o_sub (pe_th (pe_bi k_len T.z_len (by decide +kernel) (pa_c (pe_v (pv 15)) pa_n))) pk_int) pa_n))))))))
    (ss_1 (ps_rt rfl pk_bl))
    ss_nil)
    (ss_c (ps_ap (i := 15) (ps_expr (pe_bm PySem.F.plainAttrs_list PySem.F.slot_list_append PySem.F.type_list_append mt_append (pv 15) (pa_cons (pe_tu pa_n (hl := xNil_len)) pa_nil))))
    (ss_fz 15 ss_nil)))))
  ss_nil)
  (ss_1 (ps_rt rfl (pe_cp (o_eq (units_of hr)) (PE.lE (pfL G_missing (hr.mono (by decide)) hG T.g_missing T.F_missing.kp T.b_missing (pa_c (pe_v (pv 8)) (pa_c (pe_v (pv 2)) (pa_c (pe_v (pv 3)) pa_n))))) (PE.lE (pe_li pa_n (hl := xNil_len)))))))))))))))))))))
theorem all (T : Top K mg) : FnG P w K mg base 44 T.a_law T.d_law ["script"] (spF K f_law) := by
  have G_check_sizes := ok_check_sizes (P := P) (w := w) (base := base) T
  have G_levels_at := ok_levels_at (P := P) (w := w) (base := base) T
  have G_all_levels := ok_all_levels (P := P) (w := w) (base := base) T
  have G_subsets := ok_subsets (P := P) (w := w) (base := base) T
  have G_product_of := ok_product_of (P := P) (w := w) (base := base) T
  have G_check_full := ok_check_full (P := P) (w := w) (base := base) T G_check_sizes G_product_of
  have G_check_number := ok_check_number (P := P) (w := w) (base := base) T
  have G_check_sights := ok_check_sights (P := P) (w := w) (base := base) T G_check_full G_check_number
  have G_check_some := ok_check_some (P := P) (w := w) (base := base) T
  have G_check_covering := ok_check_covering (P := P) (w := w) (base := base) T G_check_sizes G_check_some G_check_sights
  have G_sights_of := ok_sights_of (P := P) (w := w) (base := base) T G_subsets G_all_levels
  have G_has := ok_has (P := P) (w := w) (base := base) T G_levels_at
  have G_missing_of := ok_missing_of (P := P) (w := w) (base := base) T G_sights_of G_has
  have G_floor_of := ok_floor_of (P := P) (w := w) (base := base) T G_product_of
  have G_next_of := ok_next_of (P := P) (w := w) (base := base) T G_all_levels G_has
  have G_sights := ok_sights (P := P) (w := w) (base := base) T G_check_sights G_sights_of
  have G_missing := ok_missing (P := P) (w := w) (base := base) T G_check_covering G_missing_of
  have G_floor := ok_floor (P := P) (w := w) (base := base) T G_check_sights G_floor_of
  have G_next_run := ok_next_run (P := P) (w := w) (base := base) T G_check_covering G_missing_of G_next_of
  have G_greedy := ok_greedy (P := P) (w := w) (base := base) T G_check_sights G_sights_of G_next_of G_has
  have G_cover_of := ok_cover_of (P := P) (w := w) (base := base) T G_has
  have G_fewest := ok_fewest (P := P) (w := w) (base := base) T G_check_sights G_all_levels G_floor_of G_cover_of G_sights_of
  have G__law_draws := ok__law_draws (P := P) (w := w) (base := base) T
  have G__law_mix := ok__law_mix (P := P) (w := w) (base := base) T
  have G__law_sizes := ok__law_sizes (P := P) (w := w) (base := base) T G__law_mix
  have G__law_full := ok__law_full (P := P) (w := w) (base := base) T
  have G__law_lists := ok__law_lists (P := P) (w := w) (base := base) T
  have G__law_sights := ok__law_sights (P := P) (w := w) (base := base) T G__law_lists G__law_full
  have G__law_has := ok__law_has (P := P) (w := w) (base := base) T
  have G__law_runs := ok__law_runs (P := P) (w := w) (base := base) T G__law_full G__law_mix
  have G__law_next := ok__law_next (P := P) (w := w) (base := base) T G__law_has
  have G__law_can := ok__law_can (P := P) (w := w) (base := base) T G__law_has
  have G_law := ok_law (P := P) (w := w) (base := base) T G__law_draws G__law_sizes G_greedy G__law_mix G__law_full G__law_sights G__law_runs G_missing G_fewest G__law_next G__law_can G_sights G_floor G_next_run G__law_has
  exact G_law
end
end My
set_option Elab.async false
set_option linter.all false
set_option maxRecDepth 100000
set_option maxHeartbeats 4000000
/-! what the top has written, and the end -/
namespace My
open PySem PySem.Spec PyProof.Rows L2 Tw
theorem all_mk {l : PySem.W.OpenLaw} {w : World} {K : PySem.W.Frag} {h : Heap} {mg : Str → Option Value} {fa : Addr} (X : K.In h) (G : h.Ns mainGlobals mg) (hfa : mg "law" = some (.ref fa))
    {od0 an0 : Option Addr} {sl0 : Array (Option Value)} {oc0 kV0 dc0 pm0 cd0 ct0 : Value} {f0 : Addr}
    (a0 : PySem.W.nsIn K mainGlobals "check_sizes" = some (some (.ref f0))) (l0 : K.lookup f0 = some ⟨oc0, od0, .func (PySem.W.fnOf "check_sizes" "check_sizes" (defArgs s_check_sizes) (defBody s_check_sizes) (defScope s_check_sizes) .none kV0 dc0 pm0 an0 cd0 ct0), sl0⟩) (c0 : PySem.W.codeIn K cd0 "check_sizes" = true) (k0 : PySem.W.keepIn K (.ref f0) = true)
    {od1 an1 : Option Addr} {sl1 : Array (Option Value)} {oc1 kV1 dc1 pm1 cd1 ct1 : Value} {f1 : Addr}
    (a1 : PySem.W.nsIn K mainGlobals "levels_at" = some (some (.ref f1))) (l1 : K.lookup f1 = some ⟨oc1, od1, .func (PySem.W.fnOf "levels_at" "levels_at" (defArgs s_levels_at) (defBody s_levels_at) (defScope s_levels_at) .none kV1 dc1 pm1 an1 cd1 ct1), sl1⟩) (c1 : PySem.W.codeIn K cd1 "levels_at" = true) (k1 : PySem.W.keepIn K (.ref f1) = true)
    {od2 an2 : Option Addr} {sl2 : Array (Option Value)} {oc2 kV2 dc2 pm2 cd2 ct2 : Value} {f2 : Addr}
    (a2 : PySem.W.nsIn K mainGlobals "all_levels" = some (some (.ref f2))) (l2 : K.lookup f2 = some ⟨oc2, od2, .func (PySem.W.fnOf "all_levels" "all_levels" (defArgs s_all_levels) (defBody s_all_levels) (defScope s_all_levels) .none kV2 dc2 pm2 an2 cd2 ct2), sl2⟩) (c2 : PySem.W.codeIn K cd2 "all_levels" = true) (k2 : PySem.W.keepIn K (.ref f2) = true)
    {od3 an3 : Option Addr} {sl3 : Array (Option Value)} {oc3 kV3 dc3 pm3 cd3 ct3 : Value} {f3 : Addr}
    (a3 : PySem.W.nsIn K mainGlobals "subsets" = some (some (.ref f3))) (l3 : K.lookup f3 = some ⟨oc3, od3, .func (PySem.W.fnOf "subsets" "subsets" (defArgs s_subsets) (defBody s_subsets) (defScope s_subsets) .none kV3 dc3 pm3 an3 cd3 ct3), sl3⟩) (c3 : PySem.W.codeIn K cd3 "subsets" = true) (k3 : PySem.W.keepIn K (.ref f3) = true)
    {od4 an4 : Option Addr} {sl4 : Array (Option Value)} {oc4 kV4 dc4 pm4 cd4 ct4 : Value} {f4 : Addr}
    (a4 : PySem.W.nsIn K mainGlobals "product_of" = some (some (.ref f4))) (l4 : K.lookup f4 = some ⟨oc4, od4, .func (PySem.W.fnOf "product_of" "product_of" (defArgs s_product_of) (defBody s_product_of) (defScope s_product_of) .none kV4 dc4 pm4 an4 cd4 ct4), sl4⟩) (c4 : PySem.W.codeIn K cd4 "product_of" = true) (k4 : PySem.W.keepIn K (.ref f4) = true)
    {od5 an5 : Option Addr} {sl5 : Array (Option Value)} {oc5 kV5 dc5 pm5 cd5 ct5 : Value} {f5 : Addr}
    (a5 : PySem.W.nsIn K mainGlobals "check_full" = some (some (.ref f5))) (l5 : K.lookup f5 = some ⟨oc5, od5, .func (PySem.W.fnOf "check_full" "check_full" (defArgs s_check_full) (defBody s_check_full) (defScope s_check_full) .none kV5 dc5 pm5 an5 cd5 ct5), sl5⟩) (c5 : PySem.W.codeIn K cd5 "check_full" = true) (k5 : PySem.W.keepIn K (.ref f5) = true)
    {od6 an6 : Option Addr} {sl6 : Array (Option Value)} {oc6 kV6 dc6 pm6 cd6 ct6 : Value} {f6 : Addr}
    (a6 : PySem.W.nsIn K mainGlobals "check_number" = some (some (.ref f6))) (l6 : K.lookup f6 = some ⟨oc6, od6, .func (PySem.W.fnOf "check_number" "check_number" (defArgs s_check_number) (defBody s_check_number) (defScope s_check_number) .none kV6 dc6 pm6 an6 cd6 ct6), sl6⟩) (c6 : PySem.W.codeIn K cd6 "check_number" = true) (k6 : PySem.W.keepIn K (.ref f6) = true)
    {od7 an7 : Option Addr} {sl7 : Array (Option Value)} {oc7 kV7 dc7 pm7 cd7 ct7 : Value} {f7 : Addr}
    (a7 : PySem.W.nsIn K mainGlobals "check_sights" = some (some (.ref f7))) (l7 : K.lookup f7 = some ⟨oc7, od7, .func (PySem.W.fnOf "check_sights" "check_sights" (defArgs s_check_sights) (defBody s_check_sights) (defScope s_check_sights) .none kV7 dc7 pm7 an7 cd7 ct7), sl7⟩) (c7 : PySem.W.codeIn K cd7 "check_sights" = true) (k7 : PySem.W.keepIn K (.ref f7) = true)
    {od8 an8 : Option Addr} {sl8 : Array (Option Value)} {oc8 kV8 dc8 pm8 cd8 ct8 : Value} {f8 : Addr}
    (a8 : PySem.W.nsIn K mainGlobals "check_some" = some (some (.ref f8))) (l8 : K.lookup f8 = some ⟨oc8, od8, .func (PySem.W.fnOf "check_some" "check_some" (defArgs s_check_some) (defBody s_check_some) (defScope s_check_some) .none kV8 dc8 pm8 an8 cd8 ct8), sl8⟩) (c8 : PySem.W.codeIn K cd8 "check_some" = true) (k8 : PySem.W.keepIn K (.ref f8) = true)
    {od9 an9 : Option Addr} {sl9 : Array (Option Value)} {oc9 kV9 dc9 pm9 cd9 ct9 : Value} {f9 : Addr}
    (a9 : PySem.W.nsIn K mainGlobals "check_covering" = some (some (.ref f9))) (l9 : K.lookup f9 = some ⟨oc9, od9, .func (PySem.W.fnOf "check_covering" "check_covering" (defArgs s_check_covering) (defBody s_check_covering) (defScope s_check_covering) .none kV9 dc9 pm9 an9 cd9 ct9), sl9⟩) (c9 : PySem.W.codeIn K cd9 "check_covering" = true) (k9 : PySem.W.keepIn K (.ref f9) = true)
    {od10 an10 : Option Addr} {sl10 : Array (Option Value)} {oc10 kV10 dc10 pm10 cd10 ct10 : Value} {f10 : Addr}
    (a10 : PySem.W.nsIn K mainGlobals "sights_of" = some (some (.ref f10))) (l10 : K.lookup f10 = some ⟨oc10, od10, .func (PySem.W.fnOf "sights_of" "sights_of" (defArgs s_sights_of) (defBody s_sights_of) (defScope s_sights_of) .none kV10 dc10 pm10 an10 cd10 ct10), sl10⟩) (c10 : PySem.W.codeIn K cd10 "sights_of" = true) (k10 : PySem.W.keepIn K (.ref f10) = true)
    {od11 an11 : Option Addr} {sl11 : Array (Option Value)} {oc11 kV11 dc11 pm11 cd11 ct11 : Value} {f11 : Addr}
    (a11 : PySem.W.nsIn K mainGlobals "has" = some (some (.ref f11))) (l11 : K.lookup f11 = some ⟨oc11, od11, .func (PySem.W.fnOf "has" "has" (defArgs s_has) (defBody s_has) (defScope s_has) .none kV11 dc11 pm11 an11 cd11 ct11), sl11⟩) (c11 : PySem.W.codeIn K cd11 "has" = true) (k11 : PySem.W.keepIn K (.ref f11) = true)
    {od12 an12 : Option Addr} {sl12 : Array (Option Value)} {oc12 kV12 dc12 pm12 cd12 ct12 : Value} {f12 : Addr}
    (a12 : PySem.W.nsIn K mainGlobals "missing_of" = some (some (.ref f12))) (l12 : K.lookup f12 = some ⟨oc12, od12, .func (PySem.W.fnOf "missing_of" "missing_of" (defArgs s_missing_of) (defBody s_missing_of) (defScope s_missing_of) .none kV12 dc12 pm12 an12 cd12 ct12), sl12⟩) (c12 : PySem.W.codeIn K cd12 "missing_of" = true) (k12 : PySem.W.keepIn K (.ref f12) = true)
    {od13 an13 : Option Addr} {sl13 : Array (Option Value)} {oc13 kV13 dc13 pm13 cd13 ct13 : Value} {f13 : Addr}
    (a13 : PySem.W.nsIn K mainGlobals "floor_of" = some (some (.ref f13))) (l13 : K.lookup f13 = some ⟨oc13, od13, .func (PySem.W.fnOf "floor_of" "floor_of" (defArgs s_floor_of) (defBody s_floor_of) (defScope s_floor_of) .none kV13 dc13 pm13 an13 cd13 ct13), sl13⟩) (c13 : PySem.W.codeIn K cd13 "floor_of" = true) (k13 : PySem.W.keepIn K (.ref f13) = true)
    {od14 an14 : Option Addr} {sl14 : Array (Option Value)} {oc14 kV14 dc14 pm14 cd14 ct14 : Value} {f14 : Addr}
    (a14 : PySem.W.nsIn K mainGlobals "next_of" = some (some (.ref f14))) (l14 : K.lookup f14 = some ⟨oc14, od14, .func (PySem.W.fnOf "next_of" "next_of" (defArgs s_next_of) (defBody s_next_of) (defScope s_next_of) .none kV14 dc14 pm14 an14 cd14 ct14), sl14⟩) (c14 : PySem.W.codeIn K cd14 "next_of" = true) (k14 : PySem.W.keepIn K (.ref f14) = true)
    {od15 an15 : Option Addr} {sl15 : Array (Option Value)} {oc15 kV15 dc15 pm15 cd15 ct15 : Value} {f15 : Addr}
    (a15 : PySem.W.nsIn K mainGlobals "sights" = some (some (.ref f15))) (l15 : K.lookup f15 = some ⟨oc15, od15, .func (PySem.W.fnOf "sights" "sights" (defArgs s_sights) (defBody s_sights) (defScope s_sights) .none kV15 dc15 pm15 an15 cd15 ct15), sl15⟩) (c15 : PySem.W.codeIn K cd15 "sights" = true) (k15 : PySem.W.keepIn K (.ref f15) = true)
    {od16 an16 : Option Addr} {sl16 : Array (Option Value)} {oc16 kV16 dc16 pm16 cd16 ct16 : Value} {f16 : Addr}
    (a16 : PySem.W.nsIn K mainGlobals "missing" = some (some (.ref f16))) (l16 : K.lookup f16 = some ⟨oc16, od16, .func (PySem.W.fnOf "missing" "missing" (defArgs s_missing) (defBody s_missing) (defScope s_missing) .none kV16 dc16 pm16 an16 cd16 ct16), sl16⟩) (c16 : PySem.W.codeIn K cd16 "missing" = true) (k16 : PySem.W.keepIn K (.ref f16) = true)
    {od17 an17 : Option Addr} {sl17 : Array (Option Value)} {oc17 kV17 dc17 pm17 cd17 ct17 : Value} {f17 : Addr}
    (a17 : PySem.W.nsIn K mainGlobals "floor" = some (some (.ref f17))) (l17 : K.lookup f17 = some ⟨oc17, od17, .func (PySem.W.fnOf "floor" "floor" (defArgs s_floor) (defBody s_floor) (defScope s_floor) .none kV17 dc17 pm17 an17 cd17 ct17), sl17⟩) (c17 : PySem.W.codeIn K cd17 "floor" = true) (k17 : PySem.W.keepIn K (.ref f17) = true)
    {od18 an18 : Option Addr} {sl18 : Array (Option Value)} {oc18 kV18 dc18 pm18 cd18 ct18 : Value} {f18 : Addr}
    (a18 : PySem.W.nsIn K mainGlobals "next_run" = some (some (.ref f18))) (l18 : K.lookup f18 = some ⟨oc18, od18, .func (PySem.W.fnOf "next_run" "next_run" (defArgs s_next_run) (defBody s_next_run) (defScope s_next_run) .none kV18 dc18 pm18 an18 cd18 ct18), sl18⟩) (c18 : PySem.W.codeIn K cd18 "next_run" = true) (k18 : PySem.W.keepIn K (.ref f18) = true)
    {od19 an19 : Option Addr} {sl19 : Array (Option Value)} {oc19 kV19 dc19 pm19 cd19 ct19 : Value} {f19 : Addr}
    (a19 : PySem.W.nsIn K mainGlobals "greedy" = some (some (.ref f19))) (l19 : K.lookup f19 = some ⟨oc19, od19, .func (PySem.W.fnOf "greedy" "greedy" (defArgs s_greedy) (defBody s_greedy) (defScope s_greedy) .none kV19 dc19 pm19 an19 cd19 ct19), sl19⟩) (c19 : PySem.W.codeIn K cd19 "greedy" = true) (k19 : PySem.W.keepIn K (.ref f19) = true)
    {od20 an20 : Option Addr} {sl20 : Array (Option Value)} {oc20 kV20 dc20 pm20 cd20 ct20 : Value} {f20 : Addr}
    (a20 : PySem.W.nsIn K mainGlobals "cover_of" = some (some (.ref f20))) (l20 : K.lookup f20 = some ⟨oc20, od20, .func (PySem.W.fnOf "cover_of" "cover_of" (defArgs s_cover_of) (defBody s_cover_of) (defScope s_cover_of) .none kV20 dc20 pm20 an20 cd20 ct20), sl20⟩) (c20 : PySem.W.codeIn K cd20 "cover_of" = true) (k20 : PySem.W.keepIn K (.ref f20) = true)
    {od21 an21 : Option Addr} {sl21 : Array (Option Value)} {oc21 kV21 dc21 pm21 cd21 ct21 : Value} {f21 : Addr}
    (a21 : PySem.W.nsIn K mainGlobals "fewest" = some (some (.ref f21))) (l21 : K.lookup f21 = some ⟨oc21, od21, .func (PySem.W.fnOf "fewest" "fewest" (defArgs s_fewest) (defBody s_fewest) (defScope s_fewest) .none kV21 dc21 pm21 an21 cd21 ct21), sl21⟩) (c21 : PySem.W.codeIn K cd21 "fewest" = true) (k21 : PySem.W.keepIn K (.ref f21) = true)
    {od22 an22 : Option Addr} {sl22 : Array (Option Value)} {oc22 kV22 dc22 pm22 cd22 ct22 : Value} {f22 : Addr}
    (a22 : PySem.W.nsIn K mainGlobals "_law_draws" = some (some (.ref f22))) (l22 : K.lookup f22 = some ⟨oc22, od22, .func (PySem.W.fnOf "_law_draws" "_law_draws" (defArgs s__law_draws) (defBody s__law_draws) (defScope s__law_draws) .none kV22 dc22 pm22 an22 cd22 ct22), sl22⟩) (c22 : PySem.W.codeIn K cd22 "_law_draws" = true) (k22 : PySem.W.keepIn K (.ref f22) = true)
    {od23 an23 : Option Addr} {sl23 : Array (Option Value)} {oc23 kV23 dc23 pm23 cd23 ct23 : Value} {f23 : Addr}
    (a23 : PySem.W.nsIn K mainGlobals "_law_mix" = some (some (.ref f23))) (l23 : K.lookup f23 = some ⟨oc23, od23, .func (PySem.W.fnOf "_law_mix" "_law_mix" (defArgs s__law_mix) (defBody s__law_mix) (defScope s__law_mix) .none kV23 dc23 pm23 an23 cd23 ct23), sl23⟩) (c23 : PySem.W.codeIn K cd23 "_law_mix" = true) (k23 : PySem.W.keepIn K (.ref f23) = true)
    {od24 an24 : Option Addr} {sl24 : Array (Option Value)} {oc24 kV24 dc24 pm24 cd24 ct24 : Value} {f24 : Addr}
    (a24 : PySem.W.nsIn K mainGlobals "_law_sizes" = some (some (.ref f24))) (l24 : K.lookup f24 = some ⟨oc24, od24, .func (PySem.W.fnOf "_law_sizes" "_law_sizes" (defArgs s__law_sizes) (defBody s__law_sizes) (defScope s__law_sizes) .none kV24 dc24 pm24 an24 cd24 ct24), sl24⟩) (c24 : PySem.W.codeIn K cd24 "_law_sizes" = true) (k24 : PySem.W.keepIn K (.ref f24) = true)
    {od25 an25 : Option Addr} {sl25 : Array (Option Value)} {oc25 kV25 dc25 pm25 cd25 ct25 : Value} {f25 : Addr}
    (a25 : PySem.W.nsIn K mainGlobals "_law_full" = some (some (.ref f25))) (l25 : K.lookup f25 = some ⟨oc25, od25, .func (PySem.W.fnOf "_law_full" "_law_full" (defArgs s__law_full) (defBody s__law_full) (defScope s__law_full) .none kV25 dc25 pm25 an25 cd25 ct25), sl25⟩) (c25 : PySem.W.codeIn K cd25 "_law_full" = true) (k25 : PySem.W.keepIn K (.ref f25) = true)
    {od26 an26 : Option Addr} {sl26 : Array (Option Value)} {oc26 kV26 dc26 pm26 cd26 ct26 : Value} {f26 : Addr}
    (a26 : PySem.W.nsIn K mainGlobals "_law_lists" = some (some (.ref f26))) (l26 : K.lookup f26 = some ⟨oc26, od26, .func (PySem.W.fnOf "_law_lists" "_law_lists" (defArgs s__law_lists) (defBody s__law_lists) (defScope s__law_lists) .none kV26 dc26 pm26 an26 cd26 ct26), sl26⟩) (c26 : PySem.W.codeIn K cd26 "_law_lists" = true) (k26 : PySem.W.keepIn K (.ref f26) = true)
    {od27 an27 : Option Addr} {sl27 : Array (Option Value)} {oc27 kV27 dc27 pm27 cd27 ct27 : Value} {f27 : Addr}
    (a27 : PySem.W.nsIn K mainGlobals "_law_sights" = some (some (.ref f27))) (l27 : K.lookup f27 = some ⟨oc27, od27, .func (PySem.W.fnOf "_law_sights" "_law_sights" (defArgs s__law_sights) (defBody s__law_sights) (defScope s__law_sights) .none kV27 dc27 pm27 an27 cd27 ct27), sl27⟩) (c27 : PySem.W.codeIn K cd27 "_law_sights" = true) (k27 : PySem.W.keepIn K (.ref f27) = true)
    {od28 an28 : Option Addr} {sl28 : Array (Option Value)} {oc28 kV28 dc28 pm28 cd28 ct28 : Value} {f28 : Addr}
    (a28 : PySem.W.nsIn K mainGlobals "_law_has" = some (some (.ref f28))) (l28 : K.lookup f28 = some ⟨oc28, od28, .func (PySem.W.fnOf "_law_has" "_law_has" (defArgs s__law_has) (defBody s__law_has) (defScope s__law_has) .none kV28 dc28 pm28 an28 cd28 ct28), sl28⟩) (c28 : PySem.W.codeIn K cd28 "_law_has" = true) (k28 : PySem.W.keepIn K (.ref f28) = true)
    {od29 an29 : Option Addr} {sl29 : Array (Option Value)} {oc29 kV29 dc29 pm29 cd29 ct29 : Value} {f29 : Addr}
    (a29 : PySem.W.nsIn K mainGlobals "_law_runs" = some (some (.ref f29))) (l29 : K.lookup f29 = some ⟨oc29, od29, .func (PySem.W.fnOf "_law_runs" "_law_runs" (defArgs s__law_runs) (defBody s__law_runs) (defScope s__law_runs) .none kV29 dc29 pm29 an29 cd29 ct29), sl29⟩) (c29 : PySem.W.codeIn K cd29 "_law_runs" = true) (k29 : PySem.W.keepIn K (.ref f29) = true)
    {od30 an30 : Option Addr} {sl30 : Array (Option Value)} {oc30 kV30 dc30 pm30 cd30 ct30 : Value} {f30 : Addr}
    (a30 : PySem.W.nsIn K mainGlobals "_law_next" = some (some (.ref f30))) (l30 : K.lookup f30 = some ⟨oc30, od30, .func (PySem.W.fnOf "_law_next" "_law_next" (defArgs s__law_next) (defBody s__law_next) (defScope s__law_next) .none kV30 dc30 pm30 an30 cd30 ct30), sl30⟩) (c30 : PySem.W.codeIn K cd30 "_law_next" = true) (k30 : PySem.W.keepIn K (.ref f30) = true)
    {od31 an31 : Option Addr} {sl31 : Array (Option Value)} {oc31 kV31 dc31 pm31 cd31 ct31 : Value} {f31 : Addr}
    (a31 : PySem.W.nsIn K mainGlobals "_law_can" = some (some (.ref f31))) (l31 : K.lookup f31 = some ⟨oc31, od31, .func (PySem.W.fnOf "_law_can" "_law_can" (defArgs s__law_can) (defBody s__law_can) (defScope s__law_can) .none kV31 dc31 pm31 an31 cd31 ct31), sl31⟩) (c31 : PySem.W.codeIn K cd31 "_law_can" = true) (k31 : PySem.W.keepIn K (.ref f31) = true)
    {od32 an32 : Option Addr} {sl32 : Array (Option Value)} {oc32 kV32 dc32 pm32 cd32 ct32 : Value} {f32 : Addr}
    (a32 : PySem.W.nsIn K mainGlobals "law" = some (some (.ref f32))) (l32 : K.lookup f32 = some ⟨oc32, od32, .func (PySem.W.fnOf "law" "law" (defArgs s_law) (defBody s_law) (defScope s_law) .none kV32 dc32 pm32 an32 cd32 ct32), sl32⟩) (c32 : PySem.W.codeIn K cd32 "law" = true) (k32 : PySem.W.keepIn K (.ref f32) = true)
    {t_LEAST_SIZE : Tok} (q_LEAST_SIZE : PySem.W.nsIn K mainGlobals "LEAST_SIZE" = some (some (.int 2 t_LEAST_SIZE)))
    {t_MOST_COVERED : Tok} (q_MOST_COVERED : PySem.W.nsIn K mainGlobals "MOST_COVERED" = some (some (.int 6 t_MOST_COVERED)))
    {t_MOST_FACTORS : Tok} (q_MOST_FACTORS : PySem.W.nsIn K mainGlobals "MOST_FACTORS" = some (some (.int 8 t_MOST_FACTORS)))
    {t_MOST_FEWEST : Tok} (q_MOST_FEWEST : PySem.W.nsIn K mainGlobals "MOST_FEWEST" = some (some (.int 12 t_MOST_FEWEST)))
    {t_MOST_FULL : Tok} (q_MOST_FULL : PySem.W.nsIn K mainGlobals "MOST_FULL" = some (some (.int 64 t_MOST_FULL)))
    {t_MOST_SIZE : Tok} (q_MOST_SIZE : PySem.W.nsIn K mainGlobals "MOST_SIZE" = some (some (.int 5 t_MOST_SIZE)))
    {t_MOST_T : Tok} (q_MOST_T : PySem.W.nsIn K mainGlobals "MOST_T" = some (some (.int 3 t_MOST_T)))
    (z_abs : PySem.W.nsIn K mainGlobals "abs" = some none)
    (z_all : PySem.W.nsIn K mainGlobals "all" = some none)
    (z_any : PySem.W.nsIn K mainGlobals "any" = some none)
    (z_enumerate : PySem.W.nsIn K mainGlobals "enumerate" = some none)
    (z_int : PySem.W.nsIn K mainGlobals "int" = some none)
    (z_len : PySem.W.nsIn K mainGlobals "len" = some none)
    (z_max : PySem.W.nsIn K mainGlobals "max" = some none)
    (z_min : PySem.W.nsIn K mainGlobals "min" = some none)
    (z_range : PySem.W.nsIn K mainGlobals "range" = some none)
    (z_repr : PySem.W.nsIn K mainGlobals "repr" = some none)
    (z_set : PySem.W.nsIn K mainGlobals "set" = some none)
    (z_sorted : PySem.W.nsIn K mainGlobals "sorted" = some none)
    (z_tuple : PySem.W.nsIn K mainGlobals "tuple" = some none)
    (z_zip : PySem.W.nsIn K mainGlobals "zip" = some none)
    : ∃ fd : FuncData, (∀ (s : Shared) (v : Value), BindsTo s fd ⟨[v], []⟩ [("script", v)]) ∧ ∀ base : Heap, K.In base → base.Ns mainGlobals mg → FnG l.prog w K mg base 44 fa fd ["script"] (spF K f_law) := by
  have e := hfa.symm.trans (PySem.W.mg_of X G a32)
  cases e
  have F0 := fun_mk (st := s_check_sizes) l0 c0 k0
  have B0 := F0.binds (ps := ["sizes"]) fun _ _ _ _ _ _ us hl => match us, hl with | [_], _ => rfl
  have F1 := fun_mk (st := s_levels_at) l1 c1 k1
  have B1 := F1.binds (ps := ["run", "told"]) fun _ _ _ _ _ _ us hl => match us, hl with | [_, _], _ => rfl
  have F2 := fun_mk (st := s_all_levels) l2 c2 k2
  have B2 := F2.binds (ps := ["sizes"]) fun _ _ _ _ _ _ us hl => match us, hl with | [_], _ => rfl
  have F3 := fun_mk (st := s_subsets) l3 c3 k3
  have B3 := F3.binds (ps := ["many", "few"]) fun _ _ _ _ _ _ us hl => match us, hl with | [_, _], _ => rfl
  have F4 := fun_mk (st := s_product_of) l4 c4 k4
  have B4 := F4.binds (ps := ["sizes"]) fun _ _ _ _ _ _ us hl => match us, hl with | [_], _ => rfl
  have F5 := fun_mk (st := s_check_full) l5 c5 k5
  have B5 := F5.binds (ps := ["sizes"]) fun _ _ _ _ _ _ us hl => match us, hl with | [_], _ => rfl
  have F6 := fun_mk (st := s_check_number) l6 c6 k6
  have B6 := F6.binds (ps := ["sizes", "t"]) fun _ _ _ _ _ _ us hl => match us, hl with | [_, _], _ => rfl
  have F7 := fun_mk (st := s_check_sights) l7 c7 k7
  have B7 := F7.binds (ps := ["sizes", "t"]) fun _ _ _ _ _ _ us hl => match us, hl with | [_, _], _ => rfl
  have F8 := fun_mk (st := s_check_some) l8 c8 k8
  have B8 := F8.binds (ps := ["runs", "sizes"]) fun _ _ _ _ _ _ us hl => match us, hl with | [_, _], _ => rfl
  have F9 := fun_mk (st := s_check_covering) l9 c9 k9
  have B9 := F9.binds (ps := ["runs", "sizes", "t"]) fun _ _ _ _ _ _ us hl => match us, hl with | [_, _, _], _ => rfl
  have F10 := fun_mk (st := s_sights_of) l10 c10 k10
  have B10 := F10.binds (ps := ["sizes", "t"]) fun _ _ _ _ _ _ us hl => match us, hl with | [_, _], _ => rfl
  have F11 := fun_mk (st := s_has) l11 c11 k11
  have B11 := F11.binds (ps := ["run", "sight"]) fun _ _ _ _ _ _ us hl => match us, hl with | [_, _], _ => rfl
  have F12 := fun_mk (st := s_missing_of) l12 c12 k12
  have B12 := F12.binds (ps := ["runs", "sizes", "t"]) fun _ _ _ _ _ _ us hl => match us, hl with | [_, _, _], _ => rfl
  have F13 := fun_mk (st := s_floor_of) l13 c13 k13
  have B13 := F13.binds (ps := ["sizes", "t"]) fun _ _ _ _ _ _ us hl => match us, hl with | [_, _], _ => rfl
  have F14 := fun_mk (st := s_next_of) l14 c14 k14
  have B14 := F14.binds (ps := ["left", "sizes"]) fun _ _ _ _ _ _ us hl => match us, hl with | [_, _], _ => rfl
  have F15 := fun_mk (st := s_sights) l15 c15 k15
  have B15 := F15.binds (ps := ["sizes", "t"]) fun _ _ _ _ _ _ us hl => match us, hl with | [_, _], _ => rfl
  have F16 := fun_mk (st := s_missing) l16 c16 k16
  have B16 := F16.binds (ps := ["runs", "sizes", "t"]) fun _ _ _ _ _ _ us hl => match us, hl with | [_, _, _], _ => rfl
  have F17 := fun_mk (st := s_floor) l17 c17 k17
  have B17 := F17.binds (ps := ["sizes", "t"]) fun _ _ _ _ _ _ us hl => match us, hl with | [_, _], _ => rfl
  have F18 := fun_mk (st := s_next_run) l18 c18 k18
  have B18 := F18.binds (ps := ["runs", "sizes", "t"]) fun _ _ _ _ _ _ us hl => match us, hl with | [_, _, _], _ => rfl
  have F19 := fun_mk (st := s_greedy) l19 c19 k19
  have B19 := F19.binds (ps := ["sizes", "t"]) fun _ _ _ _ _ _ us hl => match us, hl with | [_, _], _ => rfl
  have F20 := fun_mk (st := s_cover_of) l20 c20 k20
  have B20 := F20.binds (ps := ["left", "runs", "size"]) fun _ _ _ _ _ _ us hl => match us, hl with | [_, _, _], _ => rfl
  have F21 := fun_mk (st := s_fewest) l21 c21 k21
  have B21 := F21.binds (ps := ["sizes", "t"]) fun _ _ _ _ _ _ us hl => match us, hl with | [_, _], _ => rfl
  have F22 := fun_mk (st := s__law_draws) l22 c22 k22
  have B22 := F22.binds (ps := ["script"]) fun _ _ _ _ _ _ us hl => match us, hl with | [_], _ => rfl
  have F23 := fun_mk (st := s__law_mix) l23 c23 k23
  have B23 := F23.binds (ps := ["draws", "k", "many"]) fun _ _ _ _ _ _ us hl => match us, hl with | [_, _, _], _ => rfl
  have F24 := fun_mk (st := s__law_sizes) l24 c24 k24
  have B24 := F24.binds (ps := ["draws", "k", "most", "full"]) fun _ _ _ _ _ _ us hl => match us, hl with | [_, _, _, _], _ => rfl
  have F25 := fun_mk (st := s__law_full) l25 c25 k25
  have B25 := F25.binds (ps := ["sizes"]) fun _ _ _ _ _ _ us hl => match us, hl with | [_], _ => rfl
  have F26 := fun_mk (st := s__law_lists) l26 c26 k26
  have B26 := F26.binds (ps := ["many", "few"]) fun _ _ _ _ _ _ us hl => match us, hl with | [_, _], _ => rfl
  have F27 := fun_mk (st := s__law_sights) l27 c27 k27
  have B27 := F27.binds (ps := ["sizes", "t"]) fun _ _ _ _ _ _ us hl => match us, hl with | [_, _], _ => rfl
  have F28 := fun_mk (st := s__law_has) l28 c28 k28
  have B28 := F28.binds (ps := ["run", "sight"]) fun _ _ _ _ _ _ us hl => match us, hl with | [_, _], _ => rfl
  have F29 := fun_mk (st := s__law_runs) l29 c29 k29
  have B29 := F29.binds (ps := ["draws", "k", "sizes", "most"]) fun _ _ _ _ _ _ us hl => match us, hl with | [_, _, _, _], _ => rfl
  have F30 := fun_mk (st := s__law_next) l30 c30 k30
  have B30 := F30.binds (ps := ["left", "full"]) fun _ _ _ _ _ _ us hl => match us, hl with | [_, _], _ => rfl
  have F31 := fun_mk (st := s__law_can) l31 c31 k31
  have B31 := F31.binds (ps := ["left", "full", "size"]) fun _ _ _ _ _ _ us hl => match us, hl with | [_, _, _], _ => rfl
  have F32 := fun_mk (st := s_law) l32 c32 k32
  have B32 := F32.binds (ps := ["script"]) fun _ _ _ _ _ _ us hl => match us, hl with | [_], _ => rfl
  refine ⟨_, fun s v => .of_eq rfl, fun base _ _ => all ⟨_, _, F0, PySem.W.mg_of X G a0, B0, _, _, F1, PySem.W.mg_of X G a1, B1, _, _, F2, PySem.W.mg_of X G a2, B2, _, _, F3, PySem.W.mg_of X G a3, B3, _, _, F4, PySem.W.mg_of X G a4, B4, _, _, F5, PySem.W.mg_of X G a5, B5, _, _, F6, PySem.W.mg_of X G a6, B6, _, _, F7, PySem.W.mg_of X G a7, B7, _, _, F8, PySem.W.mg_of X G a8, B8, _, _, F9, PySem.W.mg_of X G a9, B9, _, _, F10, PySem.W.mg_of X G a10, B10, _, _, F11, PySem.W.mg_of X G a11, B11, _, _, F12, PySem.W.mg_of X G a12, B12, _, _, F13, PySem.W.mg_of X G a13, B13, _, _, F14, PySem.W.mg_of X G a14, B14, _, _, F15, PySem.W.mg_of X G a15, B15, _, _, F16, PySem.W.mg_of X G a16, B16, _, _, F17, PySem.W.mg_of X G a17, B17, _, _, F18, PySem.W.mg_of X G a18, B18, _, _, F19, PySem.W.mg_of X G a19, B19, _, _, F20, PySem.W.mg_of X G a20, B20, _, _, F21, PySem.W.mg_of X G a21, B21, _, _, F22, PySem.W.mg_of X G a22, B22, _, _, F23, PySem.W.mg_of X G a23, B23, _, _, F24, PySem.W.mg_of X G a24, B24, _, _, F25, PySem.W.mg_of X G a25, B25, _, _, F26, PySem.W.mg_of X G a26, B26, _, _, F27, PySem.W.mg_of X G a27, B27, _, _, F28, PySem.W.mg_of X G a28, B28, _, _, F29, PySem.W.mg_of X G a29, B29, _, _, F30, PySem.W.mg_of X G a30, B30, _, _, F31, PySem.W.mg_of X G a31, B31, _, _, F32, PySem.W.mg_of X G a32, B32, _, PySem.W.mg_of X G q_LEAST_SIZE, _, PySem.W.mg_of X G q_MOST_COVERED, _, PySem.W.mg_of X G q_MOST_FACTORS, _, PySem.W.mg_of X G q_MOST_FEWEST, _, PySem.W.mg_of X G q_MOST_FULL, _, PySem.W.mg_of X G q_MOST_SIZE, _, PySem.W.mg_of X G q_MOST_T, PySem.W.mg_none_of X G z_abs, PySem.W.mg_none_of X G z_all, PySem.W.mg_none_of X G z_any, PySem.W.mg_none_of X G z_enumerate, PySem.W.mg_none_of X G z_int, PySem.W.mg_none_of X G z_len, PySem.W.mg_none_of X G z_max, PySem.W.mg_none_of X G z_min, PySem.W.mg_none_of X G z_range, PySem.W.mg_none_of X G z_repr, PySem.W.mg_none_of X G z_set, PySem.W.mg_none_of X G z_sorted, PySem.W.mg_none_of X G z_tuple, PySem.W.mg_none_of X G z_zip⟩⟩
end My
open PySem PySem.W PyProof.Rows
set_option maxHeartbeats 0 in
theorem PySem.Challenge.cw_triedwares_k50_whole_covers_and_next_run_holds : PySem.Challenge.rw_triedwares_k50_whole_covers_and_next_run.Holds := by
  w_on; o_law; k_head; (case hw => w_witness2)
  k_fill
  refine Tw.walkG (l := PySem.Challenge.rw_triedwares_k50_whole_covers_and_next_run) (n := 63) (k := 44) (x := "script") (sp := fun w => Tw.spF _ My.f_law) rfl (by decide) rfl ⟨rfl, by decide, by decide⟩ (fun w h Y => PySem.W.kIn_of Y) ?F (fun w H a ns hl _ hS => Tw.law_in hS (My.law_true ns hl))
  case F =>
    intro w mg fa h KX G hmg
    refine' My.all_mk KX G hmg ?a0 ?l0 ?c0 ?k0 ?a1 ?l1 ?c1 ?k1 ?a2 ?l2 ?c2 ?k2 ?a3 ?l3 ?c3 ?k3 ?a4 ?l4 ?c4 ?k4 ?a5 ?l5 ?c5 ?k5 ?a6 ?l6 ?c6 ?k6 ?a7 ?l7 ?c7 ?k7 ?a8 ?l8 ?c8 ?k8 ?a9 ?l9 ?c9 ?k9 ?a10 ?l10 ?c10 ?k10 ?a11 ?l11 ?c11 ?k11 ?a12 ?l12 ?c12 ?k12 ?a13 ?l13 ?c13 ?k13 ?a14 ?l14 ?c14 ?k14 ?a15 ?l15 ?c15 ?k15 ?a16 ?l16 ?c16 ?k16 ?a17 ?l17 ?c17 ?k17 ?a18 ?l18 ?c18 ?k18 ?a19 ?l19 ?c19 ?k19 ?a20 ?l20 ?c20 ?k20 ?a21 ?l21 ?c21 ?k21 ?a22 ?l22 ?c22 ?k22 ?a23 ?l23 ?c23 ?k23 ?a24 ?l24 ?c24 ?k24 ?a25 ?l25 ?c25 ?k25 ?a26 ?l26 ?c26 ?k26 ?a27 ?l27 ?c27 ?k27 ?a28 ?l28 ?c28 ?k28 ?a29 ?l29 ?c29 ?k29 ?a30 ?l30 ?c30 ?k30 ?a31 ?l31 ?c31 ?k31 ?a32 ?l32 ?c32 ?k32 ?q_LEAST_SIZE ?q_MOST_COVERED ?q_MOST_FACTORS ?q_MOST_FEWEST ?q_MOST_FULL ?q_MOST_SIZE ?q_MOST_T ?z_abs ?z_all ?z_any ?z_enumerate ?z_int ?z_len ?z_max ?z_min ?z_range ?z_repr ?z_set ?z_sorted ?z_tuple ?z_zip
    (case a0 => k_is); (case l0 => k_is); (case c0 => k_is); (case k0 => k_is)
    (case a1 => k_is); (case l1 => k_is); (case c1 => k_is); (case k1 => k_is)
    (case a2 => k_is); (case l2 => k_is); (case c2 => k_is); (case k2 => k_is)
    (case a3 => k_is); (case l3 => k_is); (case c3 => k_is); (case k3 => k_is)
    (case a4 => k_is); (case l4 => k_is); (case c4 => k_is); (case k4 => k_is)
    (case a5 => k_is); (case l5 => k_is); (case c5 => k_is); (case k5 => k_is)
    (case a6 => k_is); (case l6 => k_is); (case c6 => k_is); (case k6 => k_is)
    (case a7 => k_is); (case l7 => k_is); (case c7 => k_is); (case k7 => k_is)
    (case a8 => k_is); (case l8 => k_is); (case c8 => k_is); (case k8 => k_is)
    (case a9 => k_is); (case l9 => k_is); (case c9 => k_is); (case k9 => k_is)
    (case a10 => k_is); (case l10 => k_is); (case c10 => k_is); (case k10 => k_is)
    (case a11 => k_is); (case l11 => k_is); (case c11 => k_is); (case k11 => k_is)
    (case a12 => k_is); (case l12 => k_is); (case c12 => k_is); (case k12 => k_is)
    (case a13 => k_is); (case l13 => k_is); (case c13 => k_is); (case k13 => k_is)
    (case a14 => k_is); (case l14 => k_is); (case c14 => k_is); (case k14 => k_is)
    (case a15 => k_is); (case l15 => k_is); (case c15 => k_is); (case k15 => k_is)
    (case a16 => k_is); (case l16 => k_is); (case c16 => k_is); (case k16 => k_is)
    (case a17 => k_is); (case l17 => k_is); (case c17 => k_is); (case k17 => k_is)
    (case a18 => k_is); (case l18 => k_is); (case c18 => k_is); (case k18 => k_is)
    (case a19 => k_is); (case l19 => k_is); (case c19 => k_is); (case k19 => k_is)
    (case a20 => k_is); (case l20 => k_is); (case c20 => k_is); (case k20 => k_is)
    (case a21 => k_is); (case l21 => k_is); (case c21 => k_is); (case k21 => k_is)
    (case a22 => k_is); (case l22 => k_is); (case c22 => k_is); (case k22 => k_is)
    (case a23 => k_is); (case l23 => k_is); (case c23 => k_is); (case k23 => k_is)
    (case a24 => k_is); (case l24 => k_is); (case c24 => k_is); (case k24 => k_is)
    (case a25 => k_is); (case l25 => k_is); (case c25 => k_is); (case k25 => k_is)
    (case a26 => k_is); (case l26 => k_is); (case c26 => k_is); (case k26 => k_is)
    (case a27 => k_is); (case l27 => k_is); (case c27 => k_is); (case k27 => k_is)
    (case a28 => k_is); (case l28 => k_is); (case c28 => k_is); (case k28 => k_is)
    (case a29 => k_is); (case l29 => k_is); (case c29 => k_is); (case k29 => k_is)
    (case a30 => k_is); (case l30 => k_is); (case c30 => k_is); (case k30 => k_is)
    (case a31 => k_is); (case l31 => k_is); (case c31 => k_is); (case k31 => k_is)
    (case a32 => k_is); (case l32 => k_is); (case c32 => k_is); (case k32 => k_is)
    (case q_LEAST_SIZE => k_is)
    (case q_MOST_COVERED => k_is)
    (case q_MOST_FACTORS => k_is)
    (case q_MOST_FEWEST => k_is)
    (case q_MOST_FULL => k_is)
    (case q_MOST_SIZE => k_is)
    (case q_MOST_T => k_is)
    (case z_abs => k_is)
    (case z_all => k_is)
    (case z_any => k_is)
    (case z_enumerate => k_is)
    (case z_int => k_is)
    (case z_len => k_is)
    (case z_max => k_is)
    (case z_min => k_is)
    (case z_range => k_is)
    (case z_repr => k_is)
    (case z_set => k_is)
    (case z_sorted => k_is)
    (case z_tuple => k_is)
    (case z_zip => k_is)
