import PyProof.Rows.All
import Wide.All
import OpenK.AllK
import Wide.FinOn
import HandS.ForMost
import HandS.Wide
import HandS.Flow
import HandS.Evl
import HandS.Exc
import HandS.TryOnly
import HandS.ExcOwn
import HandS.WordsExc
import KE.DataEq
import KE.DataCmp
import KE.DataMinMax
import KE.DataAny
import KE.DataFind
import KE.SortData
import PyProof.ReprRoads
import HandS.EndBits
import HandS.Style
import PyProof.ReprLen
import PySem.Challenge.RW_triedwares_k31_peaks_and_runs
set_option Elab.async false
set_option linter.all false
set_option maxRecDepth 100000
set_option maxHeartbeats 4000000
/-! Tw1: data in the heap, environments, readings by programs over data -/
namespace Tw
open PySem PySem.Spec PyProof.Rows L2
abbrev D := PyData
/-! ### results -/
inductive R (α : Type) where
  | ok (a : α)
  | ex (c : Nat) (a : D)
  | bad
def R.bind {α β : Type} : R α → (α → R β) → R β
  | .ok a, f => f a
  | .ex c a, _ => .ex c a
  | .bad, _ => .bad
theorem R.bind_ok {α β : Type} {r : R α} {f : α → R β} {b : β} (h : r.bind f = .ok b) : ∃ a, r = .ok a ∧ f a = .ok b := by
  cases r with
  | ok a => exact ⟨a, rfl, h⟩
  | ex c a => cases h
  | bad => cases h
/-! ### data in a heap -/
def keyD : Key → D
  | .inl i => .int i
  | .inr x => .str x
mutual
def At (K : PySem.W.Frag) (H : Hp) : D → V → Prop
  | .none, v => v = .non
  | .bool b, v => v = .bl b
  | .int i, v => v = .int i
  | .str x, v => v = .str x
  | .list ds, v => ∃ a xs, v = .ref a ∧ SqL K H a xs ∧ AtL K H ds xs
  | .tuple ds, v => ∃ a xs, v = .ref a ∧ SqT K H a xs ∧ AtL K H ds xs
  | .dict es, v => ∃ a, v = .ref a ∧ ((∃ kvs, Rd H a (.dK kvs) ∧ AtK K H es kvs) ∨ (∃ kvs, Rd H a (.dT kvs) ∧ AtT K H es kvs) ∨
      ∃ (S : Int → Bool) (n : Nat) (xs : List Int), Rd H a (.set S n) ∧ es = [(.none, .list ((xs : List Int).map .int))] ∧ xs.Nodup ∧ (∀ i, S i = true ↔ i ∈ xs) ∧ xs.length = n)
def AtL (K : PySem.W.Frag) (H : Hp) : List D → List V → Prop
  | [], xs => xs = []
  | d :: ds, xs => ∃ v vs, xs = v :: vs ∧ At K H d v ∧ AtL K H ds vs
def AtK (K : PySem.W.Frag) (H : Hp) : List (D × D) → List (Key × V) → Prop
  | [], ks => ks = []
  | (k, d) :: es, ks => ∃ c v r, ks = (c, v) :: r ∧ k = keyD c ∧ At K H d v ∧ AtK K H es r
def AtT (K : PySem.W.Frag) (H : Hp) : List (D × D) → List (List Key × V) → Prop
  | [], ks => ks = []
  | (k, d) :: es, ks => ∃ c v r, ks = (c, v) :: r ∧ k = .tuple (c.map keyD) ∧ At K H d v ∧ AtT K H es r
end
abbrev Ex := Evl.Ex
theorem ex_rd {H H' : Hp} {a : Addr} {u : HO} (e : Ex H H') (h : Rd H a u) : Rd H' a u := Evl.ex_rd e h
mutual
theorem At.mono {K : PySem.W.Frag} {H H' : Hp} (e : Ex H H') : ∀ (d : D) (v : V), At K H d v → At K H' d v
  | .none, v, h => h
  | .bool b, v, h => h
  | .int i, v, h => h
  | .str x, v, h => h
  | .list ds, v, ⟨a, xs, h1, h2, h3⟩ => ⟨a, xs, h1, Evl.ex_l e h2, AtL.mono e ds xs h3⟩
  | .tuple ds, v, ⟨a, xs, h1, h2, h3⟩ => ⟨a, xs, h1, Evl.ex_t e h2, AtL.mono e ds xs h3⟩
  | .dict es, v, ⟨a, h1, h2⟩ => ⟨a, h1, by
    rcases h2 with ⟨kvs, r, h⟩ | ⟨kvs, r, h⟩ | ⟨S, n, xs, r, h⟩
    · exact .inl ⟨kvs, ex_rd e r, AtK.mono e es kvs h⟩
    · exact .inr (.inl ⟨kvs, ex_rd e r, AtT.mono e es kvs h⟩)
    · exact .inr (.inr ⟨S, n, xs, ex_rd e r, h⟩)⟩
theorem AtL.mono {K : PySem.W.Frag} {H H' : Hp} (e : Ex H H') : ∀ (ds : List D) (vs : List V), AtL K H ds vs → AtL K H' ds vs
  | [], vs, h => h
  | d :: ds, vs, ⟨v, r, h1, h2, h3⟩ => ⟨v, r, h1, At.mono e d v h2, AtL.mono e ds r h3⟩
theorem AtK.mono {K : PySem.W.Frag} {H H' : Hp} (e : Ex H H') : ∀ (es : List (D × D)) (ks : List (Key × V)), AtK K H es ks → AtK K H' es ks
  | [], ks, h => h
  | (k, d) :: es, ks, ⟨c, v, r, h1, h0, h2, h3⟩ => ⟨c, v, r, h1, h0, At.mono e d v h2, AtK.mono e es r h3⟩
theorem AtT.mono {K : PySem.W.Frag} {H H' : Hp} (e : Ex H H') : ∀ (es : List (D × D)) (ks : List (List Key × V)), AtT K H es ks → AtT K H' es ks
  | [], ks, h => h
  | (k, d) :: es, ks, ⟨c, v, r, h1, h0, h2, h3⟩ => ⟨c, v, r, h1, h0, At.mono e d v h2, AtT.mono e es r h3⟩
end
/-- an own, changeable object's content -/
def Own (K : PySem.W.Frag) (H : Hp) (o : HO) (d : D) : Prop :=
  (∃ vs ds, o = .lst vs ∧ d = .list ds ∧ AtL K H ds vs) ∨ (∃ kvs es, o = .dK kvs ∧ d = .dict es ∧ AtK K H es kvs) ∨ (∃ kvs es, o = .dT kvs ∧ d = .dict es ∧ AtT K H es kvs) ∨
    ∃ (S : Int → Bool) (n : Nat) (xs : List Int), o = .set S n ∧ d = .dict [(.none, .list ((xs : List Int).map .int))] ∧ xs.Nodup ∧ (∀ i, S i = true ↔ i ∈ xs) ∧ xs.length = n
theorem Own.mono {K : PySem.W.Frag} {H H' : Hp} (e : Ex H H') {o : HO} {d : D} (h : Own K H o d) : Own K H' o d := by
  rcases h with ⟨vs, ds, h1, h2, h⟩ | ⟨kvs, es, h1, h2, h⟩ | ⟨kvs, es, h1, h2, h⟩ | h
  · exact .inl ⟨vs, ds, h1, h2, AtL.mono e ds vs h⟩
  · exact .inr (.inl ⟨kvs, es, h1, h2, AtK.mono e es kvs h⟩)
  · exact .inr (.inr (.inl ⟨kvs, es, h1, h2, AtT.mono e es kvs h⟩))
  · exact .inr (.inr (.inr h))
theorem Own.at {K : PySem.W.Frag} {H : Hp} {a : Addr} {o : HO} {d : D} (r : H a = some o) (h : Own K H o d) : At K H d (.ref a) := by
  rcases h with ⟨vs, ds, h1, h2, h⟩ | ⟨kvs, es, h1, h2, h⟩ | ⟨kvs, es, h1, h2, h⟩ | ⟨S, n, xs, h1, h2, h⟩
  · subst h1 h2
    exact ⟨a, vs, rfl, SqL.of r, h⟩
  · subst h1 h2
    exact ⟨a, rfl, .inl ⟨kvs, .inl r, h⟩⟩
  · subst h1 h2
    exact ⟨a, rfl, .inr (.inl ⟨kvs, .inl r, h⟩)⟩
  · subst h1 h2
    exact ⟨a, rfl, .inr (.inr ⟨S, n, xs, .inl r, rfl, h⟩)⟩
/-- flat data lean on no object -/
def flat : D → Bool
  | .none | .bool _ | .int _ | .str _ => true
  | _ => false
theorem At.flat {K : PySem.W.Frag} {H H' : Hp} : ∀ {d : D} {v : V}, flat d = true → At K H d v → At K H' d v
  | .none, _, _, h => h
  | .bool _, _, _, h => h
  | .int _, _, _, h => h
  | .str _, _, _, h => h
  | .list _, _, f, _ => by cases f
  | .tuple _, _, f, _ => by cases f
  | .dict _, _, f, _ => by cases f
/-! ### the heap without what is owned -/
def hid (M : List Addr) (H : Hp) : Hp := fun a => if a ∈ M then none else H a
theorem hid_of {M : List Addr} {H : Hp} {a : Addr} {o : HO} (h : H a = some o) (n : a ∉ M) : hid M H a = some o := by
  unfold hid
  rw [if_neg n]
  exact h
theorem of_hid {M : List Addr} {H : Hp} {a : Addr} {o : HO} (h : hid M H a = some o) : H a = some o ∧ a ∉ M := by
  unfold hid at h
  by_cases e : a ∈ M
  · rw [if_pos e] at h
    cases h
  · rw [if_neg e] at h
    exact ⟨h, e⟩
theorem hid_ex {M : List Addr} {H H' : Hp} (e : Ex H H') : Ex (hid M H) (hid M H') := fun a o h => hid_of (e a o (of_hid h).1) (of_hid h).2
theorem hid_sub {M M' : List Addr} {H : Hp} (s : ∀ a, a ∈ M → a ∈ M') : Ex (hid M' H) (hid M H) := fun a o h => hid_of (of_hid h).1 fun z => (of_hid h).2 (s a z)
theorem hid_le {M : List Addr} {H : Hp} : Ex (hid M H) H := fun a o h => (of_hid h).1
/-- a new address, hidden from then on -/
theorem hid_new {M : List Addr} {H H' : Hp} {p : Addr} (e : Ex H H') (n : H p = none) : Ex (hid M H) (hid (p :: M) H') := fun a o h => by
  refine hid_of (e a o (of_hid h).1) fun z => ?_
  rcases List.mem_cons.mp z with z | z
  · rw [z] at h
    rw [(of_hid h).1] at n
    cases n
  · exact (of_hid h).2 z
theorem hid_upd {M : List Addr} {H : Hp} {a : Addr} {o : HO} (m : a ∈ M) : hid M (upd H a o) = hid M H := by
  funext b
  unfold hid
  by_cases e : b ∈ M
  · rw [if_pos e, if_pos e]
  · rw [if_neg e, if_neg e, upd_ne (fun z : b = a => e (by rw [z]; exact m))]
/-! ### environments -/
inductive SV where
  | no
  | im (d : D)
  | mu (d : D)
abbrev Nv := List SV
def gt : Nv → Nat → SV
  | [], _ => .no
  | s :: _, 0 => s
  | _ :: r, i + 1 => gt r i
def st : Nv → Nat → SV → Nv
  | [], _, _ => []
  | _ :: r, 0, s => s :: r
  | x :: r, i + 1, s => x :: st r i s
theorem st_len : ∀ (ε : Nv) (i : Nat) (s : SV), (st ε i s).length = ε.length
  | [], _, _ => rfl
  | _ :: _, 0, _ => rfl
  | x :: r, i + 1, s => by
    show (st r i s).length + 1 = r.length + 1
    rw [st_len r i s]
theorem gt_same : ∀ {ε : Nv} {i : Nat} {s : SV}, i < ε.length → gt (st ε i s) i = s
  | [], _, _, h => absurd h (Nat.not_lt_zero _)
  | _ :: _, 0, _, _ => rfl
  | _ :: r, i + 1, s, h => gt_same (ε := r) (i := i) (Nat.lt_of_succ_lt_succ h)
theorem gt_ne : ∀ {ε : Nv} {i j : Nat} {s : SV}, j ≠ i → gt (st ε i s) j = gt ε j
  | [], _, _, _, _ => rfl
  | _ :: _, 0, 0, _, h => absurd rfl h
  | _ :: _, 0, _ + 1, _, _ => rfl
  | _ :: _, _ + 1, 0, _, _ => rfl
  | _ :: r, i + 1, j + 1, s, h => gt_ne (ε := r) fun e => h (congrArg _ e)
theorem gt_lt : ∀ {ε : Nv} {i : Nat}, gt ε i ≠ .no → i < ε.length
  | [], _, h => absurd rfl h
  | _ :: _, 0, _ => Nat.succ_pos _
  | _ :: r, i + 1, h => Nat.succ_lt_succ (gt_lt (ε := r) h)
/-- what stays the same through a body: the ground, the heap at the entry, the callers' own objects, whether the answer is to be new -/
structure Cf where
  K : PySem.W.Frag
  H0 : Hp
  M0 : List Addr
  fr : Bool
structure Rel (c : Cf) (σ : L2.St) (H : Hp) (ε : Nv) (M : List Addr) : Prop where
  ext : Ex c.H0 H
  len : σ.length = ε.length
  sub : ∀ a, a ∈ c.M0 → a ∈ M
  trk : ∀ a, a ∈ M → ∃ o, H a = some o
  old : ∀ a, a ∈ c.M0 → c.H0 a ≠ none
  im : ∀ i d, gt ε i = .im d → ∃ v, σ[i]? = some (some v) ∧ At c.K (hid M H) d v
  mu : ∀ i d, gt ε i = .mu d → ∃ a o, σ[i]? = some (some (.ref a)) ∧ a ∈ M ∧ c.H0 a = none ∧ H a = some o ∧ Own c.K (hid M H) o d
  dis : ∀ i j d e a b, i ≠ j → gt ε i = .mu d → gt ε j = .mu e → σ[i]? = some (some (.ref a)) → σ[j]? = some (some (.ref b)) → a ≠ b
theorem Rel.ex {c : Cf} {σ : L2.St} {H H' : Hp} {ε : Nv} {M : List Addr} (r : Rel c σ H ε M) (e : Ex H H') : Rel c σ H' ε M where
  ext := r.ext.trans e
  len := r.len
  sub := r.sub
  trk := fun a h => let ⟨o, q⟩ := r.trk a h; ⟨o, e a o q⟩
  old := r.old
  im := fun i d h => let ⟨v, h1, h2⟩ := r.im i d h; ⟨v, h1, At.mono (hid_ex e) d v h2⟩
  mu := fun i d h => let ⟨a, o, h1, h2, h3, h4, h5⟩ := r.mu i d h; ⟨a, o, h1, h2, h3, e a o h4, h5.mono (hid_ex e)⟩
  dis := r.dis
theorem Rel.notM {c : Cf} {σ : L2.St} {H : Hp} {ε : Nv} {M : List Addr} (r : Rel c σ H ε M) {p : Addr} (n : H p = none) : p ∉ M := fun h => by
  obtain ⟨o, q⟩ := r.trk p h
  rw [n] at q
  cases q
/-- a name is stored: data -/
theorem Rel.set {c : Cf} {σ : L2.St} {H : Hp} {ε : Nv} {M : List Addr} (r : Rel c σ H ε M) {i : Nat} {d : D} {v : V} (h : At c.K (hid M H) d v) : Rel c (σ.set i (some v)) H (st ε i (.im d)) M where
  ext := r.ext
  len := by rw [List.length_set, st_len, r.len]
  sub := r.sub
  trk := r.trk
  old := r.old
  im := fun j e he => by
    by_cases q : j = i
    · subst q
      have hl : j < ε.length := by
        have := gt_lt (ε := st ε j (.im d)) (i := j) (by rw [he]; intro z; cases z)
        rwa [st_len] at this
      rw [gt_same hl] at he
      cases he
      exact ⟨v, by rw [List.getElem?_set_self (by rw [r.len]; exact hl)], h⟩
    · rw [gt_ne q] at he
      obtain ⟨w, h1, h2⟩ := r.im j e he
      exact ⟨w, by rw [List.getElem?_set_ne (Ne.symm q)]; exact h1, h2⟩
  mu := fun j e he => by
    by_cases q : j = i
    · subst q
      have hl : j < ε.length := by
        have := gt_lt (ε := st ε j (.im d)) (i := j) (by rw [he]; intro z; cases z)
        rwa [st_len] at this
      rw [gt_same hl] at he
      cases he
    · rw [gt_ne q] at he
      obtain ⟨a, o, h1, h2⟩ := r.mu j e he
      exact ⟨a, o, by rw [List.getElem?_set_ne (Ne.symm q)]; exact h1, h2⟩
  dis := fun j k e f a b hjk hj hk h1 h2 => by
    by_cases q : j = i
    · subst q
      have hl : j < ε.length := by
        have := gt_lt (ε := st ε j (.im d)) (i := j) (by rw [hj]; intro z; cases z)
        rwa [st_len] at this
      rw [gt_same hl] at hj
      cases hj
    · by_cases q2 : k = i
      · subst q2
        have hl : k < ε.length := by
          have := gt_lt (ε := st ε k (.im d)) (i := k) (by rw [hk]; intro z; cases z)
          rwa [st_len] at this
        rw [gt_same hl] at hk
        cases hk
      · rw [gt_ne q] at hj
        rw [gt_ne q2] at hk
        rw [List.getElem?_set_ne (Ne.symm q)] at h1
        rw [List.getElem?_set_ne (Ne.symm q2)] at h2
        exact r.dis j k e f a b hjk hj hk h1 h2
/-- a name is stored: a new object of one's own -/
theorem Rel.setMu {c : Cf} {σ : L2.St} {H H' : Hp} {ε : Nv} {M : List Addr} (r : Rel c σ H ε M) {i : Nat} {d : D} {p : Addr} {o : HO} (n : H p = none) (e : Ex H H') (hp : H' p = some o) (h : Own c.K (hid (p :: M) H') o d) :
    Rel c (σ.set i (some (.ref p))) H' (st ε i (.mu d)) (p :: M) where
  ext := r.ext.trans e
  len := by rw [List.length_set, st_len, r.len]
  sub := fun a ha => List.mem_cons_of_mem _ (r.sub a ha)
  trk := fun a ha => by
    rcases List.mem_cons.mp ha with q | q
    · exact ⟨o, by rw [q]; exact hp⟩
    · obtain ⟨u, q⟩ := r.trk a q
      exact ⟨u, e a u q⟩
  old := r.old
  im := fun j f he => by
    by_cases q : j = i
    · subst q
      have hl : j < ε.length := by
        have := gt_lt (ε := st ε j (.mu d)) (i := j) (by rw [he]; intro z; cases z)
        rwa [st_len] at this
      rw [gt_same hl] at he
      cases he
    · rw [gt_ne q] at he
      obtain ⟨w, h1, h2⟩ := r.im j f he
      exact ⟨w, by rw [List.getElem?_set_ne (Ne.symm q)]; exact h1, At.mono (hid_new e n) f w h2⟩
  mu := fun j f he => by
    by_cases q : j = i
    · subst q
      have hl : j < ε.length := by
        have := gt_lt (ε := st ε j (.mu d)) (i := j) (by rw [he]; intro z; cases z)
        rwa [st_len] at this
      rw [gt_same hl] at he
      cases he
      refine ⟨p, o, by rw [List.getElem?_set_self (by rw [r.len]; exact hl)], List.mem_cons_self, ?_, hp, h⟩
      cases q : c.H0 p with
      | none => rfl
      | some u =>
        have := r.ext p u q
        rw [n] at this
        cases this
    · rw [gt_ne q] at he
      obtain ⟨a, u, h1, h2, h3, h4, h5⟩ := r.mu j f he
      exact ⟨a, u, by rw [List.getElem?_set_ne (Ne.symm q)]; exact h1, List.mem_cons_of_mem _ h2, h3, e a u h4, h5.mono (hid_new e n)⟩
  dis := fun j k f g a b hjk hj hk h1 h2 => by
    have hM : ∀ j, j ≠ i → ∀ f a, gt (st ε i (.mu d)) j = .mu f → (σ.set i (some (.ref p)))[j]? = some (some (.ref a)) → a ≠ p := fun j q f a hj h1 => by
      rw [gt_ne q] at hj
      rw [List.getElem?_set_ne (Ne.symm q)] at h1
      obtain ⟨a', u, h1', h2', _⟩ := r.mu j f hj
      rw [h1] at h1'
      cases h1'
      exact fun z => r.notM n (z ▸ h2')
    by_cases q : j = i
    · subst q
      have hl : j < ε.length := by
        have := gt_lt (ε := st ε j (.mu d)) (i := j) (by rw [hj]; intro z; cases z)
        rwa [st_len] at this
      rw [List.getElem?_set_self (by rw [r.len]; exact hl)] at h1
      cases h1
      exact (hM k (Ne.symm hjk) g b hk h2).symm
    · by_cases q2 : k = i
      · subst q2
        have hl : k < ε.length := by
          have := gt_lt (ε := st ε k (.mu d)) (i := k) (by rw [hk]; intro z; cases z)
          rwa [st_len] at this
        rw [List.getElem?_set_self (by rw [r.len]; exact hl)] at h2
        cases h2
        exact hM j q f a hj h1
      · rw [gt_ne q] at hj
        rw [gt_ne q2] at hk
        rw [List.getElem?_set_ne (Ne.symm q)] at h1
        rw [List.getElem?_set_ne (Ne.symm q2)] at h2
        exact r.dis j k f g a b hjk hj hk h1 h2
/-- one's own object is changed -/
theorem Rel.upd {c : Cf} {σ : L2.St} {H : Hp} {ε : Nv} {M : List Addr} (r : Rel c σ H ε M) {i : Nat} {d d' : D} {a : Addr} {o' : HO} (g : gt ε i = .mu d) (s : σ[i]? = some (some (.ref a))) (h : Own c.K (hid M H) o' d') :
    Rel c σ (L2.upd H a o') (st ε i (.mu d')) M := by
  obtain ⟨a', o, h1, h2, h3, h4, h5⟩ := r.mu i d g
  rw [s] at h1
  cases h1
  have hl : i < ε.length := gt_lt (by rw [g]; intro z; cases z)
  have hh : hid M (L2.upd H a o') = hid M H := hid_upd h2
  refine ⟨r.ext.mut h3, by rw [st_len]; exact r.len, r.sub, fun b hb => ?_, r.old, fun j f he => ?_, fun j f he => ?_, fun j k f g' a1 b1 hjk hj hk h1 h2' => ?_⟩
  · by_cases q : b = a
    · exact ⟨o', by rw [q]; exact upd_same⟩
    · obtain ⟨u, q2⟩ := r.trk b hb
      exact ⟨u, by rw [upd_ne q]; exact q2⟩
  · by_cases q : j = i
    · subst q
      rw [gt_same hl] at he
      cases he
    · rw [gt_ne q] at he
      rw [hh]
      exact r.im j f he
  · by_cases q : j = i
    · subst q
      rw [gt_same hl] at he
      cases he
      exact ⟨a, o', s, h2, h3, upd_same, by rw [hh]; exact h⟩
    · rw [gt_ne q] at he
      obtain ⟨b, u, q1, q2, q3, q4, q5⟩ := r.mu j f he
      have ne : b ≠ a := r.dis j i f d b a q he g q1 s
      exact ⟨b, u, q1, q2, q3, by rw [upd_ne ne]; exact q4, by rw [hh]; exact q5⟩
  · have back : ∀ j f, gt (st ε i (.mu d')) j = .mu f → ∃ f', gt ε j = .mu f' := fun j f hj => by
      by_cases q : j = i
      · subst q
        exact ⟨d, g⟩
      · rw [gt_ne q] at hj
        exact ⟨f, hj⟩
    obtain ⟨f1, e1⟩ := back j f hj
    obtain ⟨f2, e2⟩ := back k g' hk
    exact r.dis j k f1 f2 a1 b1 hjk e1 e2 h1 h2'
/-- one's own object as data, from now on -/
theorem Rel.frz {c : Cf} {σ : L2.St} {H : Hp} {ε : Nv} {M : List Addr} (r : Rel c σ H ε M) {i : Nat} {d : D} (g : gt ε i = .mu d) : ∃ M', (∀ a, a ∈ M' → a ∈ M) ∧ Rel c σ H (st ε i (.im d)) M' := by
  obtain ⟨a, o, h1, h2, h3, h4, h5⟩ := r.mu i d g
  have hl : i < ε.length := gt_lt (by rw [g]; intro z; cases z)
  have sub : ∀ b, b ∈ M.filter (fun b => decide (b ≠ a)) → b ∈ M := fun b hb => (List.mem_filter.mp hb).1
  have keep : ∀ b, b ∈ M → b ≠ a → b ∈ M.filter (fun b => decide (b ≠ a)) := fun b hb n => List.mem_filter.mpr ⟨hb, decide_eq_true n⟩
  have na : a ∉ M.filter (fun b => decide (b ≠ a)) := fun z => of_decide_eq_true (List.mem_filter.mp z).2 rfl
  refine ⟨M.filter (fun b => decide (b ≠ a)), sub, ?_⟩
  have hs : Ex (hid M H) (hid (M.filter (fun b => decide (b ≠ a))) H) := hid_sub sub
  refine ⟨r.ext, by rw [st_len]; exact r.len, fun b hb => keep b (r.sub b hb) fun z => r.old b hb (z ▸ h3), fun b hb => r.trk b (sub b hb), r.old, fun j f he => ?_, fun j f he => ?_, fun j k f g' a1 b1 hjk hj hk q1 q2 => ?_⟩
  · by_cases q : j = i
    · subst q
      rw [gt_same hl] at he
      cases he
      exact ⟨.ref a, h1, Own.at (hid_of h4 na) (h5.mono hs)⟩
    · rw [gt_ne q] at he
      obtain ⟨v, p1, p2⟩ := r.im j f he
      exact ⟨v, p1, At.mono hs f v p2⟩
  · by_cases q : j = i
    · subst q
      rw [gt_same hl] at he
      cases he
    · rw [gt_ne q] at he
      obtain ⟨b, u, p1, p2, p3, p4, p5⟩ := r.mu j f he
      exact ⟨b, u, p1, keep b p2 (r.dis j i f d b a q he g p1 h1), p3, p4, p5.mono hs⟩
  · by_cases q : j = i
    · subst q
      rw [gt_same hl] at hj
      cases hj
    · by_cases q3 : k = i
      · subst q3
        rw [gt_same hl] at hk
        cases hk
      · rw [gt_ne q] at hj
        rw [gt_ne q3] at hk
        exact r.dis j k f g' a1 b1 hjk hj hk q1 q2
end Tw
set_option Elab.async false
set_option linter.all false
set_option maxRecDepth 100000
set_option maxHeartbeats 4000000
/-! Tw2: readings by programs over data: expressions -/
namespace Tw
open PySem PySem.Spec PyProof.Rows L2
abbrev Trk (M : List Addr) (H : Hp) : Prop := ∀ a, a ∈ M → ∃ o, H a = some o
theorem Trk.ex {M : List Addr} {H H' : Hp} (t : Trk M H) (e : Ex H H') : Trk M H' := fun a h => let ⟨o, q⟩ := t a h; ⟨o, e a o q⟩
theorem Trk.no {M : List Addr} {H : Hp} (t : Trk M H) {p : Addr} (n : H p = none) : p ∉ M := fun h => by
  obtain ⟨o, q⟩ := t p h
  rw [n] at q
  cases q
/-! ### the readings -/
def rdE (c : Cf) (m : Nv → R D) : TE := fun σ H Q => ∃ ε M, Rel c σ H ε M ∧ ∃ d, m ε = .ok d ∧ ∀ v H', Ex H H' → At c.K (hid M H') d v → Q v H'
/-- the same, the value a new object -/
def rdL (c : Cf) (m : Nv → R D) : TE := fun σ H Q => ∃ ε M, Rel c σ H ε M ∧ ∃ d, m ε = .ok d ∧ ∀ p o H', H p = none → Ex H H' → H' p = some o → Own c.K (hid (p :: M) H') o d → Q (.ref p) H'
def rdT (c : Cf) (m : Nv → R Bool) : TT := fun σ H Q => ∃ ε M, Rel c σ H ε M ∧ ∃ b, m ε = .ok b ∧ ∀ H', Ex H H' → Q b H'
def rdA (c : Cf) (m : Nv → R (List D)) : TA := fun σ H Q => ∃ ε M, Rel c σ H ε M ∧ ∃ ds, m ε = .ok ds ∧ ∀ vs H', Ex H H' → AtL c.K (hid M H') ds vs → Q vs H'
/-! ### weakenings -/
section
variable {X : Cx} {c : Cf}
theorem _root_.L2.PE.wk {e : Expr} {t t' : TE} (h : PE X e t) (i : ∀ σ H Q, t' σ H Q → t σ H Q) : PE X e t' := ⟨fun pins s σ H Q I q => h.run pins s σ H Q I (i σ H Q q)⟩
theorem _root_.L2.PT.wk {e : Expr} {t t' : TT} (h : PT X e t) (i : ∀ σ H Q, t' σ H Q → t σ H Q) : PT X e t' := ⟨fun pins s σ H Q I q => h.run pins s σ H Q I (i σ H Q q)⟩
theorem _root_.L2.PA.wk {e : List Expr} {t t' : TA} (h : PA X e t) (i : ∀ σ H Q, t' σ H Q → t σ H Q) : PA X e t' := ⟨fun pos pins s σ H Q I q => h.run pos pins s σ H Q I (i σ H Q q)⟩
theorem _root_.L2.PS.wk {e : Stmt} {t t' : TS} (h : PS X e t) (i : ∀ D σ H, t' D σ H → t D σ H) : PS X e t' := ⟨fun pins s σ H D I q => h.run pins s σ H D I (i D σ H q)⟩
theorem _root_.L2.PSs.wk {e : List Stmt} {t t' : TS} (h : PSs X e t) (i : ∀ D σ H, t' D σ H → t D σ H) : PSs X e t' := ⟨fun pins s σ H D I q => h.run pins s σ H D I (i D σ H q)⟩
theorem own_new {K : PySem.W.Frag} {M : List Addr} {H H' : Hp} {p : Addr} {o : HO} {d : D} (t : Trk M H) (n : H p = none) (hp : H' p = some o) (h : Own K (hid (p :: M) H') o d) : At K (hid M H') d (.ref p) :=
  Own.at (hid_of hp (t.no n)) (h.mono (hid_sub fun a ha => List.mem_cons_of_mem _ ha))
/-- a new object is data -/
theorem PE.lE {e : Expr} {m : Nv → R D} (h : PE X e (rdL c m)) : PE X e (rdE c m) := h.wk fun σ H Q ⟨ε, M, r, d, hm, q⟩ => ⟨ε, M, r, d, hm, fun p o H' n e hp ho => q _ H' e (own_new (Trk.ex r.trk (Evl.Ex.refl _)) n hp ho)⟩
/-! ### atoms -/
def xV (i : Nat) : Nv → R D := fun ε => match gt ε i with | .im d => .ok d | _ => .bad
def xC (d : D) : Nv → R D := fun _ => .ok d
theorem xV_ok {i : Nat} {ε : Nv} {d : D} (h : xV i ε = .ok d) : gt ε i = .im d := by
  unfold xV at h
  cases e : gt ε i with
  | no => rw [e] at h; cases h
  | mu f => rw [e] at h; cases h
  | im f => rw [e] at h; cases h; rfl
theorem pe_v {e : Expr} {i : Nat} (h : PE X e (tVar i)) : PE X e (rdE c (xV i)) := h.wk fun σ H Q ⟨ε, M, r, d, hm, q⟩ => by
  obtain ⟨v, h1, h2⟩ := r.im i d (xV_ok hm)
  exact ⟨v, h1, q v H (Evl.Ex.refl H) h2⟩
theorem pe_k {e : Expr} {v : V} {d : D} (h : PE X e (tC v)) (hd : ∀ K H, At K H d v) : PE X e (rdE c (xC d)) := h.wk fun σ H Q ⟨ε, M, r, d', hm, q⟩ => by
  cases hm
  exact q v H (Evl.Ex.refl H) (hd _ _)
theorem pk_int {i : Int} {j pos} : PE X (.Constant (.int i) j pos) (rdE c (xC (.int i))) := pe_k pe_int fun _ _ => rfl
theorem pk_bl {b : Bool} {j pos} : PE X (.Constant (.bool b) j pos) (rdE c (xC (.bool b))) := pe_k pe_bl fun _ _ => rfl
theorem pk_non {j pos} : PE X (.Constant .none j pos) (rdE c (xC .none)) := pe_k pe_non fun _ _ => rfl
theorem pk_str {x j pos} : PE X (.Constant (.str x) j pos) (rdE c (xC (.str x))) := pe_k pe_str fun _ _ => rfl
/-- a constant of the module -/
theorem pk_glob {x : Str} {v : V} {u : Value} {d : D} {pos : Pos} (hg : Gl X x) (hm : X.mg x = some u) (r : RelV v u) (hd : ∀ K H, At K H d v) (hdb : (x == ("__debug__" : Str)) = false := by decide) : PE X (.Name x pos) (rdE c (xC d)) := pe_k (pe_glob hg hm r hdb) hd
/-! ### lists of expressions -/
def xNil : Nv → R (List D) := fun _ => .ok []
def xCons (m : Nv → R D) (r : Nv → R (List D)) : Nv → R (List D) := fun ε => (m ε).bind fun d => (r ε).bind fun ds => .ok (d :: ds)
theorem pa_n : PA X [] (rdA c xNil) := pa_nil.wk fun σ H Q ⟨ε, M, r, ds, hm, q⟩ => by
  cases hm
  exact q [] H (Evl.Ex.refl H) rfl
theorem pa_c {e : Expr} {es : List Expr} {m : Nv → R D} {ms : Nv → R (List D)} (h : PE X e (rdE c m)) (hs : PA X es (rdA c ms)) (hst : starEach (e :: es) X.env = (false, eval e X.env) :: starEach es X.env := by rfl) : PA X (e :: es) (rdA c (xCons m ms)) :=
  (pa_cons h hs hst).wk fun σ H Q ⟨ε, M, r, ds, hm, q⟩ => by
    obtain ⟨d, h1, h2⟩ := R.bind_ok hm
    obtain ⟨dr, h3, h4⟩ := R.bind_ok h2
    cases h4
    exact ⟨ε, M, r, d, h1, fun v H1 e1 hv => ⟨ε, M, r.ex e1, dr, h3, fun vs H2 e2 hvs => q (v :: vs) H2 (e1.trans e2) ⟨v, vs, rfl, At.mono (hid_ex e2) d v hv, hvs⟩⟩⟩
/-! ### values in, a value out -/
def r1D (K : PySem.W.Frag) (f : D → R D) : V → Hp → VK → Prop := fun x H Q => ∃ M a d, Trk M H ∧ At K (hid M H) a x ∧ f a = .ok d ∧ ∀ v H', Ex H H' → At K (hid M H') d v → Q v H'
def r2D (K : PySem.W.Frag) (f : D → D → R D) : R2 := fun x y H Q => ∃ M a b d, Trk M H ∧ At K (hid M H) a x ∧ At K (hid M H) b y ∧ f a b = .ok d ∧ ∀ v H', Ex H H' → At K (hid M H') d v → Q v H'
def r2L (K : PySem.W.Frag) (f : D → D → R D) : R2 := fun x y H Q => ∃ M a b d, Trk M H ∧ At K (hid M H) a x ∧ At K (hid M H) b y ∧ f a b = .ok d ∧ ∀ p o H', H p = none → Ex H H' → H' p = some o → Own K (hid (p :: M) H') o d → Q (.ref p) H'
def rnD (K : PySem.W.Frag) (f : List D → R D) : List V → Hp → VK → Prop := fun xs H Q => ∃ M as d, Trk M H ∧ AtL K (hid M H) as xs ∧ f as = .ok d ∧ ∀ v H', Ex H H' → At K (hid M H') d v → Q v H'
def rnL (K : PySem.W.Frag) (f : List D → R D) : List V → Hp → VK → Prop := fun xs H Q => ∃ M as d, Trk M H ∧ AtL K (hid M H) as xs ∧ f as = .ok d ∧ ∀ p o H', H p = none → Ex H H' → H' p = some o → Own K (hid (p :: M) H') o d → Q (.ref p) H'
theorem r2L.D {K : PySem.W.Frag} {f : D → D → R D} {x y : V} {H : Hp} {Q : VK} (h : r2D K f x y H Q) : r2L K f x y H Q := by
  obtain ⟨M, a, b, d, t, ha, hb, hf, q⟩ := h
  exact ⟨M, a, b, d, t, ha, hb, hf, fun p o H' n e hp ho => q _ H' e (own_new t n hp ho)⟩
theorem rnL.D {K : PySem.W.Frag} {f : List D → R D} {xs : List V} {H : Hp} {Q : VK} (h : rnD K f xs H Q) : rnL K f xs H Q := by
  obtain ⟨M, a, d, t, ha, hf, q⟩ := h
  exact ⟨M, a, d, t, ha, hf, fun p o H' n e hp ho => q _ H' e (own_new t n hp ho)⟩
def xBin (f : D → D → R D) (ma mb : Nv → R D) : Nv → R D := fun ε => (ma ε).bind fun a => (mb ε).bind fun b => f a b
def xUn (f : D → R D) (ma : Nv → R D) : Nv → R D := fun ε => (ma ε).bind f
def xCall (f : List D → R D) (ms : Nv → R (List D)) : Nv → R D := fun ε => (ms ε).bind f
variable {a b : Expr} {ma mb : Nv → R D} {ms : Nv → R (List D)} {pos : Pos}
theorem tOp_rd {r : R2} {f : D → D → R D} (hr : ∀ x y H Q, r2D c.K f x y H Q → r x y H Q) : ∀ σ H Q, rdE c (xBin f ma mb) σ H Q → tOp r (rdE c ma) (rdE c mb) σ H Q := fun σ H Q ⟨ε, M, re, d, hm, q⟩ => by
  obtain ⟨x, h1, h2⟩ := R.bind_ok hm
  obtain ⟨y, h3, h4⟩ := R.bind_ok h2
  exact ⟨ε, M, re, x, h1, fun v H1 e1 hv => ⟨ε, M, re.ex e1, y, h3, fun u H2 e2 hu => hr _ _ _ _ ⟨M, x, y, d, Trk.ex re.trk (e1.trans e2), At.mono (hid_ex e2) x v hv, hu, h4, fun w H3 e3 hw => q w H3 ((e1.trans e2).trans e3) hw⟩⟩⟩
theorem tOp_rdL {r : R2} {f : D → D → R D} (hr : ∀ x y H Q, r2L c.K f x y H Q → r x y H Q) : ∀ σ H Q, rdL c (xBin f ma mb) σ H Q → tOp r (rdE c ma) (rdE c mb) σ H Q := fun σ H Q ⟨ε, M, re, d, hm, q⟩ => by
  obtain ⟨x, h1, h2⟩ := R.bind_ok hm
  obtain ⟨y, h3, h4⟩ := R.bind_ok h2
  refine ⟨ε, M, re, x, h1, fun v H1 e1 hv => ⟨ε, M, re.ex e1, y, h3, fun u H2 e2 hu => hr _ _ _ _ ⟨M, x, y, d, Trk.ex re.trk (e1.trans e2), At.mono (hid_ex e2) x v hv, hu, h4, fun p o H3 n e3 hp ho => q p o H3 ?_ ((e1.trans e2).trans e3) hp ho⟩⟩⟩
  exact Evl.fresh_back (e1.trans e2) n
theorem pe_bin {op : Operator} {f : D → D → R D} (ho : OpR X (binaryOp op) (r2D X.K f)) (ha : PE X a (rdE c ma)) (hb : PE X b (rdE c mb)) (hK : c.K = X.K := by rfl) : PE X (.BinOp a op b pos) (rdE c (xBin f ma mb)) :=
  (pe_op ho ha hb).wk (tOp_rd fun _ _ _ _ h => hK ▸ h)
theorem pe_binL {op : Operator} {f : D → D → R D} (ho : OpR X (binaryOp op) (r2L X.K f)) (ha : PE X a (rdE c ma)) (hb : PE X b (rdE c mb)) (hK : c.K = X.K := by rfl) : PE X (.BinOp a op b pos) (rdL c (xBin f ma mb)) :=
  (pe_op ho ha hb).wk (tOp_rdL fun _ _ _ _ h => hK ▸ h)
theorem pe_cp {op : CmpOp} {f : D → D → R D} (ho : OpR X (compareOp op) (r2D X.K f)) (ha : PE X a (rdE c ma)) (hb : PE X b (rdE c mb)) (hm : behindInMarks op b = false := by first | exact nomark _ | rfl) (hK : c.K = X.K := by rfl) : PE X (.Compare a [op] [b] pos) (rdE c (xBin f ma mb)) :=
  (pe_cmpR ho ha hb hm).wk (tOp_rd fun _ _ _ _ h => hK ▸ h)
theorem pe_un1 {op : UnaryOp} {f : D → R D} (ho : UnR X (unaryOp op) (r1D X.K f)) (ha : PE X a (rdE c ma)) (hK : c.K = X.K := by rfl) : PE X (.UnaryOp op a pos) (rdE c (xUn f ma)) :=
  (pe_un ho ha).wk fun σ H Q ⟨ε, M, re, d, hm, q⟩ => by
    obtain ⟨x, h1, h2⟩ := R.bind_ok hm
    exact ⟨ε, M, re, x, h1, fun v H1 e1 hv => ⟨M, x, d, Trk.ex re.trk e1, hK ▸ hv, h2, fun w H3 e3 hw => q w H3 (e1.trans e3) (hK ▸ hw)⟩⟩
theorem tCB_rd {r : List V → Hp → VK → Prop} {f : List D → R D} (hr : ∀ xs H Q, rnD c.K f xs H Q → r xs H Q) : ∀ σ H Q, rdE c (xCall f ms) σ H Q → tCB r (rdA c ms) σ H Q := fun σ H Q ⟨ε, M, re, d, hm, q⟩ => by
  obtain ⟨ds, h1, h2⟩ := R.bind_ok hm
  exact ⟨ε, M, re, ds, h1, fun vs H1 e1 hv => hr _ _ _ ⟨M, ds, d, Trk.ex re.trk e1, hv, h2, fun w H3 e3 hw => q w H3 (e1.trans e3) hw⟩⟩
theorem tCB_rdL {r : List V → Hp → VK → Prop} {f : List D → R D} (hr : ∀ xs H Q, rnL c.K f xs H Q → r xs H Q) : ∀ σ H Q, rdL c (xCall f ms) σ H Q → tCB r (rdA c ms) σ H Q := fun σ H Q ⟨ε, M, re, d, hm, q⟩ => by
  obtain ⟨ds, h1, h2⟩ := R.bind_ok hm
  exact ⟨ε, M, re, ds, h1, fun vs H1 e1 hv => hr _ _ _ ⟨M, ds, d, Trk.ex re.trk e1, hv, h2, fun p o H3 n e3 hp ho => q p o H3 (Evl.fresh_back e1 n) (e1.trans e3) hp ho⟩⟩
variable {x : Str} {p : Pos} {e : Expr} {es : List Expr}
/-- a builtin's call, a builtin class's -/
theorem pe_bi {id : String} {f : List D → R D} (hc : CallR X (.builtin id) (rnD X.K f)) (hm : X.mg x = none) (hv : bootBuiltins x = some (.builtin id)) (ha : PA X (e :: es) (rdA c ms)) (hg : Gl X x := by rfl)
    (hn : x ≠ "__name__" := by decide) (hd : (x == ("__debug__" : Str)) = false := by decide) (hst : starEach (e :: es) X.env = (false, eval e X.env) :: starEach es X.env := by rfl) (hpl : (backTo pos (starEach es X.env)).any (·.1) = false := by rfl) (hK : c.K = X.K := by rfl) :
    PE X (.Call (.Name x p) (e :: es) [] pos) (rdE c (xCall f ms)) := (pe_callB hc hg hm hv ha hn hd hst hpl).wk (tCB_rd fun _ _ _ h => hK ▸ h)
theorem pe_ty {T : String} {f : List D → R D} (hc : CallR X (.type T) (rnD X.K f)) (hm : X.mg x = none) (hv : bootBuiltins x = some (.type T)) (ha : PA X (e :: es) (rdA c ms)) (hg : Gl X x := by rfl)
    (hn : x ≠ "__name__" := by decide) (hd : (x == ("__debug__" : Str)) = false := by decide) (hst : starEach (e :: es) X.env = (false, eval e X.env) :: starEach es X.env := by rfl) (hpl : (backTo pos (starEach es X.env)).any (·.1) = false := by rfl) (hK : c.K = X.K := by rfl) :
    PE X (.Call (.Name x p) (e :: es) [] pos) (rdE c (xCall f ms)) := (pe_callTy hc hg hm hv ha hn hd hst hpl).wk (tCB_rd fun _ _ _ h => hK ▸ h)
theorem pe_biL {id : String} {f : List D → R D} (hc : CallR X (.builtin id) (rnL X.K f)) (hm : X.mg x = none) (hv : bootBuiltins x = some (.builtin id)) (ha : PA X (e :: es) (rdA c ms)) (hg : Gl X x := by rfl)
    (hn : x ≠ "__name__" := by decide) (hd : (x == ("__debug__" : Str)) = false := by decide) (hst : starEach (e :: es) X.env = (false, eval e X.env) :: starEach es X.env := by rfl) (hpl : (backTo pos (starEach es X.env)).any (·.1) = false := by rfl) (hK : c.K = X.K := by rfl) :
    PE X (.Call (.Name x p) (e :: es) [] pos) (rdL c (xCall f ms)) := (pe_callB hc hg hm hv ha hn hd hst hpl).wk (tCB_rdL fun _ _ _ h => hK ▸ h)
theorem pe_tyL {T : String} {f : List D → R D} (hc : CallR X (.type T) (rnL X.K f)) (hm : X.mg x = none) (hv : bootBuiltins x = some (.type T)) (ha : PA X (e :: es) (rdA c ms)) (hg : Gl X x := by rfl)
    (hn : x ≠ "__name__" := by decide) (hd : (x == ("__debug__" : Str)) = false := by decide) (hst : starEach (e :: es) X.env = (false, eval e X.env) :: starEach es X.env := by rfl) (hpl : (backTo pos (starEach es X.env)).any (·.1) = false := by rfl) (hK : c.K = X.K := by rfl) :
    PE X (.Call (.Name x p) (e :: es) [] pos) (rdL c (xCall f ms)) := (pe_callTy hc hg hm hv ha hn hd hst hpl).wk (tCB_rdL fun _ _ _ h => hK ▸ h)
/-! ### a def of one's own -/
/-- what a def promises: a value | a new object -/
def spF (K : PySem.W.Frag) (f : List D → R D) : Sp := fun vs H Q E => ∃ M ds d, Trk M H ∧ AtL K (hid M H) ds vs ∧ f ds = .ok d ∧ ∀ v H', Ex H H' → At K (hid M H') d v → Q v H'
def spN (K : PySem.W.Frag) (f : List D → R D) : Sp := fun vs H Q E => ∃ M ds d, Trk M H ∧ AtL K (hid M H) ds vs ∧ f ds = .ok d ∧ ∀ p o H', H p = none → Ex H H' → H' p = some o → Own K (hid (p :: M) H') o d → Q (.ref p) H'
def E0' : XK := fun _ _ _ => False
theorem pass0' {P : Program} {w : World} : Passes (L2.CX P w) X E0' := fun _ _ _ _ _ _ _ ⟨_, _, _, _, _, _, _, _, _, _, _, _, h⟩ => h.elim
theorem pe_f {k : Nat} {f : Addr} {fd : FuncData} {ps : List Str} {g : List D → R D} (F : FnOk X.prog X.w X.K X.mg X.base (L2.CX X.prog X.w) k f fd ps (spF X.K g)) (hr : Room k X.A) (hm : X.mg x = some (.ref f)) (hk : PySem.W.keepIn X.K (.ref f) = true) (hb : Binds X.K fd ps [])
    (ha : PA X (e :: es) (rdA c ms)) (hg : Gl X x := by rfl) (hdb : (x == ("__debug__" : Str)) = false := by decide) (he : starEach (e :: es) X.env = (false, eval e X.env) :: starEach es X.env := by rfl) (hpl : (backTo pos (starEach es X.env)).any (·.1) = false := by rfl) (hK : c.K = X.K := by rfl) :
    PE X (.Call (.Name x p) (e :: es) [] pos) (rdE c (xCall g ms)) := (pe_call (E := E0') (dvs := []) F hr hg hm hk hb .nil pass0' ha hdb he hpl).wk fun σ H Q ⟨ε, M, re, d, hm, q⟩ => by
  obtain ⟨ds, h1, h2⟩ := R.bind_ok hm
  exact ⟨ε, M, re, ds, h1, fun vs H1 e1 hv => by
    show spF X.K g (vs ++ []) H1 Q E0'
    rw [List.append_nil]
    exact ⟨M, ds, d, Trk.ex re.trk e1, hK ▸ hv, h2, fun w H3 e3 hw => q w H3 (e1.trans e3) (hK ▸ hw)⟩⟩
theorem pe_fL {k : Nat} {f : Addr} {fd : FuncData} {ps : List Str} {g : List D → R D} (F : FnOk X.prog X.w X.K X.mg X.base (L2.CX X.prog X.w) k f fd ps (spN X.K g)) (hr : Room k X.A) (hm : X.mg x = some (.ref f)) (hk : PySem.W.keepIn X.K (.ref f) = true) (hb : Binds X.K fd ps [])
    (ha : PA X (e :: es) (rdA c ms)) (hg : Gl X x := by rfl) (hdb : (x == ("__debug__" : Str)) = false := by decide) (he : starEach (e :: es) X.env = (false, eval e X.env) :: starEach es X.env := by rfl) (hpl : (backTo pos (starEach es X.env)).any (·.1) = false := by rfl) (hK : c.K = X.K := by rfl) :
    PE X (.Call (.Name x p) (e :: es) [] pos) (rdL c (xCall g ms)) := (pe_call (E := E0') (dvs := []) F hr hg hm hk hb .nil pass0' ha hdb he hpl).wk fun σ H Q ⟨ε, M, re, d, hm, q⟩ => by
  obtain ⟨ds, h1, h2⟩ := R.bind_ok hm
  exact ⟨ε, M, re, ds, h1, fun vs H1 e1 hv => by
    show spN X.K g (vs ++ []) H1 Q E0'
    rw [List.append_nil]
    exact ⟨M, ds, d, Trk.ex re.trk e1, hK ▸ hv, h2, fun p o H3 n e3 hp ho => q p o H3 (Evl.fresh_back e1 n) (e1.trans e3) hp (hK ▸ ho)⟩⟩
/-! ### displays -/
def xTup (m : Nv → R (List D)) : Nv → R D := fun ε => (m ε).bind fun ds => .ok (.tuple ds)
def xLst (m : Nv → R (List D)) : Nv → R D := fun ε => (m ε).bind fun ds => .ok (.list ds)
theorem atL_len {K : PySem.W.Frag} {H : Hp} : ∀ {ds : List D} {vs : List V}, AtL K H ds vs → vs.length = ds.length
  | [], vs, h => by
    have e : vs = [] := h
    rw [e]
    rfl
  | d :: ds, vs, ⟨v, r, h1, _, h3⟩ => by
    rw [h1, List.length_cons, List.length_cons, atL_len h3]
theorem pe_tu {x1} (h : PA X es (rdA c ms)) (hz : es.length ≤ sizeLine := by decide) (hl : ∀ ε ds, ms ε = .ok ds → ds.length = es.length := by intro _ _ _; assumption) : PE X (.Tuple es x1 pos) (rdE c (xTup ms)) :=
  (L2.pe_tup h).wk fun σ H Q ⟨ε, M, re, d, hm, q⟩ => by
    obtain ⟨ds, h1, h2⟩ := R.bind_ok hm
    cases h2
    refine ⟨ε, M, re, ds, h1, fun vs H1 e1 hv => ⟨by rw [atL_len hv, hl ε ds h1]; exact hz, fun p n => ?_⟩⟩
    have np := (Trk.ex re.trk e1).no n
    exact q (.ref p) _ (e1.trans (Evl.Ex.new n)) ⟨p, vs, rfl, SqT.of (hid_of upd_same np), AtL.mono (hid_ex (Evl.Ex.new n)) ds vs hv⟩
theorem pe_li (h : PA X es (rdA c ms)) (hz : es.length ≤ sizeLine := by decide) (hl : ∀ ε ds, ms ε = .ok ds → ds.length = es.length := by intro _ _ _; assumption) : PE X (.List es pos) (rdL c (xLst ms)) :=
  (L2.pe_lst h).wk fun σ H Q ⟨ε, M, re, d, hm, q⟩ => by
    obtain ⟨ds, h1, h2⟩ := R.bind_ok hm
    cases h2
    refine ⟨ε, M, re, ds, h1, fun vs H1 e1 hv => ⟨by rw [atL_len hv, hl ε ds h1]; exact hz, fun p n => ?_⟩⟩
    refine q p (.lst vs) _ (Evl.fresh_back e1 n) (e1.trans (Evl.Ex.new n)) upd_same (.inl ⟨vs, ds, rfl, rfl, AtL.mono (hid_new (Evl.Ex.new n) n) ds vs hv⟩)
theorem xNil_len : ∀ (ε : Nv) ds, xNil ε = .ok ds → ds.length = ([] : List Expr).length := fun ε ds h => by cases h; rfl
theorem xCons_len {m : Nv → R D} {r : Nv → R (List D)} {e : Expr} {es : List Expr} (h : ∀ ε ds, r ε = .ok ds → ds.length = es.length) : ∀ ε ds, xCons m r ε = .ok ds → ds.length = (e :: es).length := fun ε ds hm => by
  obtain ⟨d, h1, h2⟩ := R.bind_ok hm
  obtain ⟨dr, h3, h4⟩ := R.bind_ok h2
  cases h4
  rw [List.length_cons, List.length_cons, h ε dr h3]
/-! ### what is one's own, read as data for a flat answer -/
def th : Nv → Nv := List.map fun | .mu d => .im d | s => s
theorem gt_th : ∀ (ε : Nv) (i : Nat), gt (th ε) i = match gt ε i with | .mu d => .im d | s => s
  | [], _ => rfl
  | _ :: _, 0 => rfl
  | _ :: r, i + 1 => gt_th r i
theorem Rel.th {σ : L2.St} {H : Hp} {ε : Nv} {M : List Addr} (r : Rel c σ H ε M) : Rel c σ H (th ε) c.M0 where
  ext := r.ext
  len := r.len.trans (List.length_map _).symm
  sub := fun _ h => h
  trk := fun a h => r.trk a (r.sub a h)
  old := r.old
  im := fun i d h => by
    rw [gt_th] at h
    cases e : gt ε i with
    | no => rw [e] at h; cases h
    | im f =>
      rw [e] at h
      cases h
      obtain ⟨v, h1, h2⟩ := r.im i _ e
      exact ⟨v, h1, At.mono (hid_sub r.sub) _ v h2⟩
    | mu f =>
      rw [e] at h
      cases h
      obtain ⟨a, o, h1, h2, h3, h4, h5⟩ := r.mu i _ e
      exact ⟨_, h1, Own.at (hid_of h4 fun z => r.old a z h3) (h5.mono (hid_sub r.sub))⟩
  mu := fun i d h => by
    rw [gt_th] at h
    cases e : gt ε i with
    | no => rw [e] at h; cases h
    | im f => rw [e] at h; cases h
    | mu f => rw [e] at h; cases h
  dis := fun i j d e a b _ h _ _ _ => by
    rw [gt_th] at h
    cases q : gt ε i with
    | no => rw [q] at h; cases h
    | im f => rw [q] at h; cases h
    | mu f => rw [q] at h; cases h
def xTh (m : Nv → R D) : Nv → R D := fun ε => (m (th ε)).bind fun d => if flat d then .ok d else .bad
def tTh (m : Nv → R Bool) : Nv → R Bool := fun ε => m (th ε)
theorem pe_th {m : Nv → R D} (h : PE X e (rdE c m)) : PE X e (rdE c (xTh m)) := h.wk fun σ H Q ⟨ε, M, re, d, hm, q⟩ => by
  obtain ⟨d', h1, h2⟩ := R.bind_ok hm
  by_cases hf : flat d' = true
  · rw [if_pos hf] at h2
    cases h2
    exact ⟨_, _, re.th, d, h1, fun v H' e' hv => q v H' e' (At.flat hf hv)⟩
  · rw [if_neg hf] at h2
    cases h2
theorem pt_th {m : Nv → R Bool} (h : PT X e (rdT c m)) : PT X e (rdT c (tTh m)) := h.wk fun σ H Q ⟨ε, M, re, d, hm, q⟩ => ⟨_, _, re.th, d, hm, q⟩
/-! ### tests -/
end
end Tw
set_option Elab.async false
set_option linter.all false
set_option maxRecDepth 100000
set_option maxHeartbeats 4000000
/-! Tw3: operators, builtins over data -/
namespace Tw
open PySem PySem.Spec PyProof.Rows L2
/-! ### data are read -/
section
variable {X : Cx} {pins : List (Addr × Obj)} {σ : L2.St} {H : Hp} {s : Shared}
mutual
theorem At.dp {K : PySem.W.Frag} : ∀ (d : D) (v : V), d.plain = true → At K H d v → Dp K H v d
  | .none, v, _, h => by
    have e : v = .non := h
    rw [e]
    exact .non
  | .bool b, v, _, h => by
    have e : v = .bl b := h
    rw [e]
    exact .bl b
  | .int i, v, _, h => by
    have e : v = .int i := h
    rw [e]
    exact .int i
  | .str x, v, _, h => by
    have e : v = .str x := h
    rw [e]
    exact .str x
  | .list ds, v, p, h => by
    obtain ⟨a, xs, h1, h2, h3⟩ := h
    rw [h1]
    exact .lst h2 (AtL.dp ds xs (by simpa only [PyData.plain] using p) h3)
  | .tuple ds, v, p, h => by
    obtain ⟨a, xs, h1, h2, h3⟩ := h
    rw [h1]
    exact .tup h2 (AtL.dp ds xs (by simpa only [PyData.plain] using p) h3)
  | .dict es, v, p, h => by simp [PyData.plain] at p
theorem AtL.dp {K : PySem.W.Frag} : ∀ (ds : List D) (vs : List V), PyData.plainAll ds = true → AtL K H ds vs → DpAll K H vs ds
  | [], vs, _, h => by
    have e : vs = [] := h
    rw [e]
    exact .nil
  | d :: ds, vs, p, h => by
    obtain ⟨v, r, h1, h2, h3⟩ := h
    rw [h1]
    have p' : (d.plain && PyData.plainAll ds) = true := by simpa only [PyData.plainAll] using p
    rw [Bool.and_eq_true] at p'
    exact .cons (At.dp d v p'.1 h2) (AtL.dp ds r p'.2 h3)
end
theorem At.reads (I : Inv X pins σ H s) {d : D} {v : V} {u : Value} {M : List Addr} (p : d.plain = true) (h : At X.K (hid M H) d v) (r : RelV v u) : ∃ as, Reads s.heap u d as :=
  Dp.reads I d v u (At.dp d v p (At.mono hid_le d v h)) r
theorem AtL.get {K : PySem.W.Frag} : ∀ {ds : List D} {vs : List V} {i : Nat} {d : D}, AtL K H ds vs → ds[i]? = some d → ∃ v, vs[i]? = some v ∧ At K H d v
  | [], _, _, _, _, h => by simp at h
  | d :: ds, vs, 0, e, ⟨v, r, h1, h2, h3⟩, h => by
    simp at h
    subst h
    rw [h1]
    exact ⟨v, rfl, h2⟩
  | d :: ds, vs, i + 1, e, ⟨v, r, h1, h2, h3⟩, h => by
    rw [h1]
    obtain ⟨w, q1, q2⟩ := AtL.get (i := i) h3 (by simpa using h)
    exact ⟨w, by simpa using q1, q2⟩
theorem AtL.get' {K : PySem.W.Frag} : ∀ {ds : List D} {vs : List V} {i : Nat} {v : V}, AtL K H ds vs → vs[i]? = some v → ∃ d, ds[i]? = some d ∧ At K H d v
  | [], vs, i, v, h, q => by
    have e : vs = [] := h
    rw [e] at q
    simp at q
  | d :: ds, vs, 0, e, ⟨v, r, h1, h2, h3⟩, h => by
    rw [h1] at h
    simp at h
    subst h
    exact ⟨d, rfl, h2⟩
  | d :: ds, vs, i + 1, e, ⟨v, r, h1, h2, h3⟩, h => by
    rw [h1] at h
    obtain ⟨w, q1, q2⟩ := AtL.get' (i := i) h3 (by simpa using h)
    exact ⟨w, by simpa using q1, q2⟩
theorem AtL.app {K : PySem.W.Frag} : ∀ {ds es : List D} {vs ws : List V}, AtL K H ds vs → AtL K H es ws → AtL K H (ds ++ es) (vs ++ ws)
  | [], es, vs, ws, h, g => by
    have e : vs = [] := h
    rw [e]
    exact g
  | d :: ds, es, vs, ws, ⟨v, r, h1, h2, h3⟩, g => by
    rw [h1]
    exact ⟨v, r ++ ws, rfl, h2, AtL.app h3 g⟩
theorem AtL.take {K : PySem.W.Frag} : ∀ (n : Nat) {ds : List D} {vs : List V}, AtL K H ds vs → AtL K H (ds.take n) (vs.take n)
  | 0, _, _, _ => rfl
  | n + 1, [], vs, h => by
    have e : vs = [] := h
    rw [e]
    rfl
  | n + 1, d :: ds, vs, ⟨v, r, h1, h2, h3⟩ => by
    rw [h1]
    exact ⟨v, r.take n, rfl, h2, AtL.take n h3⟩
theorem AtL.drop {K : PySem.W.Frag} : ∀ (n : Nat) {ds : List D} {vs : List V}, AtL K H ds vs → AtL K H (ds.drop n) (vs.drop n)
  | 0, _, _, h => h
  | n + 1, [], vs, h => by
    have e : vs = [] := h
    rw [e]
    rfl
  | n + 1, d :: ds, vs, ⟨v, r, h1, h2, h3⟩ => by
    rw [h1]
    exact AtL.drop n h3
theorem AtL.set {K : PySem.W.Frag} {d : D} {v : V} (h : At K H d v) : ∀ (n : Nat) {ds : List D} {vs : List V}, AtL K H ds vs → AtL K H (ds.set n d) (vs.set n v)
  | _, [], vs, h => by
    have e : vs = [] := h
    rw [e]
    rfl
  | 0, e :: ds, vs, ⟨w, r, h1, h2, h3⟩ => by
    rw [h1]
    exact ⟨v, r, rfl, h, h3⟩
  | n + 1, e :: ds, vs, ⟨w, r, h1, h2, h3⟩ => by
    rw [h1]
    exact ⟨w, r.set n v, rfl, h2, AtL.set h n h3⟩
theorem AtL.ints {K : PySem.W.Frag} : ∀ {ns : List Int} {vs : List V}, AtL K H (ns.map PyData.int) vs → vs = ns.map V.int
  | [], vs, h => h
  | n :: ns, vs, ⟨v, r, h1, h2, h3⟩ => by
    have e : v = .int n := h2
    rw [h1, e, AtL.ints h3]
    rfl
theorem AtL.bools {K : PySem.W.Frag} : ∀ {ns : List Bool} {vs : List V}, AtL K H (ns.map PyData.bool) vs → vs = ns.map V.bl
  | [], vs, h => h
  | n :: ns, vs, ⟨v, r, h1, h2, h3⟩ => by
    have e : v = .bl n := h2
    rw [h1, e, AtL.bools h3]
    rfl
theorem vals_each {K : PySem.W.Frag} {M : List Addr} : ∀ {ds : List D} {vs : List V} {us : List Value}, AtL K (hid M H) ds vs → Vals vs us → PySem.W.EachIs (fun u d => ∃ v, RelV v u ∧ At K (hid M H) d v) us ds
  | [], vs, us, h, r => by
    have e : vs = [] := h
    rw [e] at r
    cases r
    exact .nil
  | d :: ds, vs, us, ⟨v, r, h1, h2, h3⟩, rv => by
    rw [h1] at rv
    cases rv with
    | cons a b => exact .cons ⟨v, a, h2⟩ (vals_each h3 b)
theorem each_vals {K : PySem.W.Frag} {M : List Addr} : ∀ {ds : List D} {us : List Value}, PySem.W.EachIs (fun u d => ∃ v, RelV v u ∧ At K (hid M H) d v) us ds → ∃ vs, Vals vs us ∧ AtL K (hid M H) ds vs
  | _, _, .nil => ⟨[], .nil, rfl⟩
  | _, _, .cons ⟨v, r, h⟩ t => by
    obtain ⟨vs, h1, h2⟩ := each_vals t
    exact ⟨v :: vs, .cons r h1, v, vs, rfl, h, h2⟩
end
/-! ### what the programs do with data -/
def lim : Nat := 1000000
theorem lim_le {n : Nat} (h : n ≤ lim) : n ≤ sizeLine := Nat.le_trans h (by decide)
theorem lim_lt {n : Nat} (h : n ≤ lim) : n < sizeLine := Nat.lt_of_le_of_lt h (by decide)
def dAdd : D → D → R D
  | .int i, .int j => .ok (.int (i + j))
  | .list xs, .list ys => if xs.length + ys.length ≤ lim then .ok (.list (xs ++ ys)) else .bad
  | .tuple xs, .tuple ys => if xs.length + ys.length ≤ lim then .ok (.tuple (xs ++ ys)) else .bad
  | .str x, .str y => if x.length + y.length ≤ lim then .ok (.str (x ++ y)) else .bad
  | _, _ => .bad
def dSub : D → D → R D
  | .int i, .int j => .ok (.int (i - j))
  | _, _ => .bad
def dMul : D → D → R D
  | .int i, .int j => if i.natAbs.log2 + j.natAbs.log2 < 1000000 then .ok (.int (i * j)) else .bad
  | _, _ => .bad
def dRep : D → D → R D
  | .list xs, .int k => if k ≤ 1000000 ∧ -1000000 ≤ k ∧ xs.length * k.toNat ≤ lim then .ok (.list (List.replicate k.toNat xs).flatten) else .bad
  | _, _ => .bad
def dCat : D → D → R D
  | .list xs, .list ys => if xs.length + ys.length ≤ lim then .ok (.list (xs ++ ys)) else .bad
  | _, _ => .bad
def dDiv : D → D → R D
  | .int i, .int j => if 0 < j ∧ j.natAbs.log2 < 9000 then .ok (.int (i / j)) else .bad
  | _, _ => .bad
def dMod : D → D → R D
  | .int i, .int j => if 0 < j then .ok (.int (i % j)) else .bad
  | _, _ => .bad
def dPow : D → D → R D
  | .int i, .int j => if 0 ≤ j ∧ j ≤ 1000000 ∧ i.natAbs < 2 ^ 64 then .ok (.int (i ^ j.toNat)) else .bad
  | _, _ => .bad
def dNeg : D → R D
  | .int i => .ok (.int (-i))
  | _ => .bad
def okd (d : D) : Bool := d.plain && decide (d.depth ≤ 60)
def dEq (a b : D) : R D := if okd a && okd b then .ok (.bool (PyData.eqv a b)) else .bad
def dNe (a b : D) : R D := if okd a && okd b then .ok (.bool (!PyData.eqv a b)) else .bad
def ordd (a b : D) : Bool := okd a && okd b && PySem.W.alike a b && (match a with | .none => false | _ => true)
def dLt (a b : D) : R D := match a, b with
  | .int i, .int j => .ok (.bool (decide (i < j)))
  | a, b => if ordd a b then .ok (.bool (PySem.W.dataLt a b)) else .bad
def dLe (a b : D) : R D := match a, b with
  | .int i, .int j => .ok (.bool (decide (i ≤ j)))
  | a, b => if ordd a b then .ok (.bool (!PySem.W.dataLt b a)) else .bad
def dGt (a b : D) : R D := match a, b with
  | .int i, .int j => .ok (.bool (decide (j < i)))
  | a, b => if ordd a b then .ok (.bool (PySem.W.dataLt b a)) else .bad
def dGe (a b : D) : R D := match a, b with
  | .int i, .int j => .ok (.bool (decide (j ≤ i)))
  | a, b => if ordd a b then .ok (.bool (!PySem.W.dataLt a b)) else .bad
def isNone : D → Bool
  | .none => true
  | _ => false
def dIs (a b : D) : R D := if isNone b then .ok (.bool (isNone a)) else .bad
def dIsNot (a b : D) : R D := if isNone b then .ok (.bool (!isNone a)) else .bad
def dIn (a b : D) : R D := match b with
  | .list xs => if okd a && okd (.list xs) then .ok (.bool (xs.any fun y => PyData.eqv y a)) else .bad
  | .tuple xs => if okd a && okd (.tuple xs) then .ok (.bool (xs.any fun y => PyData.eqv y a)) else .bad
  | _ => .bad
def dNotIn (a b : D) : R D := match b with
  | .list xs => if okd a && okd (.list xs) then .ok (.bool (!xs.any fun y => PyData.eqv y a)) else .bad
  | .tuple xs => if okd a && okd (.tuple xs) then .ok (.bool (!xs.any fun y => PyData.eqv y a)) else .bad
  | _ => .bad
def dIx (a b : D) : R D := match a, b with
  | .list xs, .int i => match atI xs i with | some d => .ok d | none => .bad
  | .tuple xs, .int i => match atI xs i with | some d => .ok d | none => .bad
  | _, _ => .bad
def cLen : List D → R D
  | [.list xs] => .ok (.int xs.length)
  | [.tuple xs] => .ok (.int xs.length)
  | _ => .bad
def cAbs : List D → R D
  | [.int i] => .ok (.int (if i < 0 then -i else i))
  | _ => .bad
def cMax2 : List D → R D
  | [.int i, .int j] => .ok (.int (if j > i then j else i))
  | _ => .bad
def cMin2 : List D → R D
  | [.int i, .int j] => .ok (.int (if j < i then j else i))
  | _ => .bad
def cInt : List D → R D
  | [.int i] => .ok (.int i)
  | [.bool b] => .ok (.int (if b then 1 else 0))
  | _ => .bad
def intsOf : List D → Option (List Int)
  | [] => some []
  | .int i :: r => match intsOf r with | some l => some (i :: l) | none => none
  | _ :: _ => none
theorem intsOf_some : ∀ {ds : List D} {l : List Int}, intsOf ds = some l → ds = l.map PyData.int
  | [], l, h => by
    cases h
    rfl
  | .int i :: r, l, h => by
    unfold intsOf at h
    cases e : intsOf r with
    | none => rw [e] at h; cases h
    | some q =>
      rw [e] at h
      cases h
      rw [intsOf_some e]
      rfl
  | .none :: r, l, h => by cases h
  | .bool _ :: r, l, h => by cases h
  | .str _ :: r, l, h => by cases h
  | .list _ :: r, l, h => by cases h
  | .tuple _ :: r, l, h => by cases h
  | .dict _ :: r, l, h => by cases h
theorem intsOf_map : ∀ l : List Int, intsOf (l.map PyData.int) = some l
  | [] => rfl
  | i :: r => by
    show (match intsOf (r.map PyData.int) with | some l => some (i :: l) | none => none) = _
    rw [intsOf_map r]
def boolsOf : List D → Option (List Bool)
  | [] => some []
  | .bool i :: r => match boolsOf r with | some l => some (i :: l) | none => none
  | _ :: _ => none
theorem boolsOf_some : ∀ {ds : List D} {l : List Bool}, boolsOf ds = some l → ds = l.map PyData.bool
  | [], l, h => by
    cases h
    rfl
  | .bool i :: r, l, h => by
    unfold boolsOf at h
    cases e : boolsOf r with
    | none => rw [e] at h; cases h
    | some q =>
      rw [e] at h
      cases h
      rw [boolsOf_some e]
      rfl
  | .none :: r, l, h => by cases h
  | .int _ :: r, l, h => by cases h
  | .str _ :: r, l, h => by cases h
  | .list _ :: r, l, h => by cases h
  | .tuple _ :: r, l, h => by cases h
  | .dict _ :: r, l, h => by cases h
theorem boolsOf_map : ∀ l : List Bool, boolsOf (l.map PyData.bool) = some l
  | [] => rfl
  | i :: r => by
    show (match boolsOf (r.map PyData.bool) with | some l => some (i :: l) | none => none) = _
    rw [boolsOf_map r]
def cSum : List D → R D
  | [.list xs] => match intsOf xs with | some l => .ok (.int l.sum) | none => .bad
  | _ => .bad
def cAll : List D → R D
  | [.list xs] => match boolsOf xs with | some l => .ok (.bool (l.all id)) | none => .bad
  | _ => .bad
def cAny : List D → R D
  | [.list xs] => match boolsOf xs with | some l => .ok (.bool (l.any id)) | none => .bad
  | _ => .bad
def cMin : List D → R D
  | [.list (x :: xs)] => if okd (.list (x :: xs)) && PySem.W.alikeAll (x :: xs) (x :: xs) then (if (xs.all fun y => PySem.W.alike x y) then .ok (PySem.W.minD x xs) else .bad) else .bad
  | _ => .bad
def cRepr : List D → R D
  | [d] => if okd d && d.showable && decide (d.shown.length ≤ lim) then .ok (.str d.shown) else .bad
  | _ => .bad
end Tw
set_option Elab.async false
set_option linter.all false
set_option maxRecDepth 100000
set_option maxHeartbeats 4000000
/-! Tw4: defs whose callers' guards are known; the law's call -/
namespace Tw
open PySem PySem.Spec PyProof.Rows L2
/-- a def's promise where no guarded walk (a repr under way) is around -/
structure FnG (P : Program) (w : World) (K : PySem.W.Frag) (mg : Str → Option Value) (base : Heap) (k : Nat) (f : Addr) (fd : FuncData) (ps : List Str) (sp : Sp) : Prop where
  len : ∀ vs H Q E, sp vs H Q E → vs.length = ps.length
  run : ∀ (A : Around) (outer : List PySem.Env) (s : Shared) (H : Hp) (args : Args) (us : List Value) (vs : List V) (Q : VK) (E : XK), Room k A → A.guards = some [] → Env0 P w K mg base A outer s H → BindsTo s fd args (ps.zip us) → Vals vs us → sp vs H Q E →
    codeAny (model P w) A (.call (.ref f) args) (CR (L2.CX P w) outer P w H s Q E) s
theorem FnG.mono {P : Program} {w : World} {K : PySem.W.Frag} {mg : Str → Option Value} {base : Heap} {j k : Nat} {f : Addr} {fd : FuncData} {ps : List Str} {sp : Sp} (F : FnG P w K mg base j f fd ps sp) (h : j ≤ k) : FnG P w K mg base k f fd ps sp :=
  ⟨F.len, fun A outer s H args us vs Q E r => F.run A outer s H args us vs Q E (r.mono h)⟩
section
variable {P : Program} {w : World} {K : PySem.W.Frag} {mg : Str → Option Value} {base : Heap}
/-- from the body: cell names, parameters, the frame as the machine lays them -/
theorem fnG_of {x qual : Str} {st : Stmt} {f : Addr} {fd : FuncData} {N ps : List Str} {k : Nat} {sp : Sp} (F : Fun K x qual st f fd) (S : FnScope N ps (defScope st)) (len : ∀ vs H Q E, sp vs H Q E → vs.length = ps.length)
    (body : ∀ (cdv : Value) (A : Around) (outer : List PySem.Env) (s : Shared) (H : Hp) (vs : List V) (Q : VK) (E : XK), Room k (A.deeper (envOfC qual (defScope st) s.heap.objs.size f cdv)) → A.guards = some [] → sp vs H Q E →
      ∃ t, PSs (cxOf (L2.CX P w) P w K mg base N qual (defScope st) f cdv A outer s H E) (defBody st) t ∧ t { nx := fun _ H' => Q .non H', rt := Q } (start N vs) H) : FnG P w K mg base (k + 1) f fd ps sp := by
  obtain ⟨oc, od, kV, doc, pm, an, cdv, ct, osl, e, look, code⟩ := F.ex
  subst e
  constructor
  · exact len
  intro A outer s H args us vs Q E room guards start0 bound vals want
  have inK : K.In s.heap := start0.mod.kin.keeps fun b o q => (start0.bs b o q).1
  have noLim : s.heap.NoLimit := start0.mod.nolimit.keeps fun b o q => (start0.bs b o q).1
  have kinds : ∀ y ∈ ps.zip us, (defScope st).names.lookup y.1 = some .local ∨ ((defScope st).names.lookup y.1 = some .cell ∧ ((cellsFrom (s.heap.objs.size + 1) (defScope st).names []).lookup y.1).isSome = true) := by
    intro y hy
    cases S.par y.1 (List.of_mem_zip (show (y.1, y.2) ∈ ps.zip us from hy)).1 with
    | inl q => exact Or.inl q
    | inr q => exact Or.inr ⟨q, PySem.W.cellsFrom_some _ _ _ (Or.inl q)⟩
  apply codeAny_call_function room.depth (inK _ _ look) rfl S.co S.gen rfl (PySem.W.codeRec_of inK code)
  apply bound
  apply wpAny_newFunctionEnv_cells S.kind kinds
  intro env henv s1 made
  subst henv
  constructor
  · exact noLim.keeps made.toInCall.keep
  apply codeAny_func
  obtain ⟨t, reads, holds⟩ := body cdv A outer s H vs Q E (room.deeper _) guards want
  have J : Inv (cxOf (L2.CX P w) P w K mg base N qual (defScope st) f cdv A outer s H E) [] (start N vs) H s1 := inv_start S room.hd start0 (len vs H Q E want) vals made
  apply wpAny_mono (reads.run [] s1 (start N vs) H _ J holds)
  · intro flow s' done
    match flow, done with
    | .ret u, ⟨v, σ', H', J', rel, q⟩ => exact ⟨v, H', J'.os, J'.bare, J'.base, J'.hok, rel, q⟩
    | .next, ⟨σ', H', J', q⟩ => exact ⟨V.non, H', J'.os, J'.bare, J'.base, J'.hok, rfl, q⟩
    | .brk, ⟨_, _, _, q⟩ => exact q.elim
    | .cont, ⟨_, _, _, q⟩ => exact q.elim
  · intro e s' q
    exact q
end
section
variable {X : Cx} {c : Cf} {ms : Nv → R (List D)} {pos p : Pos} {x : Str} {e : Expr} {es : List Expr}
theorem runG {k : Nat} {f : Addr} {fd : FuncData} {ps : List Str} {sp : Sp} {E : XK} (F : FnG X.prog X.w X.K X.mg X.base k f fd ps sp) (hr : Room k X.A) (hG : X.A.guards = some []) (hb : Binds X.K fd ps []) (hx : Passes (L2.CX X.prog X.w) X E)
    {pins : List (Addr × Obj)} {σ : L2.St} {H : Hp} {s : Shared} {Q : VK} {us : List Value} {vs : List V} (I : Inv X pins σ H s) (r : Vals vs us) (h : sp vs H Q E) : wpAny (model X.prog X.w) X.A (call (.ref f) us) (EP X pins σ Q) X.xe s := by
  have n : (us ++ []).length = ps.length := by
    rw [List.append_nil, ← r.length]
    exact F.len vs H Q E h
  have b := hb s us I.kIn n
  rw [List.append_nil] at b
  apply wpAny_call
  apply codeAny_mono (F.run X.A X.stack s H ⟨us, []⟩ us vs Q E hr hG I.env0 b r h)
  intro res s' q
  match res, q with
  | .error err, q => exact hx pins σ H s err s' I q
  | .ok (.ret u), q => exact I.after q
  | .ok .next, q => exact q.elim
  | .ok .brk, q => exact q.elim
  | .ok .cont, q => exact q.elim
theorem pe_callG {k : Nat} {f : Addr} {fd : FuncData} {ps : List Str} {sp : Sp} {E : XK} {t : TA} (F : FnG X.prog X.w X.K X.mg X.base k f fd ps sp) (hr : Room k X.A) (hG : X.A.guards = some []) (hm : X.mg x = some (.ref f)) (hk : PySem.W.keepIn X.K (.ref f) = true) (hb : Binds X.K fd ps [])
    (hx : Passes (L2.CX X.prog X.w) X E) (ha : PA X (e :: es) t) (hg : Gl X x) (hdb : (x == ("__debug__" : Str)) = false) (he : starEach (e :: es) X.env = (false, eval e X.env) :: starEach es X.env) (hpl : (backTo pos (starEach es X.env)).any (·.1) = false) :
    PE X (.Call (.Name x p) (e :: es) [] pos) (fun σ H Q => t σ H fun vs H1 => sp vs H1 Q E) := by
  constructor
  intro pins s σ H Q I h
  apply wpAny_Call_Name_kw
  apply ld_glob I hg hm _ hdb
  apply PySem.W.callWith_K (h₀ := X.base) I.ok.mod.kin hk _ he hpl
  apply thn (ha.run pos pins s σ H _ I h)
  intro us s1 ⟨vs, H1, I1, r, q⟩
  exact ⟨I1.kIn, runG F hr hG hb hx I1 r q⟩
theorem pe_callG0 {k : Nat} {f : Addr} {fd : FuncData} {ps : List Str} {sp : Sp} {E : XK} (F : FnG X.prog X.w X.K X.mg X.base k f fd ps sp) (hr : Room k X.A) (hG : X.A.guards = some []) (hm : X.mg x = some (.ref f)) (hk : PySem.W.keepIn X.K (.ref f) = true) (hb : Binds X.K fd ps [])
    (hx : Passes (L2.CX X.prog X.w) X E) (hg : Gl X x) (hdb : (x == ("__debug__" : Str)) = false) : PE X (.Call (.Name x p) [] [] pos) (fun σ H Q => sp [] H Q E) := by
  constructor
  intro pins s σ H Q I h
  apply wpAny_Call_Name_kw
  apply ld_glob I hg hm _ hdb
  exact PySem.W.callWith_K0 I.kIn hk (runG (us := []) F hr hG hb hx I .nil h)
theorem pf {k : Nat} {f : Addr} {fd : FuncData} {ps : List Str} {g : List D → R D} (F : FnG X.prog X.w X.K X.mg X.base k f fd ps (spF X.K g)) (hr : Room k X.A) (hG : X.A.guards = some []) (hm : X.mg x = some (.ref f)) (hk : PySem.W.keepIn X.K (.ref f) = true) (hb : Binds X.K fd ps [])
    (ha : PA X (e :: es) (rdA c ms)) (hg : Gl X x := by rfl) (hdb : (x == ("__debug__" : Str)) = false := by decide) (he : starEach (e :: es) X.env = (false, eval e X.env) :: starEach es X.env := by rfl) (hpl : (backTo pos (starEach es X.env)).any (·.1) = false := by rfl) (hK : c.K = X.K := by rfl) :
    PE X (.Call (.Name x p) (e :: es) [] pos) (rdE c (xCall g ms)) := (pe_callG (E := E0') F hr hG hm hk hb pass0' ha hg hdb he hpl).wk fun σ H Q ⟨ε, M, re, d, hm, q⟩ => by
  obtain ⟨ds, h1, h2⟩ := R.bind_ok hm
  exact ⟨ε, M, re, ds, h1, fun vs H1 e1 hv => ⟨M, ds, d, Trk.ex re.trk e1, hK ▸ hv, h2, fun w H3 e3 hw => q w H3 (e1.trans e3) (hK ▸ hw)⟩⟩
theorem pfL {k : Nat} {f : Addr} {fd : FuncData} {ps : List Str} {g : List D → R D} (F : FnG X.prog X.w X.K X.mg X.base k f fd ps (spN X.K g)) (hr : Room k X.A) (hG : X.A.guards = some []) (hm : X.mg x = some (.ref f)) (hk : PySem.W.keepIn X.K (.ref f) = true) (hb : Binds X.K fd ps [])
    (ha : PA X (e :: es) (rdA c ms)) (hg : Gl X x := by rfl) (hdb : (x == ("__debug__" : Str)) = false := by decide) (he : starEach (e :: es) X.env = (false, eval e X.env) :: starEach es X.env := by rfl) (hpl : (backTo pos (starEach es X.env)).any (·.1) = false := by rfl) (hK : c.K = X.K := by rfl) :
    PE X (.Call (.Name x p) (e :: es) [] pos) (rdL c (xCall g ms)) := (pe_callG (E := E0') F hr hG hm hk hb pass0' ha hg hdb he hpl).wk fun σ H Q ⟨ε, M, re, d, hm, q⟩ => by
  obtain ⟨ds, h1, h2⟩ := R.bind_ok hm
  exact ⟨ε, M, re, ds, h1, fun vs H1 e1 hv => ⟨M, ds, d, Trk.ex re.trk e1, hK ▸ hv, h2, fun p o H3 n e3 hp ho => q p o H3 (Evl.fresh_back e1 n) (e1.trans e3) hp (hK ▸ ho)⟩⟩
end
/-! ### the law's own call -/
theorem law_callG {P : Program} {w : World} {K : PySem.W.Frag} {mg mb : Str → Option Value} {k : Nat} {fa a : Addr} {fd : FuncData} {x : Str} {sp : Sp} {s₁ : Shared} {vs : List Value} {ns : List Int}
    (KX : K.In s₁.heap) (hns : s₁.heap.Ns mainGlobals mg) (hb : s₁.heap.Ns builtinsNs mb) (hbb : ∀ x : Str, x ≠ "__name__" → mb x = bootBuiltins x) (hlim : s₁.heap.NoLimit) (hg : s₁.gens = #[])
    (ha : s₁.heap.get? a = some { cls := .type "list", data := .seq vs.toArray }) (hi : IntsAre vs ns) (hl : ns.length ≤ sizeLine) (hr : Room k callerA)
    (F : ∀ base : Heap, K.In base → base.Ns mainGlobals mg → FnG P w K mg base k fa fd [x] sp) (hbind : ∀ (s : Shared) (u : Value), BindsTo s fd ⟨[u], []⟩ [(x, u)])
    (hsp : ∀ H : Hp, Only H → SqL K H a (ns.map V.int) → sp [.ref a] H (fun v _ => v = .bl true) fun _ _ _ => False) :
    codeAny (model P w) callerA (.call (.ref fa) ⟨[.ref a], []⟩) (fun r s' => r = .ok (.ret (.bool true)) ∧ OldK s₁.heap s'.heap ∧ s'.os = s₁.os ∧ AllBare s'.gens) s₁ := by
  have go : ∀ H : Hp, Only H → SqL K H a (ns.map V.int) → HOk P w H s₁.heap → (∀ b, H b ≠ none → b = a) → (H a ≠ none → K.lookup a = none) →
      codeAny (model P w) callerA (.call (.ref fa) ⟨[.ref a], []⟩) (fun r s' => r = .ok (.ret (.bool true)) ∧ OldK s₁.heap s'.heap ∧ s'.os = s₁.os ∧ AllBare s'.gens) s₁ := by
    intro H only list held just notK
    have free : ∀ b, b ≠ a → H b = none := by
      intro b nb
      cases q : H b with
      | none => rfl
      | some u => exact absurd (just b (by rw [q]; intro z; cases z)) nb
    have freeK : ∀ b o, K.lookup b = some o → H b = none := by
      intro b o hb
      by_cases e : b = a
      · cases q : H b with
        | none => rfl
        | some u =>
          have := notK (by rw [← e, q]; intro z; cases z)
          rw [← e, hb] at this
          cases this
      · exact free b e
    have kinB : K.In (hidT s₁.heap H) := fun b o hb => hidT_get (KX b o hb) (freeK b o hb)
    have names : ∀ (b : Addr) (m : Str → Option Value), s₁.heap.Ns b m → (hidT s₁.heap H).Ns b m := by
      intro b m ⟨o, es, ep, h1, h2, h3⟩
      have nb : b ≠ a := by
        intro e
        rw [e, ha] at h1
        cases h1
        cases h2
      exact ⟨o, es, ep, hidT_get h1 (free b nb), h2, h3⟩
    have modB : Mod K mg (hidT s₁.heap H) := by
      refine ⟨kinB, names _ _ hns, ⟨mb, names _ _ hb, hbb⟩, ?_⟩
      obtain ⟨mc, l1, l2⟩ := hlim
      exact ⟨mc, names _ _ l1, l2⟩
    have env : Env0 P w K mg (hidT s₁.heap H) callerA [] s₁ H := by
      refine ⟨rfl, modB, fun b o q => of_hidT q, Nat.le_of_eq (hidT_size _ _), trivial, ?_, held, .of_eq hg⟩
      intro b z
      cases z
    refine codeAny_mono ((F _ kinB (names _ _ hns)).run callerA [] s₁ H ⟨[.ref a], []⟩ [.ref a] [.ref a] _ _ hr rfl env (hbind s₁ (.ref a)) (.cons rfl .nil) (hsp H only list)) ?_
    intro res s' q
    match res, q with
    | .error e, ⟨_, _, _, _, _, _, _, _, _, _, _, _, z⟩ => exact z.elim
    | .ok .next, z => exact z.elim
    | .ok .brk, z => exact z.elim
    | .ok .cont, z => exact z.elim
    | .ok (.ret u), ⟨v, H', os, bare, un, held', rel, e⟩ =>
      subst e
      have eu : u = Value.bool true := rel
      subst eu
      refine ⟨rfl, OldK.of_keep ?_, os, bare⟩
      intro b o hb
      cases q : H b with
      | none =>
        exact un.keep b o hb q (fun z => by cases z) (fun z => by cases z)
      | some u =>
        rcases only b with n | ⟨ob, xs, f⟩
        · rw [q] at n
          cases n
        · have one := (held b _ f).1
          have two := (held' b _ (un.frzs b ob _ f)).1
          rw [hb] at one
          cases one
          exact two
  cases look : K.lookup a with
  | none =>
    refine go (fun b => if b = a then some (.frz { cls := .type "list", data := .seq vs.toArray } (.lst (ns.map V.int))) else none) ?_ (Or.inl (Or.inr ⟨_, if_pos rfl⟩)) ?_ ?_ (fun _ => look)
    · intro b
      by_cases e : b = a
      · exact Or.inr ⟨_, _, if_pos e⟩
      · exact Or.inl (if_neg e)
    · intro b u q
      by_cases e : b = a
      · have q' := (if_pos e).symm.trans q
        cases q'
        subst e
        exact ⟨ha, by rw [List.length_map]; exact hl, vs, _, vals_ints hi, ha⟩
      · have q' := (if_neg e).symm.trans q
        cases q'
    · intro b z
      by_cases e : b = a
      · exact e
      · exact absurd (if_neg e) z
  | some o =>
    have same := KX a o look
    rw [ha] at same
    cases same
    refine go (fun _ => none) (fun _ => Or.inl rfl) (Or.inr ⟨_, vs.toArray, _, look, rfl, rfl, rfl, ?_, ?_⟩) (fun b u q => by cases q) (fun b z => absurd rfl z) (fun z => absurd rfl z)
    · rw [List.size_toArray, hi.length]
      exact hl
    · simpa using vals_ints hi
/-- the goal that the head leaves, from the law's promise -/
theorem walkG {l : PySem.W.OpenLaw} {n k : Nat} {q : Program} {loose : List Str} {XP : (Str → Option Value) → Heap → Prop} {YP : World → Heap → Prop} {d : DefRec} {K : Params → PySem.W.Frag} {sp : World → Sp} {x : Str}
    (hn : l.most = some n) (hn2 : n ≤ sizeLine) (hdf : d.params.defaults = []) (hr : Room k callerA) (hY : ∀ (w : World) (h : Heap), YP w h → (K w.params).In h)
    (F : ∀ (w : World) (mg : Str → Option Value) (fa : Addr) (h : Heap), (K w.params).In h → h.Ns mainGlobals mg → mg d.name = some (.ref fa) →
      ∃ fd : FuncData, (∀ (s : Shared) (u : Value), BindsTo s fd ⟨[u], []⟩ [(x, u)]) ∧ ∀ base : Heap, (K w.params).In base → base.Ns mainGlobals mg → FnG l.prog w (K w.params) mg base k fa fd [x] (sp w))
    (hsp : ∀ (w : World) (H : Hp) (a : Addr) (ns : List Int), ns.length ≤ n → Only H → SqL (K w.params) H a (ns.map V.int) → sp w [.ref a] H (fun v _ => v = .bl true) fun _ _ _ => False) :
    PySem.W.WalkO q loose XP YP l.row.toRowW d [] (fun f vs => PySem.call f vs) := by
  apply Att.attach_call hn hdf
  intro w s₀ s₁ mg mb fa o pm cd doc a vs ns G Y ho hd hcd hmg hobj hints hlen hg
  obtain ⟨fd, bind, fn⟩ := F w mg fa _ (hY w _ Y) G.T.g hmg
  exact law_callG (hY w _ Y) G.T.g G.T.b G.T.builtins G.T.nolimit hg hobj hints (Nat.le_trans hlen hn2) hr fn bind fun H hO hS => hsp w H a ns hlen hO hS
end Tw
set_option Elab.async false
set_option linter.all false
set_option maxRecDepth 100000
set_option maxHeartbeats 4000000
/-! Tw5: the operators keep what they say of data -/
namespace Tw
open PySem PySem.Spec PyProof.Rows L2
section
variable {X : Cx}
theorem okd_iff {d : D} (h : okd d = true) : d.plain = true ∧ d.depth ≤ 60 := by
  unfold okd at h
  rw [Bool.and_eq_true] at h
  exact ⟨h.1, of_decide_eq_true h.2⟩
/-- two ints in, an int out, under a guard -/
theorem o_int {f : Value → Value → Sem Value} {C : Int → Int → Prop} {g : Int → Int → V} {F : D → D → R D} (ho : OpR X f (rI C g))
    (hF : ∀ a b d, F a b = .ok d → ∃ i j, a = .int i ∧ b = .int j ∧ C i j ∧ ∀ K H, At K H d (g i j)) : OpR X f (r2D X.K F) := by
  intro pins s σ H x y v u Q I rx ry ⟨M, a, b, d, t, ha, hb, hf, q⟩
  obtain ⟨i, j, rfl, rfl, hc, hd⟩ := hF a b d hf
  have ex : x = .int i := ha
  have ey : y = .int j := hb
  exact ho pins s σ H x y v u Q I rx ry ⟨i, j, ex, ey, hc, q _ H (Evl.Ex.refl H) (hd _ _)⟩
theorem o_int0 {f : Value → Value → Sem Value} {g : Int → Int → V} {F : D → D → R D} (ho : OpR X f (rI0 g))
    (hF : ∀ a b d, F a b = .ok d → ∃ i j, a = .int i ∧ b = .int j ∧ ∀ K H, At K H d (g i j)) : OpR X f (r2D X.K F) := by
  intro pins s σ H x y v u Q I rx ry ⟨M, a, b, d, t, ha, hb, hf, q⟩
  obtain ⟨i, j, rfl, rfl, hd⟩ := hF a b d hf
  have ex : x = .int i := ha
  have ey : y = .int j := hb
  exact ho pins s σ H x y v u Q I rx ry ⟨i, j, ex, ey, q _ H (Evl.Ex.refl H) (hd _ _)⟩
theorem o_sub : OpR X (binaryOp .Sub) (r2D X.K dSub) := o_int0 op_sub fun a b d h => by
  unfold dSub at h
  split at h
  · cases h
    exact ⟨_, _, rfl, rfl, fun _ _ => rfl⟩
  · cases h
theorem o_div : OpR X (binaryOp .FloorDiv) (r2D X.K dDiv) := o_int op_fdivW fun a b d h => by
  unfold dDiv at h
  split at h
  · split at h
    · rename_i i j q
      cases h
      exact ⟨_, _, rfl, rfl, q, fun _ _ => rfl⟩
    · cases h
  · cases h
theorem o_mod : OpR X (binaryOp .Mod) (r2D X.K dMod) := o_int op_modN fun a b d h => by
  unfold dMod at h
  split at h
  · split at h
    · rename_i i j q
      cases h
      refine ⟨_, _, rfl, rfl, by omega, fun _ _ => ?_⟩
      show V.int (i.fmod j) = V.int (i % j)
      rw [Int.fmod_eq_emod_of_nonneg _ (by omega)]
    · cases h
  · cases h
theorem o_pow : OpR X (binaryOp .Pow) (r2D X.K dPow) := o_int op_pow fun a b d h => by
  unfold dPow at h
  split at h
  · split at h
    · rename_i i j q
      cases h
      exact ⟨_, _, rfl, rfl, q, fun _ _ => rfl⟩
    · cases h
  · cases h
theorem o_neg : UnR X (unaryOp .USub) (r1D X.K dNeg) := by
  intro pins s σ H x v Q I rx ⟨M, a, d, t, ha, hf, q⟩
  unfold dNeg at hf
  split at hf
  · rename_i i
    cases hf
    have ex : x = .int i := ha
    exact un_neg pins s σ H x v Q I rx ⟨i, ex, q _ H (Evl.Ex.refl H) rfl⟩
  · cases hf
/-- an item is added behind: a new list -/
theorem laidL {pins : List (Addr × Obj)} {σ : L2.St} {H : Hp} {s : Shared} {M : List Addr} {ds : List D} {vs : List V} {us : List Value} {Q : VK} (I : Inv X pins σ H s) (t : Trk M H) (r : Vals vs us) (h : AtL X.K (hid M H) ds vs) (hz : vs.length ≤ sizeLine)
    (q : ∀ p o H', H p = none → Ex H H' → H' p = some o → Own X.K (hid (p :: M) H') o (.list ds) → Q (.ref p) H') :
    EP X pins σ Q (.ref s.heap.objs.size) { s with heap := s.heap.push { cls := .type "list", data := .seq us.toArray } } := by
  have n : H s.heap.objs.size = none := I.hok.fresh (Nat.le_refl _)
  exact ⟨.ref _, _, I.lnew (t' := s.toks) r hz, rfl, q _ _ _ n (Evl.Ex.new n) upd_same (.inl ⟨vs, ds, rfl, rfl, AtL.mono (hid_new (Evl.Ex.new n) n) ds vs h⟩)⟩
theorem plainL_eq {h : Heap} {a : Addr} {its : Array Value} (p : PlainL h a its) : ∃ n sl, h.get? a = some { cls := .type "list", dict := none, data := .seq its n, slots := sl } := by
  obtain ⟨⟨cls, dict, data, slots⟩, n, e, h1, h2, h3⟩ := p
  simp only at h1 h2 h3
  subst h1 h2 h3
  exact ⟨n, slots, e⟩
theorem o_mul : OpR X (binaryOp .Mult) (r2D X.K dMul) := o_int op_mulW fun a b d h => by
  unfold dMul at h
  split at h
  · split at h
    · rename_i i j q
      cases h
      exact ⟨_, _, rfl, rfl, q, fun _ _ => rfl⟩
    · cases h
  · cases h
theorem o_cat : OpR X (binaryOp .Add) (r2L X.K dCat) := by
  intro pins s σ H x y v u Q I rx ry ⟨M, a, b, d, t, ha, hb, hf, q⟩
  unfold dCat at hf
  split at hf
  · rename_i ds es
    split at hf
    · rename_i hz
      cases hf
      obtain ⟨l, xs, e1, h1, h2⟩ := ha
      obtain ⟨m, ys, e2, h3, h4⟩ := hb
      subst e1 e2
      cases rx
      cases ry
      have n1 := atL_len h2
      have n2 := atL_len h4
      obtain ⟨its, r1, p1, _⟩ := I.list (Or.elim h1 (fun z => Or.inl (ex_rd hid_le z)) Or.inr)
      obtain ⟨its2, r2, p2, _⟩ := I.list (Or.elim h3 (fun z => Or.inl (ex_rd hid_le z)) Or.inr)
      obtain ⟨k1, sl1, g1⟩ := plainL_eq p1
      obtain ⟨k2, sl2, g2⟩ := plainL_eq p2
      have l1 := r1.length
      have l2 := r2.length
      have hs : its.toArray.size + its2.toArray.size ≤ sizeLine := by
        rw [List.size_toArray, List.size_toArray]
        exact lim_le (by omega)
      refine concat_meets ⟨_, g1, rfl⟩ ⟨_, g2, rfl⟩ noFill_list_add seq_list_add PySem.F.slot_list_add PySem.F.entry_list_add (PySem.F.args_list_add_2 _ _) (PyProof.Rows.list_addW l m its.toArray its2.toArray k1 k2 none none sl1 sl2 hs) ⟨g1, g2, ?_⟩
      have ea : its.toArray ++ its2.toArray = (its ++ its2).toArray := by simp
      rw [ea]
      refine laidL I t (r1.append r2) (AtL.app h2 h4) ?_ q
      rw [List.length_append]
      exact lim_le (by omega)
    · cases hf
  · cases hf
theorem o_addT {pins : List (Addr × Obj)} {σ : L2.St} {H : Hp} {s : Shared} {M : List Addr} {x y : V} {v u : Value} {Q : VK} {ds es : List D} (I : Inv X pins σ H s) (rx : RelV x v) (ry : RelV y u) (t : Trk M H) (ha : At X.K (hid M H) (.tuple ds) x) (hb : At X.K (hid M H) (.tuple es) y) (hz : ds.length + es.length ≤ lim)
    (q : ∀ v H', Ex H H' → At X.K (hid M H') (.tuple (ds ++ es)) v → Q v H') : wpAny (model X.prog X.w) X.A (binaryOp .Add v u) (EP X pins σ Q) X.xe s := by
  obtain ⟨l, xs, e1, h1, h2⟩ := ha
  obtain ⟨m, ys, e2, h3, h4⟩ := hb
  subst e1 e2
  cases rx
  cases ry
  have n1 := atL_len h2
  have n2 := atL_len h4
  obtain ⟨its, r1, p1, _⟩ := I.tuple (Or.elim h1 (fun z => Or.inl (ex_rd hid_le z)) Or.inr)
  obtain ⟨its2, r2, p2, _⟩ := I.tuple (Or.elim h3 (fun z => Or.inl (ex_rd hid_le z)) Or.inr)
  obtain ⟨⟨cls, dd, data, sl⟩, ho, hc, k1, hd⟩ := id p1
  obtain ⟨⟨cls2, dd2, data2, sl2⟩, ho2, hc2, k2, hd2⟩ := id p2
  simp only at hc hd hc2 hd2
  subst hc hd hc2 hd2
  have l1 := r1.length
  have l2 := r2.length
  by_cases hv : its = []
  · have hx : ds = [] := List.eq_nil_of_length_eq_zero (by rw [← n1, l1, hv]; rfl)
    refine concat_meets ⟨_, ho, rfl⟩ ⟨_, ho2, rfl⟩ noFill_tuple_add seq_tuple_add PySem.F.slot_tuple_add PySem.F.entry_tuple_add (PySem.F.args_tuple_add_2 _ _) (PyProof.Rows.tuple_addW0 l m _ _ _ _ _ _ _ _ (by simp [hv])) ⟨ho, ho2, ?_⟩
    exact ⟨.ref m, H, I.tok _, rfl, q _ H (Evl.Ex.refl H) (by rw [hx]; exact ⟨m, ys, rfl, h3, h4⟩)⟩
  · by_cases hw : its2 = []
    · have hy : es = [] := List.eq_nil_of_length_eq_zero (by rw [← n2, l2, hw]; rfl)
      refine concat_meets ⟨_, ho, rfl⟩ ⟨_, ho2, rfl⟩ noFill_tuple_add seq_tuple_add PySem.F.slot_tuple_add PySem.F.entry_tuple_add (PySem.F.args_tuple_add_2 _ _) (PyProof.Rows.tuple_addW1 l m _ _ _ _ _ _ _ _ (by simpa using hv) (by simp [hw])) ⟨ho, ho2, ?_⟩
      exact ⟨.ref l, H, I.tok _, rfl, q _ H (Evl.Ex.refl H) (by rw [hy, List.append_nil]; exact ⟨l, xs, rfl, h1, h2⟩)⟩
    · have hs : its.toArray.size + its2.toArray.size ≤ sizeLine := by
        rw [List.size_toArray, List.size_toArray]
        exact lim_le (by omega)
      refine concat_meets ⟨_, ho, rfl⟩ ⟨_, ho2, rfl⟩ noFill_tuple_add seq_tuple_add PySem.F.slot_tuple_add PySem.F.entry_tuple_add (PySem.F.args_tuple_add_2 _ _) (PyProof.Rows.tuple_addW2 l m _ _ _ _ _ _ _ _ (by simpa using hv) (by simpa using hw) hs) ⟨ho, ho2, ?_⟩
      have ea : its.toArray ++ its2.toArray = (its ++ its2).toArray := by simp
      rw [ea]
      have n : H s.heap.objs.size = none := I.hok.fresh (Nat.le_refl _)
      have hl : (xs ++ ys).length ≤ sizeLine := by
        rw [List.length_append]
        exact lim_le (by omega)
      refine ⟨.ref s.heap.objs.size, _, I.laid (t' := s.toks) (o := .tup (xs ++ ys)) (fun b ob z => Heap.get?_push_of_some _ z) (Nat.le_refl _) ⟨hl, _, r1.append r2, IsTup.new _ _⟩, rfl, q _ _ (Evl.Ex.new n) ?_⟩
      exact ⟨_, _, rfl, SqT.of (hid_of upd_same (t.no n)), AtL.mono (hid_ex (Evl.Ex.new n)) _ _ (AtL.app h2 h4)⟩
theorem o_add : OpR X (binaryOp .Add) (r2D X.K dAdd) := by
  intro pins s σ H x y v u Q I rx ry ⟨M, a, b, d, t, ha, hb, hf, q⟩
  unfold dAdd at hf
  split at hf
  · rename_i i j
    cases hf
    exact op_add pins s σ H x y v u Q I rx ry ⟨i, j, ha, hb, q _ H (Evl.Ex.refl H) rfl⟩
  · rename_i xs ys
    split at hf
    · rename_i hz
      exact o_cat pins s σ H x y v u Q I rx ry (r2L.D ⟨M, _, _, d, t, ha, hb, by show (if xs.length + ys.length ≤ lim then R.ok (PyData.list (xs ++ ys)) else R.bad) = _; rw [if_pos hz]; exact hf, q⟩)
    · cases hf
  · rename_i xs ys
    split at hf
    · rename_i hz
      cases hf
      exact o_addT I rx ry t ha hb hz q
    · cases hf
  · rename_i z w
    split at hf
    · rename_i hz
      cases hf
      exact op_add_str pins s σ H x y v u Q I rx ry ⟨z, w, ha, hb, lim_le hz, q _ H (Evl.Ex.refl H) rfl⟩
    · cases hf
  · cases hf
/-! ### comparisons -/
theorem units_of {A : Around} {k : Nat} (hr : Room k A) : A.units + 200 < cLine := by
  have := hr.un
  omega
theorem o_eq (hu : X.A.units + 200 < cLine) : OpR X (compareOp .Eq) (r2D X.K dEq) := by
  intro pins s σ H x y v u Q I rx ry ⟨M, a, b, d, t, ha, hb, hf, q⟩
  unfold dEq at hf
  split at hf
  · rename_i g
    rw [Bool.and_eq_true] at g
    cases hf
    have ga := okd_iff g.1
    have gb := okd_iff g.2
    obtain ⟨as, r1⟩ := At.reads I ga.1 ha rx
    obtain ⟨bs, r2⟩ := At.reads I gb.1 hb ry
    exact SeqAt.eq_plain r1 r2 ga.1 gb.1 (by omega) ⟨.bl _, H, I, rfl, q _ H (Evl.Ex.refl H) rfl⟩
  · cases hf
theorem o_ne (hu : X.A.units + 200 < cLine) : OpR X (compareOp .NotEq) (r2D X.K dNe) := by
  intro pins s σ H x y v u Q I rx ry ⟨M, a, b, d, t, ha, hb, hf, q⟩
  unfold dNe at hf
  split at hf
  · rename_i g
    rw [Bool.and_eq_true] at g
    cases hf
    have ga := okd_iff g.1
    have gb := okd_iff g.2
    obtain ⟨as, r1⟩ := At.reads I ga.1 ha rx
    obtain ⟨bs, r2⟩ := At.reads I gb.1 hb ry
    exact SeqAt.ne_plain r1 r2 ga.1 gb.1 (by omega) ⟨.bl _, H, I, rfl, q _ H (Evl.Ex.refl H) rfl⟩
  · cases hf
theorem ordd_iff {a b : D} (h : ordd a b = true) : a.plain = true ∧ a.depth ≤ 60 ∧ b.plain = true ∧ b.depth ≤ 60 ∧ PySem.W.alike a b = true ∧ a ≠ .none := by
  unfold ordd at h
  rw [Bool.and_eq_true, Bool.and_eq_true, Bool.and_eq_true] at h
  obtain ⟨⟨⟨h1, h2⟩, h3⟩, h4⟩ := h
  exact ⟨(okd_iff h1).1, (okd_iff h1).2, (okd_iff h2).1, (okd_iff h2).2, h3, fun z => by rw [z] at h4; cases h4⟩
theorem o_lt (hu : X.A.units + 200 < cLine) : OpR X (compareOp .Lt) (r2D X.K dLt) := by
  intro pins s σ H x y v u Q I rx ry ⟨M, a, b, d, t, ha, hb, hf, q⟩
  unfold dLt at hf
  split at hf
  · rename_i i j
    cases hf
    exact op_lt pins s σ H x y v u Q I rx ry ⟨i, j, ha, hb, q _ H (Evl.Ex.refl H) rfl⟩
  · split at hf
    · rename_i g
      cases hf
      obtain ⟨p1, d1, p2, d2, al, nn⟩ := ordd_iff g
      obtain ⟨as, r1⟩ := At.reads I p1 ha rx
      obtain ⟨bs, r2⟩ := At.reads I p2 hb ry
      exact PySem.W.lt_data r1 r2 al nn (by omega) ⟨.bl _, H, I, rfl, q _ H (Evl.Ex.refl H) rfl⟩
    · cases hf
theorem o_le (hu : X.A.units + 200 < cLine) : OpR X (compareOp .LtE) (r2D X.K dLe) := by
  intro pins s σ H x y v u Q I rx ry ⟨M, a, b, d, t, ha, hb, hf, q⟩
  unfold dLe at hf
  split at hf
  · rename_i i j
    cases hf
    exact op_le pins s σ H x y v u Q I rx ry ⟨i, j, ha, hb, q _ H (Evl.Ex.refl H) rfl⟩
  · split at hf
    · rename_i g
      cases hf
      obtain ⟨p1, d1, p2, d2, al, nn⟩ := ordd_iff g
      obtain ⟨as, r1⟩ := At.reads I p1 ha rx
      obtain ⟨bs, r2⟩ := At.reads I p2 hb ry
      exact PySem.W.le_data r1 r2 al nn (by omega) ⟨.bl _, H, I, rfl, q _ H (Evl.Ex.refl H) rfl⟩
    · cases hf
theorem o_gt (hu : X.A.units + 200 < cLine) : OpR X (compareOp .Gt) (r2D X.K dGt) := by
  intro pins s σ H x y v u Q I rx ry ⟨M, a, b, d, t, ha, hb, hf, q⟩
  unfold dGt at hf
  split at hf
  · rename_i i j
    cases hf
    exact op_gt pins s σ H x y v u Q I rx ry ⟨i, j, ha, hb, q _ H (Evl.Ex.refl H) rfl⟩
  · split at hf
    · rename_i g
      cases hf
      obtain ⟨p1, d1, p2, d2, al, nn⟩ := ordd_iff g
      obtain ⟨as, r1⟩ := At.reads I p1 ha rx
      obtain ⟨bs, r2⟩ := At.reads I p2 hb ry
      exact PySem.W.gt_data r1 r2 al nn (by omega) ⟨.bl _, H, I, rfl, q _ H (Evl.Ex.refl H) rfl⟩
    · cases hf
theorem o_ge (hu : X.A.units + 200 < cLine) : OpR X (compareOp .GtE) (r2D X.K dGe) := by
  intro pins s σ H x y v u Q I rx ry ⟨M, a, b, d, t, ha, hb, hf, q⟩
  unfold dGe at hf
  split at hf
  · rename_i i j
    cases hf
    exact op_ge pins s σ H x y v u Q I rx ry ⟨i, j, ha, hb, q _ H (Evl.Ex.refl H) rfl⟩
  · split at hf
    · rename_i g
      cases hf
      obtain ⟨p1, d1, p2, d2, al, nn⟩ := ordd_iff g
      obtain ⟨as, r1⟩ := At.reads I p1 ha rx
      obtain ⟨bs, r2⟩ := At.reads I p2 hb ry
      exact PySem.W.ge_data r1 r2 al nn (by omega) ⟨.bl _, H, I, rfl, q _ H (Evl.Ex.refl H) rfl⟩
    · cases hf
theorem at_none {K : PySem.W.Frag} {H : Hp} : ∀ {a : D} {x : V}, At K H a x → decide (x = .non) = isNone a
  | .none, x, h => by
    have e : x = .non := h
    rw [e]
    rfl
  | .bool b, x, h => by
    have e : x = .bl b := h
    rw [e]
    rfl
  | .int i, x, h => by
    have e : x = .int i := h
    rw [e]
    rfl
  | .str z, x, h => by
    have e : x = .str z := h
    rw [e]
    rfl
  | .list ds, x, ⟨a, xs, e, _⟩ => by
    rw [e]
    rfl
  | .tuple ds, x, ⟨a, xs, e, _⟩ => by
    rw [e]
    rfl
  | .dict es, x, ⟨a, e, _⟩ => by
    rw [e]
    rfl
theorem isNone_eq {a : D} (h : isNone a = true) : a = .none := by
  cases a with
  | none => rfl
  | _ => cases h
theorem o_is : OpR X (compareOp .Is) (r2D X.K dIs) := by
  intro pins s σ H x y v u Q I rx ry ⟨M, a, b, d, t, ha, hb, hf, q⟩
  unfold dIs at hf
  split at hf
  · rename_i g
    cases hf
    rw [isNone_eq g] at hb
    have ey : y = .non := hb
    exact op_isN pins s σ H x y v u Q I rx ry ⟨ey, q _ H (Evl.Ex.refl H) (by rw [at_none ha]; rfl)⟩
  · cases hf
theorem o_isnot : OpR X (compareOp .IsNot) (r2D X.K dIsNot) := by
  intro pins s σ H x y v u Q I rx ry ⟨M, a, b, d, t, ha, hb, hf, q⟩
  unfold dIsNot at hf
  split at hf
  · rename_i g
    cases hf
    rw [isNone_eq g] at hb
    have ey : y = .non := hb
    exact op_notN pins s σ H x y v u Q I rx ry ⟨ey, q _ H (Evl.Ex.refl H) (by rw [at_none ha]; rfl)⟩
  · cases hf
theorem okd_list {xs : List D} (h : okd (.list xs) = true) : PyData.plainAll xs = true ∧ PyData.depthAll xs ≤ 59 := by
  obtain ⟨h1, h2⟩ := okd_iff h
  simp only [PyData.plain] at h1
  simp only [PyData.depth] at h2
  exact ⟨h1, by omega⟩
theorem okd_tuple {xs : List D} (h : okd (.tuple xs) = true) : PyData.plainAll xs = true ∧ PyData.depthAll xs ≤ 59 := by
  obtain ⟨h1, h2⟩ := okd_iff h
  simp only [PyData.plain] at h1
  simp only [PyData.depth] at h2
  exact ⟨h1, by omega⟩
theorem o_in (hu : X.A.units + 200 < cLine) : OpR X (compareOp .In) (r2D X.K dIn) := by
  intro pins s σ H x y v u Q I rx ry ⟨M, a, b, d, t, ha, hb, hf, q⟩
  unfold dIn at hf
  split at hf
  · split at hf
    · rename_i xs g
      rw [Bool.and_eq_true] at g
      cases hf
      obtain ⟨as, r1⟩ := At.reads I (okd_iff g.1).1 ha rx
      obtain ⟨bs, r2⟩ := At.reads I (okd_iff g.2).1 hb ry
      exact SeqAt.in_list_data r2 r1 (okd_list g.2).1 (okd_iff g.1).1 (by have := (okd_list g.2).2; omega) ⟨.bl _, H, I, rfl, q _ H (Evl.Ex.refl H) rfl⟩
    · cases hf
  · split at hf
    · rename_i xs g
      rw [Bool.and_eq_true] at g
      cases hf
      obtain ⟨as, r1⟩ := At.reads I (okd_iff g.1).1 ha rx
      obtain ⟨bs, r2⟩ := At.reads I (okd_iff g.2).1 hb ry
      exact SeqAt.in_tuple_data r2 r1 (okd_tuple g.2).1 (okd_iff g.1).1 (by have := (okd_tuple g.2).2; omega) ⟨.bl _, H, I, rfl, q _ H (Evl.Ex.refl H) rfl⟩
    · cases hf
  · cases hf
theorem o_notin (hu : X.A.units + 200 < cLine) : OpR X (compareOp .NotIn) (r2D X.K dNotIn) := by
  intro pins s σ H x y v u Q I rx ry ⟨M, a, b, d, t, ha, hb, hf, q⟩
  unfold dNotIn at hf
  split at hf
  · split at hf
    · rename_i xs g
      rw [Bool.and_eq_true] at g
      cases hf
      obtain ⟨as, r1⟩ := At.reads I (okd_iff g.1).1 ha rx
      obtain ⟨bs, r2⟩ := At.reads I (okd_iff g.2).1 hb ry
      exact SeqAt.notIn_list_data r2 r1 (okd_list g.2).1 (okd_iff g.1).1 (by have := (okd_list g.2).2; omega) ⟨.bl _, H, I, rfl, q _ H (Evl.Ex.refl H) rfl⟩
    · cases hf
  · split at hf
    · rename_i xs g
      rw [Bool.and_eq_true] at g
      cases hf
      obtain ⟨as, r1⟩ := At.reads I (okd_iff g.1).1 ha rx
      obtain ⟨bs, r2⟩ := At.reads I (okd_iff g.2).1 hb ry
      exact SeqAt.notIn_tuple_data r2 r1 (okd_tuple g.2).1 (okd_iff g.1).1 (by have := (okd_tuple g.2).2; omega) ⟨.bl _, H, I, rfl, q _ H (Evl.Ex.refl H) rfl⟩
    · cases hf
  · cases hf
end
end Tw
set_option Elab.async false
set_option linter.all false
set_option maxRecDepth 100000
set_option maxHeartbeats 4000000
/-! Tw6: items, slices, builtins, tests -/
namespace Tw
open PySem PySem.Spec PyProof.Rows L2
theorem sql_le {K : PySem.W.Frag} {M : List Addr} {H : Hp} {a : Addr} {xs : List V} (h : SqL K (hid M H) a xs) : SqL K H a xs := Evl.ex_l hid_le h
theorem sqt_le {K : PySem.W.Frag} {M : List Addr} {H : Hp} {a : Addr} {xs : List V} (h : SqT K (hid M H) a xs) : SqT K H a xs := Evl.ex_t hid_le h
theorem atI_at {K : PySem.W.Frag} {H : Hp} {ds : List D} {vs : List V} {i : Int} {d : D} (h : AtL K H ds vs) (g : atI ds i = some d) : ∃ v, atI vs i = some v ∧ At K H d v := by
  unfold atI at g ⊢
  rw [atL_len h]
  cases e : ixN ds.length i with
  | none =>
    rw [e] at g
    cases g
  | some j =>
    rw [e] at g
    obtain ⟨v, h1, h2⟩ := AtL.get h (show ds[j]? = some d from g)
    exact ⟨v, h1, h2⟩
section
variable {X : Cx}
theorem i_x : IxR X (r2D X.K dIx) := by
  intro value slice pins s σ H x y v u Q I rx ry ⟨M, a, b, d, t, ha, hb, hf, q⟩ hs
  unfold dIx at hf
  split at hf
  · rename_i xs i
    split at hf
    · rename_i e g
      cases hf
      obtain ⟨l, vs, e1, h1, h2⟩ := ha
      obtain ⟨w, g1, g2⟩ := atI_at h2 g
      exact ix_list value slice pins s σ H x y v u Q I rx ry ⟨l, vs, i, w, e1, hb, sql_le h1, g1, q w H (Evl.Ex.refl H) g2⟩ hs
    · cases hf
  · rename_i xs i
    split at hf
    · rename_i e g
      cases hf
      obtain ⟨l, vs, e1, h1, h2⟩ := ha
      obtain ⟨w, g1, g2⟩ := atI_at h2 g
      exact ix_tup value slice pins s σ H x y v u Q I rx ry ⟨l, vs, i, w, e1, hb, sqt_le h1, g1, q w H (Evl.Ex.refl H) g2⟩ hs
    · cases hf
  · cases hf
/-! ### builtins -/
theorem at_cons {K : PySem.W.Frag} {H : Hp} {d : D} {ds : List D} {xs : List V} (h : AtL K H (d :: ds) xs) : ∃ v vs, xs = v :: vs ∧ At K H d v ∧ AtL K H ds vs := h
theorem at_one {K : PySem.W.Frag} {H : Hp} {d : D} {xs : List V} (h : AtL K H [d] xs) : ∃ v, xs = [v] ∧ At K H d v := by
  obtain ⟨v, vs, e, h1, h2⟩ := h
  have z : vs = [] := h2
  rw [z] at e
  exact ⟨v, e, h1⟩
theorem at_two {K : PySem.W.Frag} {H : Hp} {d e : D} {xs : List V} (h : AtL K H [d, e] xs) : ∃ v w, xs = [v, w] ∧ At K H d v ∧ At K H e w := by
  obtain ⟨v, vs, e1, h1, h2⟩ := h
  obtain ⟨w, e2, h3⟩ := at_one h2
  rw [e2] at e1
  exact ⟨v, w, e1, h1, h3⟩
theorem k_len : CallR X (.builtin "len") (rnD X.K cLen) := by
  intro pins s σ H xs us Q I r ⟨M, as, d, t, ha, hf, q⟩
  unfold cLen at hf
  split at hf
  · cases hf
    obtain ⟨v, e, a, vs, e2, h1, h2⟩ := at_one ha
    exact call_len_seq pins s σ H xs us Q I r ⟨a, vs, by rw [e, e2], .inl (sql_le h1), q _ H (Evl.Ex.refl H) (by rw [atL_len h2]; rfl)⟩
  · cases hf
    obtain ⟨v, e, a, vs, e2, h1, h2⟩ := at_one ha
    exact call_len_seq pins s σ H xs us Q I r ⟨a, vs, by rw [e, e2], .inr (sqt_le h1), q _ H (Evl.Ex.refl H) (by rw [atL_len h2]; rfl)⟩
  · cases hf
theorem k_abs : CallR X (.builtin "abs") (rnD X.K cAbs) := by
  intro pins s σ H xs us Q I r ⟨M, as, d, t, ha, hf, q⟩
  unfold cAbs at hf
  split at hf
  · cases hf
    obtain ⟨v, e, h1⟩ := at_one ha
    exact call_abs pins s σ H xs us Q I r ⟨_, by rw [e, show v = _ from h1], q _ H (Evl.Ex.refl H) rfl⟩
  · cases hf
theorem k_int : CallR X (.type "int") (rnD X.K cInt) := by
  intro pins s σ H xs us Q I r ⟨M, as, d, t, ha, hf, q⟩
  unfold cInt at hf
  split at hf
  · cases hf
    obtain ⟨v, e, h1⟩ := at_one ha
    exact call_int1 pins s σ H xs us Q I r (.inl ⟨_, by rw [e, show v = _ from h1], q _ H (Evl.Ex.refl H) rfl⟩)
  · cases hf
    obtain ⟨v, e, h1⟩ := at_one ha
    exact call_int1 pins s σ H xs us Q I r (.inr ⟨_, by rw [e, show v = _ from h1], q _ H (Evl.Ex.refl H) rfl⟩)
  · cases hf
theorem k_sum (hc : X.calm = true) : CallR X (.builtin "sum") (rnD X.K cSum) := by
  intro pins s σ H xs us Q I r ⟨M, as, d, t, ha, hf, q⟩
  unfold cSum at hf
  split at hf
  · split at hf
    · rename_i l g
      cases hf
      obtain ⟨v, e, a, vs, e2, h1, h2⟩ := at_one ha
      rw [intsOf_some g] at h2
      rw [AtL.ints h2] at h1
      exact cr_sum hc pins s σ H xs us Q I r ⟨a, l, by rw [e, e2], sql_le h1, q _ H (Evl.Ex.refl H) rfl⟩
    · cases hf
  · cases hf
theorem k_all (hc : X.calm = true) : CallR X (.builtin "all") (rnD X.K cAll) := by
  intro pins s σ H xs us Q I r ⟨M, as, d, t, ha, hf, q⟩
  unfold cAll at hf
  split at hf
  · split at hf
    · rename_i l g
      cases hf
      obtain ⟨v, e, a, vs, e2, h1, h2⟩ := at_one ha
      rw [boolsOf_some g] at h2
      rw [AtL.bools h2] at h1
      exact cr_all hc pins s σ H xs us Q I r ⟨a, l, by rw [e, e2], sql_le h1, q _ H (Evl.Ex.refl H) rfl⟩
    · cases hf
  · cases hf
theorem k_any (hc : X.calm = true) : CallR X (.builtin "any") (rnD X.K cAny) := by
  intro pins s σ H xs us Q I r ⟨M, as, d, t, ha, hf, q⟩
  unfold cAny at hf
  split at hf
  · split at hf
    · rename_i l g
      cases hf
      obtain ⟨v, e, a, vs, e2, h1, h2⟩ := at_one ha
      rw [boolsOf_some g] at h2
      rw [AtL.bools h2] at h1
      exact cr_any hc pins s σ H xs us Q I r ⟨a, l, by rw [e, e2], sql_le h1, q _ H (Evl.Ex.refl H) rfl⟩
    · cases hf
  · cases hf
/-! ### min, max -/
def alikeB (xs : List D) : Bool := (xs.all fun x => xs.all fun y => PySem.W.alike x y) && xs.all fun x => !isNone x
theorem alikeB_iff {xs : List D} (h : alikeB xs = true) : PySem.W.AlikeAll xs := by
  unfold alikeB at h
  rw [Bool.and_eq_true] at h
  refine ⟨fun x hx y hy => ?_, fun x hx z => ?_⟩
  · exact List.all_eq_true.mp (List.all_eq_true.mp h.1 x hx) y hy
  · have := List.all_eq_true.mp h.2 x hx
    rw [z] at this
    cases this
def kMin : List D → R D
  | [.int i, .int j] => .ok (.int (if j < i then j else i))
  | [.list (x :: xs)] => if okd (.list (x :: xs)) && alikeB (x :: xs) then .ok (PySem.W.minD x xs) else .bad
  | _ => .bad
def kMax : List D → R D
  | [.int i, .int j] => .ok (.int (if j > i then j else i))
  | [.list (x :: xs)] => if okd (.list (x :: xs)) && alikeB (x :: xs) then .ok (PySem.W.maxD x xs) else .bad
  | _ => .bad
theorem plain_at {xs : List D} (h : PyData.plainAll xs = true) : ∀ {i : Nat} {d : D}, xs[i]? = some d → d.plain = true := fun {i d} e => PySem.W.plain_mem h (List.mem_of_getElem? e)
/-- an item that is read as a datum is this datum -/
theorem item_is {pins : List (Addr × Obj)} {σ : L2.St} {H : Hp} {s : Shared} {M : List Addr} {ds : List D} {vs : List V} {us : List Value} (I : Inv X pins σ H s) (hp : PyData.plainAll ds = true) (h : AtL X.K (hid M H) ds vs) (r : Vals vs us) {i : Nat} {u : Value} (hu : us[i]? = some u)
    {h' : Heap} (hk : ∀ b o, s.heap.get? b = some o → h'.get? b = some o) {d : D} {bs : List Addr} (rd : Reads h' u d bs) : ∃ v, RelV v u ∧ At X.K (hid M H) d v := by
  have hi : i < us.length := (List.getElem?_eq_some_iff.mp hu).1
  have hv : i < vs.length := by rw [r.length]; exact hi
  obtain ⟨u', h1, h2⟩ := r.get (List.getElem?_eq_getElem hv)
  rw [hu] at h1
  cases h1
  obtain ⟨e, g1, g2⟩ := AtL.get' h (List.getElem?_eq_getElem hv)
  obtain ⟨as, r1⟩ := At.reads I (plain_at hp g1) g2 h2
  have : e = d := SeqAt.plain_unique e d u as bs (plain_at hp g1) (PyProof.Rows.Reads.keeps hk r1) rd
  rw [← this]
  exact ⟨_, h2, g2⟩
theorem k_min (hc : X.calm = true) (hu : X.A.units + 200 < cLine) : CallR X (.builtin "min") (rnD X.K kMin) := by
  intro pins s σ H xs us Q I r ⟨M, as, d, t, ha, hf, q⟩
  unfold kMin at hf
  split at hf
  · cases hf
    obtain ⟨v, w, e, h1, h2⟩ := at_two ha
    exact call_min2 hc pins s σ H xs us Q I r ⟨_, _, by rw [e, show v = _ from h1, show w = _ from h2], q _ H (Evl.Ex.refl H) rfl⟩
  · split at hf
    · rename_i x ds g
      rw [Bool.and_eq_true] at g
      cases hf
      obtain ⟨v, e, a, vs, e2, h1, h2⟩ := at_one ha
      subst e2
      subst e
      obtain ⟨its, rv, hl, _⟩ := I.list (sql_le h1)
      rw [Vals.ref1 r]
      have hp := okd_list g.1
      obtain ⟨bs, hr⟩ := Dp.readsAll I (x :: ds) vs its (AtL.dp _ _ hp.1 (AtL.mono hid_le _ _ h2)) rv
      refine PySem.W.min_list_data (I.ok.hd hc) hl.isList (by simpa using hr) (alikeB_iff g.2) (by have := hp.2; omega) fun i u h' tk bs hi rd hk => ?_
      obtain ⟨w, w1, w2⟩ := item_is I hp.1 h2 rv (by simpa using hi) hk rd
      exact ⟨w, H, I.kept hk, w1, q w H (Evl.Ex.refl H) w2⟩
    · cases hf
  · cases hf
theorem k_max (hc : X.calm = true) (hu : X.A.units + 200 < cLine) : CallR X (.builtin "max") (rnD X.K kMax) := by
  intro pins s σ H xs us Q I r ⟨M, as, d, t, ha, hf, q⟩
  unfold kMax at hf
  split at hf
  · cases hf
    obtain ⟨v, w, e, h1, h2⟩ := at_two ha
    exact call_max2 hc pins s σ H xs us Q I r ⟨_, _, by rw [e, show v = _ from h1, show w = _ from h2], q _ H (Evl.Ex.refl H) rfl⟩
  · split at hf
    · rename_i x ds g
      rw [Bool.and_eq_true] at g
      cases hf
      obtain ⟨v, e, a, vs, e2, h1, h2⟩ := at_one ha
      subst e2
      subst e
      obtain ⟨its, rv, hl, _⟩ := I.list (sql_le h1)
      rw [Vals.ref1 r]
      have hp := okd_list g.1
      obtain ⟨bs, hr⟩ := Dp.readsAll I (x :: ds) vs its (AtL.dp _ _ hp.1 (AtL.mono hid_le _ _ h2)) rv
      refine PySem.W.max_list_data (I.ok.hd hc) hl.isList (by simpa using hr) (alikeB_iff g.2) (by have := hp.2; omega) fun i u h' tk bs hi rd hk => ?_
      obtain ⟨w, w1, w2⟩ := item_is I hp.1 h2 rv (by simpa using hi) hk rd
      exact ⟨w, H, I.kept hk, w1, q w H (Evl.Ex.refl H) w2⟩
    · cases hf
  · cases hf
/-! ### repr -/
mutual
theorem plain_hasDict : ∀ d : D, d.plain = true → d.hasDict = false
  | .none, _ => rfl
  | .bool _, _ => rfl
  | .int _, _ => rfl
  | .str _, _ => rfl
  | .list xs, h => by
    simp only [PyData.plain] at h
    simp only [PyData.hasDict]
    exact plain_hasDictAll xs h
  | .tuple xs, h => by
    simp only [PyData.plain] at h
    simp only [PyData.hasDict]
    exact plain_hasDictAll xs h
  | .dict _, h => by simp only [PyData.plain] at h; cases h
theorem plain_hasDictAll : ∀ xs : List D, PyData.plainAll xs = true → PyData.hasDictAll xs = false
  | [], _ => rfl
  | x :: xs, h => by
    simp only [PyData.plainAll, Bool.and_eq_true] at h
    simp only [PyData.hasDictAll, plain_hasDict x h.1, plain_hasDictAll xs h.2, Bool.or_self]
end
theorem k_repr (hG : X.A.guards = some []) (hu : X.A.units + 200 < cLine) : CallR X (.builtin "repr") (rnD X.K cRepr) := by
  intro pins s σ H xs us Q I r ⟨M, as, d, t, ha, hf, q⟩
  unfold cRepr at hf
  split at hf
  · rename_i d0
    split at hf
    · rename_i g
      rw [Bool.and_eq_true, Bool.and_eq_true] at g
      obtain ⟨⟨g1, g2⟩, g3⟩ := g
      have g3' : d0.shown.length ≤ lim := of_decide_eq_true g3
      cases hf
      obtain ⟨v, e, h1⟩ := at_one ha
      subst e
      obtain ⟨u, e, rv⟩ := vals1 r
      subst e
      have done : ∀ u', EP X pins σ Q (.str d0.shown u') { s with toks := s.toks + 1 } := fun u' => ⟨.str _, H, I.tok _, ⟨_, rfl⟩, q _ H (Evl.Ex.refl H) rfl⟩
      cases d0 with
      | none =>
        rw [show v = _ from h1] at rv
        rw [show u = _ from rv]
        exact PySem.P.repr_of_none (done _)
      | bool b =>
        rw [show v = _ from h1] at rv
        rw [show u = _ from rv]
        refine PySem.P.repr_of_bool ?_
        cases b
        · exact done _
        · exact done _
      | int i =>
        rw [show v = _ from h1] at rv
        obtain ⟨tk, rv⟩ := rv
        rw [rv]
        exact PySem.P.repr_of_int (of_decide_eq_true (by simpa only [PyData.showable] using g2)) (done _)
      | str z =>
        rw [show v = _ from h1] at rv
        obtain ⟨tk, rv⟩ := rv
        rw [rv]
        exact PySem.P.repr_of_str (done _) (lim_le (by simpa only [PyData.shown] using g3'))
      | list ds =>
        obtain ⟨bs, rd⟩ := At.reads I (okd_iff g1).1 h1 rv
        obtain ⟨a, vs, e, _⟩ := h1
        rw [e] at rv
        rw [show u = _ from rv] at rd ⊢
        exact repr_of_reads' rd g2 (fun z => by rw [plain_hasDict _ (okd_iff g1).1] at z; cases z) hG (by have := (okd_iff g1).2; omega) (fun _ _ z => z) (fun h' tk tk' hk => ⟨.str _, H, I.kept hk, ⟨_, rfl⟩, q _ H (Evl.Ex.refl H) rfl⟩) (lim_le g3')
      | tuple ds =>
        obtain ⟨bs, rd⟩ := At.reads I (okd_iff g1).1 h1 rv
        obtain ⟨a, vs, e, _⟩ := h1
        rw [e] at rv
        rw [show u = _ from rv] at rd ⊢
        exact repr_of_reads' rd g2 (fun z => by rw [plain_hasDict _ (okd_iff g1).1] at z; cases z) hG (by have := (okd_iff g1).2; omega) (fun _ _ z => z) (fun h' tk tk' hk => ⟨.str _, H, I.kept hk, ⟨_, rfl⟩, q _ H (Evl.Ex.refl H) rfl⟩) (lim_le g3')
      | dict es =>
        have := (okd_iff g1).1
        simp [PyData.plain] at this
    · cases hf
  · cases hf
end
end Tw
set_option Elab.async false
set_option linter.all false
set_option maxRecDepth 100000
set_option maxHeartbeats 4000000
/-! Tw7: new lists of builtins, slices, tests, chains -/
namespace Tw
open PySem PySem.Spec PyProof.Rows L2
section
variable {X : Cx}
/-! ### sorted, list, tuple -/
def sortB (ds : List D) : Bool := (ds.all fun x => ds.all fun y => PySem.W.alike x y) && ((ds.all fun d => match d with | .tuple (_ :: _) => true | _ => false) || ds.all fun d => match d with | .none => false | .tuple _ => false | _ => true)
def kSorted : List D → R D
  | [.list ds] => if okd (.list ds) && sortB ds && decide (ds.length ≤ lim) then .ok (.list (ds.mergeSort (PySem.W.dataLe false id))) else .bad
  | _ => .bad
theorem sortB_iff {ds : List D} (h : sortB ds = true) : PySem.W.AllAlike ds ∧ PySem.W.Sortable ds := by
  unfold sortB at h
  rw [Bool.and_eq_true, Bool.or_eq_true] at h
  refine ⟨fun x hx y hy => List.all_eq_true.mp (List.all_eq_true.mp h.1 x hx) y hy, ?_⟩
  rcases h.2 with z | z
  · left
    intro d hd
    have := List.all_eq_true.mp z d hd
    match d, this with
    | .tuple (x :: r), _ => exact ⟨x, r, rfl⟩
  · right
    intro d hd
    have := List.all_eq_true.mp z d hd
    constructor
    · intro e
      rw [e] at this
      cases this
    · intro xs e
      rw [e] at this
      cases this
theorem k_sorted (hu : X.A.units + 200 < cLine) : CallR X (.builtin "sorted") (rnL X.K kSorted) := by
  intro pins s σ H xs us Q I r ⟨M, as, d, t, ha, hf, q⟩
  unfold kSorted at hf
  split at hf
  · split at hf
    · rename_i ds g
      rw [Bool.and_eq_true, Bool.and_eq_true] at g
      obtain ⟨⟨g1, g2⟩, g3⟩ := g
      have hz : ds.length ≤ lim := of_decide_eq_true g3
      cases hf
      obtain ⟨v, e, a, vs, e2, h1, h2⟩ := at_one ha
      subst e2
      subst e
      obtain ⟨its, rv, hl, _⟩ := I.list (sql_le h1)
      rw [Vals.ref1 r]
      have hp := okd_list g1
      have em : ds.map id = ds := List.map_id ds
      obtain ⟨al, so⟩ := sortB_iff g2
      refine PySem.W.sorted_data (enc := id) (bs := ds) (R := fun u d => ∃ v, RelV v u ∧ At X.K (hid M H) d v) hl.isList (vals_each h2 rv) ?_ (by rw [em]; exact al) (by rw [em]; exact so) (lim_le hz) (fun b hb => ?_) fun out ho hR => ?_
      · have ev := vals_each h2 rv
        refine (PySem.W.each_mem ev).mono fun u d ⟨⟨v, q1, q2⟩, hm⟩ => ?_
        exact At.reads I (PySem.W.plain_mem hp.1 hm) q2 q1
      · have : (id b : D).depth ≤ PyData.depthAll ds := PyData.depth_le_depthAll ds b hb
        have := hp.2
        omega
      · obtain ⟨ws, w1, w2⟩ := each_vals hR
        obtain ⟨ep, he⟩ := PyProof.Rows.sortedAll_at s.heap its out.toArray
        have n : H (s.heap.objs.size + 1) = none := I.hok.fresh (Nat.le_succ _)
        have hlen : ws.length ≤ sizeLine := by
          rw [w1.length, ho]
          exact lim_le hz
        refine ⟨.ref _, upd H (s.heap.objs.size + 1) (.lst ws), I.laid (t' := s.toks) (fun _ _ => PyProof.Rows.sortedAll_old) (Nat.le_succ _) ⟨hlen, out, ep, w1, he⟩, rfl, ?_⟩
        exact q _ _ _ n (Evl.Ex.new n) upd_same (.inl ⟨ws, _, rfl, rfl, AtL.mono (hid_new (Evl.Ex.new n) n) _ _ w2⟩)
    · cases hf
  · cases hf
def kList : List D → R D
  | [.list ds] => .ok (.list ds)
  | [.tuple ds] => .ok (.list ds)
  | _ => .bad
theorem k_list : CallR X (.type "list") (rnL X.K kList) := by
  intro pins s σ H xs us Q I r ⟨M, as, d, t, ha, hf, q⟩
  unfold kList at hf
  split at hf
  · cases hf
    obtain ⟨v, e, a, vs, e2, h1, h2⟩ := at_one ha
    exact call_list_of pins s σ H xs us Q I r ⟨a, vs, by rw [e, e2], .inl (sql_le h1), fun l n => q l _ _ n (Evl.Ex.new n) upd_same (.inl ⟨vs, _, rfl, rfl, AtL.mono (hid_new (Evl.Ex.new n) n) _ _ h2⟩)⟩
  · cases hf
    obtain ⟨v, e, a, vs, e2, h1, h2⟩ := at_one ha
    exact call_list_of pins s σ H xs us Q I r ⟨a, vs, by rw [e, e2], .inr (sqt_le h1), fun l n => q l _ _ n (Evl.Ex.new n) upd_same (.inl ⟨vs, _, rfl, rfl, AtL.mono (hid_new (Evl.Ex.new n) n) _ _ h2⟩)⟩
  · cases hf
def kTuple : List D → R D
  | [.list ds] => .ok (.tuple ds)
  | [.tuple ds] => .ok (.tuple ds)
  | _ => .bad
theorem k_tuple : CallR X (.type "tuple") (rnD X.K kTuple) := by
  intro pins s σ H xs us Q I r ⟨M, as, d, t, ha, hf, q⟩
  unfold kTuple at hf
  split at hf
  · cases hf
    obtain ⟨v, e, a, vs, e2, h1, h2⟩ := at_one ha
    exact call_tuple_of pins s σ H xs us Q I r ⟨a, vs, by rw [e, e2], .inl ⟨sql_le h1, fun l n => q _ _ (Evl.Ex.new n) ⟨l, vs, rfl, SqT.of (hid_of upd_same (t.no n)), AtL.mono (hid_ex (Evl.Ex.new n)) _ _ h2⟩⟩⟩
  · cases hf
    obtain ⟨v, e, a, vs, e2, h1, h2⟩ := at_one ha
    exact call_tuple_of pins s σ H xs us Q I r ⟨a, vs, by rw [e, e2], .inr ⟨sqt_le h1, q _ H (Evl.Ex.refl H) ⟨a, vs, rfl, h1, h2⟩⟩⟩
  · cases hf
theorem call_LD {v : Value} {f : List D → R D} (h : CallR X v (rnL X.K f)) : CallR X v (rnD X.K f) := fun pins s σ H xs us Q I r q => h pins s σ H xs us Q I r (rnL.D q)
end
/-! ### slices -/
def rdO (c : Cf) (m : Nv → R (Option Int)) : TO := fun σ H Q => ∃ ε M, Rel c σ H ε M ∧ ∃ o, m ε = .ok o ∧ ∀ H', Ex H H' → Q o H'
section
variable {X : Cx} {c : Cf} {e a b : Expr} {ma mb me : Nv → R D} {pos : Pos}
def oSome (m : Nv → R D) : Nv → R (Option Int) := fun ε => (m ε).bind fun d => match d with | .int i => .ok (some i) | _ => .bad
def oNone : Nv → R (Option Int) := fun _ => .ok none
theorem po_s (h : PE X e (rdE c ma)) : PO X (some e) (rdO c (oSome ma)) := by
  obtain ⟨run⟩ := po_some h
  refine ⟨fun pins s σ H Q I ⟨ε, M, r, o, hm, q⟩ => run pins s σ H Q I ?_⟩
  obtain ⟨d, h1, h2⟩ := R.bind_ok hm
  cases d with
  | int i =>
    cases h2
    exact ⟨ε, M, r, _, h1, fun v H' e' hv => ⟨i, hv, q H' e'⟩⟩
  | _ => cases h2
theorem po_n : PO X none (rdO c oNone) := by
  obtain ⟨run⟩ := po_none (X := X)
  refine ⟨fun pins s σ H Q I ⟨ε, M, r, o, hm, q⟩ => run pins s σ H Q I ?_⟩
  cases hm
  exact q H (Evl.Ex.refl H)
def cut (xs : List D) (lo hi : Option Int) : List D := (xs.drop (HT.sIx xs.length 0 lo)).take (HT.sIx xs.length xs.length hi - HT.sIx xs.length 0 lo)
def xSl (me : Nv → R D) (lo hi : Nv → R (Option Int)) : Nv → R D := fun ε => (me ε).bind fun d => (lo ε).bind fun l => (hi ε).bind fun h => match d with
  | .list xs => .ok (.list (cut xs l h))
  | _ => .bad
theorem cut_at {K : PySem.W.Frag} {H : Hp} {ds : List D} {vs : List V} (h : AtL K H ds vs) (l u : Option Int) : AtL K H (cut ds l u) (cutV vs l u) := by
  unfold cut cutV
  rw [atL_len h]
  exact AtL.take _ (AtL.drop _ h)
theorem pe_sl {lo hi : Option Expr} {p2 : Pos} {ml mh : Nv → R (Option Int)} (he : PE X e (rdE c me)) (hl : PO X lo (rdO c ml)) (hh : PO X hi (rdO c mh)) (hK : c.K = X.K := by rfl) : PE X (.Subscript e (.Slice lo hi none p2) pos) (rdL c (xSl me ml mh)) :=
  (pe_slice sl_list he hl hh).wk fun σ H Q ⟨ε, M, re, d, hm, q⟩ => by
    obtain ⟨x, h1, h2⟩ := R.bind_ok hm
    obtain ⟨l, h3, h4⟩ := R.bind_ok h2
    obtain ⟨u, h5, h6⟩ := R.bind_ok h4
    refine ⟨ε, M, re, x, h1, fun v H1 e1 hv => ⟨ε, M, re.ex e1, l, h3, fun H2 e2 => ⟨ε, M, re.ex (e1.trans e2), u, h5, fun H3 e3 => ?_⟩⟩⟩
    cases x with
    | list xs =>
      cases h6
      obtain ⟨a, vs, ev, g1, g2⟩ := hv
      have e4 := e2.trans e3
      refine ⟨a, vs, ev, hK ▸ sql_le (Evl.ex_l (hid_ex e4) g1), fun p n => ?_⟩
      have e5 : Ex H (upd H3 p (.lst (cutV vs l u))) := (e1.trans e4).trans (Evl.Ex.new n)
      refine q p _ _ (Evl.fresh_back (e1.trans e4) n) e5 upd_same (.inl ⟨_, _, rfl, rfl, cut_at (AtL.mono ?_ _ _ g2) l u⟩)
      exact Evl.Ex.trans (hid_ex e4) (hid_new (Evl.Ex.new n) n)
    | _ => cases h6
/-- xs[i] -/
theorem pe_i {sl : Expr} {mi : Nv → R D} (he : PE X e (rdE c me)) (hi : PE X sl (rdE c mi)) (hs : PlainIx sl := by exact fun _ _ => rfl) (hK : c.K = X.K := by rfl) : PE X (.Subscript e sl pos) (rdE c (xBin dIx me mi)) :=
  (pe_ix i_x he hi hs).wk (tOp_rd fun _ _ _ _ h => hK ▸ h)
/-! ### truth, tests -/
def truD : D → R Bool
  | .none => .ok false
  | .bool b => .ok b
  | .int i => .ok (i != 0)
  | _ => .bad
def tV (m : Nv → R D) : Nv → R Bool := fun ε => (m ε).bind truD
theorem pt_v (h : PE X a (rdE c ma)) (he : ∀ whole, isTrue a X.env whole = (do let v ← whole; standAt a.pos; holding [v] (truthy v)) := by intro _; rfl) : PT X a (rdT c (tV ma)) :=
  (pt_truth h he).wk fun σ H Q ⟨ε, M, re, k, hm, q⟩ => by
    obtain ⟨d, h1, h2⟩ := R.bind_ok hm
    refine ⟨ε, M, re, d, h1, fun v H' e' hv => ⟨k, ?_, q H' e'⟩⟩
    cases d with
    | none =>
      cases h2
      rw [show v = _ from hv]
      rfl
    | bool b =>
      cases h2
      rw [show v = _ from hv]
      rfl
    | int i =>
      cases h2
      rw [show v = _ from hv]
      rfl
    | _ => cases h2
def tAn (m n : Nv → R Bool) : Nv → R Bool := fun ε => (m ε).bind fun b => if b then n ε else .ok false
def tOrr (m n : Nv → R Bool) : Nv → R Bool := fun ε => (m ε).bind fun b => if b then .ok true else n ε
def tNo (m : Nv → R Bool) : Nv → R Bool := fun ε => (m ε).bind fun b => .ok (!b)
theorem _root_.L2.PW.wk {e : Expr} {t t' : TT} (h : PW X e t) (i : ∀ σ H Q, t' σ H Q → t σ H Q) : PW X e t' := ⟨fun w pins s σ H Q I q => h.run w pins s σ H Q I (i σ H Q q)⟩
variable {m n : Nv → R Bool} {rest : List Expr}
theorem pw_an (ha : PT X a (rdT c m)) (hb : PW X (.BoolOp .And (b :: rest) pos) (rdT c n)) : PW X (.BoolOp .And (a :: b :: rest) pos) (rdT c (tAn m n)) := (pw_and ha hb).wk fun σ H Q ⟨ε, M, re, k, hm, q⟩ => by
  obtain ⟨x, h1, h2⟩ := R.bind_ok hm
  refine ⟨ε, M, re, x, h1, fun H1 e1 => ?_⟩
  cases x with
  | true => exact ⟨ε, M, re.ex e1, k, h2, fun H2 e2 => q H2 (e1.trans e2)⟩
  | false =>
    cases h2
    exact q H1 e1
theorem pw_orr (ha : PT X a (rdT c m)) (hb : PW X (.BoolOp .Or (b :: rest) pos) (rdT c n)) : PW X (.BoolOp .Or (a :: b :: rest) pos) (rdT c (tOrr m n)) := (pw_or ha hb).wk fun σ H Q ⟨ε, M, re, k, hm, q⟩ => by
  obtain ⟨x, h1, h2⟩ := R.bind_ok hm
  refine ⟨ε, M, re, x, h1, fun H1 e1 => ?_⟩
  cases x with
  | false => exact ⟨ε, M, re.ex e1, k, h2, fun H2 e2 => q H2 (e1.trans e2)⟩
  | true =>
    cases h2
    exact q H1 e1
theorem pt_no (ha : PT X a (rdT c m)) : PT X (.UnaryOp .Not a pos) (rdT c (tNo m)) := (pt_not ha).wk fun σ H Q ⟨ε, M, re, k, hm, q⟩ => by
  obtain ⟨x, h1, h2⟩ := R.bind_ok hm
  cases h2
  exact ⟨ε, M, re, x, h1, fun H1 e1 => q H1 e1⟩
/-! ### truth values as values -/
def boD : D → R Bool
  | .bool b => .ok b
  | _ => .bad
def xAn (m n : Nv → R D) : Nv → R D := fun ε => (m ε).bind fun d => (boD d).bind fun b => if b then n ε else .ok (.bool false)
def xOrr (m n : Nv → R D) : Nv → R D := fun ε => (m ε).bind fun d => (boD d).bind fun b => if b then .ok (.bool true) else n ε
def xNo (m : Nv → R D) : Nv → R D := fun ε => (m ε).bind fun d => (boD d).bind fun b => .ok (.bool (!b))
theorem boD_ok {d : D} {b : Bool} (h : boD d = .ok b) : d = .bool b := by
  cases d with
  | bool k =>
    cases h
    rfl
  | _ => cases h
theorem pe_an (ha : PE X a (rdE c ma)) (hb : PE X (.BoolOp .And (b :: rest) pos) (rdE c mb)) : PE X (.BoolOp .And (a :: b :: rest) pos) (rdE c (xAn ma mb)) := (L2.pe_and ha hb).wk fun σ H Q ⟨ε, M, re, d, hm, q⟩ => by
  obtain ⟨x, h1, h2⟩ := R.bind_ok hm
  obtain ⟨k, h3, h4⟩ := R.bind_ok h2
  have := boD_ok h3
  subst this
  refine ⟨ε, M, re, _, h1, fun v H1 e1 hv => ⟨k, hv, ?_⟩⟩
  cases k with
  | true => exact ⟨ε, M, re.ex e1, d, h4, fun v H2 e2 => q v H2 (e1.trans e2)⟩
  | false =>
    cases h4
    exact q _ H1 e1 rfl
theorem pe_orr (ha : PE X a (rdE c ma)) (hb : PE X (.BoolOp .Or (b :: rest) pos) (rdE c mb)) : PE X (.BoolOp .Or (a :: b :: rest) pos) (rdE c (xOrr ma mb)) := (L2.pe_or ha hb).wk fun σ H Q ⟨ε, M, re, d, hm, q⟩ => by
  obtain ⟨x, h1, h2⟩ := R.bind_ok hm
  obtain ⟨k, h3, h4⟩ := R.bind_ok h2
  have := boD_ok h3
  subst this
  refine ⟨ε, M, re, _, h1, fun v H1 e1 hv => ⟨k, hv, ?_⟩⟩
  cases k with
  | false => exact ⟨ε, M, re.ex e1, d, h4, fun v H2 e2 => q v H2 (e1.trans e2)⟩
  | true =>
    cases h4
    exact q _ H1 e1 rfl
theorem pe_no (ha : PE X a (rdE c ma)) : PE X (.UnaryOp .Not a pos) (rdE c (xNo ma)) := (L2.pe_not ha).wk fun σ H Q ⟨ε, M, re, d, hm, q⟩ => by
  obtain ⟨x, h1, h2⟩ := R.bind_ok hm
  obtain ⟨k, h3, h4⟩ := R.bind_ok h2
  have := boD_ok h3
  subst this
  cases h4
  exact ⟨ε, M, re, _, h1, fun v H1 e1 hv => ⟨k, hv, q _ H1 e1 rfl⟩⟩
/-- a if t else b -/
def xIf (t : Nv → R Bool) (ma mb : Nv → R D) : Nv → R D := fun ε => (t ε).bind fun k => if k then ma ε else mb ε
theorem pe_ife {cd : Expr} (hc : PT X cd (rdT c m)) (ha : PE X a (rdE c ma)) (hb : PE X b (rdE c mb)) : PE X (.IfExp cd a b pos) (rdE c (xIf m ma mb)) := (pe_ifExp hc ha hb).wk fun σ H Q ⟨ε, M, re, d, hm, q⟩ => by
  obtain ⟨k, h1, h2⟩ := R.bind_ok hm
  refine ⟨ε, M, re, k, h1, fun H1 e1 => ?_⟩
  cases k with
  | true => exact ⟨ε, M, re.ex e1, d, h2, fun v H2 e2 => q v H2 (e1.trans e2)⟩
  | false => exact ⟨ε, M, re.ex e1, d, h2, fun v H2 e2 => q v H2 (e1.trans e2)⟩
/-- a < b < c -/
def xCh (f g : D → D → R D) (ma mb mc : Nv → R D) : Nv → R D := fun ε => (ma ε).bind fun a => (mb ε).bind fun b => (f a b).bind fun z => (boD z).bind fun k => if k then (mc ε).bind fun d => g b d else .ok (.bool false)
theorem pe_ch {op op' : CmpOp} {f g : D → D → R D} {cc : Expr} {mc : Nv → R D} (ho : OpR X (compareOp op) (r2D X.K f)) (ho' : OpR X (compareOp op') (r2D X.K g)) (ha : PE X a (rdE c ma)) (hb : PE X b (rdE c mb)) (hcc : PE X cc (rdE c mc)) (hmk : lastMarks [op, op'] [b, cc] = false := by with_unfolding_all rfl) (hK : c.K = X.K := by rfl) :
    PE X (.Compare a [op, op'] [b, cc] pos) (rdE c (xCh f g ma mb mc)) := (pe_chain ho ho' ha hb hcc hmk).wk fun σ H Q ⟨ε, M, re, d, hm, q⟩ => by
  obtain ⟨x, h1, h2⟩ := R.bind_ok hm
  obtain ⟨y, h3, h4⟩ := R.bind_ok h2
  obtain ⟨z, h5, h6⟩ := R.bind_ok h4
  obtain ⟨k, h7, h8⟩ := R.bind_ok h6
  have := boD_ok h7
  subst this
  refine ⟨ε, M, re, x, h1, fun v H1 e1 hv => ⟨ε, M, re.ex e1, y, h3, fun w H2 e2 hw => ?_⟩⟩
  have hv2 := At.mono (hid_ex e2) x v hv
  refine ⟨M, x, y, _, Trk.ex re.trk (e1.trans e2), hK ▸ hv2, hK ▸ hw, h5, fun r H3 e3 hr => ⟨k, hr, ?_⟩⟩
  have e13 := (e1.trans e2).trans e3
  cases k with
  | true =>
    obtain ⟨d3, g1, g2⟩ := R.bind_ok h8
    exact ⟨ε, M, re.ex e13, d3, g1, fun u H4 e4 hu => ⟨M, y, d3, d, Trk.ex re.trk (e13.trans e4), hK ▸ At.mono (hid_ex (e3.trans e4)) y w hw, hK ▸ hu, g2, fun r H5 e5 hr => q r H5 ((e13.trans e4).trans e5) (hK ▸ hr)⟩⟩
  | false =>
    cases h8
    exact q _ H3 e13 rfl
end
end Tw
set_option Elab.async false
set_option linter.all false
set_option maxRecDepth 100000
set_option maxHeartbeats 4000000
/-! Tw8: what is walked, targets, comprehensions, statements -/
namespace Tw
open PySem PySem.Spec PyProof.Rows L2
/-! ### what is walked -/
def Wk (K : PySem.W.Frag) (B : Hp) (J : It) (ds : List D) : Prop := ∀ (i : Nat) (H : Hp), Ex B H → (i < ds.length → J.go i H) ∧ (ds.length ≤ i → J.stop i H) ∧
  ∀ x H', J.yld i H x H' → Ex H H' ∧ ∀ d, ds[i]? = some d → ∀ M', Trk M' H → Ex B (hid M' H) → At K (hid M' H') d x
def rdI (c : Cf) (m : Nv → R (List D)) : TI := fun σ H Rr => ∃ ε M, Rel c σ H ε M ∧ ∃ ds, m ε = .ok ds ∧ ∀ J H1, Ex H H1 → Wk c.K (hid M H1) J ds → Rr J H1
theorem _root_.L2.PI.wk {X : Cx} {tg e : Expr} {t t' : TI} (h : PI X tg e t) (i : ∀ σ H Q, t' σ H Q → t σ H Q) : PI X tg e t' := ⟨fun pins s σ H Q I q => h.run pins s σ H Q I (i σ H Q q)⟩
section
variable {X : Cx} {c : Cf} {tg : Expr}
theorem wk_list {K : PySem.W.Frag} {B : Hp} {a : Addr} {vs : List V} {ds : List D} (h : SqL K B a vs) (hd : AtL K B ds vs) : Wk K B (Itl K a) ds := fun i H e => by
  have hs : SqL K H a vs := Evl.ex_l e h
  have n := atL_len hd
  refine ⟨fun hi => ⟨vs, vs[i]'(by omega), hs, List.getElem?_eq_getElem (by omega)⟩, fun hi => ⟨vs, hs, by omega⟩, fun x H' ⟨e1, q⟩ => ?_⟩
  subst e1
  refine ⟨Evl.Ex.refl _, fun d hi M' t e2 => ?_⟩
  obtain ⟨v, h1, h2⟩ := AtL.get hd hi
  have ev : v = x := Option.some.inj (h1.symm.trans (q vs hs))
  rw [← ev]
  exact At.mono e2 d v h2
theorem wk_tup {K : PySem.W.Frag} {B : Hp} {a : Addr} {vs : List V} {ds : List D} (h : SqT K B a vs) (hd : AtL K B ds vs) : Wk K B (Itt K a) ds := fun i H e => by
  have hs : SqT K H a vs := Evl.ex_t e h
  have n := atL_len hd
  refine ⟨fun hi => ⟨vs, vs[i]'(by omega), hs, List.getElem?_eq_getElem (by omega)⟩, fun hi => ⟨vs, hs, by omega⟩, fun x H' ⟨e1, q⟩ => ?_⟩
  subst e1
  refine ⟨Evl.Ex.refl _, fun d hi M' t e2 => ?_⟩
  obtain ⟨v, h1, h2⟩ := AtL.get hd hi
  have ev : v = x := Option.some.inj (h1.symm.trans (q vs hs))
  rw [← ev]
  exact At.mono e2 d v h2
def rangeD (lo : Int) (n : Nat) : List D := (List.range n).map fun (i : Nat) => PyData.int (lo + (i : Int))
theorem wk_range {K : PySem.W.Frag} {B : Hp} (lo : Int) (n : Nat) : Wk K B (Itr lo n) (rangeD lo n) := fun i H e => by
  have l : (rangeD lo n).length = n := by
    unfold rangeD
    rw [List.length_map, List.length_range]
  refine ⟨fun hi => by rw [l] at hi; exact hi, fun hi => by rw [l] at hi; exact hi, fun x H' ⟨e1, e2⟩ => ?_⟩
  subst e1 e2
  refine ⟨Evl.Ex.refl _, fun d hd M' t e2 => ?_⟩
  unfold rangeD at hd
  rw [List.getElem?_map] at hd
  have hi : i < n := by
    cases q : (List.range n)[i]? with
    | none =>
      rw [q] at hd
      cases hd
    | some j =>
      have := (List.getElem?_eq_some_iff.mp q).1
      rwa [List.length_range] at this
  rw [List.getElem?_range hi] at hd
  cases hd
  rfl
def enumG : Nat → List D → List D
  | _, [] => []
  | n, d :: ds => .tuple [.int (n : Int), d] :: enumG (n + 1) ds
theorem enumG_len : ∀ (n : Nat) (ds : List D), (enumG n ds).length = ds.length
  | _, [] => rfl
  | n, d :: ds => by
    show (enumG (n + 1) ds).length + 1 = _
    rw [enumG_len]
    rfl
theorem enumG_get : ∀ (n : Nat) (ds : List D) (i : Nat) (e : D), (enumG n ds)[i]? = some e → ∃ d, ds[i]? = some d ∧ e = .tuple [.int ((n + i : Nat) : Int), d]
  | _, [], i, e, h => by
    have h' : ([] : List D)[i]? = some e := h
    simp at h'
  | n, d :: ds, 0, e, h => by
    have h' : (PyData.tuple [.int (n : Int), d]) = e := by simpa [enumG] using h
    exact ⟨d, rfl, h'.symm⟩
  | n, d :: ds, i + 1, e, h => by
    have h' : (enumG (n + 1) ds)[i]? = some e := by simpa [enumG] using h
    obtain ⟨q, h1, h2⟩ := enumG_get (n + 1) ds i e h'
    refine ⟨q, by simpa using h1, ?_⟩
    rw [h2]
    have : n + 1 + i = n + (i + 1) := by omega
    rw [this]
theorem wk_enum {K : PySem.W.Frag} {B : Hp} {a : Addr} {vs : List V} {ds : List D} (h : SqL K B a vs) (hd : AtL K B ds vs) : Wk K B (Ite K a) (enumG 0 ds) := fun i H e => by
  have hs : SqL K H a vs := Evl.ex_l e h
  have n := atL_len hd
  refine ⟨fun hi => ?_, fun hi => ?_, fun x H' ⟨T, y, e1, nT, e2, q⟩ => ?_⟩
  · rw [enumG_len] at hi
    exact ⟨vs, vs[i]'(by omega), hs, List.getElem?_eq_getElem (by omega)⟩
  · rw [enumG_len] at hi
    exact ⟨vs, hs, by omega⟩
  · subst e1 e2
    refine ⟨Evl.Ex.new nT, fun d hi M' t e2 => ?_⟩
    obtain ⟨f, g1, g2⟩ := enumG_get 0 ds i d hi
    subst g2
    obtain ⟨v, h1, h2⟩ := AtL.get hd g1
    have ev : v = y := Option.some.inj (h1.symm.trans (q vs hs))
    rw [← ev]
    refine ⟨T, _, rfl, SqT.of (hid_of upd_same (t.no nT)), _, _, rfl, ?_, _, _, rfl, At.mono (Evl.Ex.trans e2 (hid_ex (Evl.Ex.new nT))) f v h2, rfl⟩
    show V.int (i : Int) = V.int ((0 + i : Nat) : Int)
    rw [Nat.zero_add]
def zipG : List D → List D → List D
  | d :: ds, e :: es => .tuple [d, e] :: zipG ds es
  | _, _ => []
theorem zipG_len : ∀ (ds es : List D), (zipG ds es).length = min ds.length es.length
  | [], es => by
    show 0 = min 0 es.length
    omega
  | d :: ds, [] => by
    show 0 = min (ds.length + 1) 0
    omega
  | d :: ds, e :: es => by
    show (zipG ds es).length + 1 = min (ds.length + 1) (es.length + 1)
    rw [zipG_len]
    omega
theorem zipG_get : ∀ (ds es : List D) (i : Nat) (f : D), (zipG ds es)[i]? = some f → ∃ d e, ds[i]? = some d ∧ es[i]? = some e ∧ f = .tuple [d, e]
  | [], es, i, f, h => by
    have h' : ([] : List D)[i]? = some f := h
    simp at h'
  | d :: ds, [], i, f, h => by
    have h' : ([] : List D)[i]? = some f := h
    simp at h'
  | d :: ds, e :: es, 0, f, h => by
    have h' : PyData.tuple [d, e] = f := by simpa [zipG] using h
    exact ⟨d, e, rfl, rfl, h'.symm⟩
  | d :: ds, e :: es, i + 1, f, h => by
    obtain ⟨a, b, h1, h2, h3⟩ := zipG_get ds es i f (by simpa [zipG] using h)
    exact ⟨a, b, by simpa using h1, by simpa using h2, h3⟩
theorem wk_zip {K : PySem.W.Frag} {B : Hp} {a b : Addr} {vs ws : List V} {ds es : List D} (h : SqL K B a vs) (hd : AtL K B ds vs) (h' : SqL K B b ws) (hd' : AtL K B es ws) : Wk K B (Itz K a b) (zipG ds es) := fun i H e => by
  have hs : SqL K H a vs := Evl.ex_l e h
  have hs' : SqL K H b ws := Evl.ex_l e h'
  have n := atL_len hd
  have n' := atL_len hd'
  have l := zipG_len ds es
  refine ⟨fun hi => ?_, fun hi => ?_, fun x H' ⟨T, y, z, e1, nT, e2, q, q'⟩ => ?_⟩
  · exact ⟨vs, ws, vs[i]'(by omega), ws[i]'(by omega), hs, hs', List.getElem?_eq_getElem (by omega), List.getElem?_eq_getElem (by omega)⟩
  · exact ⟨vs, ws, hs, hs', by omega⟩
  · subst e1 e2
    refine ⟨Evl.Ex.new nT, fun d hi M' t e2 => ?_⟩
    obtain ⟨f, g, g1, g2, g3⟩ := zipG_get ds es i d hi
    subst g3
    obtain ⟨v, h1, h2⟩ := AtL.get hd g1
    obtain ⟨w, h3, h4⟩ := AtL.get hd' g2
    have t1 : v = y := Option.some.inj (h1.symm.trans (q vs hs))
    have t2 : w = z := Option.some.inj (h3.symm.trans (q' ws hs'))
    rw [← t1, ← t2]
    exact ⟨T, _, rfl, SqT.of (hid_of upd_same (t.no nT)), _, _, rfl, At.mono (Evl.Ex.trans e2 (hid_ex (Evl.Ex.new nT))) f v h2, _, _, rfl, At.mono (Evl.Ex.trans e2 (hid_ex (Evl.Ex.new nT))) g w h4, rfl⟩
/-- a list or a tuple -/
def iSeq (m : Nv → R D) : Nv → R (List D) := fun ε => (m ε).bind fun d => match d with
  | .list ds => .ok ds
  | .tuple ds => .ok ds
  | _ => .bad
def rlim (i : Int) : Bool := decide (-(2 ^ 62) ≤ i) && decide (i < 2 ^ 62)
def iRange1 (m : Nv → R (List D)) : Nv → R (List D) := fun ε => (m ε).bind fun ds => match ds with
  | [.int j] => if rlim j then .ok (rangeD 0 j.toNat) else .bad
  | _ => .bad
def iRange2 (m : Nv → R (List D)) : Nv → R (List D) := fun ε => (m ε).bind fun ds => match ds with
  | [.int i, .int j] => if rlim i && rlim j then .ok (rangeD i (j - i).toNat) else .bad
  | _ => .bad
def iEnu (m : Nv → R (List D)) : Nv → R (List D) := fun ε => (m ε).bind fun ds => match ds with
  | [.list xs] => .ok (enumG 0 xs)
  | _ => .bad
def iZi (m : Nv → R (List D)) : Nv → R (List D) := fun ε => (m ε).bind fun ds => match ds with
  | [.list xs, .list ys] => .ok (zipG xs ys)
  | _ => .bad
variable {l : Expr} {ml : Nv → R D} {ms : Nv → R (List D)} {p pos tpos : Pos}
theorem pi_l (hl : PE X l (rdE c ml)) (hK : c.K = X.K := by rfl) : PI X tg l (rdI c (iSeq ml)) := by
  constructor
  intro pins s σ H Rr I ⟨ε, M, re, ds, hm, q⟩
  obtain ⟨d, h1, h2⟩ := R.bind_ok hm
  apply thn (hl.run pins s σ H (fun v H1 => Ex H H1 ∧ At c.K (hid M H1) d v) I ⟨ε, M, re, d, h1, fun v H' e hv => ⟨e, hv⟩⟩)
  intro u s1 ⟨v, H1, I1, rv, e1, hv⟩
  have fresh : H1 s1.heap.objs.size = none := I1.hok.fresh (Nat.le_refl _)
  have fp : ∀ b ∈ [s1.heap.objs.size], FpOk X pins H1 b := by
    intro b hb
    rw [List.mem_singleton] at hb
    rw [hb]
    exact I1.fpOk (Nat.le_refl _) fresh
  cases d with
  | list xs =>
    cases h2
    obtain ⟨a, vs, ev, g1, g2⟩ := hv
    subst ev
    cases rv
    obtain ⟨its, r2, pl, hz⟩ := I1.list (hK ▸ sql_le g1)
    apply wpAny_pyIter_list pl.isList
    exact ⟨_, _, _, _, H1, rfl, I1.kept (t' := s1.toks) fun b o e => Heap.get?_push_of_some _ e, turn_list a _, ⟨_, Heap.get?_push_size _ rfl, rfl, rfl⟩, fp, q _ H1 e1 (hK ▸ wk_list g1 g2)⟩
  | tuple xs =>
    cases h2
    obtain ⟨a, vs, ev, g1, g2⟩ := hv
    subst ev
    cases rv
    obtain ⟨its, r2, pl, hz⟩ := I1.tuple (hK ▸ sqt_le g1)
    apply wpAny_pyIter_tuple (show s1.heap.IsTuple a its.toArray from pl)
    exact ⟨_, _, _, _, H1, rfl, I1.kept (t' := s1.toks) fun b o e => Heap.get?_push_of_some _ e, turn_tuple a _, ⟨_, Heap.get?_push_size _ rfl, rfl, rfl⟩, fp, q _ H1 e1 (hK ▸ wk_tup g1 g2)⟩
  | _ => cases h2
theorem rlim_iff {i : Int} (h : rlim i = true) : -(2 ^ 62) ≤ i ∧ i < 2 ^ 62 := by
  unfold rlim at h
  rw [Bool.and_eq_true] at h
  exact ⟨of_decide_eq_true h.1, of_decide_eq_true h.2⟩
theorem pi_r1 {a : Expr} (hm : X.mg "range" = none) (ha : PA X [a] (rdA c ms)) (hg : Gl X "range" := by rfl) (hs : starEach [a] X.env = [(false, eval a X.env)] := by rfl) : PI X tg (.Call (.Name "range" p) [a] [] pos) (rdI c (iRange1 ms)) :=
  (pi_range1 hg hm ha hs).wk fun σ H Q ⟨ε, M, re, ds, hm, q⟩ => by
    obtain ⟨as, h1, h2⟩ := R.bind_ok hm
    refine ⟨ε, M, re, as, h1, fun vs H1 e1 hv => ?_⟩
    split at h2
    · split at h2
      · rename_i j g
        cases h2
        obtain ⟨v, ev, w⟩ := at_one hv
        have := rlim_iff g
        exact ⟨j, by rw [ev, show v = _ from w], this.1, this.2, q _ H1 e1 (wk_range 0 _)⟩
      · cases h2
    · cases h2
theorem pi_r2 {a b : Expr} (hm : X.mg "range" = none) (ha : PA X [a, b] (rdA c ms)) (hg : Gl X "range" := by rfl) (hs : starEach [a, b] X.env = [(false, eval a X.env), (false, eval b X.env)] := by rfl) (hs2 : starEach [b] X.env = [(false, eval b X.env)] := by rfl) : PI X tg (.Call (.Name "range" p) [a, b] [] pos) (rdI c (iRange2 ms)) :=
  (pi_range2 hg hm ha hs hs2).wk fun σ H Q ⟨ε, M, re, ds, hm, q⟩ => by
    obtain ⟨as, h1, h2⟩ := R.bind_ok hm
    refine ⟨ε, M, re, as, h1, fun vs H1 e1 hv => ?_⟩
    split at h2
    · split at h2
      · rename_i i j g
        rw [Bool.and_eq_true] at g
        cases h2
        obtain ⟨v, w, ev, g1, g2⟩ := at_two hv
        have a1 := rlim_iff g.1
        have a2 := rlim_iff g.2
        exact ⟨i, j, by rw [ev, show v = _ from g1, show w = _ from g2], ⟨a1.1, a1.2, a2.1, a2.2⟩, q _ H1 e1 (wk_range i _)⟩
      · cases h2
    · cases h2
theorem pi_e {e : Expr} {elts : List Expr} {kk : Nat} (hm : X.mg "enumerate" = none) (ha : PA X [e] (rdA c ms)) (hg : Gl X "enumerate" := by rfl) (hs : starEach [e] X.env = [(false, eval e X.env)] := by rfl) (hK : c.K = X.K := by rfl) :
    PI X (.Tuple elts kk tpos) (.Call (.Name "enumerate" p) [e] [] pos) (rdI c (iEnu ms)) := (pi_enum hg hm ha hs).wk fun σ H Q ⟨ε, M, re, ds, hm, q⟩ => by
    obtain ⟨as, h1, h2⟩ := R.bind_ok hm
    refine ⟨ε, M, re, as, h1, fun vs H1 e1 hv => ?_⟩
    split at h2
    · cases h2
      obtain ⟨v, ev, a, ws, e2, g1, g2⟩ := at_one hv
      exact ⟨a, ws, by rw [ev, e2], hK ▸ sql_le g1, q _ H1 e1 (hK ▸ wk_enum g1 g2)⟩
    · cases h2
theorem pi_z {e e2 : Expr} {elts : List Expr} {kk : Nat} (hm : X.mg "zip" = none) (ha : PA X [e, e2] (rdA c ms)) (hg : Gl X "zip" := by rfl) (hs : starEach [e, e2] X.env = (false, eval e X.env) :: starEach [e2] X.env := by rfl) (hpl : (backTo pos (starEach [e2] X.env)).any (·.1) = false := by rfl) (hK : c.K = X.K := by rfl) :
    PI X (.Tuple elts kk tpos) (.Call (.Name "zip" p) [e, e2] [] pos) (rdI c (iZi ms)) := (pi_zip hg hm ha hs hpl).wk fun σ H Q ⟨ε, M, re, ds, hm, q⟩ => by
    obtain ⟨as, h1, h2⟩ := R.bind_ok hm
    refine ⟨ε, M, re, as, h1, fun vs H1 e1 hv => ?_⟩
    split at h2
    · cases h2
      obtain ⟨v, w, ev, ⟨a, xs, e2, g1, g2⟩, ⟨b, ys, e3, g3, g4⟩⟩ := at_two hv
      exact ⟨a, b, xs, ys, by rw [ev, e2, e3], hK ▸ sql_le g1, hK ▸ sql_le g3, q _ H1 e1 (hK ▸ wk_zip g1 g2 g3 g4)⟩
    · cases h2
end
end Tw
set_option Elab.async false
set_option linter.all false
set_option maxRecDepth 100000
set_option maxHeartbeats 4000000
/-! Tw9: targets, comprehensions -/
namespace Tw
open PySem PySem.Spec PyProof.Rows L2
/-! ### slots wiped -/
theorem wipe_at (σ : L2.St) (i : Nat) : ∀ vs : List Nat, (wipe σ vs)[i]? = if i ∈ vs then (if i < σ.length then some none else none) else σ[i]?
  | [] => by
    rw [if_neg (by simp)]
    rfl
  | v :: vs => by
    show ((wipe σ vs).set v none)[i]? = _
    by_cases e : v = i
    · subst e
      rw [if_pos (by simp)]
      by_cases h : v < σ.length
      · rw [if_pos h, List.getElem?_set_self (by rw [wipe_length]; exact h)]
      · rw [if_neg h]
        exact List.getElem?_eq_none_iff.mpr (by rw [List.length_set, wipe_length]; omega)
    · rw [List.getElem?_set_ne e, wipe_at σ i vs]
      by_cases h : i ∈ vs
      · rw [if_pos h, if_pos (List.mem_cons_of_mem _ h)]
      · rw [if_neg h, if_neg fun z => by
          rcases List.mem_cons.mp z with z | z
          · exact e z.symm
          · exact h z]
theorem wipe_set {σ : L2.St} {j : Nat} {x : Option V} {vs : List Nat} (h : j ∈ vs) : wipe (σ.set j x) vs = wipe σ vs := by
  apply List.ext_getElem?
  intro i
  rw [wipe_at, wipe_at, List.length_set]
  by_cases e : i ∈ vs
  · rw [if_pos e, if_pos e]
  · rw [if_neg e, if_neg e, List.getElem?_set_ne fun z : j = i => e (by rw [← z]; exact h)]
theorem wipe_wipe {σ : L2.St} {vs : List Nat} : wipe (wipe σ vs) vs = wipe σ vs := by
  apply List.ext_getElem?
  intro i
  rw [wipe_at, wipe_length, wipe_at]
  by_cases e : i ∈ vs
  · rw [if_pos e, if_pos e]
  · rw [if_neg e]
section
variable {c : Cf}
theorem Rel.unset {σ : L2.St} {H : Hp} {ε : Nv} {M : List Addr} (r : Rel c σ H ε M) (i : Nat) : Rel c (σ.set i none) H (st ε i .no) M where
  ext := r.ext
  len := by rw [List.length_set, st_len, r.len]
  sub := r.sub
  trk := r.trk
  old := r.old
  im := fun j d h => by
    by_cases q : j = i
    · subst q
      have hl := gt_lt (ε := st ε j .no) (i := j) (by rw [h]; intro z; cases z)
      rw [st_len] at hl
      rw [gt_same hl] at h
      cases h
    · rw [gt_ne q] at h
      obtain ⟨v, h1, h2⟩ := r.im j d h
      exact ⟨v, by rw [List.getElem?_set_ne (Ne.symm q)]; exact h1, h2⟩
  mu := fun j d h => by
    by_cases q : j = i
    · subst q
      have hl := gt_lt (ε := st ε j .no) (i := j) (by rw [h]; intro z; cases z)
      rw [st_len] at hl
      rw [gt_same hl] at h
      cases h
    · rw [gt_ne q] at h
      obtain ⟨a, o, h1, h2⟩ := r.mu j d h
      exact ⟨a, o, by rw [List.getElem?_set_ne (Ne.symm q)]; exact h1, h2⟩
  dis := fun j k d e a b hjk hj hk h1 h2 => by
    by_cases q : j = i
    · subst q
      have hl := gt_lt (ε := st ε j .no) (i := j) (by rw [hj]; intro z; cases z)
      rw [st_len] at hl
      rw [gt_same hl] at hj
      cases hj
    · by_cases q2 : k = i
      · subst q2
        have hl := gt_lt (ε := st ε k .no) (i := k) (by rw [hk]; intro z; cases z)
        rw [st_len] at hl
        rw [gt_same hl] at hk
        cases hk
      · rw [gt_ne q] at hj
        rw [gt_ne q2] at hk
        rw [List.getElem?_set_ne (Ne.symm q)] at h1
        rw [List.getElem?_set_ne (Ne.symm q2)] at h2
        exact r.dis j k d e a b hjk hj hk h1 h2
def wipeE (ε : Nv) : List Nat → Nv
  | [] => ε
  | v :: vs => st (wipeE ε vs) v .no
theorem Rel.wipe {σ : L2.St} {H : Hp} {ε : Nv} {M : List Addr} (r : Rel c σ H ε M) : ∀ vs : List Nat, Rel c (L2.wipe σ vs) H (wipeE ε vs) M
  | [] => r
  | v :: vs => (Rel.wipe r vs).unset v
/-- one more object that is hidden -/
theorem Rel.add {σ : L2.St} {H H' : Hp} {ε : Nv} {M : List Addr} (r : Rel c σ H ε M) {p : Addr} {o : HO} (n : H p = none) (e : Ex H H') (hp : H' p = some o) : Rel c σ H' ε (p :: M) where
  ext := r.ext.trans e
  len := r.len
  sub := fun a h => List.mem_cons_of_mem _ (r.sub a h)
  trk := fun a h => by
    rcases List.mem_cons.mp h with q | q
    · exact ⟨o, by rw [q]; exact hp⟩
    · obtain ⟨u, q⟩ := r.trk a q
      exact ⟨u, e a u q⟩
  old := r.old
  im := fun i d h => let ⟨v, h1, h2⟩ := r.im i d h; ⟨v, h1, At.mono (hid_new e n) d v h2⟩
  mu := fun i d h => let ⟨a, u, h1, h2, h3, h4, h5⟩ := r.mu i d h; ⟨a, u, h1, List.mem_cons_of_mem _ h2, h3, e a u h4, h5.mono (hid_new e n)⟩
  dis := r.dis
/-- a hidden object that is no slot's own is changed -/
theorem Rel.updD {σ : L2.St} {H : Hp} {ε : Nv} {M : List Addr} (r : Rel c σ H ε M) {p : Addr} {o : HO} (hp : p ∈ M) (h0 : c.H0 p = none) (hs : ∀ i d, gt ε i = .mu d → σ[i]? ≠ some (some (.ref p))) : Rel c σ (L2.upd H p o) ε M where
  ext := r.ext.mut h0
  len := r.len
  sub := r.sub
  trk := fun a h => by
    by_cases q : a = p
    · exact ⟨o, by rw [q]; exact upd_same⟩
    · obtain ⟨u, w⟩ := r.trk a h
      exact ⟨u, by rw [upd_ne q]; exact w⟩
  old := r.old
  im := fun i d h => by
    rw [hid_upd hp]
    exact r.im i d h
  mu := fun i d h => by
    obtain ⟨a, u, h1, h2, h3, h4, h5⟩ := r.mu i d h
    have ne : a ≠ p := fun z => hs i d h (z ▸ h1)
    exact ⟨a, u, h1, h2, h3, by rw [upd_ne ne]; exact h4, by rw [hid_upd hp]; exact h5⟩
  dis := r.dis
/-! ### targets that are names -/
def GOk (c : Cf) (g : TG) (m : D → Nv → R Nv) (js : List Nat) : Prop := ∀ (x : V) (σ : L2.St) (H : Hp) (Q : L2.St → Hp → Prop) (ε : Nv) (M : List Addr) (d : D) (ε' : Nv), Rel c σ H ε M → At c.K (hid M H) d x → m d ε = .ok ε' →
  (∀ σ', Rel c σ' H ε' M → (∀ vs : List Nat, (∀ j, j ∈ js → j ∈ vs) → wipe σ' vs = wipe σ vs) → Q σ' H) → g x σ H Q
def GsOk (c : Cf) (g : TGs) (m : List D → Nv → R Nv) (js : List Nat) : Prop := ∀ (xs : List V) (σ : L2.St) (H : Hp) (Q : L2.St → Hp → Prop) (ε : Nv) (M : List Addr) (ds : List D) (ε' : Nv), Rel c σ H ε M → AtL c.K (hid M H) ds xs → m ds ε = .ok ε' →
  (∀ σ', Rel c σ' H ε' M → (∀ vs : List Nat, (∀ j, j ∈ js → j ∈ vs) → wipe σ' vs = wipe σ vs) → Q σ' H) → g xs σ H Q
def bN (i : Nat) : D → Nv → R Nv := fun d ε => .ok (st ε i (.im d))
theorem gok_n (i : Nat) : GOk c (gName i) (bN i) [i] := fun x σ H Q ε M d ε' r h hm q => by
  cases hm
  exact q _ (r.set h) fun vs hv => wipe_set (hv i (List.mem_singleton.mpr rfl))
def bs0 : List D → Nv → R Nv := fun ds ε => match ds with
  | [] => .ok ε
  | _ => .bad
def bsC (b : D → Nv → R Nv) (bs : List D → Nv → R Nv) : List D → Nv → R Nv := fun ds ε => match ds with
  | d :: r => (b d ε).bind fun ε1 => bs r ε1
  | [] => .bad
def bT (n : Nat) (bs : List D → Nv → R Nv) : D → Nv → R Nv := fun d ε => match d with
  | .tuple ds => if ds.length = n then bs ds ε else .bad
  | _ => .bad
theorem gsok_0 : GsOk c gNil bs0 [] := fun xs σ H Q ε M ds ε' r h hm q => by
  unfold bs0 at hm
  split at hm
  · cases hm
    exact ⟨h, q σ r fun _ _ => rfl⟩
  · cases hm
theorem gsok_c {g : TG} {gs : TGs} {b : D → Nv → R Nv} {bs : List D → Nv → R Nv} {js ks : List Nat} (h1 : GOk c g b js) (h2 : GsOk c gs bs ks) : GsOk c (gCons g gs) (bsC b bs) (js ++ ks) := fun xs σ H Q ε M ds ε' r h hm q => by
  unfold bsC at hm
  split at hm
  · obtain ⟨v, vs, e, a1, a2⟩ := at_cons h
    obtain ⟨ε1, m1, m2⟩ := R.bind_ok hm
    refine ⟨v, vs, e, h1 v σ H _ ε M _ ε1 r a1 m1 fun σ1 r1 w1 => h2 vs σ1 H Q ε1 M _ ε' r1 a2 m2 fun σ2 r2 w2 => q σ2 r2 fun ws hw => ?_⟩
    rw [w2 ws fun j hj => hw j (List.mem_append_right _ hj), w1 ws fun j hj => hw j (List.mem_append_left _ hj)]
  · cases hm
theorem gok_t {n : Nat} {gs : TGs} {bs : List D → Nv → R Nv} {js : List Nat} (h : GsOk c gs bs js) : GOk c (gTup c.K n gs) (bT n bs) js := fun x σ H Q ε M d ε' r hx hm q => by
  unfold bT at hm
  split at hm
  · split at hm
    · rename_i ds hn
      obtain ⟨a, xs, e, h1, h2⟩ := hx
      exact ⟨a, xs, e, sqt_le h1, by rw [atL_len h2]; exact hn, h xs σ H Q ε M ds ε' r h2 hm q⟩
    · cases hm
  · cases hm
end
/-! ### comprehensions -/
def lcG (g : D → Nv → R Nv) (t : Nv → R Bool) (e : Nv → R D) (ε : Nv) : List D → R (List D)
  | [] => .ok []
  | d :: ds => (g d ε).bind fun ε1 => (t ε1).bind fun k => if k then (e ε1).bind fun y => (lcG g t e ε ds).bind fun ys => .ok (y :: ys) else lcG g t e ε ds
def xLc (vs : List Nat) (mi : Nv → R (List D)) (g : D → Nv → R Nv) (t : Nv → R Bool) (e : Nv → R D) : Nv → R D := fun ε => (mi ε).bind fun ds => (lcG g t e (wipeE ε vs) ds).bind fun ys => if ys.length ≤ lim then .ok (.list ys) else .bad
def tYe : Nv → R Bool := fun _ => .ok true
section
variable {X : Cx} {c : Cf}
theorem tYes_rd : ∀ σ H Q, rdT c tYe σ H Q → tYes σ H Q := fun σ H Q ⟨ε, M, r, b, hm, q⟩ => by
  cases hm
  exact q H (Evl.Ex.refl H)
theorem _root_.L2.PTs.wk {ifs : List Expr} {t t' : TT} (h : PTs X ifs t) (i : ∀ σ H Q, t' σ H Q → t σ H Q) : PTs X ifs t' := ⟨fun pins s σ H Q I q => h.run pins s σ H Q I (i σ H Q q)⟩
theorem pts_y : PTs X [] (rdT c tYe) := pts_nil.wk tYes_rd
theorem mu_ne {σ : L2.St} {H : Hp} {ε : Nv} {M : List Addr} (r : Rel c σ H ε M) {p : Addr} (n : p ∉ M) : ∀ i d, gt ε i = .mu d → σ[i]? ≠ some (some (.ref p)) := fun i d h z => by
  obtain ⟨a, o, h1, h2, _⟩ := r.mu i d h
  rw [z] at h1
  cases h1
  exact n h2
theorem tLc_rd {g : TG} {b : D → Nv → R Nv} {js vs : List Nat} {mi : Nv → R (List D)} {t : Nv → R Bool} {e : Nv → R D} (hg : GOk c g b js) (hj : ∀ j, j ∈ js → j ∈ vs) :
    ∀ σ H Q, rdL c (xLc vs mi b t e) σ H Q → tLc (rdI c mi) g (rdT c t) (rdE c e) vs σ H Q := fun σ H Q ⟨ε, M, re, d, hm, q⟩ => by
  obtain ⟨ds, h1, h2⟩ := R.bind_ok hm
  obtain ⟨ys, h3, h4⟩ := R.bind_ok h2
  split at h4
  · rename_i hz
    cases h4
    refine ⟨ε, M, re, ds, h1, fun J H1 e1 wk D nD => ?_⟩
    have nD0 : H D = none := Evl.fresh_back e1 nD
    have nM : D ∉ M := Trk.no re.trk nD0
    have n0 : c.H0 D = none := Evl.fresh_back re.ext nD0
    -- the invariant: what is made so far, what is left
    refine ⟨fun i m H2 => m = ds.length - i ∧ i ≤ ds.length ∧ ∃ acc rest vs0, lcG b t e (wipeE ε vs) (ds.drop i) = .ok rest ∧ acc ++ rest = ys ∧ H2 D = some (.lst vs0) ∧ AtL c.K (hid (D :: M) H2) acc vs0 ∧ Rel c (wipe σ vs) H2 (wipeE ε vs) (D :: M) ∧ Ex H1 H2,
      ⟨ds.length, by omega, Nat.zero_le _, [], ys, [], h3, rfl, upd_same, rfl, ((re.ex e1).wipe vs).add nD (Evl.Ex.new nD) upd_same, Evl.Ex.new nD⟩, ?_⟩
    rintro i m H2 ⟨rfl, hi, acc, rest, vs0, hl, ha, hD, hA, hR, hE⟩
    have hB : Ex (hid M H1) (hid (D :: M) H2) := hid_new hE nD
    have wi := wk i H2 (Evl.Ex.trans hB hid_le)
    by_cases hlt : i < ds.length
    · refine .inr ⟨wi.1 hlt, fun H' => ∃ acc rest vs0, lcG b t e (wipeE ε vs) (ds.drop (i + 1)) = .ok rest ∧ acc ++ rest = ys ∧ H' D = some (.lst vs0) ∧ AtL c.K (hid (D :: M) H') acc vs0 ∧ Rel c (wipe σ vs) H' (wipeE ε vs) (D :: M) ∧ Ex H1 H', fun H' p => ⟨_, by omega, rfl, hlt, p⟩, fun x H' y => ?_⟩
      obtain ⟨ex, item⟩ := wi.2.2 x H' y
      have hx := item ds[i] (List.getElem?_eq_getElem hlt) (D :: M) hR.trk hB
      rw [List.drop_eq_getElem_cons hlt] at hl
      obtain ⟨ε1, l1, l2⟩ := R.bind_ok hl
      obtain ⟨k, l3, l4⟩ := R.bind_ok l2
      refine hg x (wipe σ vs) H' _ _ (D :: M) ds[i] ε1 (hR.ex ex) hx l1 fun σ2 r2 w2 => ⟨by rw [w2 vs hj, wipe_wipe], ε1, D :: M, r2, k, l3, fun H3 e3 => ?_⟩
      have exx := Evl.Ex.trans ex e3
      cases k with
      | false =>
        exact ⟨acc, rest, vs0, l4, ha, exx D _ hD, AtL.mono (hid_ex exx) _ _ hA, hR.ex exx, Evl.Ex.trans hE exx⟩
      | true =>
        obtain ⟨y1, l5, l6⟩ := R.bind_ok l4
        obtain ⟨ys', l7, l8⟩ := R.bind_ok l6
        cases l8
        refine ⟨ε1, D :: M, r2.ex e3, y1, l5, fun v H4 e4 hv => ⟨vs0, e4 D _ (exx D _ hD), ?_, ?_⟩⟩
        · rw [atL_len hA]
          refine lim_lt (Nat.le_trans ?_ hz)
          rw [← ha, List.length_append]
          omega
        · have ex4 := Evl.Ex.trans exx e4
          have hm : D ∈ D :: M := List.mem_cons_self
          refine ⟨acc ++ [y1], ys', vs0 ++ [v], l7, by rw [← ha, List.append_assoc]; rfl, upd_same, ?_, ?_, ?_⟩
          · rw [hid_upd hm]
            exact AtL.app (AtL.mono (hid_ex ex4) _ _ hA) ⟨v, [], rfl, hv, rfl⟩
          · refine (hR.ex ex4).updD hm n0 fun j f hj z => ?_
            obtain ⟨w', o', z1, z2, _⟩ := (re.wipe vs).mu j f hj
            rw [z] at z1
            cases z1
            exact nM z2
          · exact Evl.Ex.mut (Evl.Ex.trans hE ex4) nD
    · have ei : i = ds.length := by omega
      subst ei
      refine .inl ⟨wi.2.1 (Nat.le_refl _), ?_⟩
      rw [List.drop_length] at hl
      cases hl
      rw [List.append_nil] at ha
      subst ha
      exact q D _ H2 nD0 (Evl.Ex.trans e1 hE) hD (.inl ⟨vs0, acc, rfl, rfl, hA⟩)
  · cases h4
end
end Tw
set_option Elab.async false
set_option linter.all false
set_option maxRecDepth 100000
set_option maxHeartbeats 4000000
/-! Tw10: statements, defs -/
namespace Tw
open PySem PySem.Spec PyProof.Rows L2
inductive Fl where
  | nx (ε : Nv)
  | rt (d : D)
  | bk (ε : Nv)
  | ct (ε : Nv)
def RtOk (c : Cf) (Q : VK) (d : D) : Prop := match c.fr with
  | true => ∀ p o H', c.H0 p = none → Ex c.H0 H' → H' p = some o → Own c.K (hid (p :: c.M0) H') o d → Q (.ref p) H'
  | false => ∀ v H', Ex c.H0 H' → At c.K (hid c.M0 H') d v → Q v H'
def Fin (c : Cf) (E : Ends) (B : Hp) : R Fl → Prop
  | .ok (.nx ε) => ∀ σ H M, Rel c σ H ε M → Ex B (hid M H) → E.nx σ H
  | .ok (.rt d) => RtOk c E.rt d
  | .ok (.bk ε) => ∀ σ H M, Rel c σ H ε M → Ex B (hid M H) → E.bk σ H
  | .ok (.ct ε) => ∀ σ H M, Rel c σ H ε M → Ex B (hid M H) → E.ct σ H
  | _ => False
def rdS (c : Cf) (m : Nv → R Fl) : TS := fun E σ H => ∃ ε M, Rel c σ H ε M ∧ Fin c E (hid M H) (m ε)
theorem Fin.mono {c : Cf} {E : Ends} {B B' : Hp} (e : Ex B B') : ∀ {r : R Fl}, Fin c E B r → Fin c E B' r
  | .ok (.nx _), h => fun σ H M r x => h σ H M r (Evl.Ex.trans e x)
  | .ok (.rt _), h => h
  | .ok (.bk _), h => fun σ H M r x => h σ H M r (Evl.Ex.trans e x)
  | .ok (.ct _), h => fun σ H M r x => h σ H M r (Evl.Ex.trans e x)
  | .ex _ _, h => h
  | .bad, h => h
section
variable {X : Cx} {c : Cf}
/-! ### one behind the other -/
def sSeq (m n : Nv → R Fl) : Nv → R Fl := fun ε => match m ε with
  | .ok (.nx ε') => n ε'
  | r => r
def sNil : Nv → R Fl := fun ε => .ok (.nx ε)
variable {s : Stmt} {r : List Stmt} {m n : Nv → R Fl}
theorem ss_nil : PSs X [] (rdS c sNil) := pss_nil.wk fun E σ H ⟨ε, M, re, f⟩ => f σ H M re (Evl.Ex.refl _)
theorem tSeq_rd : ∀ E σ H, rdS c (sSeq m n) E σ H → tSeq (rdS c m) (rdS c n) E σ H := fun E σ H ⟨ε, M, re, f⟩ => by
  refine ⟨ε, M, re, ?_⟩
  unfold sSeq at f
  cases q : m ε with
  | bad =>
    rw [q] at f
    exact f
  | ex a b =>
    rw [q] at f
    exact f
  | ok fl =>
    rw [q] at f
    cases fl with
    | nx ε' => exact fun σ' H' M' r' e' => ⟨ε', M', r', Fin.mono e' f⟩
    | rt d => exact f
    | bk ε' => exact f
    | ct ε' => exact f
theorem ss_c (h1 : PS X s (rdS c m)) (h2 : PSs X r (rdS c n)) : PSs X (s :: r) (rdS c (sSeq m n)) := (pss_cons h1 h2).wk tSeq_rd
theorem ss_1 (h1 : PS X s (rdS c m)) : PSs X [s] (rdS c m) := pss_one h1
/-- one's own object is data from here on -/
def sFz (i : Nat) : Nv → R Fl := fun ε => match gt ε i with
  | .mu d => .ok (.nx (st ε i (.im d)))
  | .im _ => .ok (.nx ε)
  | .no => .bad
theorem ss_fz (i : Nat) (h : PSs X r (rdS c n)) : PSs X r (rdS c (sSeq (sFz i) n)) := h.wk fun E σ H ⟨ε, M, re, f⟩ => by
  unfold sSeq sFz at f
  cases g : gt ε i with
  | no =>
    rw [g] at f
    exact f.elim
  | im d =>
    rw [g] at f
    exact ⟨ε, M, re, f⟩
  | mu d =>
    rw [g] at f
    obtain ⟨M', sub, r'⟩ := re.frz g
    exact ⟨_, M', r', Fin.mono (hid_sub sub) f⟩
/-! ### simple statements -/
variable {e : Expr} {me : Nv → R D} {pos : Pos}
theorem ps_ps : PS X (.Pass pos) (rdS c sNil) := ps_pass.wk fun E σ H ⟨ε, M, re, f⟩ => f σ H M re (Evl.Ex.refl _)
def sBk : Nv → R Fl := fun ε => .ok (.bk ε)
def sCt : Nv → R Fl := fun ε => .ok (.ct ε)
theorem ps_bk : PS X (.Break pos) (rdS c sBk) := ps_break.wk fun E σ H ⟨ε, M, re, f⟩ => f σ H M re (Evl.Ex.refl _)
theorem ps_ct : PS X (.Continue pos) (rdS c sCt) := ps_continue.wk fun E σ H ⟨ε, M, re, f⟩ => f σ H M re (Evl.Ex.refl _)
/-- a statement that is never reached -/
def sNo : Nv → R Fl := fun _ => .bad
theorem ps_no : PS X s (rdS c sNo) := (ps_never (st := s)).wk fun E σ H ⟨ε, M, re, f⟩ => f
def sDr (me : Nv → R D) : Nv → R Fl := fun ε => (me ε).bind fun _ => .ok (.nx ε)
theorem ps_dr (h : PE X e (rdE c me)) (hs : swapsWith e none pos.line X.env = pure false := by rfl) : PS X (.Expr e pos) (rdS c (sDr me)) := (ps_expr h hs).wk fun E σ H ⟨ε, M, re, f⟩ => by
  unfold sDr at f
  cases q : me ε with
  | bad => rw [q] at f; exact f.elim
  | ex a b => rw [q] at f; exact f.elim
  | ok d =>
    rw [q] at f
    exact ⟨ε, M, re, d, q, fun v H' e' _ => f σ H' M (re.ex e') (hid_ex e')⟩
def sRt (me : Nv → R D) : Nv → R Fl := fun ε => (me ε).bind fun d => .ok (.rt d)
theorem ps_rt (hf : c.fr = false) (h : PE X e (rdE c me)) : PS X (.Return (some e) pos) (rdS c (sRt me)) := (ps_ret h).wk fun E σ H ⟨ε, M, re, f⟩ => by
  unfold sRt at f
  cases q : me ε with
  | bad => rw [q] at f; exact f.elim
  | ex a b => rw [q] at f; exact f.elim
  | ok d =>
    rw [q] at f
    have f' : RtOk c E.rt d := f
    unfold RtOk at f'
    rw [hf] at f'
    exact ⟨ε, M, re, d, q, fun v H' e' hv => f' v H' (re.ext.trans e') (At.mono (hid_sub re.sub) d v hv)⟩
/-- a new object is handed back -/
theorem ps_rtL (hf : c.fr = true) (h : PE X e (rdL c me)) : PS X (.Return (some e) pos) (rdS c (sRt me)) := (ps_ret h).wk fun E σ H ⟨ε, M, re, f⟩ => by
  unfold sRt at f
  cases q : me ε with
  | bad => rw [q] at f; exact f.elim
  | ex a b => rw [q] at f; exact f.elim
  | ok d =>
    rw [q] at f
    have f' : RtOk c E.rt d := f
    unfold RtOk at f'
    rw [hf] at f'
    refine ⟨ε, M, re, d, q, fun p o H' n e' hp ho => f' p o H' (Evl.fresh_back re.ext n) (re.ext.trans e') hp (ho.mono (hid_sub fun a ha => ?_))⟩
    rcases List.mem_cons.mp ha with z | z
    · rw [z]
      exact List.mem_cons_self
    · exact List.mem_cons_of_mem _ (re.sub a z)
/-- one's own object is handed back, by its name -/
def sRtM (i : Nat) : Nv → R Fl := fun ε => match gt ε i with
  | .mu d => .ok (.rt d)
  | _ => .bad
theorem ps_rtM {i : Nat} (h : PE X e (tVar i)) : PS X (.Return (some e) pos) (rdS c (sRtM i)) := (ps_ret h).wk fun E σ H ⟨ε, M, re, f⟩ => by
  unfold sRtM at f
  cases g : gt ε i with
  | no => rw [g] at f; exact f.elim
  | im d => rw [g] at f; exact f.elim
  | mu d =>
    rw [g] at f
    obtain ⟨a, o, h1, h2, h3, h4, h5⟩ := re.mu i d g
    refine ⟨.ref a, h1, ?_⟩
    have f' : RtOk c E.rt d := f
    unfold RtOk at f'
    cases q : c.fr with
    | true =>
      rw [q] at f'
      refine f' a o H h3 re.ext h4 (h5.mono (hid_sub fun b hb => ?_))
      rcases List.mem_cons.mp hb with z | z
      · rw [z]
        exact h2
      · exact re.sub b z
    | false =>
      rw [q] at f'
      exact f' (.ref a) H re.ext (Own.at (hid_of h4 fun z => re.old a z h3) (h5.mono (hid_sub re.sub)))
def sRt0 : Nv → R Fl := fun _ => .ok (.rt .none)
theorem ps_rt0 (hf : c.fr = false) : PS X (.Return none pos) (rdS c sRt0) := ps_retN.wk fun E σ H ⟨ε, M, re, f⟩ => by
  have f' : RtOk c E.rt .none := f
  unfold RtOk at f'
  rw [hf] at f'
  exact f' .non H re.ext rfl
/-! ### if -/
def sIf (t : Nv → R Bool) (m n : Nv → R Fl) : Nv → R Fl := fun ε => (t ε).bind fun k => if k then m ε else n ε
theorem ps_i {cd : Expr} {a b : List Stmt} {t : Nv → R Bool} (hc : PT X cd (rdT c t)) (ha : PSs X a (rdS c m)) (hb : PSs X b (rdS c n)) : PS X (.If cd a b pos) (rdS c (sIf t m n)) := (ps_if hc ha hb).wk fun E σ H ⟨ε, M, re, f⟩ => by
  unfold sIf at f
  cases q : t ε with
  | bad => rw [q] at f; exact f.elim
  | ex x y => rw [q] at f; exact f.elim
  | ok k =>
    rw [q] at f
    refine ⟨ε, M, re, k, q, fun H' e' => ?_⟩
    cases k with
    | true => exact ⟨ε, M, re.ex e', Fin.mono (hid_ex e') f⟩
    | false => exact ⟨ε, M, re.ex e', Fin.mono (hid_ex e') f⟩
/-! ### assignments -/
def sAs (i : Nat) (me : Nv → R D) : Nv → R Fl := fun ε => (me ε).bind fun d => .ok (.nx (st ε i (.im d)))
def sAsM (i : Nat) (me : Nv → R D) : Nv → R Fl := fun ε => (me ε).bind fun d => .ok (.nx (st ε i (.mu d)))
theorem tAsg_rd {i : Nat} : ∀ E σ H, rdS c (sAs i me) E σ H → tAsg (rdE c me) (gName i) E σ H := fun E σ H ⟨ε, M, re, f⟩ => by
  unfold sAs at f
  cases q : me ε with
  | bad => rw [q] at f; exact f.elim
  | ex a b => rw [q] at f; exact f.elim
  | ok d =>
    rw [q] at f
    exact ⟨ε, M, re, d, q, fun v H' e' hv => f _ H' M ((re.ex e').set hv) (hid_ex e')⟩
theorem tAsg_rdL {i : Nat} : ∀ E σ H, rdS c (sAs i me) E σ H → tAsg (rdL c me) (gName i) E σ H := fun E σ H ⟨ε, M, re, f⟩ => by
  unfold sAs at f
  cases q : me ε with
  | bad => rw [q] at f; exact f.elim
  | ex a b => rw [q] at f; exact f.elim
  | ok d =>
    rw [q] at f
    exact ⟨ε, M, re, d, q, fun p o H' n e' hp ho => f _ H' M ((re.ex e').set (own_new re.trk n hp ho)) (hid_ex e')⟩
theorem tAsg_rdM {i : Nat} : ∀ E σ H, rdS c (sAsM i me) E σ H → tAsg (rdL c me) (gName i) E σ H := fun E σ H ⟨ε, M, re, f⟩ => by
  unfold sAsM at f
  cases q : me ε with
  | bad => rw [q] at f; exact f.elim
  | ex a b => rw [q] at f; exact f.elim
  | ok d =>
    rw [q] at f
    exact ⟨ε, M, re, d, q, fun p o H' n e' hp ho => f _ H' (p :: M) (re.setMu n e' hp ho) (hid_new e' n)⟩
variable {x : Str} {px : Pos}
theorem ps_as {i : Nat} (hN : X.N.Nodup) (he : PE X e (rdE c me)) (hi : X.N[i]? = some x := by rfl) (hx : Loc X.env.scope x := by first | exact Or.inl rfl | exact Or.inr rfl) (hs : swapsWith e (some (.Name x px)) pos.line X.env = pure false := by rfl)
    (hf : X.fn x = true ∨ X.env.scope.names.lookup x = some .local := by first | exact .inl rfl | exact .inr rfl) : PS X (.Assign [.Name x px] e pos) (rdS c (sAs i me)) := (ps_set hN hi hx he hs hf).wk tAsg_rd
theorem ps_asM {i : Nat} (hN : X.N.Nodup) (he : PE X e (rdL c me)) (hi : X.N[i]? = some x := by rfl) (hx : Loc X.env.scope x := by first | exact Or.inl rfl | exact Or.inr rfl) (hs : swapsWith e (some (.Name x px)) pos.line X.env = pure false := by rfl)
    (hf : X.fn x = true ∨ X.env.scope.names.lookup x = some .local := by first | exact .inl rfl | exact .inr rfl) : PS X (.Assign [.Name x px] e pos) (rdS c (sAsM i me)) := (ps_set hN hi hx he hs hf).wk tAsg_rdM
/-- several names from one tuple -/
def sUn (me : Nv → R D) (b : D → Nv → R Nv) : Nv → R Fl := fun ε => (me ε).bind fun d => (b d ε).bind fun ε' => .ok (.nx ε')
theorem ps_un {g : TG} {b : D → Nv → R Nv} {js : List Nat} (h : PS X s (tAsg (rdE c me) g)) (gk : GOk c g b js) : PS X s (rdS c (sUn me b)) :=
  h.wk fun E σ H ⟨ε, M, re, f⟩ => by
    unfold sUn at f
    cases q : me ε with
    | bad => rw [q] at f; exact f.elim
    | ex x y => rw [q] at f; exact f.elim
    | ok d =>
      rw [q] at f
      refine ⟨ε, M, re, d, q, fun v H' e' hv => ?_⟩
      cases q2 : b d ε with
      | bad => simp only [R.bind, q2] at f; exact f.elim
      | ex x y => simp only [R.bind, q2] at f; exact f.elim
      | ok ε' =>
        simp only [R.bind, q2] at f
        exact gk v σ H' _ ε M d ε' (re.ex e') hv q2 fun σ' r' _ => f σ' H' M r' (hid_ex e')
/-- a, b = e, f -/
def sPr (i j : Nat) (ms : Nv → R (List D)) : Nv → R Fl := fun ε => (ms ε).bind fun ds => match ds with
  | [a, b] => .ok (.nx (st (st ε i (.im a)) j (.im b)))
  | _ => .bad
theorem ps_pr {i j : Nat} {x y : Str} {a b : Expr} {px py pt : Pos} {kt k2 pt2} {ms : Nv → R (List D)} (hc : X.calm = true) (hN : X.N.Nodup) (ha : PA X [a, b] (rdA c ms)) (hi : X.N[i]? = some x := by rfl) (hj : X.N[j]? = some y := by rfl) (hij : i ≠ j := by decide)
    (hx : X.env.scope.names.lookup x = some .local := by rfl) (hy : X.env.scope.names.lookup y = some .local := by rfl)
    (hw : swappedStores [.Tuple [.Name x px, .Name y py] kt pt] (.Tuple [a, b] k2 pt2) X.env = pure (some [x, y]) := by rfl) (hs : swapsWithSole [.Tuple [.Name x px, .Name y py] kt pt] (.Tuple [a, b] k2 pt2) pos.line X.env = pure false := by rfl) :
    PS X (.Assign [.Tuple [.Name x px, .Name y py] kt pt] (.Tuple [a, b] k2 pt2) pos) (rdS c (sPr i j ms)) := (ps_par hc hN hi hj hij hx hy ha hw hs).wk fun E σ H ⟨ε, M, re, f⟩ => by
  unfold sPr at f
  cases q : ms ε with
  | bad => rw [q] at f; exact f.elim
  | ex x y => rw [q] at f; exact f.elim
  | ok ds =>
    rw [q] at f
    refine ⟨ε, M, re, ds, q, fun vs H' e' hv => ?_⟩
    match ds, f, hv with
    | [d1, d2], f, hv =>
      obtain ⟨v, w, ev, h1, h2⟩ := at_two hv
      exact ⟨v, w, ev, f _ H' M (((re.ex e').set h1).set h2) (hid_ex e')⟩
    | [], f, hv => exact f.elim
    | [_], f, hv => exact f.elim
    | _ :: _ :: _ :: _, f, hv => exact f.elim
/-- x += e -/
def sAu (f : D → D → R D) (i : Nat) (me : Nv → R D) : Nv → R Fl := fun ε => match gt ε i with
  | .im a => (me ε).bind fun b => (f a b).bind fun d => .ok (.nx (st ε i (.im d)))
  | _ => .bad
/-! ### one's own list -/
def sAp (i : Nat) (me : Nv → R D) : Nv → R Fl := fun ε => (me ε).bind fun d => match gt ε i with
  | .mu (.list ds) => if ds.length < lim then .ok (.nx (st ε i (.mu (.list (ds ++ [d]))))) else .bad
  | _ => .bad
theorem own_list {K : PySem.W.Frag} {H : Hp} {o : HO} {ds : List D} (h : Own K H o (.list ds)) : ∃ vs, o = .lst vs ∧ AtL K H ds vs := by
  rcases h with ⟨vs, ds', h1, h2, h3⟩ | ⟨kvs, es, h1, h2, h3⟩ | ⟨kvs, es, h1, h2, h3⟩ | ⟨S, n, xs, h1, h2, h3⟩
  · cases h2
    exact ⟨vs, h1, h3⟩
  · cases h2
  · cases h2
  · cases h2
theorem ps_ap {i : Nat} (h : PS X s (tDrop (tBM X.K "list" rAppend (tVar i) (tCons (rdE c me) tNil)))) : PS X s (rdS c (sAp i me)) :=
  h.wk fun E σ H ⟨ε, M, re, f⟩ => by
    unfold sAp at f
    cases q : me ε with
    | bad => rw [q] at f; exact f.elim
    | ex x y => rw [q] at f; exact f.elim
    | ok d =>
      rw [q] at f
      simp only [R.bind] at f
      split at f
      · rename_i ds g
        split at f
        · rename_i hz
          obtain ⟨a, o, h1, h2, h3, h4, h5⟩ := re.mu i _ g
          obtain ⟨vs, eo, hl⟩ := own_list h5
          subst eo
          refine ⟨.ref a, h1, .inl ⟨rfl, vs, SqL.of h4⟩, ε, M, re, d, q, fun v H' e' hv => ⟨a, vs, v, rfl, rfl, e' a _ h4, ?_, ?_⟩⟩
          · rw [atL_len hl]
            exact lim_lt (Nat.le_of_lt hz)
          · refine f _ _ M ((re.ex e').upd g h1 (.inl ⟨_, _, rfl, rfl, AtL.app (AtL.mono (hid_ex e') _ _ hl) ⟨v, [], rfl, hv, rfl⟩⟩)) ?_
            rw [hid_upd h2]
            exact hid_ex e'
        · exact f.elim
      · exact f.elim
/-- x[i] = e of one's own list -/
def sSt (j : Nat) (mi me : Nv → R D) : Nv → R Fl := fun ε => (me ε).bind fun d => (mi ε).bind fun k => match gt ε j, k with
  | .mu (.list ds), .int z => match ixN ds.length z with
    | some n => .ok (.nx (st ε j (.mu (.list (ds.set n d)))))
    | none => .bad
  | _, _ => .bad
theorem gSub_rd {j : Nat} {σ : L2.St} {H : Hp} {ε : Nv} {M : List Addr} {mi : Nv → R D} {v : V} {d : D} {k : D} {ds : List D} {z : Int} {n : Nat} {Q : L2.St → Hp → Prop} (re : Rel c σ H ε M) (hv : At c.K (hid M H) d v) (hk : mi ε = .ok (.int z)) (g : gt ε j = .mu (.list ds)) (hn : ixN ds.length z = some n)
    (q : ∀ H', Rel c σ H' (st ε j (.mu (.list (ds.set n d)))) M → Ex (hid M H) (hid M H') → Q σ H') : gSub (tVar j) (rdE c mi) rSetL v σ H Q := by
  obtain ⟨a, o, h1, h2, h3, h4, h5⟩ := re.mu j _ g
  obtain ⟨vs, eo, hl⟩ := own_list h5
  subst eo
  refine ⟨.ref a, h1, ε, M, re, _, hk, fun u H' e' hu => ⟨a, vs, z, n, rfl, hu, e' a _ h4, by rw [atL_len hl]; exact hn, ?_⟩⟩
  refine q _ ((re.ex e').upd g h1 (.inl ⟨_, _, rfl, rfl, AtL.set (At.mono (hid_ex e') _ _ hv) n (AtL.mono (hid_ex e') _ _ hl)⟩)) ?_
  rw [hid_upd h2]
  exact hid_ex e'
theorem ps_st {j : Nat} {mi : Nv → R D} (h : PS X s (tAsg (rdE c me) (gSub (tVar j) (rdE c mi) rSetL))) : PS X s (rdS c (sSt j mi me)) := h.wk fun E σ H ⟨ε, M, re, f⟩ => by
  unfold sSt at f
  cases q : me ε with
  | bad => rw [q] at f; exact f.elim
  | ex x y => rw [q] at f; exact f.elim
  | ok d =>
    rw [q] at f
    cases q2 : mi ε with
    | bad => simp only [R.bind, q2] at f; exact f.elim
    | ex x y => simp only [R.bind, q2] at f; exact f.elim
    | ok k =>
      simp only [R.bind, q2] at f
      split at f
      · rename_i ds z g
        split at f
        · rename_i n hn
          exact ⟨ε, M, re, d, q, fun v H' e' hv => gSub_rd (k := .int z) (re.ex e') hv q2 g hn fun H2 r2 e2 => f _ H2 M r2 (Evl.Ex.trans (hid_ex e') e2)⟩
        · exact f.elim
      · exact f.elim
/-! ### loops -/
def forG (g : D → Nv → R Nv) (b : Nv → R Fl) : List D → Nv → R Fl
  | [], ε => .ok (.nx ε)
  | d :: ds, ε => (g d ε).bind fun ε1 => match b ε1 with
    | .ok (.nx ε2) => forG g b ds ε2
    | .ok (.ct ε2) => forG g b ds ε2
    | .ok (.bk ε2) => .ok (.nx ε2)
    | r => r
def sFor (mi : Nv → R (List D)) (g : D → Nv → R Nv) (b : Nv → R Fl) : Nv → R Fl := fun ε => (mi ε).bind fun ds => forG g b ds ε
theorem ps_fr {tg it : Expr} {body : List Stmt} {g : TG} {b : D → Nv → R Nv} {js : List Nat} {mi : Nv → R (List D)} {mb : Nv → R Fl} (hp : PassesOwn (model X.prog X.w) X.A X.env X.xe) (hc : X.calm = true) (hi : PI X tg it (rdI c mi)) (hg : PG X tg g) (gk : GOk c g b js) (hb : PSs X body (rdS c mb))
    (hset : ∀ x, foldedSetIterable it X.env x = pure x := by intro _; rfl) :
    PS X (.For tg it body [] pos) (rdS c (sFor mi b mb)) := (ps_for hp hc hi hg hb hset).wk fun E σ H ⟨ε, M, re, f⟩ => by
  unfold sFor at f
  cases q : mi ε with
  | bad => rw [q] at f; exact f.elim
  | ex x y => rw [q] at f; exact f.elim
  | ok ds =>
    rw [q] at f
    simp only [R.bind] at f
    refine ⟨ε, M, re, ds, q, fun J H1 e1 wk => ?_⟩
    refine ⟨fun i m σ2 H2 => m = ds.length - i ∧ i ≤ ds.length ∧ ∃ ε2 M2, Rel c σ2 H2 ε2 M2 ∧ Ex (hid M H1) (hid M2 H2) ∧ Fin c E (hid M2 H2) (forG b mb (ds.drop i) ε2), ⟨ds.length, by omega, Nat.zero_le _, ε, M, re.ex e1, Evl.Ex.refl _, Fin.mono (hid_ex e1) f⟩, ?_⟩
    rintro i m σ2 H2 ⟨rfl, hi, ε2, M2, r2, hB, f2⟩
    have wi := wk i H2 (Evl.Ex.trans hB hid_le)
    by_cases hlt : i < ds.length
    · refine .inr ⟨wi.1 hlt, fun σ3 H3 => ∃ ε3 M3, Rel c σ3 H3 ε3 M3 ∧ Ex (hid M H1) (hid M3 H3) ∧ Fin c E (hid M3 H3) (forG b mb (ds.drop (i + 1)) ε3), fun σ' H' p => ⟨_, by omega, rfl, hlt, p⟩, fun x H' y => ?_⟩
      obtain ⟨ex, item⟩ := wi.2.2 x H' y
      have hx := item ds[i] (List.getElem?_eq_getElem hlt) M2 r2.trk hB
      rw [List.drop_eq_getElem_cons hlt] at f2
      unfold forG at f2
      cases q2 : b ds[i] ε2 with
      | bad => rw [q2] at f2; exact f2.elim
      | ex x y => rw [q2] at f2; exact f2.elim
      | ok ε3 =>
        rw [q2] at f2
        simp only [R.bind] at f2
        refine gk x σ2 H' _ ε2 M2 ds[i] ε3 (r2.ex ex) hx q2 fun σ3 r3 _ => ⟨ε3, M2, r3, ?_⟩
        cases q3 : mb ε3 with
        | bad => rw [q3] at f2; exact f2.elim
        | ex x y => rw [q3] at f2; exact f2.elim
        | ok fl =>
          rw [q3] at f2
          cases fl with
          | nx ε4 => exact fun σ4 H4 M4 r4 e4 => ⟨ε4, M4, r4, Evl.Ex.trans hB (Evl.Ex.trans (hid_ex ex) e4), Fin.mono (Evl.Ex.trans (hid_ex ex) e4) f2⟩
          | ct ε4 => exact fun σ4 H4 M4 r4 e4 => ⟨ε4, M4, r4, Evl.Ex.trans hB (Evl.Ex.trans (hid_ex ex) e4), Fin.mono (Evl.Ex.trans (hid_ex ex) e4) f2⟩
          | bk ε4 => exact fun σ4 H4 M4 r4 e4 => f2 σ4 H4 M4 r4 (Evl.Ex.trans (hid_ex ex) e4)
          | rt d => exact f2
    · have ei : i = ds.length := by omega
      subst ei
      rw [List.drop_length] at f2
      exact .inl ⟨wi.2.1 (Nat.le_refl _), f2 σ2 H2 M2 r2 (Evl.Ex.refl _)⟩
def whG (t : Nv → R Bool) (b : Nv → R Fl) : Nat → Nv → R Fl
  | 0, _ => .bad
  | n + 1, ε => (t ε).bind fun k => if k then (match b ε with
    | .ok (.nx ε2) => whG t b n ε2
    | .ok (.ct ε2) => whG t b n ε2
    | .ok (.bk ε2) => .ok (.nx ε2)
    | r => r) else .ok (.nx ε)
def sWh (n : Nat) (t : Nv → R Bool) (b : Nv → R Fl) : Nv → R Fl := whG t b n
theorem ps_wh {cd : Expr} {body : List Stmt} {t : Nv → R Bool} {mb : Nv → R Fl} (n : Nat) (hp : PassesOwn (model X.prog X.w) X.A X.env X.xe) (hc : PT X cd (rdT c t)) (hb : PSs X body (rdS c mb)) : PS X (.While cd body [] pos) (rdS c (sWh n t mb)) := (ps_while hp hc hb).wk fun E σ H ⟨ε, M, re, f⟩ => by
  refine ⟨fun m σ2 H2 => ∃ ε2 M2, Rel c σ2 H2 ε2 M2 ∧ Fin c E (hid M2 H2) (whG t mb m ε2), ⟨n, ε, M, re, f⟩, ?_⟩
  rintro m σ2 H2 ⟨ε2, M2, r2, f2⟩
  cases m with
  | zero => exact f2.elim
  | succ m =>
    unfold whG at f2
    cases q : t ε2 with
    | bad => rw [q] at f2; exact f2.elim
    | ex x y => rw [q] at f2; exact f2.elim
    | ok k =>
      rw [q] at f2
      simp only [R.bind] at f2
      refine ⟨ε2, M2, r2, k, q, fun H3 e3 => ?_⟩
      cases k with
      | false => exact f2 σ2 H3 M2 (r2.ex e3) (hid_ex e3)
      | true =>
        rw [if_pos rfl] at f2
        refine ⟨fun σ4 H4 => ∃ ε4 M4, Rel c σ4 H4 ε4 M4 ∧ Fin c E (hid M4 H4) (whG t mb m ε4), fun σ' H' p => ⟨m, Nat.lt_succ_self _, p⟩, ε2, M2, r2.ex e3, ?_⟩
        cases q3 : mb ε2 with
        | bad => rw [q3] at f2; exact f2.elim
        | ex x y => rw [q3] at f2; exact f2.elim
        | ok fl =>
          rw [q3] at f2
          cases fl with
          | nx ε4 => exact fun σ4 H4 M4 r4 e4 => ⟨ε4, M4, r4, Fin.mono (Evl.Ex.trans (hid_ex e3) e4) f2⟩
          | ct ε4 => exact fun σ4 H4 M4 r4 e4 => ⟨ε4, M4, r4, Fin.mono (Evl.Ex.trans (hid_ex e3) e4) f2⟩
          | bk ε4 => exact fun σ4 H4 M4 r4 e4 => f2 σ4 H4 M4 r4 (Evl.Ex.trans (hid_ex e3) e4)
          | rt d => exact f2
end
/-! ### comprehensions of the text -/
section
variable {X : Cx} {c : Cf} {elt tg iter : Expr} {ifs : List Expr} {scope : Scope} {own : List (Str × Nat)} {pos spos py : Pos} {g : TG} {b : D → Nv → R Nv} {js : List Nat} {mi : Nv → R (List D)} {t : Nv → R Bool} {me : Nv → R D} {y : Str} {i : Nat}
theorem pe_co (hc : X.calm = true) (hN : X.N.Nodup) (hi : PI X tg iter (rdI c mi)) (ok : BlkOk X.N X.env.scope scope own) (gk : GOk c g b js) (hj : ∀ j, j ∈ js → j ∈ own.map (·.2))
    (hg : ∀ (s : Shared) (H : Hp) (C : Addr) (cl : List (Str × Addr)) (fp : List Addr), PG (X.blk s H scope (compEnvC scope cl C X.env) fp) tg g) (ht : ∀ (s : Shared) (H : Hp) (C : Addr) (cl : List (Str × Addr)) (fp : List Addr), PTs (X.blk s H scope (compEnvC scope cl C X.env) fp) ifs (rdT c t))
    (he : ∀ (s : Shared) (H : Hp) (C : Addr) (cl : List (Str × Addr)) (fp : List Addr), PE (X.blk s H scope (compEnvC scope cl C X.env) fp) elt (rdE c me)) (hs : ∀ x, foldedSetIterable iter X.env x = pure x := by intro _; rfl) :
    PE X (.ListComp elt [⟨tg, iter, ifs, 0⟩] scope pos) (rdL c (xLc (own.map (·.2)) mi b t me)) := (pe_lc hc hN hi ok hg ht he hs).wk (tLc_rd gk hj)
theorem ps_co (hc : X.calm = true) (hN : X.N.Nodup) (hi : PI X tg iter (rdI c mi)) (ok : BlkOk X.N X.env.scope scope own) (gk : GOk c g b js) (hj : ∀ j, j ∈ js → j ∈ own.map (·.2))
    (hg : ∀ (s : Shared) (H : Hp) (C : Addr) (cl : List (Str × Addr)) (fp : List Addr), PG (X.blk s H scope (compEnvC scope cl C X.env) fp) tg g) (ht : ∀ (s : Shared) (H : Hp) (C : Addr) (cl : List (Str × Addr)) (fp : List Addr), PTs (X.blk s H scope (compEnvC scope cl C X.env) fp) ifs (rdT c t))
    (he : ∀ (s : Shared) (H : Hp) (C : Addr) (cl : List (Str × Addr)) (fp : List Addr), PE (X.blk s H scope (compEnvC scope cl C X.env) fp) elt (rdE c me))
    (hsw : swapsWith (.ListComp elt [⟨tg, iter, ifs, 0⟩] scope pos) (some (.Name y py)) spos.line X.env = pure true) (hy : X.N[i]? = some y := by rfl) (hyl : X.env.scope.names.lookup y = some .local := by rfl) (hs : ∀ x, foldedSetIterable iter X.env x = pure x := by intro _; rfl) :
    PS X (.Assign [.Name y py] (.ListComp elt [⟨tg, iter, ifs, 0⟩] scope pos) spos) (rdS c (sAs i (xLc (own.map (·.2)) mi b t me))) :=
  (ps_setLc hc hN hy hyl hsw hi ok hg ht he hs).wk fun E σ H h => (tAsg_rdL (c := c) (i := i) E σ H h : tAsg (rdL c (xLc (own.map (·.2)) mi b t me)) (gName i) E σ H) |> fun q => tLc_rd gk hj σ H _ q
theorem ps_coM (hc : X.calm = true) (hN : X.N.Nodup) (hi : PI X tg iter (rdI c mi)) (ok : BlkOk X.N X.env.scope scope own) (gk : GOk c g b js) (hj : ∀ j, j ∈ js → j ∈ own.map (·.2))
    (hg : ∀ (s : Shared) (H : Hp) (C : Addr) (cl : List (Str × Addr)) (fp : List Addr), PG (X.blk s H scope (compEnvC scope cl C X.env) fp) tg g) (ht : ∀ (s : Shared) (H : Hp) (C : Addr) (cl : List (Str × Addr)) (fp : List Addr), PTs (X.blk s H scope (compEnvC scope cl C X.env) fp) ifs (rdT c t))
    (he : ∀ (s : Shared) (H : Hp) (C : Addr) (cl : List (Str × Addr)) (fp : List Addr), PE (X.blk s H scope (compEnvC scope cl C X.env) fp) elt (rdE c me))
    (hsw : swapsWith (.ListComp elt [⟨tg, iter, ifs, 0⟩] scope pos) (some (.Name y py)) spos.line X.env = pure true) (hy : X.N[i]? = some y := by rfl) (hyl : X.env.scope.names.lookup y = some .local := by rfl) (hs : ∀ x, foldedSetIterable iter X.env x = pure x := by intro _; rfl) :
    PS X (.Assign [.Name y py] (.ListComp elt [⟨tg, iter, ifs, 0⟩] scope pos) spos) (rdS c (sAsM i (xLc (own.map (·.2)) mi b t me))) :=
  (ps_setLc hc hN hy hyl hsw hi ok hg ht he hs).wk fun E σ H h => (tAsg_rdM (c := c) (i := i) E σ H h : tAsg (rdL c (xLc (own.map (·.2)) mi b t me)) (gName i) E σ H) |> fun q => tLc_rd gk hj σ H _ q
end
/-! ### defs -/
def runF (n N : Nat) (m : Nv → R Fl) (ds : List D) : R D := if ds.length = n then (match m (ds.map SV.im ++ List.replicate (N - n) SV.no) with
  | .ok (.nx _) => .ok .none
  | .ok (.rt d) => .ok d
  | .ex c a => .ex c a
  | _ => .bad) else .bad
theorem spF_len {K : PySem.W.Frag} {n N : Nat} {m : Nv → R Fl} {ps : List Str} (h : ps.length = n) : ∀ vs H Q E, spF K (runF n N m) vs H Q E → vs.length = ps.length := fun vs H Q E ⟨M, ds, d, t, ha, hf, q⟩ => by
  unfold runF at hf
  by_cases e : ds.length = n
  · rw [atL_len ha, e, h]
  · rw [if_neg e] at hf
    cases hf
theorem spN_len {K : PySem.W.Frag} {n N : Nat} {m : Nv → R Fl} {ps : List Str} (h : ps.length = n) : ∀ vs H Q E, spN K (runF n N m) vs H Q E → vs.length = ps.length := fun vs H Q E ⟨M, ds, d, t, ha, hf, q⟩ => by
  unfold runF at hf
  by_cases e : ds.length = n
  · rw [atL_len ha, e, h]
  · rw [if_neg e] at hf
    cases hf
theorem gt_app : ∀ (l r : Nv) (i : Nat), gt (l ++ r) i = if i < l.length then gt l i else gt r (i - l.length)
  | [], r, i => by simp
  | x :: l, r, 0 => by simp [gt]
  | x :: l, r, i + 1 => by
    have := gt_app l r i
    show gt (l ++ r) i = _
    rw [this]
    have e2 : i + 1 - (x :: l).length = i - l.length := by simp
    rw [e2]
    by_cases h : i < l.length
    · rw [if_pos h, if_pos (by simpa using h)]
      rfl
    · rw [if_neg h, if_neg (by simpa using h)]
theorem gt_rep : ∀ (n i : Nat), gt (List.replicate n SV.no) i = .no
  | 0, _ => rfl
  | n + 1, 0 => rfl
  | n + 1, i + 1 => gt_rep n i
theorem gt_map : ∀ (ds : List D) (i : Nat), gt (ds.map SV.im) i = match ds[i]? with | some d => .im d | none => .no
  | [], i => rfl
  | d :: ds, 0 => rfl
  | d :: ds, i + 1 => by
    show gt (ds.map SV.im) i = _
    rw [gt_map ds i]
    simp
/-- the entry -/
theorem Rel.start {K : PySem.W.Frag} {fr : Bool} {H : Hp} {M : List Addr} {ds : List D} {vs : List V} {Ns : List Str} {n : Nat} (t : Trk M H) (h : AtL K (hid M H) ds vs) (hn : ds.length = n) (hN : n ≤ Ns.length) :
    Rel ⟨K, H, M, fr⟩ (L2.start Ns vs) H (ds.map SV.im ++ List.replicate (Ns.length - n) SV.no) M where
  ext := Evl.Ex.refl H
  len := by
    unfold L2.start
    rw [List.length_append, List.length_append, List.length_map, List.length_map, List.length_replicate, List.length_replicate, atL_len h, hn]
  sub := fun _ z => z
  trk := t
  old := fun a ha z => by
    obtain ⟨o, q⟩ := t a ha
    have z' : H a = none := z
    rw [q] at z'
    cases z'
  im := fun i d hi => by
    rw [gt_app, List.length_map] at hi
    by_cases e : i < ds.length
    · rw [if_pos e, gt_map, List.getElem?_eq_getElem e] at hi
      cases hi
      obtain ⟨v, h1, h2⟩ := AtL.get h (List.getElem?_eq_getElem e)
      refine ⟨v, ?_, h2⟩
      unfold L2.start
      rw [List.getElem?_append_left (by rw [List.length_map, atL_len h]; exact e), List.getElem?_map, h1]
      rfl
    · rw [if_neg e, gt_rep] at hi
      cases hi
  mu := fun i d hi => by
    rw [gt_app, List.length_map] at hi
    by_cases e : i < ds.length
    · rw [if_pos e, gt_map, List.getElem?_eq_getElem e] at hi
      cases hi
    · rw [if_neg e, gt_rep] at hi
      cases hi
  dis := fun i j d f a b _ hi _ _ _ => by
    rw [gt_app, List.length_map] at hi
    by_cases e : i < ds.length
    · rw [if_pos e, gt_map, List.getElem?_eq_getElem e] at hi
      cases hi
    · rw [if_neg e, gt_rep] at hi
      cases hi
def NNx (m : Nv → R Fl) : Prop := ∀ ε ε', m ε ≠ .ok (.nx ε')
section
variable {P : Program} {w : World} {K : PySem.W.Frag} {mg : Str → Option Value} {base : Heap}
/-- THE RULE: a def by its body's program -/
theorem def_F {x qual : Str} {st : Stmt} {f : Addr} {fd : FuncData} {Ns ps : List Str} {k n : Nat} {m : Nv → R Fl} (F : Fun K x qual st f fd) (S : FnScope Ns ps (defScope st)) (hn : ps.length = n) (hN : n ≤ Ns.length)
    (body : ∀ (cdv : Value) (A : Around) (outer : List PySem.Env) (s : Shared) (H : Hp) (E : XK) (M : List Addr), Room k (A.deeper (envOfC qual (defScope st) s.heap.objs.size f cdv)) → A.guards = some [] →
      PSs (cxOf (L2.CX P w) P w K mg base Ns qual (defScope st) f cdv A outer s H E).nox (defBody st) (rdS ⟨K, H, M, false⟩ m)) : FnG P w K mg base (k + 1) f fd ps (spF K (runF n Ns.length m)) := by
  refine fnG_of F S (spF_len hn) fun cdv A outer s H vs Q E hr hG ⟨M, ds, d, t, ha, hf, q⟩ => ⟨_, (body cdv A outer s H E M hr hG).nox, ?_⟩
  unfold runF at hf
  by_cases e : ds.length = n
  · rw [if_pos e] at hf
    refine ⟨_, M, Rel.start (fr := false) t ha e hN, ?_⟩
    cases g : m (ds.map SV.im ++ List.replicate (Ns.length - n) SV.no) with
    | bad =>
      rw [g] at hf
      cases hf
    | ex a b =>
      rw [g] at hf
      cases hf
    | ok fl =>
      rw [g] at hf
      cases fl with
      | nx ε' =>
        cases hf
        exact fun σ' H' M' r' _ => q .non H' r'.ext rfl
      | rt d' =>
        cases hf
        exact fun v H' e' hv => q v H' e' hv
      | bk _ => cases hf
      | ct _ => cases hf
  · rw [if_neg e] at hf
    cases hf
/-- the same of a def that hands back a new object -/
theorem def_N {x qual : Str} {st : Stmt} {f : Addr} {fd : FuncData} {Ns ps : List Str} {k n : Nat} {m : Nv → R Fl} (F : Fun K x qual st f fd) (S : FnScope Ns ps (defScope st)) (hn : ps.length = n) (hN : n ≤ Ns.length) (hnx : NNx m)
    (body : ∀ (cdv : Value) (A : Around) (outer : List PySem.Env) (s : Shared) (H : Hp) (E : XK) (M : List Addr), Room k (A.deeper (envOfC qual (defScope st) s.heap.objs.size f cdv)) → A.guards = some [] →
      PSs (cxOf (L2.CX P w) P w K mg base Ns qual (defScope st) f cdv A outer s H E).nox (defBody st) (rdS ⟨K, H, M, true⟩ m)) : FnG P w K mg base (k + 1) f fd ps (spN K (runF n Ns.length m)) := by
  refine fnG_of F S (spN_len hn) fun cdv A outer s H vs Q E hr hG ⟨M, ds, d, t, ha, hf, q⟩ => ⟨_, (body cdv A outer s H E M hr hG).nox, ?_⟩
  unfold runF at hf
  by_cases e : ds.length = n
  · rw [if_pos e] at hf
    refine ⟨_, M, Rel.start (fr := true) t ha e hN, ?_⟩
    cases g : m (ds.map SV.im ++ List.replicate (Ns.length - n) SV.no) with
    | bad =>
      rw [g] at hf
      cases hf
    | ex a b =>
      rw [g] at hf
      cases hf
    | ok fl =>
      rw [g] at hf
      cases fl with
      | nx ε' => exact absurd g (hnx _ _)
      | rt d' =>
        cases hf
        exact fun p o H' n e' hp ho => q p o H' n e' hp ho
      | bk _ => cases hf
      | ct _ => cases hf
  · rw [if_neg e] at hf
    cases hf
theorem spN_F {f : Addr} {fd : FuncData} {ps : List Str} {k : Nat} {g : List D → R D} (F : FnG P w K mg base k f fd ps (spN K g)) : FnG P w K mg base k f fd ps (spF K g) :=
  ⟨fun vs H Q E ⟨M, ds, d, t, ha, hf, q⟩ => F.len vs H Q E ⟨M, ds, d, t, ha, hf, fun p o H' n e hp ho => q _ H' e (own_new t n hp ho)⟩,
    fun A outer s H args us vs Q E hr hG he hb hv ⟨M, ds, d, t, ha, hf, q⟩ => F.run A outer s H args us vs Q E hr hG he hb hv ⟨M, ds, d, t, ha, hf, fun p o H' n e hp ho => q _ H' e (own_new t n hp ho)⟩⟩
end
end Tw
namespace Tw
open PySem PySem.Spec PyProof.Rows L2
section
variable {X : Cx} {c : Cf} {e a b : Expr} {ma mb : Nv → R D} {pos : Pos}
/-- x[i], x one's own list -/
def xIm (j : Nat) (mi : Nv → R D) : Nv → R D := fun ε => (mi ε).bind fun k => match gt ε j with
  | .mu (.list ds) => dIx (.list ds) k
  | _ => .bad
theorem pe_im {j : Nat} {sl : Expr} {mi : Nv → R D} (hx : PE X e (tVar j)) (hi : PE X sl (rdE c mi)) (hs : PlainIx sl := by exact fun _ _ => rfl) (hK : c.K = X.K := by rfl) : PE X (.Subscript e sl pos) (rdE c (xIm j mi)) :=
  (pe_ix ix_list hx hi hs).wk fun σ H Q ⟨ε, M, re, d, hm, q⟩ => by
    obtain ⟨k, h1, h2⟩ := R.bind_ok hm
    split at h2
    · rename_i ds g
      obtain ⟨l, o, g1, g2, g3, g4, g5⟩ := re.mu j _ g
      obtain ⟨vs, eo, hl⟩ := own_list g5
      subst eo
      refine ⟨.ref l, g1, ε, M, re, k, h1, fun v H' e' hv => ?_⟩
      unfold dIx at h2
      split at h2
      · rename_i xs i e1
        split at h2
        · rename_i y g
          cases h2
          cases e1
          obtain ⟨w, w1, w2⟩ := atI_at hl g
          exact ⟨l, vs, i, w, rfl, hv, SqL.of (e' l _ g4), w1, q w H' e' (At.mono (hid_ex e') _ _ w2)⟩
        · cases h2
      · rename_i e1
        cases e1
      · cases h2
    · cases h2
/-- [..] * n -/
theorem pe_rep (ha : PE X a (rdL c ma)) (hb : PE X b (rdE c mb)) : PE X (.BinOp a .Mult b pos) (rdL c (xBin dRep ma mb)) := (pe_op op_rep ha hb).wk fun σ H Q ⟨ε, M, re, d, hm, q⟩ => by
  obtain ⟨x, h1, h2⟩ := R.bind_ok hm
  obtain ⟨y, h3, h4⟩ := R.bind_ok h2
  refine ⟨ε, M, re, x, h1, fun p o H1 n e1 hp ho => ⟨ε, M, re.ex e1, y, h3, fun u H2 e2 hu => ?_⟩⟩
  unfold dRep at h4
  split at h4
  · rename_i xs k
    split at h4
    · rename_i hz
      cases h4
      obtain ⟨vs, eo, hl⟩ := own_list ho
      subst eo
      refine ⟨p, k, vs, rfl, hu, e2 p _ hp, by omega, by omega, by rw [atL_len hl]; exact lim_le hz.2.2, fun p' n' => ?_⟩
      have e12 := Evl.Ex.trans e1 e2
      have hl2 : AtL c.K (hid M H2) xs vs := AtL.mono (Evl.Ex.trans (hid_sub fun a ha => List.mem_cons_of_mem _ ha) (hid_ex e2)) _ _ hl
      refine q p' _ _ (Evl.fresh_back e12 n') (Evl.Ex.trans e12 (Evl.Ex.new n')) upd_same (.inl ⟨_, _, rfl, rfl, ?_⟩)
      have rep : ∀ n : Nat, AtL c.K (hid M H2) (List.replicate n xs).flatten (List.replicate n vs).flatten := fun n => by
        induction n with
        | zero => exact rfl
        | succ n ih =>
          rw [List.replicate_succ, List.replicate_succ, List.flatten_cons, List.flatten_cons]
          exact AtL.app hl2 ih
      exact AtL.mono (hid_new (Evl.Ex.new n') n') _ _ (rep _)
    · cases h4
  · cases h4
/-- a def without arguments -/
theorem pf0 {x : Str} {p : Pos} {k : Nat} {f : Addr} {fd : FuncData} {ps : List Str} {g : List D → R D} (F : FnG X.prog X.w X.K X.mg X.base k f fd ps (spF X.K g)) (hr : Room k X.A) (hG : X.A.guards = some []) (hm : X.mg x = some (.ref f)) (hk : PySem.W.keepIn X.K (.ref f) = true) (hb : Binds X.K fd ps [])
    (hg : Gl X x := by rfl) (hdb : (x == ("__debug__" : Str)) = false := by decide) (hK : c.K = X.K := by rfl) : PE X (.Call (.Name x p) [] [] pos) (rdE c (xCall g xNil)) := (pe_callG0 (E := E0') F hr hG hm hk hb pass0' hg hdb).wk fun σ H Q ⟨ε, M, re, d, hm, q⟩ =>
  ⟨M, [], d, re.trk, rfl, hm, fun w H3 e3 hw => q w H3 e3 (hK ▸ hw)⟩
end
end Tw
namespace Tw
open PySem PySem.Spec PyProof.Rows L2
section
variable {X : Cx} {c : Cf} {e a b : Expr} {ma mb : Nv → R D} {pos : Pos}
theorem pk_gi {x : Str} {i : Int} {t : Tok} (hm : X.mg x = some (.int i t)) (hg : Gl X x := by rfl) (hdb : (x == ("__debug__" : Str)) = false := by decide) : PE X (.Name x pos) (rdE c (xC (.int i))) := pk_glob (v := .int i) hg hm ⟨t, rfl⟩ (fun _ _ => rfl) hdb
/-- comparisons as tests -/
def tC' (m : Nv → R D) : Nv → R Bool := fun ε => (m ε).bind boD
theorem tTest_rd {t : TE} {m : Nv → R D} (h : ∀ σ H Q, rdE c m σ H Q → t σ H Q) : ∀ σ H Q, rdT c (tC' m) σ H Q → tTest t σ H Q := fun σ H Q ⟨ε, M, re, k, hm, q⟩ => by
  obtain ⟨d, h1, h2⟩ := R.bind_ok hm
  have := boD_ok h2
  subst this
  exact h σ H _ ⟨ε, M, re, _, h1, fun v H' e' hv => ⟨k, hv, q H' e'⟩⟩
theorem pt_cp {op : CmpOp} {f : D → D → R D} (ho : OpR X (compareOp op) (r2D X.K f)) (ha : PE X a (rdE c ma)) (hb : PE X b (rdE c mb)) (hm : behindInMarks op b = false := by first | exact nomark _ | rfl) (hK : c.K = X.K := by rfl) : PT X (.Compare a [op] [b] pos) (rdT c (tC' (xBin f ma mb))) :=
  (pt_cmpR ho ha hb hm).wk (tTest_rd (tOp_rd fun _ _ _ _ h => hK ▸ h))
theorem tCh_rd {f g : D → D → R D} {mc : Nv → R D} : ∀ σ H Q, rdE c (xCh f g ma mb mc) σ H Q → tChain (r2D c.K f) (r2D c.K g) (rdE c ma) (rdE c mb) (rdE c mc) σ H Q := fun σ H Q ⟨ε, M, re, d, hm, q⟩ => by
  obtain ⟨x, h1, h2⟩ := R.bind_ok hm
  obtain ⟨y, h3, h4⟩ := R.bind_ok h2
  obtain ⟨z, h5, h6⟩ := R.bind_ok h4
  obtain ⟨k, h7, h8⟩ := R.bind_ok h6
  have := boD_ok h7
  subst this
  refine ⟨ε, M, re, x, h1, fun v H1 e1 hv => ⟨ε, M, re.ex e1, y, h3, fun w H2 e2 hw => ?_⟩⟩
  have hv2 := At.mono (hid_ex e2) x v hv
  refine ⟨M, x, y, _, Trk.ex re.trk (e1.trans e2), hv2, hw, h5, fun r H3 e3 hr => ⟨k, hr, ?_⟩⟩
  have e13 := (e1.trans e2).trans e3
  cases k with
  | true =>
    obtain ⟨d3, g1, g2⟩ := R.bind_ok h8
    exact ⟨ε, M, re.ex e13, d3, g1, fun u H4 e4 hu => ⟨M, y, d3, d, Trk.ex re.trk (e13.trans e4), At.mono (hid_ex (e3.trans e4)) y w hw, hu, g2, fun r H5 e5 hr => q r H5 ((e13.trans e4).trans e5) hr⟩⟩
  | false =>
    cases h8
    exact q _ H3 e13 rfl
theorem pt_ch {op op' : CmpOp} {f g : D → D → R D} {cc : Expr} {mc : Nv → R D} (ho : OpR X (compareOp op) (r2D X.K f)) (ho' : OpR X (compareOp op') (r2D X.K g)) (ha : PE X a (rdE c ma)) (hb : PE X b (rdE c mb)) (hcc : PE X cc (rdE c mc)) (hmk : lastMarks [op, op'] [b, cc] = false := by with_unfolding_all rfl) (hK : c.K = X.K := by rfl) :
    PT X (.Compare a [op, op'] [b, cc] pos) (rdT c (tC' (xCh f g ma mb mc))) := (pt_chain ho ho' ha hb hcc hmk).wk (tTest_rd fun σ H Q h => hK ▸ tCh_rd σ H Q h)
end
end Tw
namespace Tw
open PySem PySem.Spec PyProof.Rows L2
/-! ### bodies that end by return -/
theorem nnx_seq {m n : Nv → R Fl} (h : NNx n) : NNx (sSeq m n) := fun ε ε' z => by
  unfold sSeq at z
  split at z
  · exact h _ _ z
  · rename_i q
    exact q ε' z
theorem nnx_rt {me : Nv → R D} : NNx (sRt me) := fun ε ε' z => by
  unfold sRt at z
  cases q : me ε with
  | ok d => rw [q] at z; cases z
  | ex a b => rw [q] at z; cases z
  | bad => rw [q] at z; cases z
theorem nnx_rtM {i : Nat} : NNx (sRtM i) := fun ε ε' z => by
  unfold sRtM at z
  split at z
  · cases z
  · cases z
theorem nnx_no : NNx sNo := fun ε ε' z => by cases z
theorem nnx_if {t : Nv → R Bool} {m n : Nv → R Fl} (h1 : NNx m) (h2 : NNx n) : NNx (sIf t m n) := fun ε ε' z => by
  unfold sIf at z
  cases q : t ε with
  | ok k =>
    rw [q] at z
    cases k with
    | true => exact h1 _ _ z
    | false => exact h2 _ _ z
  | ex a b => rw [q] at z; cases z
  | bad => rw [q] at z; cases z
section
variable {P : Program} {w : World} {K : PySem.W.Frag} {mg : Str → Option Value} {base : Heap}
/-- a def that is never called -/
theorem fn_bad {f : Addr} {fd : FuncData} {ps : List Str} {k : Nat} : FnG P w K mg base k f fd ps (spF K fun _ => .bad) := ⟨fun _ _ _ _ ⟨_, _, _, _, _, hf, _⟩ => (nomatch hf), fun _ _ _ _ _ _ _ _ _ _ _ _ _ _ ⟨_, _, _, _, _, hf, _⟩ => (nomatch hf)⟩
theorem fn_badN {f : Addr} {fd : FuncData} {ps : List Str} {k : Nat} : FnG P w K mg base k f fd ps (spN K fun _ => .bad) := ⟨fun _ _ _ _ ⟨_, _, _, _, _, hf, _⟩ => (nomatch hf), fun _ _ _ _ _ _ _ _ _ _ _ _ _ _ ⟨_, _, _, _, _, hf, _⟩ => (nomatch hf)⟩
end
section
variable {X : Cx} {c : Cf} {e : Expr} {me : Nv → R D}
def xRev (me : Nv → R D) : Nv → R D := fun ε => (me ε).bind fun d => match d with
  | .list xs => .ok (.list xs.reverse)
  | _ => .bad
theorem AtL.rev {K : PySem.W.Frag} {H : Hp} : ∀ {ds : List D} {vs : List V}, AtL K H ds vs → AtL K H ds.reverse vs.reverse
  | [], vs, h => by
    have e : vs = [] := h
    rw [e]
    rfl
  | d :: ds, vs, ⟨v, r, h1, h2, h3⟩ => by
    rw [h1, List.reverse_cons, List.reverse_cons]
    exact AtL.app (AtL.rev h3) ⟨v, [], rfl, h2, rfl⟩
/-- xs[::-1] -/
theorem pe_rv {k : Nat} {p1 p2 p3 pos : Pos} (he : PE X e (rdE c me)) (hK : c.K = X.K := by rfl) : PE X (.Subscript e (.Slice none none (some (.UnaryOp .USub (.Constant (.int 1) k p1) p2)) p3) pos) (rdL c (xRev me)) := (pe_revL he).wk fun σ H Q ⟨ε, M, re, d, hm, q⟩ => by
  obtain ⟨x, h1, h2⟩ := R.bind_ok hm
  refine ⟨ε, M, re, x, h1, fun v H1 e1 hv => ?_⟩
  cases x with
  | list xs =>
    cases h2
    obtain ⟨a, vs, ev, g1, g2⟩ := hv
    refine ⟨a, vs, ev, hK ▸ sql_le g1, fun p n => q p _ _ (Evl.fresh_back e1 n) (e1.trans (Evl.Ex.new n)) upd_same (.inl ⟨_, _, rfl, rfl, AtL.rev (AtL.mono (hid_new (Evl.Ex.new n) n) _ _ g2)⟩)⟩
  | _ => cases h2
end
end Tw
namespace Tw
open PySem PySem.Spec PyProof.Rows L2
theorem ints_at {K : PySem.W.Frag} {H : Hp} : ∀ ns : List Int, AtL K H (ns.map PyData.int) (ns.map V.int)
  | [] => rfl
  | n :: ns => ⟨_, _, rfl, rfl, ints_at ns⟩
theorem hid_nil (H : Hp) : hid [] H = H := by
  funext a
  unfold hid
  rw [if_neg (by simp)]
/-- the law at its script -/
theorem law_in {K : PySem.W.Frag} {H : Hp} {a : Addr} {ns : List Int} {f : List D → R D} (hS : SqL K H a (ns.map V.int)) (h : f [.list (ns.map PyData.int)] = .ok (.bool true)) : spF K f [.ref a] H (fun v _ => v = .bl true) fun _ _ _ => False :=
  ⟨[], [.list (ns.map PyData.int)], .bool true, fun a z => absurd z (List.not_mem_nil), ⟨_, _, rfl, ⟨a, _, rfl, by rw [hid_nil]; exact hS, ints_at ns⟩, rfl⟩, h, fun v H' _ hv => hv⟩
end Tw
set_option Elab.async false
set_option linter.all false
set_option maxRecDepth 100000
set_option maxHeartbeats 4000000
set_option exponentiation.threshold 1000000
/-! Pl1: the programs over data, in plain Lean -/
namespace Tw
open PySem
/-! ### environments -/
theorem gt_z {s : SV} {r : Nv} : gt (s :: r) 0 = s := rfl
theorem gt_s {s : SV} {r : Nv} {i : Nat} : gt (s :: r) (i + 1) = gt r i := rfl
theorem st_z {s x : SV} {r : Nv} : st (s :: r) 0 x = x :: r := rfl
theorem st_s {s x : SV} {r : Nv} {i : Nat} : st (s :: r) (i + 1) x = s :: st r i x := rfl
theorem bind_ok {α β : Type} {a : α} {f : α → R β} : (R.ok a).bind f = f a := rfl
/-! ### small facts of data -/
theorem okd_int (i : Int) : okd (.int i) = true := rfl
theorem okd_bool (b : Bool) : okd (.bool b) = true := rfl
theorem okd_none : okd (.none) = true := rfl
theorem okd_str (x : Str) : okd (.str x) = true := rfl
theorem plain_ints : ∀ l : List Int, PyData.plainAll (l.map PyData.int) = true
  | [] => rfl
  | _ :: r => by
    show (true && PyData.plainAll (r.map PyData.int)) = true
    rw [plain_ints r]
    rfl
theorem okd_of {d : D} (h1 : d.plain = true) (h2 : d.depth ≤ 60) : okd d = true := by
  unfold okd
  rw [h1, decide_eq_true h2]
  rfl
theorem okd_ints (l : List Int) : okd (.list (l.map PyData.int)) = true := okd_of (by simp only [PyData.plain]; exact plain_ints l) (by simp only [PyData.depth, PySem.W.depth_ints]; decide)
theorem eqv_int (i j : Int) : PyData.eqv (.int i) (.int j) = decide (i = j) := by
  rw [PyData.eqv, Bool.beq_eq_decide_eq]
theorem eqv_str (x y : Str) : PyData.eqv (.str x) (.str y) = decide (x = y) := by
  rw [PyData.eqv]
  by_cases h : x = y
  · subst h
    simp
  · rw [decide_eq_false h]
    exact beq_eq_false_iff_ne.mpr h
theorem dEq_int (i j : Int) : dEq (.int i) (.int j) = .ok (.bool (decide (i = j))) := by
  unfold dEq
  rw [okd_int, okd_int, eqv_int]
  rfl
theorem dNe_int (i j : Int) : dNe (.int i) (.int j) = .ok (.bool (!decide (i = j))) := by
  unfold dNe
  rw [okd_int, okd_int, eqv_int]
  rfl
theorem dNe_str (i j : Str) : dNe (.str i) (.str j) = .ok (.bool (!decide (i = j))) := by
  unfold dNe
  rw [okd_str, okd_str, eqv_str]
  rfl
theorem dNe_same {d : D} (h : okd d = true) : dNe d d = .ok (.bool false) := by
  unfold dNe
  rw [h, SeqAt.eqv_refl_plain d (okd_iff h).1]
  rfl
theorem dEq_same {d : D} (h : okd d = true) : dEq d d = .ok (.bool true) := by
  unfold dEq
  rw [h, SeqAt.eqv_refl_plain d (okd_iff h).1]
  rfl
/-! ### loops -/
/-- a loop that is gone through -/
theorem forG_inv {g : D → Nv → R Nv} {b : Nv → R Fl} (P : Nat → Nv → Prop) : ∀ (ds : List D) (k : Nat) (ε : Nv), P k ε →
    (∀ i d ε, ds[i]? = some d → P (k + i) ε → ∃ ε1, g d ε = .ok ε1 ∧ ∃ ε2, (b ε1 = .ok (.nx ε2) ∨ b ε1 = .ok (.ct ε2)) ∧ P (k + i + 1) ε2) → ∃ ε', forG g b ds ε = .ok (.nx ε') ∧ P (k + ds.length) ε'
  | [], k, ε, h0, _ => ⟨ε, rfl, h0⟩
  | d :: ds, k, ε, h0, hs => by
    obtain ⟨ε1, h1, ε2, h2, h3⟩ := hs 0 d ε rfl h0
    obtain ⟨ε', h4, h5⟩ := forG_inv P ds (k + 1) ε2 h3 fun i e η hi hp => by
      have e1 : k + 1 + i = k + (i + 1) := by omega
      rw [e1] at hp ⊢
      exact hs (i + 1) e η (by simpa using hi) hp
    refine ⟨ε', ?_, ?_⟩
    · unfold forG
      rw [h1, bind_ok]
      rcases h2 with h2 | h2
      · rw [h2]
        exact h4
      · rw [h2]
        exact h4
    · rw [List.length_cons]
      have e1 : k + (ds.length + 1) = k + 1 + ds.length := by omega
      rw [e1]
      exact h5
/-- a loop that may end by return: by what holds of the answer -/
theorem forG_ret {g : D → Nv → R Nv} {b : Nv → R Fl} (P : Nat → Nv → Prop) (Q : D → Prop) : ∀ (ds : List D) (k : Nat) (ε : Nv), P k ε →
    (∀ i d ε, ds[i]? = some d → P (k + i) ε → ∃ ε1, g d ε = .ok ε1 ∧ ((∃ ε2, (b ε1 = .ok (.nx ε2) ∨ b ε1 = .ok (.ct ε2)) ∧ P (k + i + 1) ε2) ∨ ∃ a, b ε1 = .ok (.rt a) ∧ Q a)) →
    (∃ ε', forG g b ds ε = .ok (.nx ε') ∧ P (k + ds.length) ε') ∨ ∃ a, forG g b ds ε = .ok (.rt a) ∧ Q a
  | [], k, ε, h0, _ => .inl ⟨ε, rfl, h0⟩
  | d :: ds, k, ε, h0, hs => by
    obtain ⟨ε1, h1, h2⟩ := hs 0 d ε rfl h0
    rcases h2 with ⟨ε2, h2, h3⟩ | ⟨a, h2, h3⟩
    · have := forG_ret P Q ds (k + 1) ε2 h3 fun i e η hi hp => by
        have e1 : k + 1 + i = k + (i + 1) := by omega
        rw [e1] at hp ⊢
        exact hs (i + 1) e η (by simpa using hi) hp
      have e2 : forG g b (d :: ds) ε = forG g b ds ε2 := by
        show (g d ε).bind _ = _
        rw [h1, bind_ok]
        rcases h2 with h2 | h2
        · rw [h2]
        · rw [h2]
      rw [e2, List.length_cons]
      have e1 : k + (ds.length + 1) = k + 1 + ds.length := by omega
      rw [e1]
      exact this
    · refine .inr ⟨a, ?_, h3⟩
      show (g d ε).bind _ = _
      rw [h1, bind_ok, h2]
/-- a comprehension -/
theorem lcG_map {g : D → Nv → R Nv} {t : Nv → R Bool} {e : Nv → R D} {ε : Nv} (p : D → Bool) (v : D → D) : ∀ (ds : List D),
    (∀ d, d ∈ ds → ∃ ε1, g d ε = .ok ε1 ∧ t ε1 = .ok (p d) ∧ (p d = true → e ε1 = .ok (v d))) → lcG g t e ε ds = .ok ((ds.filter p).map v)
  | [], _ => rfl
  | d :: ds, h => by
    obtain ⟨ε1, h1, h2, h3⟩ := h d List.mem_cons_self
    have ih := lcG_map p v ds fun x hx => h x (List.mem_cons_of_mem _ hx)
    unfold lcG
    rw [h1, bind_ok, h2, bind_ok]
    cases hp : p d with
    | true =>
      rw [if_pos rfl, h3 hp, bind_ok, ih, bind_ok, List.filter_cons, hp, if_pos rfl]
      rfl
    | false =>
      rw [if_neg Bool.false_ne_true, ih, List.filter_cons, hp, if_neg Bool.false_ne_true]
/-- one over typed items, no test -/
theorem lcG_all {α : Type} {g : D → Nv → R Nv} {e : Nv → R D} {ε : Nv} (enc : α → D) (v : α → D) : ∀ (xs : List α), (∀ x, x ∈ xs → ∃ ε1, g (enc x) ε = .ok ε1 ∧ e ε1 = .ok (v x)) → lcG g tYe e ε (xs.map enc) = .ok (xs.map v)
  | [], _ => rfl
  | x :: xs, h => by
    obtain ⟨ε1, h1, h2⟩ := h x List.mem_cons_self
    have ih := lcG_all enc v xs fun y hy => h y (List.mem_cons_of_mem _ hy)
    show (g (enc x) ε).bind _ = _
    rw [h1, bind_ok]
    show (e ε1).bind _ = _
    rw [h2, bind_ok, ih, bind_ok]
    rfl
/-- .. with a test -/
theorem lcG_if {α : Type} {g : D → Nv → R Nv} {t : Nv → R Bool} {e : Nv → R D} {ε : Nv} (enc : α → D) (p : α → Bool) (v : α → D) : ∀ (xs : List α), (∀ x, x ∈ xs → ∃ ε1, g (enc x) ε = .ok ε1 ∧ t ε1 = .ok (p x) ∧ (p x = true → e ε1 = .ok (v x))) → lcG g t e ε (xs.map enc) = .ok ((xs.filter p).map v)
  | [], _ => rfl
  | x :: xs, h => by
    obtain ⟨ε1, h1, h2, h3⟩ := h x List.mem_cons_self
    have ih := lcG_if enc p v xs fun y hy => h y (List.mem_cons_of_mem _ hy)
    show (g (enc x) ε).bind _ = _
    rw [h1, bind_ok, h2, bind_ok]
    cases hp : p x with
    | true =>
      rw [if_pos rfl, h3 hp, bind_ok, ih, bind_ok, List.filter_cons, hp, if_pos rfl]
      rfl
    | false =>
      rw [if_neg Bool.false_ne_true, ih, List.filter_cons, hp, if_neg Bool.false_ne_true]
/-- a while: by a measure -/
theorem whG_inv {t : Nv → R Bool} {b : Nv → R Fl} (P : Nat → Nv → Prop) (Q : Nv → Prop) : ∀ (n : Nat) (ε : Nv), P n ε →
    (∀ n ε, P n ε → (t ε = .ok false ∧ Q ε) ∨ (t ε = .ok true ∧ ∃ ε2 n', n' < n ∧ (b ε = .ok (.nx ε2) ∨ b ε = .ok (.ct ε2)) ∧ P n' ε2)) → ∀ m, n < m → ∃ ε', whG t b m ε = .ok (.nx ε') ∧ Q ε' := by
  intro n
  induction n using Nat.strongRecOn with
  | _ n ih =>
    intro ε h hs m hm
    cases m with
    | zero => exact absurd hm (Nat.not_lt_zero _)
    | succ m =>
      rcases hs n ε h with ⟨h1, h2⟩ | ⟨h1, ε2, n', hn, h2, h3⟩
      · refine ⟨ε, ?_, h2⟩
        unfold whG
        rw [h1]
        rfl
      · obtain ⟨ε', h4, h5⟩ := ih n' hn ε2 h3 hs m (by omega)
        refine ⟨ε', ?_, h5⟩
        unfold whG
        rw [h1, bind_ok, if_pos rfl]
        rcases h2 with h2 | h2
        · rw [h2]
          exact h4
        · rw [h2]
          exact h4
/-! ### ranges, items -/
theorem rangeD_get {lo : Int} {n i : Nat} {d : D} (h : (rangeD lo n)[i]? = some d) : i < n ∧ d = .int (lo + (i : Int)) := by
  unfold rangeD at h
  rw [List.getElem?_map] at h
  by_cases hi : i < n
  · rw [List.getElem?_range hi] at h
    exact ⟨hi, (Option.some.inj h).symm⟩
  · rw [List.getElem?_eq_none_iff.mpr (by rw [List.length_range]; omega)] at h
    cases h
theorem rangeD_len (lo : Int) (n : Nat) : (rangeD lo n).length = n := by
  unfold rangeD
  rw [List.length_map, List.length_range]
theorem atI_map {α β : Type} (f : α → β) (xs : List α) (i : Int) : L2.atI (xs.map f) i = (L2.atI xs i).map f := by
  unfold L2.atI
  rw [List.length_map]
  cases L2.ixN xs.length i with
  | none => rfl
  | some j =>
    show (xs.map f)[j]? = (xs[j]?).map f
    rw [List.getElem?_map]
theorem atI_of {α : Type} {xs : List α} {i : Int} (h0 : 0 ≤ i) (h : i < xs.length) : ∃ x, xs[i.toNat]? = some x ∧ L2.atI xs i = some x := by
  have hi : i.toNat < xs.length := by omega
  refine ⟨xs[i.toNat], List.getElem?_eq_getElem hi, ?_⟩
  have := L2.atI_nat (xs := xs) (j := i.toNat) (List.getElem?_eq_getElem hi)
  rwa [Int.toNat_of_nonneg h0] at this
theorem dIx_list {xs : List D} {i : Int} {x : D} (h : L2.atI xs i = some x) : dIx (.list xs) (.int i) = .ok x := by
  show (match L2.atI xs i with | some d => R.ok d | none => R.bad) = _
  rw [h]
theorem dIx_tuple {xs : List D} {i : Int} {x : D} (h : L2.atI xs i = some x) : dIx (.tuple xs) (.int i) = .ok x := by
  show (match L2.atI xs i with | some d => R.ok d | none => R.bad) = _
  rw [h]
/-- an item of a list of ints -/
theorem dIx_ints {l : List Int} {i : Int} (h0 : 0 ≤ i) (h : i < l.length) : dIx (.list (l.map PyData.int)) (.int i) = .ok (.int (l.getD i.toNat 0)) := by
  obtain ⟨x, h1, h2⟩ := atI_of (xs := l) h0 h
  refine dIx_list ?_
  rw [atI_map, h2, List.getD_eq_getElem?_getD, h1]
  rfl
theorem ixN_of {n : Nat} {i : Int} (h0 : 0 ≤ i) (h : i < n) : L2.ixN n i = some i.toNat := by
  unfold L2.ixN
  rw [if_pos h0, if_pos h]
/-! ### arithmetic -/
theorem log2_lt {n k : Nat} (h : n < 2 ^ k) (hk : 0 < k) : n.log2 < k := PySem.Flt.log2_lt_of hk h
theorem dMul_ok {i j : Int} (hi : i.natAbs < 2 ^ 400000) (hj : j.natAbs < 2 ^ 400000) : dMul (.int i) (.int j) = .ok (.int (i * j)) := by
  have h1 := log2_lt hi (by decide)
  have h2 := log2_lt hj (by decide)
  show (if i.natAbs.log2 + j.natAbs.log2 < 1000000 then R.ok (PyData.int (i * j)) else R.bad) = _
  rw [if_pos (by omega)]
theorem lt_pow {n k m : Nat} (h : n < 2 ^ k) (hk : k ≤ m) : n < 2 ^ m := Nat.lt_of_lt_of_le h (Nat.pow_le_pow_right (by decide) hk)
theorem dMul_small {i j : Int} (hi : i.natAbs < 2 ^ 64) (hj : j.natAbs < 2 ^ 64) : dMul (.int i) (.int j) = .ok (.int (i * j)) := dMul_ok (lt_pow hi (by decide)) (lt_pow hj (by decide))
theorem dDiv_ok {i j : Int} (h0 : 0 < j) (hj : j.natAbs < 2 ^ 8999) : dDiv (.int i) (.int j) = .ok (.int (i / j)) := by
  have h2 := log2_lt hj (by decide)
  show (if 0 < j ∧ j.natAbs.log2 < 9000 then R.ok (PyData.int (i / j)) else R.bad) = _
  rw [if_pos ⟨h0, by omega⟩]
theorem dDiv_small {i j : Int} (h0 : 0 < j) (hj : j.natAbs < 2 ^ 64) : dDiv (.int i) (.int j) = .ok (.int (i / j)) := dDiv_ok h0 (lt_pow hj (by decide))
theorem dMod_ok {i j : Int} (h0 : 0 < j) : dMod (.int i) (.int j) = .ok (.int (i % j)) := by
  show (if 0 < j then R.ok (PyData.int (i % j)) else R.bad) = _
  rw [if_pos h0]
theorem cRepr_ok {d : D} (h1 : okd d = true) (h2 : d.showable = true) (h3 : d.shown.length ≤ lim) : cRepr [d] = .ok (.str d.shown) := by
  show (if okd d && d.showable && decide (d.shown.length ≤ lim) then R.ok (PyData.str d.shown) else R.bad) = _
  rw [h1, h2, decide_eq_true h3]
  rfl
/-! ### how long texts of data are -/
mutual
/-- an upper bound of a datum's text: ints below 10 ^ 12 -/
def tw : D → Nat
  | .none => 13
  | .bool _ => 13
  | .int _ => 13
  | .str x => (reprText x).length
  | .list xs => twAll xs + 3
  | .tuple xs => twAll xs + 3
  | .dict _ => 0
def twAll : List D → Nat
  | [] => 0
  | x :: xs => tw x + 2 + twAll xs
end
mutual
def smI : D → Bool
  | .int i => decide (i.natAbs < 10 ^ 12)
  | .list xs => smIAll xs
  | .tuple xs => smIAll xs
  | .dict _ => false
  | _ => true
def smIAll : List D → Bool
  | [] => true
  | x :: xs => smI x && smIAll xs
end
mutual
theorem shown_tw : ∀ d : D, smI d = true → d.shown.length ≤ tw d ∧ d.showable = true
  | .none, _ => by
    refine ⟨?_, rfl⟩
    simp only [PyData.shown, tw]
    decide
  | .bool b, _ => by
    refine ⟨?_, rfl⟩
    cases b <;> simp only [PyData.shown, tw] <;> decide
  | .int i, h => by
    simp only [smI] at h
    have h' := of_decide_eq_true h
    refine ⟨by simp only [tw]; exact PyData.shown_int_le h', ?_⟩
    simp only [PyData.showable]
    refine decide_eq_true ?_
    have := log2_lt (n := i.natAbs) (k := 64) (by omega) (by decide)
    omega
  | .str x, _ => by
    refine ⟨?_, rfl⟩
    simp only [PyData.shown, tw]
    exact Nat.le_refl _
  | .list xs, h => by
    simp only [smI] at h
    obtain ⟨h1, h2⟩ := shown_twAll xs h
    simp only [PyData.shown, tw, PyData.showable]
    refine ⟨?_, h2⟩
    have := listText_len_le (PyData.shownAll xs)
    rw [PyData.shownAll_length] at this
    omega
  | .tuple xs, h => by
    simp only [smI] at h
    obtain ⟨h1, h2⟩ := shown_twAll xs h
    simp only [PyData.shown, tw, PyData.showable]
    refine ⟨?_, h2⟩
    have := tupleText_len_le (PyData.shownAll xs)
    rw [PyData.shownAll_length] at this
    omega
  | .dict _, h => by simp only [smI] at h; cases h
theorem shown_twAll : ∀ xs : List D, smIAll xs = true → ((PyData.shownAll xs).map (·.length)).sum + 2 * xs.length ≤ twAll xs ∧ PyData.showableAll xs = true
  | [], _ => ⟨by simp [PyData.shownAll, twAll], by simp [PyData.showableAll]⟩
  | x :: xs, h => by
    simp only [smIAll, Bool.and_eq_true] at h
    obtain ⟨h1, h2⟩ := shown_tw x h.1
    obtain ⟨h3, h4⟩ := shown_twAll xs h.2
    simp only [PyData.shownAll, twAll, PyData.showableAll, h2, h4, List.map_cons, List.sum_cons, List.length_cons, Bool.and_self]
    refine ⟨?_, trivial⟩
    omega
end
theorem cRepr_tw {d : D} (h1 : okd d = true) (h2 : smI d = true) (h3 : tw d ≤ lim) : cRepr [d] = .ok (.str d.shown) :=
  cRepr_ok h1 (shown_tw d h2).2 (Nat.le_trans (shown_tw d h2).1 h3)
theorem tw_ints : ∀ l : List Int, twAll (l.map PyData.int) = 15 * l.length
  | [] => rfl
  | i :: r => by
    show 13 + 2 + twAll (r.map PyData.int) = _
    rw [tw_ints r, List.length_cons]
    omega
theorem smI_ints : ∀ l : List Int, (∀ i, i ∈ l → i.natAbs < 10 ^ 12) → smIAll (l.map PyData.int) = true
  | [], _ => rfl
  | i :: r, h => by
    show (decide (i.natAbs < 10 ^ 12) && smIAll (r.map PyData.int)) = true
    rw [decide_eq_true (h i List.mem_cons_self), smI_ints r fun j hj => h j (List.mem_cons_of_mem _ hj)]
    rfl
theorem cRepr_int {i : Int} (h : i.natAbs < 10 ^ 12) : cRepr [.int i] = .ok (.str (PyData.int i).shown) := cRepr_tw rfl (by simp only [smI]; exact decide_eq_true h) (by show 13 ≤ 1000000; decide)
theorem cRepr_ints {l : List Int} (h : ∀ i, i ∈ l → i.natAbs < 10 ^ 12) (hl : l.length ≤ 60000) : cRepr [.list (l.map PyData.int)] = .ok (.str (PyData.list (l.map PyData.int)).shown) :=
  cRepr_tw (okd_ints l) (by simp only [smI]; exact smI_ints l h) (by simp only [tw, tw_ints]; have : lim = 1000000 := rfl; omega)
end Tw
namespace Tw
open PySem
/-! ### runs of statements -/
def Runs (m : Nv → R Fl) (ε : Nv) (post : Fl → Prop) : Prop := ∃ fl, m ε = .ok fl ∧ post fl
theorem Runs.mono {m : Nv → R Fl} {ε : Nv} {p q : Fl → Prop} (h : Runs m ε p) (i : ∀ fl, p fl → q fl) : Runs m ε q := let ⟨fl, h1, h2⟩ := h; ⟨fl, h1, i fl h2⟩
theorem runs_eq {m : Nv → R Fl} {ε : Nv} {post : Fl → Prop} {fl : Fl} (h : m ε = .ok fl) (q : post fl) : Runs m ε post := ⟨fl, h, q⟩
/-- m, then n -/
theorem runs_seq {m n : Nv → R Fl} {ε : Nv} {post : Fl → Prop} (h : Runs m ε fun fl => match fl with | .nx ε' => Runs n ε' post | fl => post fl) : Runs (sSeq m n) ε post := by
  obtain ⟨fl, h1, h2⟩ := h
  have e : sSeq m n ε = match m ε with | .ok (.nx ε') => n ε' | r => r := rfl
  rw [h1] at e
  cases fl with
  | nx ε' =>
    obtain ⟨fl, h3, h4⟩ := h2
    exact ⟨fl, e.trans h3, h4⟩
  | rt d => exact ⟨_, e, h2⟩
  | bk ε' => exact ⟨_, e, h2⟩
  | ct ε' => exact ⟨_, e, h2⟩
/-- m goes through, then n -/
theorem runs_sn {m n : Nv → R Fl} {ε ε' : Nv} {post : Fl → Prop} (h : m ε = .ok (.nx ε')) (q : Runs n ε' post) : Runs (sSeq m n) ε post := runs_seq ⟨_, h, q⟩
theorem sAs_ok {i : Nat} {me : Nv → R D} {ε : Nv} {d : D} (h : me ε = .ok d) : sAs i me ε = .ok (.nx (st ε i (.im d))) := by
  unfold sAs
  rw [h, bind_ok]
theorem sAsM_ok {i : Nat} {me : Nv → R D} {ε : Nv} {d : D} (h : me ε = .ok d) : sAsM i me ε = .ok (.nx (st ε i (.mu d))) := by
  unfold sAsM
  rw [h, bind_ok]
theorem sDr_ok {me : Nv → R D} {ε : Nv} {d : D} (h : me ε = .ok d) : sDr me ε = .ok (.nx ε) := by
  unfold sDr
  rw [h, bind_ok]
theorem sRt_ok {me : Nv → R D} {ε : Nv} {d : D} (h : me ε = .ok d) : sRt me ε = .ok (.rt d) := by
  unfold sRt
  rw [h, bind_ok]
theorem sIf_t {t : Nv → R Bool} {m n : Nv → R Fl} {ε : Nv} (h : t ε = .ok true) : sIf t m n ε = m ε := by
  unfold sIf
  rw [h, bind_ok, if_pos rfl]
theorem sIf_f {t : Nv → R Bool} {m n : Nv → R Fl} {ε : Nv} (h : t ε = .ok false) : sIf t m n ε = n ε := by
  unfold sIf
  rw [h, bind_ok, if_neg Bool.false_ne_true]
theorem runs_if {t : Nv → R Bool} {m n : Nv → R Fl} {ε : Nv} {post : Fl → Prop} {b : Bool} (h : t ε = .ok b) (h1 : b = true → Runs m ε post) (h2 : b = false → Runs n ε post) : Runs (sIf t m n) ε post := by
  cases b with
  | true =>
    unfold Runs
    rw [sIf_t h]
    exact h1 rfl
  | false =>
    unfold Runs
    rw [sIf_f h]
    exact h2 rfl
/-- a loop by an invariant; answers inside by what is wanted -/
theorem runs_for {mi : Nv → R (List D)} {g : D → Nv → R Nv} {b : Nv → R Fl} {ε : Nv} {post : Fl → Prop} {ds : List D} (P : Nat → Nv → Prop) (h : mi ε = .ok ds) (h0 : P 0 ε)
    (hs : ∀ i d ε, ds[i]? = some d → P i ε → ∃ ε1, g d ε = .ok ε1 ∧ Runs b ε1 fun fl => match fl with | .nx ε2 => P (i + 1) ε2 | .ct ε2 => P (i + 1) ε2 | .bk _ => False | .rt a => post (.rt a))
    (hd : ∀ ε', P ds.length ε' → post (.nx ε')) : Runs (sFor mi g b) ε post := by
  unfold Runs sFor
  rw [h, bind_ok]
  have := forG_ret (g := g) (b := b) P (fun a => post (.rt a)) ds 0 ε h0 fun i d η hi hp => by
    rw [Nat.zero_add] at hp ⊢
    obtain ⟨ε1, h1, fl, h2, h3⟩ := hs i d η hi hp
    refine ⟨ε1, h1, ?_⟩
    cases fl with
    | nx ε2 => exact .inl ⟨ε2, .inl h2, h3⟩
    | ct ε2 => exact .inl ⟨ε2, .inr h2, h3⟩
    | bk ε2 => exact h3.elim
    | rt a => exact .inr ⟨a, h2, h3⟩
  rcases this with ⟨ε', h1, h2⟩ | ⟨a, h1, h2⟩
  · rw [Nat.zero_add] at h2
    exact ⟨_, h1, hd ε' h2⟩
  · exact ⟨_, h1, h2⟩
theorem runs_wh {t : Nv → R Bool} {b : Nv → R Fl} {ε : Nv} {post : Fl → Prop} {m : Nat} (P : Nat → Nv → Prop) (n : Nat) (h0 : P n ε) (hm : n < m)
    (hs : ∀ n ε, P n ε → (t ε = .ok false ∧ post (.nx ε)) ∨ (t ε = .ok true ∧ Runs b ε fun fl => match fl with | .nx ε2 => ∃ n', n' < n ∧ P n' ε2 | .ct ε2 => ∃ n', n' < n ∧ P n' ε2 | _ => False)) : Runs (sWh m t b) ε post := by
  obtain ⟨ε', h1, h2⟩ := whG_inv (t := t) (b := b) P (fun ε => post (.nx ε)) n ε h0 (fun n η hp => by
    rcases hs n η hp with h | ⟨h1, fl, h2, h3⟩
    · exact .inl h
    · refine .inr ⟨h1, ?_⟩
      cases fl with
      | nx ε2 =>
        obtain ⟨n', a, b⟩ := h3
        exact ⟨ε2, n', a, .inl h2, b⟩
      | ct ε2 =>
        obtain ⟨n', a, b⟩ := h3
        exact ⟨ε2, n', a, .inr h2, b⟩
      | bk ε2 => exact h3.elim
      | rt a => exact h3.elim) m hm
  exact ⟨_, h1, h2⟩
/-- the def's answer -/
theorem runF_rt {n N : Nat} {m : Nv → R Fl} {ds : List D} {d : D} (hn : ds.length = n) (h : Runs m (ds.map SV.im ++ List.replicate (N - n) SV.no) fun fl => fl = .rt d) : runF n N m ds = .ok d := by
  obtain ⟨fl, h1, h2⟩ := h
  unfold runF
  rw [if_pos hn, h1, h2]
theorem runF_some {n N : Nat} {m : Nv → R Fl} {ds : List D} {Q : D → Prop} (hn : ds.length = n) (h : Runs m (ds.map SV.im ++ List.replicate (N - n) SV.no) fun fl => ∃ d, fl = .rt d ∧ Q d) : ∃ d, runF n N m ds = .ok d ∧ Q d := by
  obtain ⟨fl, h1, d, h2, h3⟩ := h
  refine ⟨d, ?_, h3⟩
  unfold runF
  rw [if_pos hn, h1, h2]
theorem runF_nx {n N : Nat} {m : Nv → R Fl} {ds : List D} (hn : ds.length = n) (h : Runs m (ds.map SV.im ++ List.replicate (N - n) SV.no) fun fl => ∃ ε, fl = .nx ε) : runF n N m ds = .ok .none := by
  obtain ⟨fl, h1, ε, h2⟩ := h
  unfold runF
  rw [if_pos hn, h1, h2]
/-! ### operators at ints -/
theorem dAdd_i {i j : Int} : dAdd (.int i) (.int j) = .ok (.int (i + j)) := rfl
theorem dSub_i {i j : Int} : dSub (.int i) (.int j) = .ok (.int (i - j)) := rfl
theorem dNeg_i {i : Int} : dNeg (.int i) = .ok (.int (-i)) := rfl
theorem dLt_i {i j : Int} : dLt (.int i) (.int j) = .ok (.bool (decide (i < j))) := rfl
theorem dLe_i {i j : Int} : dLe (.int i) (.int j) = .ok (.bool (decide (i ≤ j))) := rfl
theorem dGt_i {i j : Int} : dGt (.int i) (.int j) = .ok (.bool (decide (j < i))) := rfl
theorem dGe_i {i j : Int} : dGe (.int i) (.int j) = .ok (.bool (decide (j ≤ i))) := rfl
theorem cLen_l {xs : List D} : cLen [.list xs] = .ok (.int xs.length) := rfl
theorem cLen_t {xs : List D} : cLen [.tuple xs] = .ok (.int xs.length) := rfl
theorem cInt_i {i : Int} : cInt [.int i] = .ok (.int i) := rfl
theorem cInt_b {b : Bool} : cInt [.bool b] = .ok (.int (if b then 1 else 0)) := rfl
theorem cAbs_i {i : Int} : cAbs [.int i] = .ok (.int (if i < 0 then -i else i)) := rfl
theorem kMax_i {i j : Int} : kMax [.int i, .int j] = .ok (.int (if j > i then j else i)) := rfl
theorem kMin_i {i j : Int} : kMin [.int i, .int j] = .ok (.int (if j < i then j else i)) := rfl
theorem cSum_ints (l : List Int) : cSum [.list (l.map PyData.int)] = .ok (.int l.sum) := by
  show (match intsOf (l.map PyData.int) with | some l => R.ok (PyData.int l.sum) | none => R.bad) = _
  rw [intsOf_map]
theorem cAll_bools (l : List Bool) : cAll [.list (l.map PyData.bool)] = .ok (.bool (l.all id)) := by
  show (match boolsOf (l.map PyData.bool) with | some l => R.ok (PyData.bool (l.all id)) | none => R.bad) = _
  rw [boolsOf_map]
theorem cAny_bools (l : List Bool) : cAny [.list (l.map PyData.bool)] = .ok (.bool (l.any id)) := by
  show (match boolsOf (l.map PyData.bool) with | some l => R.ok (PyData.bool (l.any id)) | none => R.bad) = _
  rw [boolsOf_map]
theorem dPow_i {i j : Int} (h0 : 0 ≤ j) (h1 : j ≤ 1000000) (hi : i.natAbs < 2 ^ 64) : dPow (.int i) (.int j) = .ok (.int (i ^ j.toNat)) := by
  show (if 0 ≤ j ∧ j ≤ 1000000 ∧ i.natAbs < 2 ^ 64 then R.ok (PyData.int (i ^ j.toNat)) else R.bad) = _
  rw [if_pos ⟨h0, h1, hi⟩]
theorem iRange1_ok {ms : Nv → R (List D)} {ε : Nv} {j : Int} (h : ms ε = .ok [.int j]) (h0 : -(2 ^ 62) ≤ j) (h1 : j < 2 ^ 62) : iRange1 ms ε = .ok (rangeD 0 j.toNat) := by
  unfold iRange1
  rw [h, bind_ok]
  show (if rlim j then R.ok (rangeD 0 j.toNat) else R.bad) = _
  have : rlim j = true := by
    unfold rlim
    rw [decide_eq_true h0, decide_eq_true h1]
    rfl
  rw [if_pos this]
theorem iRange2_ok {ms : Nv → R (List D)} {ε : Nv} {i j : Int} (h : ms ε = .ok [.int i, .int j]) (h0 : -(2 ^ 62) ≤ i) (h1 : i < 2 ^ 62) (h2 : -(2 ^ 62) ≤ j) (h3 : j < 2 ^ 62) : iRange2 ms ε = .ok (rangeD i (j - i).toNat) := by
  unfold iRange2
  rw [h, bind_ok]
  show (if rlim i && rlim j then R.ok (rangeD i (j - i).toNat) else R.bad) = _
  have a : rlim i = true := by
    unfold rlim
    rw [decide_eq_true h0, decide_eq_true h1]
    rfl
  have b : rlim j = true := by
    unfold rlim
    rw [decide_eq_true h2, decide_eq_true h3]
    rfl
  rw [a, b]
  rfl
theorem sAp_ok {i : Nat} {me : Nv → R D} {ε : Nv} {d : D} {ds : List D} (h : me ε = .ok d) (g : gt ε i = .mu (.list ds)) (hl : ds.length < lim) : sAp i me ε = .ok (.nx (st ε i (.mu (.list (ds ++ [d]))))) := by
  unfold sAp
  rw [h, bind_ok, g]
  show (if ds.length < lim then R.ok (Fl.nx (st ε i (.mu (.list (ds ++ [d]))))) else R.bad) = _
  rw [if_pos hl]
end Tw
namespace Tw
open PySem
theorem xLc_ok {vs : List Nat} {mi : Nv → R (List D)} {g : D → Nv → R Nv} {t : Nv → R Bool} {e : Nv → R D} {ε : Nv} {ds ys : List D} (hi : mi ε = .ok ds) (hm : lcG g t e (wipeE ε vs) ds = .ok ys) (hlen : ys.length ≤ lim) : xLc vs mi g t e ε = .ok (.list ys) := by
  unfold xLc
  rw [hi, bind_ok, hm, bind_ok, if_pos hlen]
end Tw
set_option Elab.async false
set_option linter.all false
set_option maxRecDepth 100000
set_option maxHeartbeats 4000000
/-! the programs over data of each def -/
namespace My
open PySem PySem.Spec PyProof.Rows L2 Tw
def fuel : Nat := 100000
/-- check_row (row): 0 row 1 k 2 one -/
def m_check_row : Nv → R Fl :=
  (sSeq (sIf (tNo (tC' (xCh dLe dLe (xC (.int 1)) (xCall cLen (xCons (xV 0) xNil)) (xC (.int 24)))))
  sNo
  sNil)
  (sFor (iEnu (xCons (xV 0) xNil)) (bT 2 (bsC (bN 1) (bsC (bN 2) bs0)))
  (sIf (tNo (tC' (xCh dLe dLe (xUn dNeg (xC (.int 100))) (xV 2) (xC (.int 100)))))
    sNo
    sNil)))
def f_check_row : List D → R D := runF 1 3 m_check_row
/-- ending_of (row): 0 row 1 found 2 k 3 one -/
def m_ending_of : Nv → R Fl :=
  (sSeq (sAsM 1 (xLst xNil))
  (sSeq (sFor (iEnu (xCons (xV 0) xNil)) (bT 2 (bsC (bN 2) (bsC (bN 3) bs0)))
  (sAp 1 (xIf (tC' (xBin dGt (xV 2) (xC (.int 0)))) (xBin dAdd (xV 3) (xCall kMax (xCons (xC (.int 0)) (xCons (xIm 1 (xBin dSub (xV 2) (xC (.int 1)))) xNil)))) (xV 3))))
  (sRtM 1)))
def f_ending_of : List D → R D := runF 1 4 m_ending_of
/-- ending (row): 0 row -/
def m_ending : Nv → R Fl :=
  (sSeq (sDr (xCall f_check_row (xCons (xV 0) xNil)))
  (sRt (xCall f_ending_of (xCons (xV 0) xNil))))
def f_ending : List D → R D := runF 1 1 m_ending
/-- peak (row): 0 row 1 most 2 first 3 whole 4 last -/
def m_peak : Nv → R Fl :=
  (sSeq (sDr (xCall f_check_row (xCons (xV 0) xNil)))
  (sSeq (sAs 1 (xCall kMax (xCons (xCall f_ending_of (xCons (xV 0) xNil)) xNil)))
  (sSeq (sFor (iRange1 (xCons (xCall cLen (xCons (xV 0) xNil)) xNil)) (bN 2)
  (sSeq (sAs 3 (xC (.int 0)))
    (sFor (iRange2 (xCons (xV 2) (xCons (xCall cLen (xCons (xV 0) xNil)) xNil))) (bN 4)
    (sSeq (sAs 3 (xBin dAdd (xV 3) (xBin dIx (xV 0) (xV 4))))
      (sIf (tC' (xBin dEq (xV 3) (xV 1)))
      (sRt (xTup (xCons (xV 1) (xCons (xV 2) (xCons (xV 4) xNil)))))
      sNil)))))
  (sRt (xC .none)))))
def f_peak : List D → R D := runF 1 5 m_peak
/-- runs (row): 0 row 1 k 2 one 3 two -/
def m_runs : Nv → R Fl :=
  (sSeq (sDr (xCall f_check_row (xCons (xV 0) xNil)))
  (sSeq (sFor (iEnu (xCons (xV 0) xNil)) (bT 2 (bsC (bN 1) (bsC (bN 2) bs0)))
  (sIf (tC' (xBin dNotIn (xV 2) (xTup (xCons (xC (.int 0)) (xCons (xC (.int 1)) xNil)))))
    sNo
    sNil))
  (sRt (xBin dAdd (xC (.int 1)) (xCall cSum (xCons (xLc [2, 3] (iZi (xCons (xV 0) (xCons (xSl (xV 0) (oSome (xC (.int 1))) oNone) xNil))) (bT 2 (bsC (bN 2) (bsC (bN 3) bs0))) tYe (xCall cInt (xCons (xBin dNe (xV 2) (xV 3)) xNil))) xNil))))))
def f_runs : List D → R D := runF 1 4 m_runs
/-- over (n, k): 0 n 1 k 2 found 3 step -/
def m_over : Nv → R Fl :=
  (sSeq (sIf (tNo (tC' (xCh dLe dLe (xC (.int 0)) (xV 1) (xV 0))))
  (sRt (xC (.int 0)))
  sNil)
  (sSeq (sAs 2 (xC (.int 1)))
  (sSeq (sFor (iRange1 (xCons (xV 1) xNil)) (bN 3)
  (sAs 2 (xBin dDiv (xBin dMul (xV 2) (xBin dSub (xV 0) (xV 3))) (xBin dAdd (xV 3) (xC (.int 1))))))
  (sRt (xV 2)))))
def f_over : List D → R D := runF 2 4 m_over
/-- ways (zeros, ones, number): 0 zeros 1 ones 2 number 3 count 4 half -/
def m_ways : Nv → R Fl :=
  (sSeq (sFor (iSeq (xTup (xCons (xV 0) (xCons (xV 1) xNil)))) (bN 3)
  (sIf (tNo (tC' (xCh dLe dLe (xC (.int 1)) (xV 3) (xC (.int 30)))))
    sNo
    sNil))
  (sSeq (sIf (tC' (xBin dLt (xV 2) (xC (.int 2))))
  (sRt (xC (.int 0)))
  sNil)
  (sSeq (sAs 4 (xBin dDiv (xV 2) (xC (.int 2))))
  (sSeq (sIf (tC' (xBin dEq (xBin dMod (xV 2) (xC (.int 2))) (xC (.int 0))))
  (sRt (xBin dMul (xBin dMul (xC (.int 2)) (xCall f_over (xCons (xBin dSub (xV 0) (xC (.int 1))) (xCons (xBin dSub (xV 4) (xC (.int 1))) xNil)))) (xCall f_over (xCons (xBin dSub (xV 1) (xC (.int 1))) (xCons (xBin dSub (xV 4) (xC (.int 1))) xNil)))))
  sNil)
  (sRt (xBin dAdd (xBin dMul (xCall f_over (xCons (xBin dSub (xV 0) (xC (.int 1))) (xCons (xV 4) xNil))) (xCall f_over (xCons (xBin dSub (xV 1) (xC (.int 1))) (xCons (xBin dSub (xV 4) (xC (.int 1))) xNil)))) (xBin dMul (xCall f_over (xCons (xBin dSub (xV 0) (xC (.int 1))) (xCons (xBin dSub (xV 4) (xC (.int 1))) xNil))) (xCall f_over (xCons (xBin dSub (xV 1) (xC (.int 1))) (xCons (xV 4) xNil))))))))))
def f_ways : List D → R D := runF 3 5 m_ways
/-- _law_draws (script): 0 script 1 draws 2 k 3 rest 4 turn 5 mixed -/
def m__law_draws : Nv → R Fl :=
  (sSeq (sAsM 1 (xLst xNil))
  (sSeq (sFor (iRange1 (xCons (xCall kMin (xCons (xC (.int 63)) (xCons (xCall cLen (xCons (xV 0) xNil)) xNil))) xNil)) (bN 2)
  (sSeq (sAs 3 (xCall cAbs (xCons (xBin dIx (xV 0) (xV 2)) xNil)))
    (sIf (tC' (xBin dGe (xV 3) (xBin dPow (xC (.int 10)) (xC (.int 18)))))
    (sFor (iRange1 (xCons (xC (.int 60)) xNil)) (bN 4)
      (sIf (tC' (xBin dGt (xV 3) (xC (.int 0))))
        (sSeq (sAp 1 (xBin dMod (xCall cInt (xCons (xV 3) xNil)) (xC (.int 65536))))
          (sAs 3 (xBin dDiv (xV 3) (xC (.int 65536)))))
        sNil))
    (sSeq (sAs 5 (xBin dMod (xCall cInt (xCons (xBin dAdd (xBin dMul (xV 3) (xC (.int 48271))) (xBin dMul (xBin dAdd (xV 2) (xC (.int 1))) (xC (.int 69621)))) xNil)) (xC (.int 2147483647))))
      (sSeq (sAs 5 (xBin dMod (xCall cInt (xCons (xBin dAdd (xBin dAdd (xBin dMul (xV 5) (xC (.int 16807))) (xBin dMul (xC (.int 11)) (xV 2))) (xC (.int 5))) xNil)) (xC (.int 2147483629))))
      (sSeq (sAp 1 (xBin dMod (xCall cInt (xCons (xV 5) xNil)) (xC (.int 65536))))
      (sAp 1 (xBin dMod (xCall cInt (xCons (xBin dDiv (xV 5) (xC (.int 65536))) xNil)) (xC (.int 32768))))))))))
  (sRtM 1)))
def f__law_draws : List D → R D := runF 1 6 m__law_draws
/-- _law_mix (draws, k, many): 0 draws 1 k 2 many 3 value -/
def m__law_mix : Nv → R Fl :=
  (sSeq (sAs 3 (xC (.int 0)))
  (sSeq (sIf (tC' (xBin dGt (xCall cLen (xCons (xV 0) xNil)) (xC (.int 0))))
  (sAs 3 (xBin dIx (xV 0) (xBin dMod (xCall cInt (xCons (xV 1) xNil)) (xCall cLen (xCons (xV 0) xNil)))))
  sNil)
  (sSeq (sIf (tC' (xBin dLt (xV 1) (xCall cLen (xCons (xV 0) xNil))))
  (sRt (xBin dMod (xCall cInt (xCons (xV 3) xNil)) (xV 2)))
  sNil)
  (sRt (xBin dMod (xCall cInt (xCons (xBin dDiv (xCall cInt (xCons (xBin dAdd (xBin dMul (xV 3) (xC (.int 7919))) (xBin dMul (xV 1) (xC (.int 104729)))) xNil)) (xC (.int 3))) xNil)) (xV 2))))))
def f__law_mix : List D → R D := runF 3 4 m__law_mix
/-- _law_row (draws, k, most): 0 draws 1 k 2 most 3 wide 4 level 5 found 6 t -/
def m__law_row : Nv → R Fl :=
  (sSeq (sAs 3 (xBin dIx (xLst (xCons (xC (.int 3)) (xCons (xC (.int 20)) (xCons (xC (.int 100)) xNil)))) (xCall f__law_mix (xCons (xV 0) (xCons (xV 1) (xCons (xC (.int 3)) xNil))))))
  (sSeq (sAs 4 (xBin dSub (xCall f__law_mix (xCons (xV 0) (xCons (xBin dAdd (xV 1) (xC (.int 1))) (xCons (xBin dAdd (xV 3) (xC (.int 1))) xNil)))) (xBin dDiv (xV 3) (xC (.int 2)))))
  (sSeq (sAsM 5 (xLst xNil))
  (sSeq (sFor (iRange1 (xCons (xBin dAdd (xC (.int 1)) (xCall f__law_mix (xCons (xV 0) (xCons (xBin dAdd (xV 1) (xC (.int 2))) (xCons (xV 2) xNil))))) xNil)) (bN 6)
  (sSeq (sIf (tC' (xBin dEq (xCall f__law_mix (xCons (xV 0) (xCons (xBin dAdd (xBin dAdd (xV 1) (xC (.int 3))) (xBin dMul (xC (.int 3)) (xV 6))) (xCons (xC (.int 4)) xNil)))) (xC (.int 0))))
    (sAs 4 (xBin dSub (xCall f__law_mix (xCons (xV 0) (xCons (xBin dAdd (xBin dAdd (xV 1) (xC (.int 4))) (xBin dMul (xC (.int 3)) (xV 6))) (xCons (xBin dAdd (xV 3) (xC (.int 1))) xNil)))) (xBin dDiv (xV 3) (xC (.int 2)))))
    sNil)
    (sAp 5 (xCall kMax (xCons (xUn dNeg (xC (.int 100))) (xCons (xCall kMin (xCons (xC (.int 100)) (xCons (xBin dSub (xBin dAdd (xV 4) (xCall f__law_mix (xCons (xV 0) (xCons (xBin dAdd (xBin dAdd (xV 1) (xC (.int 5))) (xBin dMul (xC (.int 3)) (xV 6))) (xCons (xC (.int 3)) xNil))))) (xC (.int 1))) xNil))) xNil))))))
  (sRtM 5)))))
def f__law_row : List D → R D := runF 3 7 m__law_row
/-- _law_choose (n, k): 0 n 1 k 2 found 3 step -/
def m__law_choose : Nv → R Fl :=
  (sSeq (sAs 2 (xC (.int 1)))
  (sSeq (sFor (iRange1 (xCons (xV 1) xNil)) (bN 3)
  (sAs 2 (xBin dDiv (xBin dMul (xV 2) (xBin dSub (xV 0) (xV 3))) (xBin dAdd (xV 3) (xC (.int 1))))))
  (sRt (xV 2))))
def f__law_choose : List D → R D := runF 2 4 m__law_choose
/-- _law_rows (zeros, ones): 0 zeros 1 ones 2 found 3 row -/
def m__law_rows (self : List D → R D) : Nv → R Fl :=
  (sSeq (sIf (tC' (xBin dEq (xBin dAdd (xV 0) (xV 1)) (xC (.int 0))))
  (sRt (xLst (xCons (xLst xNil) xNil)))
  sNil)
  (sSeq (sAs 2 (xLst xNil))
  (sSeq (sIf (tC' (xBin dGt (xV 0) (xC (.int 0))))
  (sAs 2 (xBin dCat (xV 2) (xLc [3] (iSeq (xCall self (xCons (xBin dSub (xV 0) (xC (.int 1))) (xCons (xV 1) xNil)))) (bN 3) tYe (xBin dCat (xLst (xCons (xC (.int 0)) xNil)) (xV 3)))))
  sNil)
  (sSeq (sIf (tC' (xBin dGt (xV 1) (xC (.int 0))))
  (sAs 2 (xBin dCat (xV 2) (xLc [3] (iSeq (xCall self (xCons (xV 0) (xCons (xBin dSub (xV 1) (xC (.int 1))) xNil)))) (bN 3) tYe (xBin dCat (xLst (xCons (xC (.int 1)) xNil)) (xV 3)))))
  sNil)
  (sRt (xV 2))))))
def r__law_rows : Nat → List D → R D
  | 0 => fun _ => .bad
  | n + 1 => runF 2 4 (m__law_rows (r__law_rows n))
def f__law_rows : List D → R D := r__law_rows 40
/-- _law_runs (row): 0 row 1 t -/
def m__law_runs : Nv → R Fl :=
  (sRt (xBin dAdd (xC (.int 1)) (xCall cLen (xCons (xLc [1] (iRange2 (xCons (xC (.int 1)) (xCons (xCall cLen (xCons (xV 0) xNil)) xNil))) (bN 1) (tC' (xBin dNe (xBin dIx (xV 0) (xV 1)) (xBin dIx (xV 0) (xBin dSub (xV 1) (xC (.int 1)))))) (xV 1)) xNil))))
def f__law_runs : List D → R D := runF 1 2 m__law_runs
/-- law (script): 0 script 1 draws 2 turn 3 rows 4 number 5 whole 6 row 7 kept 8 sums 9 first 10 due 11 told 12 bits 13 zeros 14 ones 15 most 16 last 17 k 18 t 19 one -/
def m_law : Nv → R Fl :=
  (sSeq (sAs 1 (xCall f__law_draws (xCons (xV 0) xNil)))
  (sSeq (sFor (iRange1 (xCons (xC (.int 2)) xNil)) (bN 2)
  (sSeq (sAs 6 (xCall f__law_row (xCons (xV 1) (xCons (xBin dAdd (xC (.int 10)) (xBin dMul (xC (.int 100)) (xV 2))) (xCons (xC (.int 24)) xNil)))))
    (sSeq (sAs 7 (xCall cRepr (xCons (xV 6) xNil)))
    (sSeq (sAs 8 (xLst xNil))
    (sSeq (sFor (iRange1 (xCons (xCall cLen (xCons (xV 6) xNil)) xNil)) (bN 9)
    (sAs 8 (xBin dCat (xV 8) (xLc [16] (iRange2 (xCons (xV 9) (xCons (xCall cLen (xCons (xV 6) xNil)) xNil))) (bN 16) tYe (xTup (xCons (xUn dNeg (xCall cSum (xCons (xSl (xV 6) (oSome (xV 9)) (oSome (xBin dAdd (xV 16) (xC (.int 1))))) xNil))) (xCons (xV 9) (xCons (xV 16) xNil))))))))
    (sSeq (sAs 10 (xLc [17] (iRange1 (xCons (xCall cLen (xCons (xV 6) xNil)) xNil)) (bN 17) tYe (xCall kMax (xCons (xLc [5, 9, 16] (iSeq (xV 8)) (bT 3 (bsC (bN 5) (bsC (bN 9) (bsC (bN 16) bs0)))) (tC' (xBin dEq (xV 16) (xV 17))) (xUn dNeg (xV 5))) xNil))))
    (sSeq (sUn (xCall kMin (xCons (xV 8) xNil)) (bT 3 (bsC (bN 15) (bsC (bN 9) (bsC (bN 16) bs0)))))
    (sSeq (sAsM 11 (xCall f_ending (xCons (xV 6) xNil)))
    (sSeq (sIf (tOrr (tC' (xBin dNe (xTh (xCall cRepr (xCons (xV 11) xNil))) (xCall cRepr (xCons (xV 10) xNil)))) (tC' (xBin dNe (xCall cRepr (xCons (xCall f_peak (xCons (xV 6) xNil)) xNil)) (xCall cRepr (xCons (xTup (xCons (xUn dNeg (xV 15)) (xCons (xV 9) (xCons (xV 16) xNil)))) xNil)))))
    (sRt (xC (.bool false)))
    sNil)
    (sSeq (sAp 11 (xC (.int 9)))
    (sSeq (sIf (tOrr (tC' (xBin dNe (xCall cRepr (xCons (xCall f_ending (xCons (xV 6) xNil)) xNil)) (xCall cRepr (xCons (xV 10) xNil)))) (tOrr (tC' (xBin dNe (xBin dIx (xCall f_peak (xCons (xRev (xV 6)) xNil)) (xC (.int 0))) (xUn dNeg (xV 15)))) (tC' (xBin dNe (xCall cRepr (xCons (xV 6) xNil)) (xV 7)))))
    (sRt (xC (.bool false)))
    sNil)
    (sSeq (sAs 12 (xLc [18] (iRange1 (xCons (xBin dAdd (xC (.int 1)) (xCall f__law_mix (xCons (xV 1) (xCons (xBin dAdd (xC (.int 210)) (xV 2)) (xCons (xC (.int 24)) xNil))))) xNil)) (bN 18) tYe (xCall f__law_mix (xCons (xV 1) (xCons (xBin dAdd (xBin dAdd (xC (.int 220)) (xBin dMul (xC (.int 30)) (xV 2))) (xV 18)) (xCons (xC (.int 2)) xNil))))))
    (sIf (tOrr (tC' (xBin dNe (xCall cRepr (xCons (xCall f_runs (xCons (xV 12) xNil)) xNil)) (xCall cRepr (xCons (xCall f__law_runs (xCons (xV 12) xNil)) xNil)))) (tC' (xBin dNe (xCall f_runs (xCons (xLc [19] (iSeq (xV 12)) (bN 19) tYe (xBin dSub (xC (.int 1)) (xV 19))) xNil)) (xCall f_runs (xCons (xV 12) xNil)))))
    (sRt (xC (.bool false)))
    sNil)))))))))))))
  (sSeq (sUn (xTup (xCons (xBin dAdd (xC (.int 1)) (xCall f__law_mix (xCons (xV 1) (xCons (xC (.int 290)) (xCons (xC (.int 5)) xNil))))) (xCons (xBin dAdd (xC (.int 1)) (xCall f__law_mix (xCons (xV 1) (xCons (xC (.int 291)) (xCons (xC (.int 6)) xNil))))) xNil))) (bT 2 (bsC (bN 13) (bsC (bN 14) bs0))))
  (sSeq (sAs 3 (xLc [6] (iSeq (xCall f__law_rows (xCons (xV 13) (xCons (xV 14) xNil)))) (bN 6) tYe (xCall f__law_runs (xCons (xV 6) xNil))))
  (sSeq (sFor (iRange2 (xCons (xUn dNeg (xC (.int 1))) (xCons (xBin dAdd (xBin dAdd (xV 13) (xV 14)) (xC (.int 2))) xNil))) (bN 4)
  (sIf (tC' (xBin dNe (xCall cRepr (xCons (xCall f_ways (xCons (xV 13) (xCons (xV 14) (xCons (xV 4) xNil)))) xNil)) (xCall cRepr (xCons (xCall cLen (xCons (xLc [19] (iSeq (xV 3)) (bN 19) (tC' (xBin dEq (xV 19) (xV 4))) (xV 19)) xNil)) xNil))))
    (sRt (xC (.bool false)))
    sNil))
  (sSeq (sUn (xTup (xCons (xBin dAdd (xC (.int 1)) (xCall f__law_mix (xCons (xV 1) (xCons (xC (.int 292)) (xCons (xC (.int 30)) xNil))))) (xCons (xBin dAdd (xC (.int 1)) (xCall f__law_mix (xCons (xV 1) (xCons (xC (.int 293)) (xCons (xC (.int 30)) xNil))))) xNil))) (bT 2 (bsC (bN 13) (bsC (bN 14) bs0))))
  (sSeq (sAs 5 (xCall cSum (xCons (xLc [4] (iRange1 (xCons (xBin dAdd (xBin dAdd (xV 13) (xV 14)) (xC (.int 1))) xNil)) (bN 4) tYe (xCall f_ways (xCons (xV 13) (xCons (xV 14) (xCons (xV 4) xNil))))) xNil)))
  (sSeq (sIf (tC' (xBin dNe (xV 5) (xCall f__law_choose (xCons (xBin dAdd (xV 13) (xV 14)) (xCons (xV 14) xNil)))))
  (sRt (xC (.bool false)))
  sNil)
  (sRt (xBin dEq (xLc [4] (iRange1 (xCons (xC (.int 20)) xNil)) (bN 4) tYe (xCall f_ways (xCons (xV 13) (xCons (xV 14) (xCons (xV 4) xNil))))) (xLc [4] (iRange1 (xCons (xC (.int 20)) xNil)) (bN 4) tYe (xCall f_ways (xCons (xV 14) (xCons (xV 13) (xCons (xV 4) xNil)))))))))))))))
def f_law : List D → R D := runF 1 20 m_law
end My
set_option Elab.async false
set_option linter.all false
set_option maxRecDepth 100000
set_option maxHeartbeats 4000000
/-! PlDraws: the draws and their mixing, the same in every law -/
namespace My
open PySem Tw
local macro_rules | `(tactic| walk_at "ev") => `(tactic| simp only [xCall, xCons, xNil, xBin, xUn, xV, xC, xTup, xLst, xIm, gt, st, bind_ok, R.bind, bN, bT, bsC, bs0, tC', tV, tNo, tAn, tOrr, boD, truD, iSeq, dAdd_i, dSub_i, dNeg_i, dLt_i, dLe_i, dGt_i, dGe_i, dEq_int, dNe_int, cLen_l, cLen_t, cInt_i, cInt_b, cAbs_i, kMax_i, kMin_i, List.length_map, List.length_cons, List.length_nil])
def il (l : List Int) : D := .list (l.map PyData.int)
/-- what _law_draws gives: ints from 0 on, below 65536, at most 3780 -/
structure DrawsOk (ds : List Int) : Prop where
  len : ds.length ≤ 3780
  mem : ∀ d, d ∈ ds → 0 ≤ d ∧ d < 65536
theorem below_app {ds : List Int} {d : Int} (h1 : ∀ d, d ∈ ds → 0 ≤ d ∧ d < 65536) (h : 0 ≤ d ∧ d < 65536) : ∀ e, e ∈ ds ++ [d] → 0 ≤ e ∧ e < 65536 := fun e he => by
  rcases List.mem_append.mp he with z | z
  · exact h1 e z
  · rw [List.mem_singleton] at z
    rw [z]
    exact h
theorem il_app (ds : List Int) (d : Int) : (ds.map PyData.int) ++ [PyData.int d] = (ds ++ [d]).map PyData.int := by rw [List.map_append]; rfl
theorem lim_eq : lim = 1000000 := rfl
theorem mod_in (x : Int) {n : Int} (h : 0 < n) : 0 ≤ x % n ∧ x % n < n := ⟨Int.emod_nonneg _ (by omega), Int.emod_lt_of_pos _ h⟩
theorem draws_ok {ns : List Int} (hn : ns.length ≤ 63) : ∃ ds, f__law_draws [il ns] = .ok (il ds) ∧ DrawsOk ds := by
  have hlim := lim_eq
  have main : ∃ d, f__law_draws [il ns] = .ok d ∧ ∃ ds, d = il ds ∧ DrawsOk ds := by
    unfold f__law_draws
    refine runF_some rfl ?_
    unfold m__law_draws
    refine runs_sn (ε' := [.im (il ns), .mu (.list []), .no, .no, .no, .no]) (by rw [sAsM_ok (d := .list []) (by walk_at "ev")]; rfl) ?_
    refine runs_seq (runs_for (ds := rangeD 0 ns.length) (fun i ε => ∃ ds a b c d, ε = [.im (il ns), .mu (il ds), a, b, c, d] ∧ ds.length ≤ 60 * i ∧ ∀ d, d ∈ ds → 0 ≤ d ∧ d < 65536) ?_ ⟨[], _, _, _, _, rfl, by simp, by simp⟩ ?_ ?_)
    · rw [iRange1_ok (j := (ns.length : Int)) ?_ (by omega) (by omega)]
      · rfl
      · simp only [il]
        walk_at "ev"
        rw [show (if (ns.length : Int) < 63 then (ns.length : Int) else 63) = ns.length by split <;> omega]
    · rintro i d ε hd ⟨ds, a, b, c, e, rfl, hl, hm⟩
      obtain ⟨hi, rfl⟩ := rangeD_get hd
      have hidx := dIx_ints (l := ns) (i := (i : Int)) (by omega) (by omega)
      refine ⟨[.im (il ns), .mu (il ds), .im (.int (i : Int)), b, c, e], by simp only [bN, st, Int.zero_add], ?_⟩
      obtain ⟨r, hr⟩ : ∃ r, r = (if ns.getD (i : Int).toNat 0 < 0 then -(ns.getD (i : Int).toNat 0) else ns.getD (i : Int).toNat 0) := ⟨_, rfl⟩
      have hr0 : 0 ≤ r := by rw [hr]; split <;> omega
      refine runs_sn (ε' := [.im (il ns), .mu (il ds), .im (.int (i : Int)), .im (.int r), c, e]) ?_ ?_
      · rw [sAs_ok (d := .int r) ?_]
        · rfl
        · simp only [il]
          walk_at "ev"
          rw [hidx]
          walk_at "ev"
          rw [hr]
      · have h18 : dPow (.int 10) (.int 18) = .ok (.int 1000000000000000000) := dPow_i (by decide) (by decide) (by decide)
        refine runs_if (b := decide ((1000000000000000000 : Int) ≤ r)) ?_ (fun hb => ?_) (fun hb => ?_)
        · walk_at "ev"
          rw [h18]
          walk_at "ev"
        · -- a long cell: its digits
          refine runs_for (ds := rangeD 0 60) (fun j ε => ∃ ds r c, ε = [.im (il ns), .mu (il ds), .im (.int (i : Int)), .im (.int r), c, e] ∧ 0 ≤ r ∧ ds.length ≤ 60 * i + j ∧ ∀ d, d ∈ ds → 0 ≤ d ∧ d < 65536) ?_ ⟨ds, r, c, rfl, hr0, by omega, hm⟩ ?_ ?_
          · rw [iRange1_ok (j := 60) (by walk_at "ev") (by decide) (by decide)]
            rfl
          · rintro j d ε hd ⟨ds, r, c, rfl, hr0, hl, hm⟩
            obtain ⟨hj, rfl⟩ := rangeD_get hd
            refine ⟨[.im (il ns), .mu (il ds), .im (.int (i : Int)), .im (.int r), .im (.int ((j : Nat) : Int)), e], by simp only [bN, st, Int.zero_add], ?_⟩
            refine runs_if (b := decide (0 < r)) (by walk_at "ev") (fun hb => ?_) (fun hb => ?_)
            · refine runs_sn (ε' := [.im (il ns), .mu (il (ds ++ [r % 65536])), .im (.int (i : Int)), .im (.int r), .im (.int ((j : Nat) : Int)), e]) ?_ ?_
              · rw [sAp_ok (d := .int (r % 65536)) (ds := ds.map PyData.int) ?_ rfl (by rw [List.length_map]; omega)]
                · rw [il_app]
                  rfl
                · walk_at "ev"
                  rw [dMod_ok (by decide)]
              · refine runs_eq (sAs_ok (d := .int (r / 65536)) ?_) ⟨ds ++ [r % 65536], r / 65536, _, rfl, by omega, ?_, below_app hm (mod_in r (by decide))⟩
                · walk_at "ev"
                  rw [dDiv_small (by decide) (by decide)]
                · rw [List.length_append, List.length_singleton]
                  omega
            · exact runs_eq rfl ⟨ds, r, _, rfl, hr0, by omega, hm⟩
          · rintro ε' ⟨ds, r, c, rfl, hr0, hl, hm⟩
            rw [rangeD_len] at hl
            exact ⟨ds, _, _, _, _, rfl, by omega, hm⟩
        · -- a short one: two mixed numbers
          have hb' : r < 1000000000000000000 := by
            have := of_decide_eq_false hb
            omega
          obtain ⟨m1, e1⟩ : ∃ m1 : Int, m1 = (r * 48271 + ((i : Int) + 1) * 69621) % 2147483647 := ⟨_, rfl⟩
          have b1 : 0 ≤ m1 ∧ m1 < 2147483647 := by rw [e1]; exact mod_in _ (by decide)
          obtain ⟨m2, e2⟩ : ∃ m2 : Int, m2 = (m1 * 16807 + 11 * (i : Int) + 5) % 2147483629 := ⟨_, rfl⟩
          have b2 : 0 ≤ m2 ∧ m2 < 2147483629 := by rw [e2]; exact mod_in _ (by decide)
          refine runs_sn (ε' := [.im (il ns), .mu (il ds), .im (.int (i : Int)), .im (.int r), c, .im (.int m1)]) ?_ ?_
          · rw [sAs_ok (d := .int m1) ?_]
            · rfl
            · walk_at "ev"
              rw [dMul_small (by omega) (by decide), dMul_small (by omega) (by decide)]
              walk_at "ev"
              rw [dMod_ok (by decide), e1]
          refine runs_sn (ε' := [.im (il ns), .mu (il ds), .im (.int (i : Int)), .im (.int r), c, .im (.int m2)]) ?_ ?_
          · rw [sAs_ok (d := .int m2) ?_]
            · rfl
            · walk_at "ev"
              rw [dMul_small (by omega) (by decide), dMul_small (by decide) (by omega)]
              walk_at "ev"
              rw [dMod_ok (by decide), e2]
          refine runs_sn (ε' := [.im (il ns), .mu (il (ds ++ [m2 % 65536])), .im (.int (i : Int)), .im (.int r), c, .im (.int m2)]) ?_ ?_
          · rw [sAp_ok (d := .int (m2 % 65536)) (ds := ds.map PyData.int) ?_ rfl (by rw [List.length_map]; omega)]
            · rw [il_app]
              rfl
            · walk_at "ev"
              rw [dMod_ok (by decide)]
          refine runs_eq (sAp_ok (d := .int (m2 / 65536 % 32768)) (ds := (ds ++ [m2 % 65536]).map PyData.int) ?_ rfl (by rw [List.length_map, List.length_append, List.length_singleton]; omega)) ?_
          · walk_at "ev"
            rw [dDiv_small (by decide) (by decide)]
            walk_at "ev"
            rw [dMod_ok (by decide)]
          · refine ⟨ds ++ [m2 % 65536] ++ [m2 / 65536 % 32768], _, _, _, _, by rw [il_app]; rfl, ?_, below_app (below_app hm (mod_in _ (by decide))) ?_⟩
            · rw [List.length_append, List.length_append, List.length_singleton, List.length_singleton]
              omega
            · have := mod_in (m2 / 65536) (n := 32768) (by decide)
              omega
    · rintro ε' ⟨ds, a, b, c, d, rfl, hl, hm⟩
      rw [rangeD_len] at hl
      exact runs_eq rfl ⟨_, rfl, ds, rfl, by omega, hm⟩
  obtain ⟨d, h1, ds, rfl, h2⟩ := main
  exact ⟨ds, h1, h2⟩
theorem mix_ok {ds : List Int} (h : DrawsOk ds) {k many : Int} (h0 : 0 ≤ k) (hk : k < 2 ^ 40) (h1 : 0 < many) : ∃ r, f__law_mix [il ds, .int k, .int many] = .ok (.int r) ∧ 0 ≤ r ∧ r < many := by
  have main : ∃ d, f__law_mix [il ds, .int k, .int many] = .ok d ∧ ∃ r, d = .int r ∧ 0 ≤ r ∧ r < many := by
    unfold f__law_mix
    refine runF_some rfl ?_
    unfold m__law_mix
    refine runs_sn (ε' := [.im (il ds), .im (.int k), .im (.int many), .im (.int 0)]) (by rw [sAs_ok (d := .int 0) (by walk_at "ev")]; rfl) ?_
    refine runs_seq (Runs.mono (p := fun fl => ∃ v : Int, 0 ≤ v ∧ v < 65536 ∧ fl = .nx [.im (il ds), .im (.int k), .im (.int many), .im (.int v)]) ?_ ?_)
    · refine runs_if (b := decide (0 < (ds.length : Int))) ?_ (fun hb => ?_) (fun hb => ?_)
      · simp only [il]
        walk_at "ev"
      · have hl : 0 < (ds.length : Int) := of_decide_eq_true hb
        have hm := mod_in k hl
        have hidx := dIx_ints (l := ds) (i := k % ds.length) hm.1 hm.2
        have hin : ds.getD (k % ds.length).toNat 0 ∈ ds := by
          rw [List.getD_eq_getElem?_getD, List.getElem?_eq_getElem (by omega)]
          exact List.getElem_mem _
        refine runs_eq (sAs_ok (d := .int (ds.getD (k % ds.length).toNat 0)) ?_) ⟨_, (h.mem _ hin).1, (h.mem _ hin).2, rfl⟩
        simp only [il]
        walk_at "ev"
        rw [dMod_ok hl]
        walk_at "ev"
        rw [hidx]
      · exact runs_eq rfl ⟨0, by decide, by decide, rfl⟩
    · rintro fl ⟨v, v0, v1, rfl⟩
      show Runs _ _ _
      refine runs_seq ?_
      refine runs_if (b := decide (k < (ds.length : Int))) ?_ (fun hb => ?_) (fun hb => ?_)
      · simp only [il]
        walk_at "ev"
      · refine runs_eq (sRt_ok (d := .int (v % many)) ?_) ⟨_, rfl, _, rfl, mod_in _ h1⟩
        walk_at "ev"
        rw [dMod_ok h1]
      · refine runs_eq rfl ?_
        show Runs _ _ _
        refine runs_eq (sRt_ok (d := .int ((v * 7919 + k * 104729) / 3 % many)) ?_) ⟨_, rfl, _, rfl, mod_in _ h1⟩
        walk_at "ev"
        rw [dMul_small (by omega) (by decide), dMul_small (by omega) (by decide)]
        walk_at "ev"
        rw [dDiv_small (by decide) (by decide)]
        walk_at "ev"
        rw [dMod_ok h1]
  obtain ⟨d, h1, r, rfl, h2⟩ := main
  exact ⟨r, h1, h2⟩
end My
set_option Elab.async false
set_option linter.all false
set_option maxRecDepth 100000
set_option maxHeartbeats 4000000
namespace My
open PySem Tw
local macro_rules | `(tactic| walk_at "ev") => `(tactic| simp only [xCall, xCons, xNil, xBin, xUn, xV, xC, xTup, xLst, xIm, xIf, xNo, xCh, gt, st, bind_ok, R.bind, bN, bT, bsC, bs0, tC', tV, tNo, tAn, tOrr, tYe, boD, truD, iSeq, dAdd_i, dSub_i, dNeg_i, dLt_i, dLe_i, dGt_i, dGe_i, dEq_int, dNe_int, cLen_l, cLen_t, cInt_i, cInt_b, cAbs_i, kMax_i, kMin_i, List.length_map, List.length_cons, List.length_nil])
/-! ### the row that the law builds -/
structure RowOk (row : List Int) : Prop where
  pos : 1 ≤ row.length
  len : row.length ≤ 24
  mem : ∀ x, x ∈ row → -100 ≤ x ∧ x ≤ 100
theorem menu3 {r : Int} (h0 : 0 ≤ r) (h3 : r < 3) : ∃ w : Int, dIx (.list [.int 3, .int 20, .int 100]) (.int r) = .ok (.int w) ∧ 3 ≤ w ∧ w ≤ 100 := by
  have : r = 0 ∨ r = 1 ∨ r = 2 := by omega
  rcases this with rfl | rfl | rfl
  · exact ⟨3, rfl, by decide, by decide⟩
  · exact ⟨20, rfl, by decide, by decide⟩
  · exact ⟨100, rfl, by decide, by decide⟩
theorem row_ok {ds : List Int} (h : DrawsOk ds) {k : Int} (h0 : 0 ≤ k) (hk : k < 2 ^ 30) : ∃ row, f__law_row [il ds, .int k, .int 24] = .ok (il row) ∧ RowOk row := by
  have hlim := lim_eq
  have main : ∃ d, f__law_row [il ds, .int k, .int 24] = .ok d ∧ ∃ row, d = il row ∧ RowOk row := by
    unfold f__law_row
    refine runF_some rfl ?_
    unfold m__law_row
    change Runs _ [.im (il ds), .im (.int k), .im (.int 24), .no, .no, .no, .no] _
    obtain ⟨r1, m1, a1, b1⟩ := mix_ok h (k := k) (many := 3) h0 (by omega) (by decide)
    obtain ⟨w, e1, w0, w1⟩ := menu3 a1 b1
    obtain ⟨r2, m2, a2, b2⟩ := mix_ok h (k := k + 1) (many := w + 1) (by omega) (by omega) (by omega)
    obtain ⟨r3, m3, a3, b3⟩ := mix_ok h (k := k + 2) (many := 24) (by omega) (by omega) (by decide)
    refine runs_sn (ε' := [.im (il ds), .im (.int k), .im (.int 24), .im (.int w), .no, .no, .no]) ?_ ?_
    · rw [sAs_ok (d := .int w) ?_]
      · rfl
      · walk_at "ev"
        rw [m1]
        walk_at "ev"
        exact e1
    refine runs_sn (ε' := [.im (il ds), .im (.int k), .im (.int 24), .im (.int w), .im (.int (r2 - w / 2)), .no, .no]) ?_ ?_
    · rw [sAs_ok (d := .int (r2 - w / 2)) ?_]
      · rfl
      · walk_at "ev"
        rw [m2, dDiv_small (by decide) (by decide)]
        walk_at "ev"
    refine runs_sn (ε' := [.im (il ds), .im (.int k), .im (.int 24), .im (.int w), .im (.int (r2 - w / 2)), .mu (.list []), .no]) (by rw [sAsM_ok (d := .list []) (by walk_at "ev")]; rfl) ?_
    refine runs_seq (runs_for (ds := rangeD 0 (1 + r3).toNat) (fun i ε => ∃ row v t, ε = [.im (il ds), .im (.int k), .im (.int 24), .im (.int w), .im (.int v), .mu (il row), t] ∧ row.length = i ∧ (∀ x, x ∈ row → -100 ≤ x ∧ x ≤ 100) ∧ -100 ≤ v ∧ v ≤ 101) ?_ ⟨[], r2 - w / 2, _, rfl, rfl, by simp, by omega, by omega⟩ ?_ ?_)
    · rw [iRange1_ok (j := 1 + r3) ?_ (by omega) (by omega)]
      walk_at "ev"
      rw [m3]
      walk_at "ev"
    · rintro i d ε hd ⟨row, v, t, rfl, hl, hm, v0, v1⟩
      obtain ⟨hi, rfl⟩ := rangeD_get hd
      refine ⟨[.im (il ds), .im (.int k), .im (.int 24), .im (.int w), .im (.int v), .mu (il row), .im (.int (i : Int))], by simp only [bN, st, Int.zero_add], ?_⟩
      obtain ⟨r4, m4, a4, b4⟩ := mix_ok h (k := k + 3 + 3 * (i : Int)) (many := 4) (by omega) (by omega) (by decide)
      obtain ⟨r5, m5, a5, b5⟩ := mix_ok h (k := k + 4 + 3 * (i : Int)) (many := w + 1) (by omega) (by omega) (by omega)
      obtain ⟨r6, m6, a6, b6⟩ := mix_ok h (k := k + 5 + 3 * (i : Int)) (many := 3) (by omega) (by omega) (by decide)
      have h3i : dMul (.int 3) (.int (i : Int)) = .ok (.int (3 * (i : Int))) := dMul_small (by decide) (by omega)
      refine runs_seq (Runs.mono (p := fun fl => ∃ v : Int, -100 ≤ v ∧ v ≤ 101 ∧ fl = .nx [.im (il ds), .im (.int k), .im (.int 24), .im (.int w), .im (.int v), .mu (il row), .im (.int (i : Int))]) ?_ ?_)
      · refine runs_if (b := decide (r4 = 0)) ?_ (fun _ => ?_) (fun _ => ?_)
        · walk_at "ev"
          rw [h3i]
          walk_at "ev"
          rw [m4]
          walk_at "ev"
        · refine runs_eq (sAs_ok (d := .int (r5 - w / 2)) ?_) ⟨_, by omega, by omega, rfl⟩
          walk_at "ev"
          rw [h3i]
          walk_at "ev"
          rw [m5, dDiv_small (by decide) (by decide)]
          walk_at "ev"
        · exact runs_eq rfl ⟨v, v0, v1, rfl⟩
      · rintro fl ⟨v, v0, v1, rfl⟩
        show Runs _ _ _
        obtain ⟨x, hx⟩ : ∃ x, x = (if (if v + r6 - 1 < 100 then v + r6 - 1 else 100) > -100 then (if v + r6 - 1 < 100 then v + r6 - 1 else 100) else -100) := ⟨_, rfl⟩
        refine runs_eq (sAp_ok (d := .int x) (ds := row.map PyData.int) ?_ rfl (by rw [List.length_map]; omega)) ⟨row ++ [x], v, _, by rw [il_app]; rfl, by rw [List.length_append, hl]; rfl, ?_, v0, v1⟩
        · walk_at "ev"
          rw [h3i]
          walk_at "ev"
          rw [m6]
          walk_at "ev"
          rw [hx]
        · intro y hy
          rcases List.mem_append.mp hy with z | z
          · exact hm y z
          · rw [List.mem_singleton] at z
            rw [z, hx]
            split <;> split <;> omega
    · rintro ε' ⟨row, v, t, rfl, hl, hm, v0, v1⟩
      rw [rangeD_len] at hl
      exact runs_eq rfl ⟨_, rfl, row, rfl, by omega, by omega, hm⟩
  obtain ⟨d, h1, row, rfl, h2⟩ := main
  exact ⟨row, h1, h2⟩
/-! ### check_row, ending -/
theorem check_ok {row : List Int} (h : RowOk row) : f_check_row [il row] = .ok .none := by
  unfold f_check_row
  refine runF_nx rfl ?_
  unfold m_check_row
  change Runs _ [.im (il row), .no, .no] _
  refine runs_seq (runs_if (b := false) ?_ (fun z => by cases z) (fun _ => runs_eq rfl ?_))
  · simp only [il]
    walk_at "ev"
    have a : decide ((1 : Int) ≤ row.length) = true := decide_eq_true (by have := h.pos; omega)
    have b : decide ((row.length : Int) ≤ 24) = true := decide_eq_true (by have := h.len; omega)
    rw [a]
    simp only [if_true]
    rw [b]
    rfl
  · show Runs _ _ _
    refine runs_for (ds := enumG 0 (row.map PyData.int)) (fun i ε => ∃ a b, ε = [.im (il row), a, b]) ?_ ⟨_, _, rfl⟩ ?_ (fun ε' _ => ⟨ε', rfl⟩)
    · simp only [iEnu, il]
      walk_at "ev"
    · rintro i d ε hd ⟨a, b, rfl⟩
      obtain ⟨e, h1, rfl⟩ := enumG_get 0 _ i d hd
      rw [List.getElem?_map] at h1
      obtain ⟨x, hx, rfl⟩ := Option.map_eq_some_iff.mp h1
      have := h.mem x (List.mem_of_getElem? hx)
      refine ⟨[.im (il row), .im (.int ((0 + i : Nat) : Int)), .im (.int x)], rfl, ?_⟩
      refine runs_if (b := false) ?_ (fun z => by cases z) (fun _ => runs_eq rfl ⟨_, _, rfl⟩)
      walk_at "ev"
      rw [decide_eq_true (show (-100 : Int) ≤ x from this.1)]
      simp only [if_true]
      rw [decide_eq_true this.2]
      rfl
def kad : Int → List Int → List Int
  | _, [] => []
  | p, x :: r => (x + max 0 p) :: kad (x + max 0 p) r
theorem kad_len : ∀ (p : Int) (l : List Int), (kad p l).length = l.length
  | _, [] => rfl
  | p, x :: r => by
    show (kad _ r).length + 1 = r.length + 1
    rw [kad_len]
/-- one step more: by the places -/
theorem kad_get : ∀ (p : Int) (l : List Int) (i : Nat) (x : Int), l[i]? = some x → (kad p l)[i]? = some (x + max 0 (if i = 0 then p else (kad p l).getD (i - 1) 0))
  | _, [], i, x, h => by simp at h
  | p, y :: r, 0, x, h => by
    have e : y = x := by simpa using h
    subst e
    rfl
  | p, y :: r, i + 1, x, h => by
    have h' : r[i]? = some x := by simpa using h
    have := kad_get (y + max 0 p) r i x h'
    show (kad (y + max 0 p) r)[i]? = _
    rw [this, if_neg (Nat.succ_ne_zero i)]
    congr 3
    cases i with
    | zero => rfl
    | succ j =>
      rw [if_neg (Nat.succ_ne_zero j)]
      rfl
theorem ending_of_ok (row : List Int) (h : row.length ≤ 24) : f_ending_of [il row] = .ok (il (kad 0 row)) := by
  have hlim := lim_eq
  unfold f_ending_of
  refine runF_rt rfl ?_
  unfold m_ending_of
  change Runs _ [.im (il row), .no, .no, .no] _
  refine runs_sn (ε' := [.im (il row), .mu (.list []), .no, .no]) (by rw [sAsM_ok (d := .list []) (by walk_at "ev")]; rfl) ?_
  refine runs_seq (runs_for (ds := enumG 0 (row.map PyData.int)) (fun i ε => ∃ a b, ε = [.im (il row), .mu (il ((kad 0 row).take i)), a, b]) ?_ ⟨_, _, rfl⟩ ?_ ?_)
  · simp only [iEnu, il]
    walk_at "ev"
  · rintro i d ε hd ⟨a, b, rfl⟩
    obtain ⟨e, h1, rfl⟩ := enumG_get 0 _ i d hd
    rw [List.getElem?_map] at h1
    obtain ⟨x, hx, rfl⟩ := Option.map_eq_some_iff.mp h1
    have hi : i < row.length := (List.getElem?_eq_some_iff.mp hx).1
    have hk := kad_get 0 row i x hx
    refine ⟨[.im (il row), .mu (il ((kad 0 row).take i)), .im (.int (i : Int)), .im (.int x)], by simp only [Nat.zero_add]; rfl, ?_⟩
    have hlen : ((kad 0 row).take i).length = i := by
      rw [List.length_take, kad_len]
      omega
    refine runs_eq (sAp_ok (d := .int (x + max 0 (if i = 0 then 0 else (kad 0 row).getD (i - 1) 0))) (ds := ((kad 0 row).take i).map PyData.int) ?_ rfl (by rw [List.length_map, hlen]; omega)) ⟨.im (.int (i : Int)), .im (.int x), ?_⟩
    · walk_at "ev"
      cases i with
      | zero =>
        rw [decide_eq_false (by omega)]
        simp
      | succ j =>
        have hidx := dIx_ints (l := (kad 0 row).take (j + 1)) (i := ((j + 1 : Nat) : Int) - 1) (by omega) (by rw [hlen]; omega)
        rw [decide_eq_true (by omega)]
        simp only [if_true, il]
        rw [hidx]
        simp only [bind_ok, R.bind, dAdd_i, kMax_i]
        have e1 : (((j + 1 : Nat) : Int) - 1).toNat = j := by omega
        rw [e1, if_neg (Nat.succ_ne_zero j)]
        have e2 : ((kad 0 row).take (j + 1)).getD j 0 = (kad 0 row).getD (j + 1 - 1) 0 := by
          rw [List.getD_eq_getElem?_getD, List.getD_eq_getElem?_getD, List.getElem?_take_of_lt (by omega)]
          rfl
        rw [e2]
        congr 3
        rw [Int.max_def]
        split <;> split <;> omega
    · rw [il_app, List.take_add_one, hk]
      rfl
  · rintro ε' ⟨a, b, rfl⟩
    rw [show (enumG 0 (row.map PyData.int)).length = (kad 0 row).length by rw [enumG_len, List.length_map, kad_len], List.take_length]
    exact runs_eq rfl rfl
theorem ending_ok {row : List Int} (h : RowOk row) : f_ending [il row] = .ok (il (kad 0 row)) := by
  unfold f_ending
  refine runF_rt rfl ?_
  unfold m_ending
  change Runs _ [.im (il row)] _
  refine runs_sn (sDr_ok (d := .none) ?_) ?_
  · walk_at "ev"
    exact check_ok h
  · refine runs_eq (sRt_ok (d := il (kad 0 row)) ?_) rfl
    walk_at "ev"
    exact ending_of_ok row h.len
end My
set_option Elab.async false
set_option linter.all false
set_option maxRecDepth 100000
set_option maxHeartbeats 4000000
namespace My
open PySem Tw
local macro_rules | `(tactic| walk_at "ev") => `(tactic| simp only [xCall, xCons, xNil, xBin, xUn, xV, xC, xTup, xLst, xIm, xIf, xNo, xCh, gt, st, bind_ok, R.bind, bN, bT, bsC, bs0, tC', tV, tNo, tAn, tOrr, tYe, boD, truD, iSeq, dAdd_i, dSub_i, dNeg_i, dLt_i, dLe_i, dGt_i, dGe_i, dEq_int, dNe_int, cLen_l, cLen_t, cInt_i, cInt_b, cAbs_i, kMax_i, kMin_i, List.length_map, List.length_cons, List.length_nil])
/-! ### stretches -/
def W (row : List Int) (f j : Nat) : Int := ((row.drop f).take j).sum
theorem sum_app (a b : List Int) : (a ++ b).sum = a.sum + b.sum := by
  induction a with
  | nil => simp
  | cons x r ih =>
    rw [List.cons_append, List.sum_cons, List.sum_cons, ih]
    omega
theorem W_zero (row : List Int) (f : Nat) : W row f 0 = 0 := by
  unfold W
  rw [List.take_zero]
  rfl
theorem W_succ {row : List Int} {f j : Nat} {x : Int} (h : row[f + j]? = some x) : W row f (j + 1) = W row f j + x := by
  unfold W
  rw [List.take_add_one, List.getElem?_drop, h, sum_app]
  show _ + (x + 0) = _
  omega
/-- the greatest sum that ends at k -/
theorem kad_ge {row : List Int} : ∀ (k f : Nat), f ≤ k → k < row.length → W row f (k + 1 - f) ≤ (kad 0 row).getD k 0 := by
  intro k
  induction k with
  | zero =>
    intro f hf hk
    have e : f = 0 := by omega
    subst e
    have hx : row[0]? = some row[0] := List.getElem?_eq_getElem hk
    have g := kad_get 0 row 0 _ hx
    rw [List.getD_eq_getElem?_getD, g, show 0 + 1 - 0 = 0 + 1 from rfl, W_succ hx, W_zero]
    simp
  | succ k ih =>
    intro f hf hk
    have hx : row[k + 1]? = some row[k + 1] := List.getElem?_eq_getElem hk
    have g := kad_get 0 row (k + 1) _ hx
    rw [if_neg (Nat.succ_ne_zero k), show k + 1 - 1 = k from rfl] at g
    rw [List.getD_eq_getElem?_getD, g]
    show _ ≤ row[k + 1] + max 0 ((kad 0 row).getD k 0)
    by_cases hfk : f ≤ k
    · have := ih f hfk (by omega)
      rw [show k + 1 + 1 - f = (k + 1 - f) + 1 by omega, W_succ (x := row[k + 1]) (by rw [show f + (k + 1 - f) = k + 1 by omega]; exact hx)]
      omega
    · have e : f = k + 1 := by omega
      subst e
      rw [show k + 1 + 1 - (k + 1) = 0 + 1 by omega, W_succ (f := k + 1) (j := 0) (x := row[k + 1]) hx, W_zero]
      omega
theorem kad_at {row : List Int} : ∀ (k : Nat), k < row.length → ∃ f, f ≤ k ∧ W row f (k + 1 - f) = (kad 0 row).getD k 0 := by
  intro k
  induction k with
  | zero =>
    intro hk
    have hx : row[0]? = some row[0] := List.getElem?_eq_getElem hk
    have g := kad_get 0 row 0 _ hx
    refine ⟨0, Nat.le_refl _, ?_⟩
    rw [List.getD_eq_getElem?_getD, g, show 0 + 1 - 0 = 0 + 1 from rfl, W_succ hx, W_zero]
    simp
  | succ k ih =>
    intro hk
    have hx : row[k + 1]? = some row[k + 1] := List.getElem?_eq_getElem hk
    have g := kad_get 0 row (k + 1) _ hx
    rw [if_neg (Nat.succ_ne_zero k), show k + 1 - 1 = k from rfl] at g
    rw [List.getD_eq_getElem?_getD, g]
    show ∃ f, f ≤ k + 1 ∧ _ = row[k + 1] + max 0 ((kad 0 row).getD k 0)
    obtain ⟨f, hf, e⟩ := ih (by omega)
    by_cases h0 : 0 ≤ (kad 0 row).getD k 0
    · refine ⟨f, by omega, ?_⟩
      rw [show k + 1 + 1 - f = (k + 1 - f) + 1 by omega, W_succ (x := row[k + 1]) (by rw [show f + (k + 1 - f) = k + 1 by omega]; exact hx), e]
      omega
    · refine ⟨k + 1, Nat.le_refl _, ?_⟩
      rw [show k + 1 + 1 - (k + 1) = 0 + 1 by omega, W_succ (f := k + 1) (j := 0) (x := row[k + 1]) hx, W_zero]
      omega
/-! ### greatest of a list of ints -/
theorem alike_ints (l : List Int) : alikeB (l.map PyData.int) = true := by
  unfold alikeB
  rw [Bool.and_eq_true]
  refine ⟨List.all_eq_true.mpr fun x hx => List.all_eq_true.mpr fun y hy => ?_, List.all_eq_true.mpr fun x hx => ?_⟩
  · obtain ⟨a, _, rfl⟩ := List.mem_map.mp hx
    obtain ⟨b, _, rfl⟩ := List.mem_map.mp hy
    simp [PySem.W.alike]
  · obtain ⟨a, _, rfl⟩ := List.mem_map.mp hx
    rfl
theorem foldl_max {v : Int} : ∀ (l : List Int) (x : Int), (v = x ∨ v ∈ l) → x ≤ v → (∀ y, y ∈ l → y ≤ v) → l.foldl max x = v
  | [], x, h, _, _ => by
    rcases h with h | h
    · exact h.symm
    · cases h
  | y :: r, x, h, hx, hl => by
    have hy := hl y List.mem_cons_self
    show r.foldl max (max x y) = v
    refine foldl_max r (max x y) ?_ (by omega) fun z hz => hl z (List.mem_cons_of_mem _ hz)
    rcases h with h | h
    · left
      omega
    · rcases List.mem_cons.mp h with h | h
      · left
        omega
      · right
        exact h
theorem kMax_ints {l : List Int} {v : Int} (h : v ∈ l) (hl : ∀ y, y ∈ l → y ≤ v) : kMax [il l] = .ok (.int v) := by
  cases l with
  | nil => cases h
  | cons x r =>
    show (if okd (.list ((x :: r).map PyData.int)) && alikeB ((x :: r).map PyData.int) then R.ok (PySem.W.maxD (.int x) (r.map PyData.int)) else R.bad) = _
    rw [okd_ints, alike_ints]
    show R.ok (PySem.W.maxD (.int x) (r.map PyData.int)) = _
    rw [PySem.W.maxD_ints, foldl_max r x (by simpa using h) (hl x List.mem_cons_self) fun y hy => hl y (List.mem_cons_of_mem _ hy)]
/-- there is a greatest one -/
theorem max_ex : ∀ {l : List Int}, l ≠ [] → ∃ v, v ∈ l ∧ ∀ y, y ∈ l → y ≤ v
  | [], h => absurd rfl h
  | [x], _ => ⟨x, by simp, by simp⟩
  | x :: y :: r, _ => by
    obtain ⟨v, h1, h2⟩ := max_ex (l := y :: r) (by simp)
    by_cases h : v ≤ x
    · exact ⟨x, by simp, fun z hz => by
        rcases List.mem_cons.mp hz with e | e
        · omega
        · have := h2 z e
          omega⟩
    · exact ⟨v, List.mem_cons_of_mem _ h1, fun z hz => by
        rcases List.mem_cons.mp hz with e | e
        · omega
        · exact h2 z e⟩
/-- M is the greatest sum of a stretch -/
structure Most (row : List Int) (M : Int) : Prop where
  le : ∀ f l, f ≤ l → l < row.length → W row f (l + 1 - f) ≤ M
  at_ : ∃ f l, f ≤ l ∧ l < row.length ∧ W row f (l + 1 - f) = M
  kad : kMax [il (kad 0 row)] = .ok (.int M)
theorem most_ex {row : List Int} (h : row ≠ []) : ∃ M, Most row M := by
  have hk : kad 0 row ≠ [] := fun z => by
    have := kad_len 0 row
    rw [z] at this
    exact h (List.eq_nil_of_length_eq_zero this.symm)
  obtain ⟨M, h1, h2⟩ := max_ex hk
  have get : ∀ k, k < row.length → (kad 0 row).getD k 0 ∈ kad 0 row := fun k hk => by
    have : k < (kad 0 row).length := by rw [kad_len]; exact hk
    rw [List.getD_eq_getElem?_getD, List.getElem?_eq_getElem this]
    exact List.getElem_mem _
  refine ⟨M, fun f l hf hl => Int.le_trans (kad_ge l f hf hl) (h2 _ (get l hl)), ?_, kMax_ints h1 h2⟩
  obtain ⟨k, hk, e⟩ := List.getElem_of_mem h1
  rw [kad_len] at hk
  obtain ⟨f, hf, e2⟩ := kad_at k hk
  refine ⟨f, k, hf, hk, ?_⟩
  rw [e2, List.getD_eq_getElem?_getD, List.getElem?_eq_getElem (by rw [kad_len]; exact hk), ← e]
  rfl
theorem Most.uni {row row' : List Int} {M M' : Int} (h : Most row M) (h' : Most row' M') (a : ∀ f l, f ≤ l → l < row.length → ∃ f' l', f' ≤ l' ∧ l' < row'.length ∧ W row' f' (l' + 1 - f') = W row f (l + 1 - f))
    (b : ∀ f l, f ≤ l → l < row'.length → ∃ f' l', f' ≤ l' ∧ l' < row.length ∧ W row f' (l' + 1 - f') = W row' f (l + 1 - f)) : M = M' := by
  obtain ⟨f, l, h1, h2, h3⟩ := h.at_
  obtain ⟨f', l', h4, h5, h6⟩ := a f l h1 h2
  have p := h'.le f' l' h4 h5
  obtain ⟨g, k, k1, k2, k3⟩ := h'.at_
  obtain ⟨g', k', k4, k5, k6⟩ := b g k k1 k2
  have q := h.le g' k' k4 k5
  omega
theorem W_rev {row : List Int} {f l : Nat} (hf : f ≤ l) (hl : l < row.length) : W row.reverse f (l + 1 - f) = W row (row.length - 1 - l) (row.length - f - (row.length - 1 - l)) := by
  unfold W
  have e1 : row.reverse.drop f = (row.take (row.length - f)).reverse := by rw [List.drop_reverse]
  rw [e1, List.take_reverse, List.length_take, show min (row.length - f) row.length - (l + 1 - f) = row.length - 1 - l by omega, List.drop_take]
  rw [List.sum_reverse]
theorem most_rev {row : List Int} {M : Int} (h : Most row M) (hr : row ≠ []) : Most row.reverse M := by
  obtain ⟨M', h'⟩ := most_ex (row := row.reverse) (by simpa using hr)
  have e : M = M' := h.uni h' (fun f l hf hl => ?_) fun f l hf hl => ?_
  · rw [e]
    exact h'
  · refine ⟨row.length - 1 - l, row.length - 1 - f, by omega, by rw [List.length_reverse]; omega, ?_⟩
    rw [W_rev (by omega) (by omega)]
    congr 1 <;> omega
  · rw [List.length_reverse] at hl
    refine ⟨row.length - 1 - l, row.length - 1 - f, by omega, by omega, ?_⟩
    rw [W_rev hf hl]
    congr 1
    omega
theorem RowOk.rev {row : List Int} (h : RowOk row) : RowOk row.reverse := ⟨by rw [List.length_reverse]; exact h.pos, by rw [List.length_reverse]; exact h.len, fun x hx => h.mem x (by simpa using hx)⟩
/-! ### the peak -/
/-- the first stretch with the greatest sum -/
structure Peak (row : List Int) (M : Int) (f l : Nat) : Prop where
  le : f ≤ l
  lt : l < row.length
  is : W row f (l + 1 - f) = M
  first : ∀ f' l', f' ≤ l' → l' < row.length → (f' < f ∨ (f' = f ∧ l' < l)) → W row f' (l' + 1 - f') ≠ M
theorem peak_ok {row : List Int} (h : RowOk row) {M : Int} (hM : Most row M) : ∃ f l : Nat, f_peak [il row] = .ok (.tuple [.int M, .int (f : Int), .int (l : Int)]) ∧ Peak row M f l := by
  have main : ∃ d, f_peak [il row] = .ok d ∧ ∃ f l : Nat, d = .tuple [.int M, .int (f : Int), .int (l : Int)] ∧ Peak row M f l := by
    have hlen := h.len
    unfold f_peak
    refine runF_some rfl ?_
    unfold m_peak
    change Runs _ [.im (il row), .no, .no, .no, .no] _
    refine runs_sn (sDr_ok (d := .none) ?_) ?_
    · walk_at "ev"
      exact check_ok h
    refine runs_sn (sAs_ok (d := .int M) ?_) ?_
    · walk_at "ev"
      rw [ending_of_ok row h.len]
      walk_at "ev"
      exact hM.kad
    change Runs _ [.im (il row), .im (.int M), .no, .no, .no] _
    refine runs_seq (runs_for (ds := rangeD 0 row.length) (fun i ε => (∃ a b c, ε = [.im (il row), .im (.int M), a, b, c]) ∧ ∀ f l, f < i → f ≤ l → l < row.length → W row f (l + 1 - f) ≠ M) ?_ ⟨⟨_, _, _, rfl⟩, fun f l z => absurd z (Nat.not_lt_zero _)⟩ ?_ ?_)
    · rw [iRange1_ok (j := (row.length : Int)) ?_ (by omega) (by omega)]
      · rfl
      · simp only [il]
        walk_at "ev"
    · rintro i d ε hd ⟨⟨a, b, c, rfl⟩, hno⟩
      obtain ⟨hi, rfl⟩ := rangeD_get hd
      refine ⟨[.im (il row), .im (.int M), .im (.int (i : Int)), b, c], by simp only [bN, st, Int.zero_add], ?_⟩
      refine runs_sn (sAs_ok (d := .int 0) (by walk_at "ev")) ?_
      change Runs _ [.im (il row), .im (.int M), .im (.int (i : Int)), .im (.int 0), c] _
      refine runs_for (ds := rangeD (i : Int) (row.length - i)) (fun j ε => (∃ c, ε = [.im (il row), .im (.int M), .im (.int (i : Int)), .im (.int (W row i j)), c]) ∧ ∀ l, i ≤ l → l < i + j → W row i (l + 1 - i) ≠ M) ?_ ⟨⟨c, by rw [W_zero]⟩, fun l z1 z2 => by omega⟩ ?_ ?_
      · rw [iRange2_ok (i := (i : Int)) (j := (row.length : Int)) ?_ (by omega) (by omega) (by omega) (by omega)]
        · rw [show ((row.length : Int) - (i : Int)).toNat = row.length - i by omega]
        · simp only [il]
          walk_at "ev"
      · rintro j d ε hd ⟨⟨c, rfl⟩, hno2⟩
        obtain ⟨hj, rfl⟩ := rangeD_get hd
        have hij : i + j < row.length := by omega
        have hx : row[i + j]? = some row[i + j] := List.getElem?_eq_getElem hij
        have hidx := dIx_ints (l := row) (i := (i : Int) + (j : Int)) (by omega) (by omega)
        rw [show ((i : Int) + (j : Int)).toNat = i + j by omega, List.getD_eq_getElem?_getD, hx] at hidx
        refine ⟨[.im (il row), .im (.int M), .im (.int (i : Int)), .im (.int (W row i j)), .im (.int ((i : Int) + (j : Int)))], rfl, ?_⟩
        refine runs_sn (sAs_ok (d := .int (W row i (j + 1))) ?_) ?_
        · simp only [il]
          walk_at "ev"
          rw [hidx]
          simp only [bind_ok, R.bind, dAdd_i]
          rw [W_succ hx]
          rfl
        change Runs _ [.im (il row), .im (.int M), .im (.int (i : Int)), .im (.int (W row i (j + 1))), .im (.int ((i : Int) + (j : Int)))] _
        refine runs_if (b := decide (W row i (j + 1) = M)) (by walk_at "ev") (fun hb => ?_) (fun hb => ?_)
        · have e := of_decide_eq_true hb
          refine runs_eq (sRt_ok (d := .tuple [.int M, .int (i : Int), .int ((i : Int) + (j : Int))]) (by walk_at "ev")) ⟨_, rfl, i, i + j, by rw [Int.natCast_add], ⟨by omega, hij, by rw [show i + j + 1 - i = j + 1 by omega]; exact e, fun f' l' h1 h2 h3 => ?_⟩⟩
          rcases h3 with h3 | ⟨rfl, h3⟩
          · exact hno f' l' h3 h1 h2
          · exact hno2 l' h1 h3
        · have e := of_decide_eq_false hb
          refine runs_eq rfl ⟨⟨_, rfl⟩, fun l h1 h2 => ?_⟩
          by_cases q : l < i + j
          · exact hno2 l h1 q
          · rw [show l + 1 - i = j + 1 by omega]
            exact e
      · rintro ε' ⟨⟨c, rfl⟩, hno2⟩
        rw [rangeD_len] at hno2
        refine ⟨⟨_, _, _, rfl⟩, fun f l h1 h2 h3 => ?_⟩
        by_cases q : f < i
        · exact hno f l q h2 h3
        · have e : f = i := by omega
          subst e
          exact hno2 l h2 (by omega)
    · rintro ε' ⟨_, hno⟩
      rw [rangeD_len] at hno
      obtain ⟨f, l, h1, h2, h3⟩ := hM.at_
      exact absurd h3 (hno f l (by omega) h1 h2)
  obtain ⟨d, h1, f, l, rfl, h2⟩ := main
  exact ⟨f, l, h1, h2⟩
end My
set_option Elab.async false
set_option linter.all false
set_option maxRecDepth 100000
set_option maxHeartbeats 4000000
namespace My
open PySem Tw
local macro_rules | `(tactic| walk_at "ev") => `(tactic| simp only [xCall, xCons, xNil, xBin, xUn, xV, xC, xTup, xLst, xIm, xIf, xNo, xCh, gt, st, bind_ok, R.bind, bN, bT, bsC, bs0, tC', tV, tNo, tAn, tOrr, tYe, boD, truD, iSeq, iZi, iEnu, xSl, xRev, oSome, oNone, dAdd_i, dSub_i, dNeg_i, dLt_i, dLe_i, dGt_i, dGe_i, dEq_int, dNe_int, cLen_l, cLen_t, cInt_i, cInt_b, cAbs_i, kMax_i, kMin_i, List.length_map, List.length_cons, List.length_nil])
/-! ### least of a list of data -/
theorem minD_is {t : D} : ∀ (xs : List D) (x : D), (t = x ∨ t ∈ xs) → (∀ y, y ∈ x :: xs → y = t ∨ (PySem.W.dataLt t y = true ∧ PySem.W.dataLt y t = false)) → PySem.W.minD x xs = t
  | [], x, h, _ => by
    rcases h with h | h
    · exact h.symm
    · cases h
  | y :: r, x, h, hl => by
    show r.foldl (fun a y => if PySem.W.dataLt y a then y else a) (if PySem.W.dataLt y x then y else x) = t
    have hx := hl x List.mem_cons_self
    have hy := hl y (List.mem_cons_of_mem _ List.mem_cons_self)
    have key : ∀ a, (a = x ∨ a = y) → (t = a ∨ t ∈ r) → r.foldl (fun a y => if PySem.W.dataLt y a then y else a) a = t := fun a ha ht => minD_is r a ht fun z hz => by
      rcases List.mem_cons.mp hz with e | e
      · rw [e]
        rcases ha with ha | ha
        · rw [ha]
          exact hx
        · rw [ha]
          exact hy
      · exact hl z (List.mem_cons_of_mem _ (List.mem_cons_of_mem _ e))
    by_cases c : PySem.W.dataLt y x = true
    · rw [if_pos c]
      refine key y (.inr rfl) ?_
      rcases h with h | h
      · -- t = x, yet y is less: y is t
        rcases hy with e | ⟨_, e⟩
        · exact .inl e.symm
        · rw [h, c] at e
          cases e
      · rcases List.mem_cons.mp h with e | e
        · exact .inl e
        · exact .inr e
    · rw [if_neg c]
      refine key x (.inl rfl) ?_
      rcases h with h | h
      · exact .inl h
      · rcases List.mem_cons.mp h with e | e
        · rcases hx with e2 | ⟨e2, _⟩
          · exact .inl e2.symm
          · rw [← e] at c
            exact absurd e2 c
        · exact .inr e
def tri (a b c : Int) : D := .tuple [.int a, .int b, .int c]
theorem lt_tri (a b c d e f : Int) : PySem.W.dataLt (tri a b c) (tri d e f) = decide (a < d ∨ (a = d ∧ (b < e ∨ (b = e ∧ c < f)))) := by
  have h := PySem.W.dataLt_ints [a, b, c] [d, e, f]
  unfold tri
  rw [PySem.W.dataLt_tuple]
  unfold PySem.W.rowLt at h
  rw [show ([PyData.int a, PyData.int b, PyData.int c] : List D) = [a, b, c].map PyData.int from rfl, show ([PyData.int d, PyData.int e, PyData.int f] : List D) = [d, e, f].map PyData.int from rfl, h]
  congr 1
  simp only [List.cons_lt_cons_iff, eq_iff_iff]
  simp
theorem alike_tri (a b c d e f : Int) : PySem.W.alike (tri a b c) (tri d e f) = true := by
  simp [tri, PySem.W.alike, PySem.W.alikeAll]
/-! ### the stretches of a row -/
def pr (n f : Nat) : List (Nat × Nat) := (List.range (n - f)).map fun j => (f, f + j)
def PU (n i : Nat) : List (Nat × Nat) := ((List.range i).map (pr n)).flatten
theorem PU_succ (n i : Nat) : PU n (i + 1) = PU n i ++ pr n i := by
  unfold PU
  rw [List.range_succ, List.map_append, List.flatten_append]
  simp
theorem mem_pr {n f : Nat} {p : Nat × Nat} : p ∈ pr n f ↔ p.1 = f ∧ f ≤ p.2 ∧ p.2 < n := by
  unfold pr
  rw [List.mem_map]
  constructor
  · rintro ⟨j, hj, rfl⟩
    rw [List.mem_range] at hj
    exact ⟨rfl, by show f ≤ f + j; omega, by show f + j < n; omega⟩
  · rintro ⟨h1, h2, h3⟩
    refine ⟨p.2 - f, List.mem_range.mpr (by omega), ?_⟩
    rw [← h1] at h2 ⊢
    show (p.1, p.1 + (p.2 - p.1)) = p
    rw [show p.1 + (p.2 - p.1) = p.2 by omega]
theorem mem_PU {n : Nat} {p : Nat × Nat} : p ∈ PU n n ↔ p.1 ≤ p.2 ∧ p.2 < n := by
  unfold PU
  rw [List.mem_flatten]
  constructor
  · rintro ⟨l, hl, hp⟩
    obtain ⟨f, hf, rfl⟩ := List.mem_map.mp hl
    obtain ⟨h1, h2, h3⟩ := mem_pr.mp hp
    exact ⟨by omega, h3⟩
  · rintro ⟨h1, h2⟩
    exact ⟨_, List.mem_map.mpr ⟨p.1, List.mem_range.mpr (by omega), rfl⟩, mem_pr.mpr ⟨rfl, h1, h2⟩⟩
theorem PU_len (n : Nat) : ∀ i, (PU n i).length ≤ i * n
  | 0 => by simp [PU]
  | i + 1 => by
    rw [PU_succ, List.length_append]
    have := PU_len n i
    have h2 : (pr n i).length ≤ n := by
      unfold pr
      rw [List.length_map, List.length_range]
      omega
    rw [Nat.succ_mul]
    omega
def enc (row : List Int) (p : Nat × Nat) : D := tri (-(W row p.1 (p.2 + 1 - p.1))) (p.1 : Int) (p.2 : Int)
def sums (row : List Int) (ps : List (Nat × Nat)) : D := .list (ps.map (enc row))
theorem okd_sums (row : List Int) (ps : List (Nat × Nat)) : okd (sums row ps) = true := by
  have h : ∀ ps : List (Nat × Nat), PyData.plainAll (ps.map (enc row)) = true ∧ PyData.depthAll (ps.map (enc row)) ≤ 1 := fun ps => by
    induction ps with
    | nil => exact ⟨rfl, Nat.zero_le _⟩
    | cons p r ih =>
      rw [List.map_cons]
      simp only [PyData.plainAll, PyData.depthAll, ih.1, enc, tri, PyData.plain, PyData.depth]
      refine ⟨by simp, ?_⟩
      exact Nat.max_le.mpr ⟨by decide, ih.2⟩
  refine okd_of (by unfold sums; simp only [PyData.plain]; exact (h ps).1) ?_
  unfold sums
  simp only [PyData.depth]
  have := (h ps).2
  omega
theorem alikeB_sums (row : List Int) (ps : List (Nat × Nat)) : alikeB (ps.map (enc row)) = true := by
  unfold alikeB
  rw [Bool.and_eq_true]
  refine ⟨List.all_eq_true.mpr fun x hx => List.all_eq_true.mpr fun y hy => ?_, List.all_eq_true.mpr fun x hx => ?_⟩
  · obtain ⟨a, _, rfl⟩ := List.mem_map.mp hx
    obtain ⟨b, _, rfl⟩ := List.mem_map.mp hy
    exact alike_tri _ _ _ _ _ _
  · obtain ⟨a, _, rfl⟩ := List.mem_map.mp hx
    rfl
/-- the least of the triples is the peak -/
theorem min_sums {row : List Int} {M : Int} {f l : Nat} (hM : Most row M) (h : Peak row M f l) : kMin [sums row (PU row.length row.length)] = .ok (tri (-M) (f : Int) (l : Int)) := by
  have hin : (f, l) ∈ PU row.length row.length := mem_PU.mpr ⟨h.le, h.lt⟩
  have he : enc row (f, l) = tri (-M) (f : Int) (l : Int) := by
    show tri (-(W row f (l + 1 - f))) _ _ = _
    rw [h.is]
  have hin2 : tri (-M) (f : Int) (l : Int) ∈ (PU row.length row.length).map (enc row) := by
    rw [← he]
    exact List.mem_map_of_mem hin
  have ok := okd_sums row (PU row.length row.length)
  have al := alikeB_sums row (PU row.length row.length)
  have rel : ∀ y, y ∈ (PU row.length row.length).map (enc row) → y = tri (-M) (f : Int) (l : Int) ∨ (PySem.W.dataLt (tri (-M) (f : Int) (l : Int)) y = true ∧ PySem.W.dataLt y (tri (-M) (f : Int) (l : Int)) = false) := fun y hy => by
    obtain ⟨⟨f', l'⟩, hp, rfl⟩ := List.mem_map.mp hy
    obtain ⟨h1, h2⟩ := mem_PU.mp hp
    have hle := hM.le f' l' h1 h2
    show tri (-(W row f' (l' + 1 - f'))) (f' : Int) (l' : Int) = _ ∨ _
    by_cases e1 : f' = f ∧ l' = l
    · left
      obtain ⟨rfl, rfl⟩ := e1
      rw [h.is]
    · right
      have hne : W row f' (l' + 1 - f') = M → ¬ (f' < f ∨ (f' = f ∧ l' < l)) := fun q z => h.first f' l' h1 h2 z q
      show PySem.W.dataLt _ (tri (-(W row f' (l' + 1 - f'))) (f' : Int) (l' : Int)) = true ∧ PySem.W.dataLt (tri (-(W row f' (l' + 1 - f'))) (f' : Int) (l' : Int)) _ = false
      rw [lt_tri, lt_tri]
      by_cases q : W row f' (l' + 1 - f') = M
      · have := hne q
        rw [q]
        exact ⟨decide_eq_true (by omega), decide_eq_false (by omega)⟩
      · exact ⟨decide_eq_true (by omega), decide_eq_false (by omega)⟩
  unfold sums at ok ⊢
  cases hP : (PU row.length row.length).map (enc row) with
  | nil =>
    rw [hP] at hin2
    cases hin2
  | cons x xs =>
    rw [hP] at ok al hin2 rel
    show (if okd (.list (x :: xs)) && alikeB (x :: xs) then R.ok (PySem.W.minD x xs) else R.bad) = _
    rw [ok, al]
    show R.ok (PySem.W.minD x xs) = _
    rw [minD_is xs x (List.mem_cons.mp hin2) rel]
/-! ### runs of bits -/
structure BitsOk (bits : List Int) : Prop where
  pos : 1 ≤ bits.length
  len : bits.length ≤ 24
  mem : ∀ x, x ∈ bits → x = 0 ∨ x = 1
def chg : List Int → Int
  | x :: y :: r => (if x = y then 0 else 1) + chg (y :: r)
  | _ => 0
theorem BitsOk.row {bits : List Int} (h : BitsOk bits) : RowOk bits := ⟨h.pos, h.len, fun x hx => by rcases h.mem x hx with e | e <;> rw [e] <;> decide⟩
theorem zip_tail : ∀ (l : List Int), zipG (l.map PyData.int) ((l.drop 1).map PyData.int) = (List.zip l (l.drop 1)).map fun p => PyData.tuple [.int p.1, .int p.2]
  | [] => rfl
  | [x] => rfl
  | x :: y :: r => by
    have ih := zip_tail (y :: r)
    show PyData.tuple [.int x, .int y] :: zipG ((y :: r).map PyData.int) (r.map PyData.int) = _
    rw [show zipG ((y :: r).map PyData.int) (r.map PyData.int) = _ from ih]
    rfl
theorem chg_zip : ∀ l : List Int, ((List.zip l (l.drop 1)).map fun p => if (!decide (p.1 = p.2)) = true then (1 : Int) else 0).sum = chg l
  | [] => rfl
  | [x] => rfl
  | x :: y :: r => by
    have ih := chg_zip (y :: r)
    show ((if (!decide (x = y)) = true then (1 : Int) else 0) :: ((List.zip (y :: r) r).map fun p => if (!decide (p.1 = p.2)) = true then (1 : Int) else 0)).sum = (if x = y then 0 else 1) + chg (y :: r)
    rw [List.sum_cons, show ((List.zip (y :: r) r).map fun p => if (!decide (p.1 = p.2)) = true then (1 : Int) else 0).sum = chg (y :: r) from ih]
    by_cases e : x = y
    · simp [e]
    · simp [e]
theorem notIn01 {x : Int} (h : x = 0 ∨ x = 1) : dNotIn (.int x) (.tuple [.int 0, .int 1]) = .ok (.bool false) := by
  rcases h with rfl | rfl
  · show (if okd (.int 0) && okd (.tuple [.int 0, .int 1]) then R.ok (PyData.bool (!([PyData.int 0, PyData.int 1].any fun y => PyData.eqv y (.int 0)))) else R.bad) = _
    rw [show (okd (.int 0) && okd (.tuple [.int 0, .int 1])) = true by decide +kernel]
    simp [eqv_int]
  · show (if okd (.int 1) && okd (.tuple [.int 0, .int 1]) then R.ok (PyData.bool (!([PyData.int 0, PyData.int 1].any fun y => PyData.eqv y (.int 1)))) else R.bad) = _
    rw [show (okd (.int 1) && okd (.tuple [.int 0, .int 1])) = true by decide +kernel]
    simp [eqv_int]
theorem cut_1 (l : List Int) : cut (l.map PyData.int) (some 1) none = (l.drop 1).map PyData.int := by
  unfold cut
  rw [List.length_map, show HT.sIx l.length 0 (some 1) = min 1 l.length from HT.sIx_nat l.length 0 1, HT.sIx_none]
  cases l with
  | nil => rfl
  | cons x r =>
    rw [show min 1 (x :: r).length = 1 by rw [List.length_cons]; omega]
    show (r.map PyData.int).take _ = r.map PyData.int
    rw [List.take_of_length_le (by rw [List.length_map, List.length_cons]; omega)]
theorem runs_ok {bits : List Int} (h : BitsOk bits) : f_runs [il bits] = .ok (.int (1 + chg bits)) := by
  have hlen := h.len
  unfold f_runs
  refine runF_rt rfl ?_
  unfold m_runs
  change Runs _ [.im (il bits), .no, .no, .no] _
  refine runs_sn (sDr_ok (d := .none) ?_) ?_
  · walk_at "ev"
    exact check_ok h.row
  refine runs_seq (runs_for (ds := enumG 0 (bits.map PyData.int)) (fun i ε => ∃ a b, ε = [.im (il bits), a, b, .no]) ?_ ⟨_, _, rfl⟩ ?_ ?_)
  · simp only [iEnu, il]
    walk_at "ev"
  · rintro i d ε hd ⟨a, b, rfl⟩
    obtain ⟨e, h1, rfl⟩ := enumG_get 0 _ i d hd
    rw [List.getElem?_map] at h1
    obtain ⟨x, hx, rfl⟩ := Option.map_eq_some_iff.mp h1
    refine ⟨[.im (il bits), .im (.int ((0 + i : Nat) : Int)), .im (.int x), .no], rfl, ?_⟩
    refine runs_if (b := false) ?_ (fun z => by cases z) (fun _ => runs_eq rfl ⟨_, _, rfl⟩)
    walk_at "ev"
    rw [notIn01 (h.mem x (List.mem_of_getElem? hx))]
    rfl
  · rintro ε' ⟨a, b, rfl⟩
    show Runs _ _ _
    have hz : xLc [2, 3] (iZi (xCons (xV 0) (xCons (xSl (xV 0) (oSome (xC (.int 1))) oNone) xNil))) (bT 2 (bsC (bN 2) (bsC (bN 3) bs0))) tYe (xCall cInt (xCons (xBin dNe (xV 2) (xV 3)) xNil)) [.im (il bits), a, b, .no] = .ok (il ((List.zip bits (bits.drop 1)).map fun p => if (!decide (p.1 = p.2)) = true then (1 : Int) else 0)) := by
      have hi : iZi (xCons (xV 0) (xCons (xSl (xV 0) (oSome (xC (.int 1))) oNone) xNil)) [.im (il bits), a, b, .no] = .ok ((List.zip bits (bits.drop 1)).map fun p => PyData.tuple [.int p.1, .int p.2]) := by
        simp only [il]
        walk_at "ev"
        rw [cut_1, zip_tail]
      have hm := lcG_all (g := bT 2 (bsC (bN 2) (bsC (bN 3) bs0))) (e := xCall cInt (xCons (xBin dNe (xV 2) (xV 3)) xNil)) (ε := wipeE [.im (il bits), a, b, .no] [2, 3]) (fun p : Int × Int => PyData.tuple [.int p.1, .int p.2]) (fun p => .int (if (!decide (p.1 = p.2)) = true then (1 : Int) else 0)) (List.zip bits (bits.drop 1)) (fun p _ => ⟨[.im (il bits), a, .im (.int p.1), .im (.int p.2)], rfl, by walk_at "ev"⟩)
      unfold xLc
      rw [hi, bind_ok, hm, bind_ok, if_pos]
      · unfold il
        rw [List.map_map]
        rfl
      · rw [List.length_map, List.length_zip]
        have hlim := lim_eq
        omega
    refine runs_eq (sRt_ok (d := .int (1 + chg bits)) ?_) rfl
    show xBin dAdd (xC (.int 1)) (xCall cSum (xCons (xLc _ _ _ _ _) xNil)) _ = _
    simp only [xBin, xCall, xCons, xNil, xC, bind_ok]
    rw [hz]
    simp only [bind_ok, R.bind, il, cSum_ints, chg_zip, dAdd_i]
end My
set_option Elab.async false
set_option linter.all false
set_option maxRecDepth 100000
set_option maxHeartbeats 4000000
namespace My
open PySem Tw
local macro_rules | `(tactic| walk_at "ev") => `(tactic| simp only [xCall, xCons, xNil, xBin, xUn, xV, xC, xTup, xLst, xIm, xIf, xNo, xCh, gt, st, bind_ok, R.bind, bN, bT, bsC, bs0, tC', tV, tNo, tAn, tOrr, tYe, boD, truD, iSeq, iZi, iEnu, xSl, xRev, oSome, oNone, dAdd_i, dSub_i, dNeg_i, dLt_i, dLe_i, dGt_i, dGe_i, dEq_int, dNe_int, cLen_l, cLen_t, cInt_i, cInt_b, cAbs_i, kMax_i, kMin_i, List.length_map, List.length_cons, List.length_nil])
theorem chg_cnt : ∀ (x : Int) (l : List Int), (((List.range l.length).filter fun i => !decide ((x :: l).getD (i + 1) 0 = (x :: l).getD i 0)).length : Int) = chg (x :: l)
  | x, [] => rfl
  | x, y :: r => by
    have ih := chg_cnt y r
    rw [List.length_cons, List.range_succ_eq_map, List.filter_cons, List.filter_map]
    have e : (fun i => !decide ((x :: y :: r).getD (i + 1) 0 = (x :: y :: r).getD i 0)) ∘ Nat.succ = fun i => !decide ((y :: r).getD (i + 1) 0 = (y :: r).getD i 0) := by
      funext i
      rfl
    rw [e]
    show _ = (if x = y then 0 else 1) + chg (y :: r)
    by_cases q : x = y
    · rw [if_neg (by simp [q]), List.length_map, ih, if_pos q]
      omega
    · rw [if_pos (by simp; exact fun z => q z.symm), List.length_cons, List.length_map, if_neg q]
      omega
theorem lr_i (x : Int) (l : List Int) (hl : l.length ≤ 999) : iRange2 (xCons (xC (.int 1)) (xCons (xCall cLen (xCons (xV 0) xNil)) xNil)) [.im (il (x :: l)), .no] = .ok (rangeD 1 l.length) := by
  rw [iRange2_ok (i := 1) (j := ((x :: l).length : Int)) ?_ (by decide) (by decide) (by omega) (by rw [List.length_cons]; omega)]
  · rw [List.length_cons, show (((l.length + 1 : Nat) : Int) - 1).toNat = l.length by omega]
  · simp only [il]
    walk_at "ev"
theorem lr_m (x : Int) (l : List Int) : lcG (bN 1) (tC' (xBin dNe (xBin dIx (xV 0) (xV 1)) (xBin dIx (xV 0) (xBin dSub (xV 1) (xC (.int 1)))))) (xV 1) (wipeE [.im (il (x :: l)), .no] [1]) ((List.range l.length).map fun i : Nat => PyData.int (1 + (i : Int))) = .ok (((List.range l.length).filter fun i => !decide ((x :: l).getD (i + 1) 0 = (x :: l).getD i 0)).map fun i : Nat => PyData.int (1 + (i : Int))) := by
  refine lcG_if (fun i : Nat => PyData.int (1 + (i : Int))) (fun i => !decide ((x :: l).getD (i + 1) 0 = (x :: l).getD i 0)) (fun i : Nat => PyData.int (1 + (i : Int))) (List.range l.length) (fun i hi => ?_)
  rw [List.mem_range] at hi
  have a := dIx_ints (l := x :: l) (i := 1 + (i : Int)) (by omega) (by rw [List.length_cons]; omega)
  have b := dIx_ints (l := x :: l) (i := 1 + (i : Int) - 1) (by omega) (by rw [List.length_cons]; omega)
  rw [show (1 + (i : Int)).toNat = i + 1 by omega] at a
  rw [show (1 + (i : Int) - 1).toNat = i by omega] at b
  refine ⟨[.im (il (x :: l)), .im (.int (1 + (i : Int)))], rfl, ?_, fun _ => rfl⟩
  simp only [il]
  walk_at "ev"
  rw [a]
  simp only [bind_ok, R.bind]
  rw [b]
  simp only [bind_ok, R.bind, dNe_int, boD]
theorem lr_m' (x : Int) (l : List Int) : lcG (bN 1) (tC' (xBin dNe (xBin dIx (xV 0) (xV 1)) (xBin dIx (xV 0) (xBin dSub (xV 1) (xC (.int 1)))))) (xV 1) (wipeE [.im (il (x :: l)), .no] [1]) (rangeD 1 l.length) = .ok (((List.range l.length).filter fun i => !decide ((x :: l).getD (i + 1) 0 = (x :: l).getD i 0)).map fun i : Nat => PyData.int (1 + (i : Int))) := lr_m x l
theorem lr_len (x : Int) (l : List Int) (hl : l.length ≤ 999) : (((List.range l.length).filter fun i => !decide ((x :: l).getD (i + 1) 0 = (x :: l).getD i 0)).map fun i : Nat => PyData.int (1 + (i : Int))).length ≤ lim := by
  rw [List.length_map]
  have := List.length_filter_le (fun i => !decide ((x :: l).getD (i + 1) 0 = (x :: l).getD i 0)) (List.range l.length)
  rw [List.length_range] at this
  have h2 : l.length ≤ lim := Nat.le_trans hl (by decide)
  exact Nat.le_trans this h2
theorem lr_z (x : Int) (l : List Int) (hl : l.length ≤ 999) : xLc [1] (iRange2 (xCons (xC (.int 1)) (xCons (xCall cLen (xCons (xV 0) xNil)) xNil))) (bN 1) (tC' (xBin dNe (xBin dIx (xV 0) (xV 1)) (xBin dIx (xV 0) (xBin dSub (xV 1) (xC (.int 1)))))) (xV 1) [.im (il (x :: l)), .no] = .ok (.list (((List.range l.length).filter fun i => !decide ((x :: l).getD (i + 1) 0 = (x :: l).getD i 0)).map fun i : Nat => PyData.int (1 + (i : Int)))) := xLc_ok (lr_i x l hl) (lr_m' x l) (lr_len x l hl)
theorem law_runs_ok {bits : List Int} (h0 : 1 ≤ bits.length) (h : bits.length ≤ 1000) : f__law_runs [il bits] = .ok (.int (1 + chg bits)) := by
  cases bits with
  | nil => simp at h0
  | cons x l =>
    have hl : l.length ≤ 999 := by
      rw [List.length_cons] at h
      omega
    unfold f__law_runs
    refine runF_rt rfl ?_
    unfold m__law_runs
    change Runs _ [.im (il (x :: l)), .no] _
    refine runs_eq (sRt_ok (d := .int (1 + chg (x :: l))) ?_) rfl
    show (R.ok (PyData.int 1)).bind (fun a => ((((xLc [1] (iRange2 (xCons (xC (.int 1)) (xCons (xCall cLen (xCons (xV 0) xNil)) xNil))) (bN 1) (tC' (xBin dNe (xBin dIx (xV 0) (xV 1)) (xBin dIx (xV 0) (xBin dSub (xV 1) (xC (.int 1)))))) (xV 1)) [.im (il (x :: l)), .no]).bind fun d => (R.ok []).bind fun ds => R.ok (d :: ds)).bind cLen).bind fun b => dAdd a b) = _
    rw [lr_z x l hl, bind_ok, bind_ok, bind_ok, bind_ok, cLen_l, bind_ok, dAdd_i, List.length_map, chg_cnt]
end My
set_option Elab.async false
set_option linter.all false
set_option maxRecDepth 100000
set_option maxHeartbeats 4000000
set_option exponentiation.threshold 1000000
namespace My
open PySem Tw
local macro_rules | `(tactic| walk_at "ev") => `(tactic| simp only [xCall, xCons, xNil, xBin, xUn, xV, xC, xTup, xLst, xIm, xIf, xNo, xCh, gt, st, bind_ok, R.bind, bN, bT, bsC, bs0, tC', tV, tNo, tAn, tOrr, tYe, boD, truD, iSeq, iZi, iEnu, xSl, xRev, oSome, oNone, dAdd_i, dSub_i, dNeg_i, dLt_i, dLe_i, dGt_i, dGe_i, dEq_int, dNe_int, cLen_l, cLen_t, cInt_i, cInt_b, cAbs_i, kMax_i, kMin_i, List.length_map, List.length_cons, List.length_nil])
/-! ### over, ways -/
def ov (n : Nat) : Nat → Int
  | 0 => 1
  | s + 1 => ov n s * ((n : Int) - s) / ((s : Int) + 1)
theorem ov_bd {n : Nat} (hn : n ≤ 64) : ∀ s, s ≤ n → 0 ≤ ov n s ∧ ov n s ≤ 64 ^ s
  | 0, _ => ⟨by show (0 : Int) ≤ 1; decide, by show (1 : Int) ≤ 1; decide⟩
  | s + 1, h => by
    obtain ⟨h1, h2⟩ := ov_bd hn s (by omega)
    have a : 0 ≤ ov n s * ((n : Int) - s) := Int.mul_nonneg h1 (by omega)
    have b : ov n s * ((n : Int) - s) ≤ 64 ^ s * 64 := Int.mul_le_mul h2 (by omega) (by omega) (Int.le_trans h1 h2)
    refine ⟨Int.ediv_nonneg a (by omega), ?_⟩
    have c : ov n s * ((n : Int) - s) / ((s : Int) + 1) ≤ ov n s * ((n : Int) - s) := Int.ediv_le_self _ a
    rw [Int.pow_succ]
    show ov n s * ((n : Int) - s) / ((s : Int) + 1) ≤ _
    omega
theorem ov_abs {n s : Nat} (hn : n ≤ 64) (h : s ≤ n) : (ov n s).natAbs < 2 ^ 400 := by
  obtain ⟨h1, h2⟩ := ov_bd hn s h
  have a : (64 : Int) ^ s ≤ 64 ^ 64 := by
    have q := Nat.pow_le_pow_right (n := 64) (by decide) (show s ≤ 64 by omega)
    have q1 : ((64 ^ s : Nat) : Int) ≤ ((64 ^ 64 : Nat) : Int) := Int.ofNat_le.mpr q
    rwa [Int.natCast_pow, Int.natCast_pow] at q1
  have b : (64 : Int) ^ 64 < 2 ^ 400 := by decide +kernel
  have c : ov n s < 2 ^ 400 := by omega
  have d : ((ov n s).natAbs : Int) = ov n s := Int.natAbs_of_nonneg h1
  have e : ((2 ^ 400 : Nat) : Int) = 2 ^ 400 := by decide +kernel
  omega
/-- the loop of both -/
theorem ov_loop {n k : Nat} (hn : n ≤ 64) (hk : k ≤ n) (b : Nv → R Fl) (g : D → Nv → R Nv) (hg : g = bN 3) (hb : b = sAs 2 (xBin dDiv (xBin dMul (xV 2) (xBin dSub (xV 0) (xV 3))) (xBin dAdd (xV 3) (xC (.int 1))))) (x y : SV) :
    ∃ z, forG g b (rangeD 0 k) [.im (.int (n : Int)), y, .im (.int 1), x] = .ok (.nx [.im (.int (n : Int)), y, .im (.int (ov n k)), z]) := by
  obtain ⟨ε', h1, z, h2⟩ := forG_inv (g := g) (b := b) (fun i ε => ∃ z, ε = [.im (.int (n : Int)), y, .im (.int (ov n i)), z]) (rangeD 0 k) 0 [.im (.int (n : Int)), y, .im (.int 1), x] ⟨x, rfl⟩ (fun i d ε hd ⟨z, hp⟩ => by
    obtain ⟨hi, rfl⟩ := rangeD_get hd
    subst hp hg hb
    simp only [Nat.zero_add]
    refine ⟨[.im (.int (n : Int)), y, .im (.int (ov n i)), .im (.int (0 + (i : Int)))], rfl, [.im (.int (n : Int)), y, .im (.int (ov n (i + 1))), .im (.int (0 + (i : Int)))], .inl ?_, _, rfl⟩
    refine (sAs_ok (d := .int (ov n (i + 1))) ?_).trans rfl
    walk_at "ev"
    rw [dMul_ok (lt_pow (ov_abs hn (by omega)) (by decide)) (lt_pow (k := 64) (by omega) (by decide))]
    simp only [bind_ok, R.bind]
    rw [dDiv_small (by omega) (by omega), Int.zero_add]
    rfl)
  rw [Nat.zero_add, rangeD_len] at h2
  exact ⟨z, by rw [h1, h2]⟩
def overZ (n k : Int) : Int := if 0 ≤ k ∧ k ≤ n then ov n.toNat k.toNat else 0
theorem overZ_abs {n k : Int} (hn : n ≤ 64) : (overZ n k).natAbs < 2 ^ 400 := by
  unfold overZ
  split
  · exact ov_abs (by omega) (by omega)
  · decide +kernel
theorem over_ok {n k : Int} (h0 : 0 ≤ n) (hn : n ≤ 64) (hk : k < 2 ^ 40) : f_over [.int n, .int k] = .ok (.int (overZ n k)) := by
  obtain ⟨m, rfl⟩ : ∃ m : Nat, n = (m : Int) := ⟨n.toNat, by omega⟩
  unfold f_over
  refine runF_rt rfl ?_
  unfold m_over
  change Runs _ [.im (.int (m : Int)), .im (.int k), .no, .no] _
  by_cases h : 0 ≤ k ∧ k ≤ (m : Int)
  · refine runs_seq (runs_if (b := false) ?_ (fun z => by cases z) (fun _ => runs_eq rfl ?_))
    · walk_at "ev"
      rw [decide_eq_true h.1]
      simp only [if_true]
      rw [decide_eq_true h.2]
      rfl
    · show Runs _ _ _
      refine runs_sn (sAs_ok (d := .int 1) (by walk_at "ev")) ?_
      change Runs _ [.im (.int (m : Int)), .im (.int k), .im (.int 1), .no] _
      obtain ⟨z, hz⟩ := ov_loop (n := m) (k := k.toNat) (by omega) (by omega) _ _ rfl rfl .no (.im (.int k))
      refine runs_sn (ε' := [.im (.int (m : Int)), .im (.int k), .im (.int (ov m k.toNat)), z]) ?_ ?_
      · unfold sFor
        rw [iRange1_ok (j := k) (by walk_at "ev") (by omega) (by omega), bind_ok]
        exact hz
      · refine runs_eq (sRt_ok (d := .int (ov m k.toNat)) (by walk_at "ev")) ?_
        unfold overZ
        rw [if_pos h, Int.toNat_natCast]
  · refine runs_seq (runs_if (b := true) ?_ (fun _ => runs_eq (sRt_ok (d := .int 0) (by walk_at "ev")) ?_) (fun z => by cases z))
    · walk_at "ev"
      by_cases h1 : 0 ≤ k
      · rw [decide_eq_true h1]
        simp only [if_true]
        rw [decide_eq_false fun z => h ⟨h1, z⟩]
        rfl
      · rw [decide_eq_false h1]
        rfl
    · unfold overZ
      rw [if_neg h]
theorem choose_ok {n k : Nat} (hn : n ≤ 64) (hk : k ≤ n) : f__law_choose [.int (n : Int), .int (k : Int)] = .ok (.int (ov n k)) := by
  unfold f__law_choose
  refine runF_rt rfl ?_
  unfold m__law_choose
  change Runs _ [.im (.int (n : Int)), .im (.int (k : Int)), .no, .no] _
  refine runs_sn (sAs_ok (d := .int 1) (by walk_at "ev")) ?_
  change Runs _ [.im (.int (n : Int)), .im (.int (k : Int)), .im (.int 1), .no] _
  obtain ⟨z, hz⟩ := ov_loop (n := n) (k := k) hn hk _ _ rfl rfl .no (.im (.int (k : Int)))
  refine runs_sn (ε' := [.im (.int (n : Int)), .im (.int (k : Int)), .im (.int (ov n k)), z]) ?_ ?_
  · unfold sFor
    rw [iRange1_ok (j := (k : Int)) (by walk_at "ev") (by omega) (by omega), bind_ok, Int.toNat_natCast]
    exact hz
  · exact runs_eq (sRt_ok (d := .int (ov n k)) (by walk_at "ev")) rfl
def waysZ (z o n : Int) : Int := if n < 2 then 0 else if n % 2 = 0 then 2 * overZ (z - 1) (n / 2 - 1) * overZ (o - 1) (n / 2 - 1) else overZ (z - 1) (n / 2) * overZ (o - 1) (n / 2 - 1) + overZ (z - 1) (n / 2 - 1) * overZ (o - 1) (n / 2)
theorem waysZ_comm (z o n : Int) : waysZ z o n = waysZ o z n := by
  unfold waysZ
  split
  · rfl
  · split
    · rw [Int.mul_assoc, Int.mul_comm (overZ (z - 1) _), ← Int.mul_assoc]
    · rw [Int.mul_comm (overZ (z - 1) (n / 2)), Int.mul_comm (overZ (z - 1) (n / 2 - 1)), Int.add_comm]
theorem ways_ok {z o n : Int} (hz : 1 ≤ z ∧ z ≤ 30) (ho : 1 ≤ o ∧ o ≤ 30) (hn : n < 2 ^ 30) : f_ways [.int z, .int o, .int n] = .ok (.int (waysZ z o n)) := by
  unfold f_ways
  refine runF_rt rfl ?_
  unfold m_ways
  change Runs _ [.im (.int z), .im (.int o), .im (.int n), .no, .no] _
  refine runs_seq (runs_for (ds := [.int z, .int o]) (fun i ε => ∃ a, ε = [.im (.int z), .im (.int o), .im (.int n), a, .no]) (by walk_at "ev") ⟨_, rfl⟩ ?_ ?_)
  · rintro i d ε hd ⟨a, rfl⟩
    obtain ⟨x, rfl, hx⟩ : ∃ x : Int, d = .int x ∧ 1 ≤ x ∧ x ≤ 30 := by
      match i, hd with
      | 0, hd =>
        cases hd
        exact ⟨z, rfl, hz⟩
      | 1, hd =>
        cases hd
        exact ⟨o, rfl, ho⟩
    refine ⟨[.im (.int z), .im (.int o), .im (.int n), .im (.int x), .no], rfl, ?_⟩
    refine runs_if (b := false) ?_ (fun z => by cases z) (fun _ => runs_eq rfl ⟨_, rfl⟩)
    walk_at "ev"
    rw [decide_eq_true hx.1]
    simp only [if_true]
    rw [decide_eq_true hx.2]
    rfl
  rintro ε' ⟨a, rfl⟩
  show Runs _ _ _
  unfold waysZ
  by_cases h2 : n < 2
  · rw [if_pos h2]
    refine runs_seq (runs_if (b := true) ?_ (fun _ => runs_eq (sRt_ok (d := .int 0) (by walk_at "ev")) rfl) (fun z => by cases z))
    walk_at "ev"
    rw [decide_eq_true h2]
  rw [if_neg h2]
  refine runs_seq (runs_if (b := false) ?_ (fun z => by cases z) (fun _ => runs_eq rfl ?_))
  · walk_at "ev"
    rw [decide_eq_false h2]
  show Runs _ _ _
  refine runs_sn (sAs_ok (d := .int (n / 2)) ?_) ?_
  · walk_at "ev"
    rw [dDiv_small (by decide) (by decide)]
  change Runs _ [.im (.int z), .im (.int o), .im (.int n), a, .im (.int (n / 2))] _
  have o1 := over_ok (n := z - 1) (k := n / 2 - 1) (by omega) (by omega) (by omega)
  have o2 := over_ok (n := o - 1) (k := n / 2 - 1) (by omega) (by omega) (by omega)
  have o3 := over_ok (n := z - 1) (k := n / 2) (by omega) (by omega) (by omega)
  have o4 := over_ok (n := o - 1) (k := n / 2) (by omega) (by omega) (by omega)
  have b1 := overZ_abs (n := z - 1) (k := n / 2 - 1) (by omega)
  have b2 := overZ_abs (n := o - 1) (k := n / 2 - 1) (by omega)
  have b3 := overZ_abs (n := z - 1) (k := n / 2) (by omega)
  have b4 := overZ_abs (n := o - 1) (k := n / 2) (by omega)
  have m2 : (2 * overZ (z - 1) (n / 2 - 1)).natAbs < 2 ^ 401 := by
    have e : (2 : Nat) ^ 401 = 2 * 2 ^ 400 := by rw [Nat.pow_succ, Nat.mul_comm]
    rw [e, Int.natAbs_mul]
    show 2 * _ < _
    omega
  by_cases he : n % 2 = 0
  · rw [if_pos he]
    refine runs_seq (runs_if (b := true) ?_ (fun _ => runs_eq (sRt_ok (d := .int (2 * overZ (z - 1) (n / 2 - 1) * overZ (o - 1) (n / 2 - 1))) ?_) rfl) (fun z => by cases z))
    · walk_at "ev"
      rw [dMod_ok (by decide)]
      simp only [bind_ok, R.bind, dEq_int, boD]
      rw [decide_eq_true he]
    · walk_at "ev"
      rw [o1]
      simp only [bind_ok, R.bind]
      rw [dMul_ok (lt_pow (k := 64) (by decide) (by decide)) (lt_pow b1 (by decide))]
      simp only [bind_ok, R.bind]
      rw [o2]
      simp only [bind_ok, R.bind]
      rw [dMul_ok (lt_pow m2 (by decide)) (lt_pow b2 (by decide))]
  · rw [if_neg he]
    refine runs_seq (runs_if (b := false) ?_ (fun z => by cases z) (fun _ => runs_eq rfl ?_))
    · walk_at "ev"
      rw [dMod_ok (by decide)]
      simp only [bind_ok, R.bind, dEq_int, boD]
      rw [decide_eq_false he]
    · show Runs _ _ _
      refine runs_eq (sRt_ok (d := .int (overZ (z - 1) (n / 2) * overZ (o - 1) (n / 2 - 1) + overZ (z - 1) (n / 2 - 1) * overZ (o - 1) (n / 2))) ?_) rfl
      walk_at "ev"
      rw [o3]
      simp only [bind_ok, R.bind]
      rw [o2]
      simp only [bind_ok, R.bind]
      rw [dMul_ok (lt_pow b3 (by decide)) (lt_pow b2 (by decide))]
      simp only [bind_ok, R.bind]
      rw [o1]
      simp only [bind_ok, R.bind]
      rw [o4]
      simp only [bind_ok, R.bind]
      rw [dMul_ok (lt_pow b1 (by decide)) (lt_pow b4 (by decide))]
      simp only [bind_ok, R.bind, dAdd_i]
/-! ### all rows -/
def rowsF : Nat → Nat → Nat → List (List Int)
  | 0, _, _ => []
  | n + 1, z, o => if z + o = 0 then [[]] else (if 0 < z then (rowsF n (z - 1) o).map (0 :: ·) else []) ++ (if 0 < o then (rowsF n z (o - 1)).map (1 :: ·) else [])
theorem rowsF_len : ∀ (n z o : Nat), (rowsF n z o).length ≤ 2 ^ n
  | 0, _, _ => Nat.zero_le _
  | n + 1, z, o => by
    have a := rowsF_len n (z - 1) o
    have b := rowsF_len n z (o - 1)
    have e : 2 ^ (n + 1) = 2 ^ n + 2 ^ n := by rw [Nat.pow_succ]; omega
    have p : 0 < 2 ^ n := Nat.pow_pos (by decide)
    unfold rowsF
    split
    · show 1 ≤ _
      omega
    · rw [List.length_append]
      split <;> split <;> simp only [List.length_map, List.length_nil] <;> omega
theorem rowsF_mem : ∀ (n z o : Nat) (r : List Int), r ∈ rowsF n z o → r.length = z + o
  | 0, _, _, r, h => by cases h
  | n + 1, z, o, r, h => by
    unfold rowsF at h
    split at h
    · rename_i e
      rw [List.mem_singleton] at h
      rw [h, e]
      rfl
    · rcases List.mem_append.mp h with h | h
      · split at h
        · obtain ⟨q, hq, rfl⟩ := List.mem_map.mp h
          have := rowsF_mem n (z - 1) o q hq
          rw [List.length_cons]
          omega
        · cases h
      · split at h
        · obtain ⟨q, hq, rfl⟩ := List.mem_map.mp h
          have := rowsF_mem n z (o - 1) q hq
          rw [List.length_cons]
          omega
        · cases h
end My
set_option Elab.async false
set_option linter.all false
set_option maxRecDepth 100000
set_option maxHeartbeats 4000000
namespace My
open PySem Tw
local macro_rules | `(tactic| walk_at "ev") => `(tactic| simp only [xCall, xCons, xNil, xBin, xUn, xV, xC, xTup, xLst, xIm, xIf, xNo, xCh, gt, st, bind_ok, R.bind, bN, bT, bsC, bs0, tC', tV, tNo, tAn, tOrr, tYe, boD, truD, iSeq, iZi, iEnu, xSl, xRev, oSome, oNone, dAdd_i, dSub_i, dNeg_i, dLt_i, dLe_i, dGt_i, dGe_i, dEq_int, dNe_int, cLen_l, cLen_t, cInt_i, cInt_b, cAbs_i, kMax_i, kMin_i, List.length_map, List.length_cons, List.length_nil])
theorem xBin_at {f : D → D → R D} {ma mb : Nv → R D} {ε : Nv} {a b : D} (h1 : ma ε = .ok a) (h2 : mb ε = .ok b) : xBin f ma mb ε = f a b := by
  unfold xBin
  rw [h1, bind_ok, h2, bind_ok]
theorem xCall_at1 {f : List D → R D} {ma : Nv → R D} {ε : Nv} {a : D} (h1 : ma ε = .ok a) : xCall f (xCons ma xNil) ε = f [a] := by
  unfold xCall xCons xNil
  rw [h1, bind_ok, bind_ok, bind_ok]
theorem dCat_ok {xs ys : List D} (h : xs.length + ys.length ≤ lim) : dCat (.list xs) (.list ys) = .ok (.list (xs ++ ys)) := by
  show (if xs.length + ys.length ≤ lim then R.ok (PyData.list (xs ++ ys)) else R.bad) = _
  rw [if_pos h]
/-! ### all rows -/
theorem rowsF_len2 : ∀ (n z o : Nat), z + o < n → (rowsF n z o).length ≤ 2 ^ (z + o)
  | 0, _, _, h => absurd h (Nat.not_lt_zero _)
  | n + 1, z, o, h => by
    have p : 0 < 2 ^ (z + o) := Nat.pow_pos (by decide)
    unfold rowsF
    split
    · show 1 ≤ _
      omega
    · have a : 0 < z → (rowsF n (z - 1) o).length ≤ 2 ^ (z + o - 1) := fun hz => by
        have := rowsF_len2 n (z - 1) o (by omega)
        rwa [show z - 1 + o = z + o - 1 by omega] at this
      have b : 0 < o → (rowsF n z (o - 1)).length ≤ 2 ^ (z + o - 1) := fun ho => by
        have := rowsF_len2 n z (o - 1) (by omega)
        rwa [show z + (o - 1) = z + o - 1 by omega] at this
      have e : 2 ^ (z + o) = 2 ^ (z + o - 1) + 2 ^ (z + o - 1) := by
        rw [show z + o = (z + o - 1) + 1 by omega, Nat.pow_succ]
        simp only [Nat.add_sub_cancel]
        omega
      rw [List.length_append]
      split <;> split <;> simp only [List.length_map, List.length_nil] <;> omega
theorem app_x (f : List D → R D) (b : Int) (me : Nv → R (List D)) (ε : Nv) (rs : List (List Int)) (acc : List D) (x : Int) (z : SV)
    (hε : ε = [.im (.int x), z, .im (.list acc), .no]) (hf : me ε = .ok (rs.map il)) (hl : acc.length + rs.length ≤ lim) (hm : ∀ r, r ∈ rs → r.length ≤ 1000) :
    xBin dCat (xV 2) (xLc [3] me (bN 3) tYe (xBin dCat (xLst (xCons (xC (.int b)) xNil)) (xV 3))) ε = .ok (.list (acc ++ (rs.map (b :: ·)).map il)) := by
  subst hε
  have h1 : xLc [3] me (bN 3) tYe (xBin dCat (xLst (xCons (xC (.int b)) xNil)) (xV 3)) [.im (.int x), z, .im (.list acc), .no] = .ok (.list (rs.map fun r => il (b :: r))) := by
    refine xLc_ok hf (lcG_all il (fun r => il (b :: r)) rs fun r hr => ⟨[.im (.int x), z, .im (.list acc), .im (il r)], rfl, ?_⟩) (by rw [List.length_map]; omega)
    simp only [il]
    walk_at "ev"
    rw [dCat_ok]
    · rfl
    · have := hm r hr
      have hlim := lim_eq
      rw [List.length_map, List.length_cons, List.length_nil]
      omega
  refine (xBin_at rfl h1).trans ?_
  rw [dCat_ok (by rw [List.length_map]; exact hl), List.map_map]
  rfl
theorem rows_ok : ∀ n (z o : Nat), z + o < n → z + o ≤ 12 → r__law_rows n [.int (z : Int), .int (o : Int)] = .ok (.list ((rowsF n z o).map il))
  | 0, _, _, h, _ => absurd h (Nat.not_lt_zero _)
  | n + 1, z, o, h, h12 => by
    have hlim := lim_eq
    show runF 2 4 (m__law_rows (r__law_rows n)) _ = _
    refine runF_rt rfl ?_
    unfold m__law_rows
    change Runs _ [.im (.int (z : Int)), .im (.int (o : Int)), .no, .no] _
    by_cases e : z + o = 0
    · refine runs_seq (runs_if (b := true) ?_ (fun _ => runs_eq (sRt_ok (d := .list [.list []]) (by walk_at "ev")) ?_) (fun q => by cases q))
      · walk_at "ev"
        rw [decide_eq_true (by omega)]
      · unfold rowsF
        rw [if_pos e]
        rfl
    · refine runs_seq (runs_if (b := false) ?_ (fun q => by cases q) (fun _ => runs_eq rfl ?_))
      · walk_at "ev"
        rw [decide_eq_false (by omega)]
      show Runs _ _ _
      refine runs_sn (sAs_ok (d := .list []) (by walk_at "ev")) ?_
      change Runs _ [.im (.int (z : Int)), .im (.int (o : Int)), .im (.list []), .no] _
      have pw : 2 ^ 12 = 4096 := by decide
      obtain ⟨A, hA⟩ : ∃ A, A = if 0 < z then (rowsF n (z - 1) o).map (0 :: ·) else [] := ⟨_, rfl⟩
      obtain ⟨B, hB⟩ : ∃ B, B = if 0 < o then (rowsF n z (o - 1)).map (1 :: ·) else [] := ⟨_, rfl⟩
      have lA : A.length ≤ 4096 := by
        rw [hA]
        split
        · rw [List.length_map]
          have := rowsF_len2 n (z - 1) o (by omega)
          have := Nat.pow_le_pow_right (n := 2) (by decide) (show z - 1 + o ≤ 12 by omega)
          omega
        · exact Nat.zero_le _
      refine runs_seq (Runs.mono (p := fun fl => fl = .nx [.im (.int (z : Int)), .im (.int (o : Int)), .im (.list (A.map il)), .no]) (runs_if (b := decide (0 < (z : Int))) (by walk_at "ev") (fun hb => ?_) fun hb => ?_) ?_)
      · have hz := of_decide_eq_true hb
        have ih := rows_ok n (z - 1) o (by omega) (by omega)
        rw [show ((z - 1 : Nat) : Int) = (z : Int) - 1 by omega] at ih
        refine runs_eq (sAs_ok (app_x (fun _ => .bad) 0 _ _ (rowsF n (z - 1) o) [] _ _ rfl ?_ ?_ ?_)) ?_
        · simp only [iSeq, xCall, xCons, xNil, xBin, xV, xC, gt, bind_ok, R.bind, dSub_i]
          rw [ih]
        · have := rowsF_len2 n (z - 1) o (by omega)
          have := Nat.pow_le_pow_right (n := 2) (by decide) (show z - 1 + o ≤ 12 by omega)
          rw [List.length_nil]
          omega
        · intro r hr
          have := rowsF_mem n _ _ r hr
          omega
        · rw [hA, if_pos (by omega)]
          rfl
      · have hz := of_decide_eq_false hb
        refine runs_eq rfl ?_
        rw [hA, if_neg (by omega)]
        rfl
      rintro fl rfl
      show Runs _ _ _
      refine runs_seq (Runs.mono (p := fun fl => fl = .nx [.im (.int (z : Int)), .im (.int (o : Int)), .im (.list (A.map il ++ B.map il)), .no]) (runs_if (b := decide (0 < (o : Int))) (by walk_at "ev") (fun hb => ?_) fun hb => ?_) ?_)
      · have hz := of_decide_eq_true hb
        have ih := rows_ok n z (o - 1) (by omega) (by omega)
        rw [show ((o - 1 : Nat) : Int) = (o : Int) - 1 by omega] at ih
        refine runs_eq (sAs_ok (app_x (fun _ => .bad) 1 _ _ (rowsF n z (o - 1)) (A.map il) _ _ rfl ?_ ?_ ?_)) ?_
        · simp only [iSeq, xCall, xCons, xNil, xBin, xV, xC, gt, bind_ok, R.bind, dSub_i]
          rw [ih]
        · have := rowsF_len2 n z (o - 1) (by omega)
          have := Nat.pow_le_pow_right (n := 2) (by decide) (show z + (o - 1) ≤ 12 by omega)
          rw [List.length_map]
          omega
        · intro r hr
          have := rowsF_mem n _ _ r hr
          omega
        · rw [hB, if_pos (by omega)]
          rfl
      · have hz := of_decide_eq_false hb
        refine runs_eq rfl ?_
        rw [hB, if_neg (by omega)]
        simp
      rintro fl rfl
      show Runs _ _ _
      refine runs_eq (sRt_ok (d := .list (A.map il ++ B.map il)) (by walk_at "ev")) ?_
      unfold rowsF
      rw [if_neg e, ← hA, ← hB, List.map_append]
end My
set_option Elab.async false
set_option linter.all false
set_option maxRecDepth 100000
set_option maxHeartbeats 4000000
namespace My
open PySem Tw
local macro_rules | `(tactic| walk_at "ev") => `(tactic| simp only [xCall, xCons, xNil, xBin, xUn, xV, xC, xTup, xLst, xIm, xIf, xNo, xCh, gt, st, bind_ok, R.bind, bN, bT, bsC, bs0, tC', tV, tNo, tAn, tOrr, tYe, boD, truD, iSeq, iZi, iEnu, xSl, xRev, oSome, oNone, dAdd_i, dSub_i, dNeg_i, dLt_i, dLe_i, dGt_i, dGe_i, dEq_int, dNe_int, cLen_l, cLen_t, cInt_i, cInt_b, cAbs_i, kMax_i, kMin_i, List.length_map, List.length_cons, List.length_nil])
/-! ### the law's sums -/
theorem cut_ij (l : List Int) (i j : Nat) (hi : i ≤ l.length) (hj : j ≤ l.length) : cut (l.map PyData.int) (some (i : Int)) (some (j : Int)) = ((l.drop i).take (j - i)).map PyData.int := by
  unfold cut
  rw [List.length_map, HT.sIx_nat, HT.sIx_nat, Nat.min_eq_left hi, Nat.min_eq_left hj, ← List.map_drop, ← List.map_take]
theorem sums_lc {row : List Int} (hl : row.length ≤ 24) {i : Nat} (hi : i < row.length) (s d a2 a3 a4 a5 a7 a8 a10 a11 a12 a13 a14 a15 a16 a17 a18 a19 : SV) :
    xLc [16] (iRange2 (xCons (xV 9) (xCons (xCall cLen (xCons (xV 6) xNil)) xNil))) (bN 16) tYe (xTup (xCons (xUn dNeg (xCall cSum (xCons (xSl (xV 6) (oSome (xV 9)) (oSome (xBin dAdd (xV 16) (xC (.int 1))))) xNil))) (xCons (xV 9) (xCons (xV 16) xNil))))
      [s, d, a2, a3, a4, a5, .im (il row), a7, a8, .im (.int (i : Int)), a10, a11, a12, a13, a14, a15, a16, a17, a18, a19] = .ok (sums row (pr row.length i)) := by
  have hlim := lim_eq
  have h1 : iRange2 (xCons (xV 9) (xCons (xCall cLen (xCons (xV 6) xNil)) xNil)) [s, d, a2, a3, a4, a5, .im (il row), a7, a8, .im (.int (i : Int)), a10, a11, a12, a13, a14, a15, a16, a17, a18, a19] = .ok ((List.range (row.length - i)).map fun j : Nat => PyData.int ((i : Int) + (j : Int))) := by
    rw [iRange2_ok (i := (i : Int)) (j := (row.length : Int)) ?_ (by omega) (by omega) (by omega) (by omega)]
    · rw [show ((row.length : Int) - (i : Int)).toNat = row.length - i by omega]
      rfl
    · simp only [il]
      walk_at "ev"
  have h2 := xLc_ok (vs := [16]) h1 (lcG_all (g := bN 16) (e := xTup (xCons (xUn dNeg (xCall cSum (xCons (xSl (xV 6) (oSome (xV 9)) (oSome (xBin dAdd (xV 16) (xC (.int 1))))) xNil))) (xCons (xV 9) (xCons (xV 16) xNil)))) (fun j : Nat => PyData.int ((i : Int) + (j : Int))) (fun j => enc row (i, i + j)) (List.range (row.length - i)) (fun j hj => by
    rw [List.mem_range] at hj
    refine ⟨[s, d, a2, a3, a4, a5, .im (il row), a7, a8, .im (.int (i : Int)), a10, a11, a12, a13, a14, a15, .im (.int ((i : Int) + (j : Int))), a17, a18, a19], rfl, ?_⟩
    have hc := cut_ij row i (i + j + 1) (by omega) (by omega)
    rw [show ((i + j + 1 : Nat) : Int) = (i : Int) + (j : Int) + 1 by omega] at hc
    simp only [il]
    walk_at "ev"
    rw [hc, cSum_ints]
    walk_at "ev"
    unfold enc tri W
    rw [Int.natCast_add])) (by rw [List.length_map, List.length_range]; omega)
  rw [h2]
  unfold sums pr
  rw [List.map_map]
  rfl
theorem due_in {row : List Int} (hl : row.length ≤ 24) {k : Nat} (hk : k < row.length) (s d a2 a3 a4 a5 a6 a7 a9 a10 a11 a12 a13 a14 a15 a16 a18 a19 : SV) :
    xCall kMax (xCons (xLc [5, 9, 16] (iSeq (xV 8)) (bT 3 (bsC (bN 5) (bsC (bN 9) (bsC (bN 16) bs0)))) (tC' (xBin dEq (xV 16) (xV 17))) (xUn dNeg (xV 5))) xNil)
      [s, d, a2, a3, a4, a5, a6, a7, .im (sums row (PU row.length row.length)), a9, a10, a11, a12, a13, a14, a15, a16, .im (.int (k : Int)), a18, a19] = .ok (.int ((kad 0 row).getD k 0)) := by
  have hlim := lim_eq
  have h1 : iSeq (xV 8) [s, d, a2, a3, a4, a5, a6, a7, .im (sums row (PU row.length row.length)), a9, a10, a11, a12, a13, a14, a15, a16, .im (.int (k : Int)), a18, a19] = .ok ((PU row.length row.length).map (enc row)) := rfl
  have h2 := xLc_ok (vs := [5, 9, 16]) h1 (lcG_if (g := bT 3 (bsC (bN 5) (bsC (bN 9) (bsC (bN 16) bs0)))) (t := tC' (xBin dEq (xV 16) (xV 17))) (e := xUn dNeg (xV 5)) (enc row) (fun p => decide ((p.2 : Int) = (k : Int))) (fun p => PyData.int (W row p.1 (p.2 + 1 - p.1))) (PU row.length row.length) (fun p _ => by
    refine ⟨[s, d, a2, a3, a4, .im (.int (-(W row p.1 (p.2 + 1 - p.1)))), a6, a7, .im (sums row (PU row.length row.length)), .im (.int (p.1 : Int)), a10, a11, a12, a13, a14, a15, .im (.int (p.2 : Int)), .im (.int (k : Int)), a18, a19], rfl, by walk_at "ev", fun _ => ?_⟩
    walk_at "ev"
    rw [Int.neg_neg])) (by
      rw [List.length_map]
      refine Nat.le_trans (List.length_filter_le _ _) (Nat.le_trans (PU_len _ _) ?_)
      have := Nat.mul_le_mul hl hl
      omega)
  rw [xCall_at1 h2]
  have e : ((PU row.length row.length).filter fun p => decide ((p.2 : Int) = (k : Int))).map (fun p => PyData.int (W row p.1 (p.2 + 1 - p.1))) = (((PU row.length row.length).filter fun p => decide ((p.2 : Int) = (k : Int))).map fun p => W row p.1 (p.2 + 1 - p.1)).map PyData.int := by
    rw [List.map_map]
    rfl
  rw [e]
  refine kMax_ints ?_ fun y hy => ?_
  · obtain ⟨f, hf, e2⟩ := kad_at (row := row) k hk
    rw [← e2]
    exact List.mem_map.mpr ⟨(f, k), List.mem_filter.mpr ⟨mem_PU.mpr ⟨hf, hk⟩, by simp⟩, rfl⟩
  · obtain ⟨p, hp, rfl⟩ := List.mem_map.mp hy
    obtain ⟨h3, h4⟩ := List.mem_filter.mp hp
    have e3 : p.2 = k := by
      have := of_decide_eq_true h4
      omega
    obtain ⟨h5, h6⟩ := mem_PU.mp h3
    rw [e3] at h5 ⊢
    exact kad_ge k p.1 h5 hk
theorem due_lc {row : List Int} (hl : row.length ≤ 24) (s d a2 a3 a4 a5 a7 a9 a10 a11 a12 a13 a14 a15 a16 a17 a18 a19 : SV) :
    xLc [17] (iRange1 (xCons (xCall cLen (xCons (xV 6) xNil)) xNil)) (bN 17) tYe (xCall kMax (xCons (xLc [5, 9, 16] (iSeq (xV 8)) (bT 3 (bsC (bN 5) (bsC (bN 9) (bsC (bN 16) bs0)))) (tC' (xBin dEq (xV 16) (xV 17))) (xUn dNeg (xV 5))) xNil))
      [s, d, a2, a3, a4, a5, .im (il row), a7, .im (sums row (PU row.length row.length)), a9, a10, a11, a12, a13, a14, a15, a16, a17, a18, a19] = .ok (il (kad 0 row)) := by
  have hlim := lim_eq
  have h1 : iRange1 (xCons (xCall cLen (xCons (xV 6) xNil)) xNil) [s, d, a2, a3, a4, a5, .im (il row), a7, .im (sums row (PU row.length row.length)), a9, a10, a11, a12, a13, a14, a15, a16, a17, a18, a19] = .ok ((List.range row.length).map fun j : Nat => PyData.int (0 + (j : Int))) := by
    rw [iRange1_ok (j := (row.length : Int)) ?_ (by omega) (by omega)]
    · rfl
    · simp only [il]
      walk_at "ev"
  have h2 := xLc_ok (vs := [17]) h1 (lcG_all (g := bN 17) (fun j : Nat => PyData.int (0 + (j : Int))) (fun j => PyData.int ((kad 0 row).getD j 0)) (List.range row.length) (fun j hj => by
    rw [List.mem_range] at hj
    refine ⟨[s, d, a2, a3, a4, a5, .im (il row), a7, .im (sums row (PU row.length row.length)), a9, a10, a11, a12, a13, a14, a15, a16, .im (.int (j : Int)), a18, a19], by simp only [Int.zero_add]; rfl, ?_⟩
    exact due_in hl hj _ _ _ _ _ _ _ _ _ _ _ _ _ _ _ _ _ _)) (by rw [List.length_map, List.length_range]; omega)
  rw [h2]
  have e : (List.range row.length).map (fun j => PyData.int ((kad 0 row).getD j 0)) = (kad 0 row).map PyData.int := by
    refine List.ext_getElem (by rw [List.length_map, List.length_map, List.length_range, kad_len]) fun i h1 h2 => ?_
    rw [List.getElem_map, List.getElem_map, List.getElem_range, List.getD_eq_getElem?_getD, List.getElem?_eq_getElem (by rw [List.length_map] at h2; exact h2)]
    rfl
  rw [e]
  rfl
end My
set_option Elab.async false
set_option linter.all false
set_option maxRecDepth 100000
set_option maxHeartbeats 4000000
namespace My
open PySem Tw
local macro_rules | `(tactic| walk_at "ev") => `(tactic| simp only [xCall, xCons, xNil, xBin, xUn, xV, xC, xTup, xLst, xIm, xIf, xNo, xCh, gt, st, bind_ok, R.bind, bN, bT, bsC, bs0, tC', tV, tNo, tAn, tOrr, tYe, boD, truD, iSeq, iZi, iEnu, xSl, xRev, oSome, oNone, dAdd_i, dSub_i, dNeg_i, dLt_i, dLe_i, dGt_i, dGe_i, dEq_int, dNe_int, cLen_l, cLen_t, cInt_i, cInt_b, cAbs_i, kMax_i, kMin_i, List.length_map, List.length_cons, List.length_nil])
theorem kad_bd : ∀ (row : List Int) (p : Int) (B : Int), (∀ x, x ∈ row → -100 ≤ x ∧ x ≤ 100) → 0 ≤ B → p ≤ B → ∀ y, y ∈ kad p row → -100 ≤ y ∧ y ≤ B + 100 * row.length
  | [], _, _, _, _, _, y, h => by cases h
  | x :: r, p, B, hm, h0, hp, y, h => by
    have hx := hm x List.mem_cons_self
    have hr := fun z hz => hm z (List.mem_cons_of_mem _ hz)
    rw [List.length_cons]
    rcases List.mem_cons.mp h with e | e
    · subst e
      omega
    · have := kad_bd r (x + max 0 p) (B + 100) hr (by omega) (by omega) y e
      omega
theorem repr_row {row : List Int} (h : RowOk row) : cRepr [il row] = .ok (.str (il row).shown) := cRepr_ints (fun i hi => by have := h.mem i hi; omega) (by have := h.len; omega)
theorem repr_kad {row : List Int} (h : RowOk row) : cRepr [il (kad 0 row)] = .ok (.str (il (kad 0 row)).shown) := cRepr_ints (fun i hi => by
  have := kad_bd row 0 0 h.mem (by omega) (by omega) i hi
  have := h.len
  omega) (by rw [kad_len]; have := h.len; omega)
theorem most_bd {row : List Int} (h : RowOk row) {M : Int} (hM : Most row M) : M.natAbs < 10 ^ 12 := by
  have hk : ∃ y, y ∈ kad 0 row ∧ y = M := by
    obtain ⟨M', h1, h2⟩ := max_ex (l := kad 0 row) (fun z => by
      have := kad_len 0 row
      rw [z] at this
      have := h.pos
      simp at *
      omega)
    have := hM.kad
    rw [kMax_ints h1 h2] at this
    exact ⟨M', h1, by cases this; rfl⟩
  obtain ⟨y, hy, rfl⟩ := hk
  have := kad_bd row 0 0 h.mem (by omega) (by omega) y hy
  have := h.len
  omega
theorem repr_tri {a b c : Int} (ha : a.natAbs < 10 ^ 12) (hb : b.natAbs < 10 ^ 12) (hc : c.natAbs < 10 ^ 12) : cRepr [.tuple [.int a, .int b, .int c]] = .ok (.str (PyData.tuple [.int a, .int b, .int c]).shown) :=
  cRepr_tw rfl (by simp only [smI, smIAll]; rw [decide_eq_true ha, decide_eq_true hb, decide_eq_true hc]; rfl) (by show 13 + 2 + (13 + 2 + (13 + 2 + 0)) + 3 ≤ 1000000; decide)
theorem bits_lc {ds : List Int} (h : DrawsOk ds) {i : Nat} (hi : i < 2) (s a3 a4 a5 a6 a7 a8 a9 a10 a11 a12 a13 a14 a15 a16 a17 a18 a19 : SV) :
    ∃ bits, xLc [18] (iRange1 (xCons (xBin dAdd (xC (.int 1)) (xCall f__law_mix (xCons (xV 1) (xCons (xBin dAdd (xC (.int 210)) (xV 2)) (xCons (xC (.int 24)) xNil))))) xNil)) (bN 18) tYe (xCall f__law_mix (xCons (xV 1) (xCons (xBin dAdd (xBin dAdd (xC (.int 220)) (xBin dMul (xC (.int 30)) (xV 2))) (xV 18)) (xCons (xC (.int 2)) xNil))))
      [s, .im (il ds), .im (.int (i : Int)), a3, a4, a5, a6, a7, a8, a9, a10, a11, a12, a13, a14, a15, a16, a17, a18, a19] = .ok (il bits) ∧ BitsOk bits := by
  have hlim := lim_eq
  obtain ⟨r, m1, r0, r1⟩ := mix_ok h (k := 210 + (i : Int)) (many := 24) (by omega) (by omega) (by decide)
  have h1 : iRange1 (xCons (xBin dAdd (xC (.int 1)) (xCall f__law_mix (xCons (xV 1) (xCons (xBin dAdd (xC (.int 210)) (xV 2)) (xCons (xC (.int 24)) xNil))))) xNil) [s, .im (il ds), .im (.int (i : Int)), a3, a4, a5, a6, a7, a8, a9, a10, a11, a12, a13, a14, a15, a16, a17, a18, a19] = .ok ((List.range (1 + r).toNat).map fun j : Nat => PyData.int (0 + (j : Int))) := by
    rw [iRange1_ok (j := 1 + r) ?_ (by omega) (by omega)]
    · rfl
    · walk_at "ev"
      rw [m1]
      walk_at "ev"
  let v : Nat → Int := fun j => match f__law_mix [il ds, .int (220 + 30 * (i : Int) + (j : Int)), .int 2] with | .ok (.int x) => x | _ => 0
  have hv : ∀ j : Nat, j < 30 → f__law_mix [il ds, .int (220 + 30 * (i : Int) + (j : Int)), .int 2] = .ok (.int (v j)) ∧ (v j = 0 ∨ v j = 1) := fun j hj => by
    obtain ⟨x, e, x0, x1⟩ := mix_ok h (k := 220 + 30 * (i : Int) + (j : Int)) (many := 2) (by omega) (by omega) (by decide)
    have : v j = x := by
      show (match f__law_mix [il ds, .int (220 + 30 * (i : Int) + (j : Int)), .int 2] with | .ok (.int x) => x | _ => 0) = x
      rw [e]
    rw [this]
    exact ⟨e, by omega⟩
  have h2 := xLc_ok (vs := [18]) h1 (lcG_all (g := bN 18) (e := xCall f__law_mix (xCons (xV 1) (xCons (xBin dAdd (xBin dAdd (xC (.int 220)) (xBin dMul (xC (.int 30)) (xV 2))) (xV 18)) (xCons (xC (.int 2)) xNil)))) (fun j : Nat => PyData.int (0 + (j : Int))) (fun j => PyData.int (v j)) (List.range (1 + r).toNat) (fun j hj => by
    rw [List.mem_range] at hj
    refine ⟨[s, .im (il ds), .im (.int (i : Int)), a3, a4, a5, a6, a7, a8, a9, a10, a11, a12, a13, a14, a15, a16, a17, .im (.int (j : Int)), a19], by simp only [Int.zero_add]; rfl, ?_⟩
    walk_at "ev"
    rw [dMul_small (by decide) (by omega)]
    walk_at "ev"
    exact (hv j (by omega)).1)) (by rw [List.length_map, List.length_range]; omega)
  refine ⟨(List.range (1 + r).toNat).map v, ?_, by rw [List.length_map, List.length_range]; omega, by rw [List.length_map, List.length_range]; omega, fun x hx => ?_⟩
  · rw [h2]
    unfold il
    rw [List.map_map]
    rfl
  · obtain ⟨j, hj, rfl⟩ := List.mem_map.mp hx
    rw [List.mem_range] at hj
    exact (hv j (by omega)).2
theorem chg_flip : ∀ l : List Int, (∀ x, x ∈ l → x = 0 ∨ x = 1) → chg (l.map fun x => 1 - x) = chg l
  | [], _ => rfl
  | [x], _ => rfl
  | x :: y :: r, h => by
    show (if (1 - x) = (1 - y) then 0 else 1) + chg ((y :: r).map fun x => 1 - x) = (if x = y then 0 else 1) + chg (y :: r)
    rw [chg_flip (y :: r) fun z hz => h z (List.mem_cons_of_mem _ hz)]
    by_cases e : x = y
    · rw [if_pos e, if_pos (by omega)]
    · rw [if_neg e, if_neg (by omega)]
theorem BitsOk.flip {bits : List Int} (h : BitsOk bits) : BitsOk (bits.map fun x => 1 - x) := ⟨by rw [List.length_map]; exact h.pos, by rw [List.length_map]; exact h.len, fun y hy => by
  obtain ⟨x, hx, rfl⟩ := List.mem_map.mp hy
  have := h.mem x hx
  omega⟩
theorem flip_lc {bits : List Int} (h : BitsOk bits) (s a1 a2 a3 a4 a5 a6 a7 a8 a9 a10 a11 a13 a14 a15 a16 a17 a18 a19 : SV) :
    xLc [19] (iSeq (xV 12)) (bN 19) tYe (xBin dSub (xC (.int 1)) (xV 19)) [s, a1, a2, a3, a4, a5, a6, a7, a8, a9, a10, a11, .im (il bits), a13, a14, a15, a16, a17, a18, a19] = .ok (il (bits.map fun x => 1 - x)) := by
  have hlim := lim_eq
  have hlen := h.len
  have h2 := xLc_ok (vs := [19]) (mi := iSeq (xV 12)) (ε := [s, a1, a2, a3, a4, a5, a6, a7, a8, a9, a10, a11, .im (il bits), a13, a14, a15, a16, a17, a18, a19]) rfl (lcG_all (g := bN 19) (e := xBin dSub (xC (.int 1)) (xV 19)) PyData.int (fun x => PyData.int (1 - x)) bits (fun x _ => ⟨[s, a1, a2, a3, a4, a5, a6, a7, a8, a9, a10, a11, .im (il bits), a13, a14, a15, a16, a17, a18, .im (.int x)], rfl, by walk_at "ev"⟩)) (by rw [List.length_map]; omega)
  rw [h2]
  unfold il
  rw [List.map_map]
  rfl
/-! ### one turn -/
theorem Peak.small {row : List Int} (h : RowOk row) {M : Int} {f l : Nat} (hp : Peak row M f l) : (f : Int).natAbs < 10 ^ 12 ∧ (l : Int).natAbs < 10 ^ 12 := by
  have := h.len
  have := hp.le
  have := hp.lt
  omega
end My
set_option Elab.async false
set_option linter.all false
set_option maxRecDepth 100000
set_option maxHeartbeats 4000000
namespace My
open PySem Tw
def runsF (z o : Nat) : List Int := (rowsF 40 z o).map fun r => 1 + chg r
def cnt (l : List Int) (n : Int) : Nat := (l.filter fun x => decide (x = n)).length
theorem fin1 : ∀ z : Nat, z < 5 → ∀ o : Nat, o < 6 → ∀ i : Nat, i < z + o + 5 → waysZ ((z : Int) + 1) ((o : Int) + 1) ((i : Int) - 1) = (cnt (runsF (z + 1) (o + 1)) ((i : Int) - 1) : Int) := by decide +kernel
end My
set_option Elab.async false
set_option linter.all false
set_option maxRecDepth 100000
set_option maxHeartbeats 4000000
namespace My
open PySem Tw
def sumW (z o : Int) : Nat → Int
  | 0 => 0
  | n + 1 => sumW z o n + waysZ z o (n : Int)
theorem fin2 : ∀ z : Nat, z < 30 → ∀ o : Nat, o < 30 → sumW ((z : Int) + 1) ((o : Int) + 1) (z + o + 3) = ov (z + o + 2) (o + 1) := by decide +kernel
end My
set_option Elab.async false
set_option linter.all false
set_option maxRecDepth 100000
set_option maxHeartbeats 4000000
namespace My
open PySem Tw
local macro_rules | `(tactic| walk_at "ev") => `(tactic| simp only [xCall, xCons, xNil, xBin, xUn, xV, xC, xTup, xLst, xIm, xIf, xNo, xCh, gt, st, bind_ok, R.bind, bN, bT, bsC, bs0, tC', tV, tNo, tAn, tOrr, tYe, boD, truD, iSeq, iZi, iEnu, xSl, xRev, oSome, oNone, dAdd_i, dSub_i, dNeg_i, dLt_i, dLe_i, dGt_i, dGe_i, dEq_int, dNe_int, cLen_l, cLen_t, cInt_i, cInt_b, cAbs_i, kMax_i, kMin_i, List.length_map, List.length_cons, List.length_nil])
theorem xTh_at {m : Nv → R D} {ε : Nv} {d : D} (h : m (th ε) = .ok d) (hf : flat d = true) : xTh m ε = .ok d := by
  unfold xTh
  rw [h, bind_ok, if_pos hf]
theorem tOrr_ff {m n : Nv → R Bool} {ε : Nv} (h1 : m ε = .ok false) (h2 : n ε = .ok false) : tOrr m n ε = .ok false := by
  unfold tOrr
  rw [h1, bind_ok, if_neg Bool.false_ne_true, h2]
theorem tC_at {m : Nv → R D} {ε : Nv} {b : Bool} (h : m ε = .ok (.bool b)) : tC' m ε = .ok b := by
  unfold tC'
  rw [h, bind_ok]
  rfl
/-- two texts that are the same -/
theorem ne_same {ma mb : Nv → R D} {ε : Nv} {d : D} (h1 : ma ε = .ok d) (h2 : mb ε = .ok d) (hd : okd d = true) : tC' (xBin dNe ma mb) ε = .ok false := tC_at ((xBin_at h1 h2).trans (dNe_same hd))
theorem turn_body {ds : List Int} (h : DrawsOk ds) {i : Nat} (hi : i < 2) (s a6 a7 a8 a9 a10 a11 a12 a15 a16 : SV) : Runs
  (sSeq (sAs 6 (xCall f__law_row (xCons (xV 1) (xCons (xBin dAdd (xC (.int 10)) (xBin dMul (xC (.int 100)) (xV 2))) (xCons (xC (.int 24)) xNil)))))
    (sSeq (sAs 7 (xCall cRepr (xCons (xV 6) xNil)))
    (sSeq (sAs 8 (xLst xNil))
    (sSeq (sFor (iRange1 (xCons (xCall cLen (xCons (xV 6) xNil)) xNil)) (bN 9)
    (sAs 8 (xBin dCat (xV 8) (xLc [16] (iRange2 (xCons (xV 9) (xCons (xCall cLen (xCons (xV 6) xNil)) xNil))) (bN 16) tYe (xTup (xCons (xUn dNeg (xCall cSum (xCons (xSl (xV 6) (oSome (xV 9)) (oSome (xBin dAdd (xV 16) (xC (.int 1))))) xNil))) (xCons (xV 9) (xCons (xV 16) xNil))))))))
    (sSeq (sAs 10 (xLc [17] (iRange1 (xCons (xCall cLen (xCons (xV 6) xNil)) xNil)) (bN 17) tYe (xCall kMax (xCons (xLc [5, 9, 16] (iSeq (xV 8)) (bT 3 (bsC (bN 5) (bsC (bN 9) (bsC (bN 16) bs0)))) (tC' (xBin dEq (xV 16) (xV 17))) (xUn dNeg (xV 5))) xNil))))
    (sSeq (sUn (xCall kMin (xCons (xV 8) xNil)) (bT 3 (bsC (bN 15) (bsC (bN 9) (bsC (bN 16) bs0)))))
    (sSeq (sAsM 11 (xCall f_ending (xCons (xV 6) xNil)))
    (sSeq (sIf (tOrr (tC' (xBin dNe (xTh (xCall cRepr (xCons (xV 11) xNil))) (xCall cRepr (xCons (xV 10) xNil)))) (tC' (xBin dNe (xCall cRepr (xCons (xCall f_peak (xCons (xV 6) xNil)) xNil)) (xCall cRepr (xCons (xTup (xCons (xUn dNeg (xV 15)) (xCons (xV 9) (xCons (xV 16) xNil)))) xNil)))))
    (sRt (xC (.bool false)))
    sNil)
    (sSeq (sAp 11 (xC (.int 9)))
    (sSeq (sIf (tOrr (tC' (xBin dNe (xCall cRepr (xCons (xCall f_ending (xCons (xV 6) xNil)) xNil)) (xCall cRepr (xCons (xV 10) xNil)))) (tOrr (tC' (xBin dNe (xBin dIx (xCall f_peak (xCons (xRev (xV 6)) xNil)) (xC (.int 0))) (xUn dNeg (xV 15)))) (tC' (xBin dNe (xCall cRepr (xCons (xV 6) xNil)) (xV 7)))))
    (sRt (xC (.bool false)))
    sNil)
    (sSeq (sAs 12 (xLc [18] (iRange1 (xCons (xBin dAdd (xC (.int 1)) (xCall f__law_mix (xCons (xV 1) (xCons (xBin dAdd (xC (.int 210)) (xV 2)) (xCons (xC (.int 24)) xNil))))) xNil)) (bN 18) tYe (xCall f__law_mix (xCons (xV 1) (xCons (xBin dAdd (xBin dAdd (xC (.int 220)) (xBin dMul (xC (.int 30)) (xV 2))) (xV 18)) (xCons (xC (.int 2)) xNil))))))
    (sIf (tOrr (tC' (xBin dNe (xCall cRepr (xCons (xCall f_runs (xCons (xV 12) xNil)) xNil)) (xCall cRepr (xCons (xCall f__law_runs (xCons (xV 12) xNil)) xNil)))) (tC' (xBin dNe (xCall f_runs (xCons (xLc [19] (iSeq (xV 12)) (bN 19) tYe (xBin dSub (xC (.int 1)) (xV 19))) xNil)) (xCall f_runs (xCons (xV 12) xNil)))))
    (sRt (xC (.bool false)))
    sNil))))))))))))
  [s, .im (il ds), .im (.int (i : Int)), .no, .no, .no, a6, a7, a8, a9, a10, a11, a12, .no, .no, a15, a16, .no, .no, .no]
  fun fl => ∃ a6 a7 a8 a9 a10 a11 a12 a15 a16, fl = .nx [s, .im (il ds), .im (.int (i : Int)), .no, .no, .no, a6, a7, a8, a9, a10, a11, a12, .no, .no, a15, a16, .no, .no, .no] := by
  have hlim := lim_eq
  obtain ⟨row, hrow, ro⟩ := row_ok h (k := 10 + 100 * (i : Int)) (by omega) (by omega)
  have hlen := ro.len
  have hne : row ≠ [] := fun z => by
    have := ro.pos
    rw [z] at this
    simp at this
  obtain ⟨M, hM⟩ := most_ex hne
  obtain ⟨f, l, hpk, pk⟩ := peak_ok ro hM
  refine runs_sn (sAs_ok (d := il row) ?_) ?_
  · as_aux_lemma =>
      walk_at "ev"
      rw [dMul_small (by decide) (by omega)]
      walk_at "ev"
      exact hrow
  change Runs _ [s, .im (il ds), .im (.int (i : Int)), .no, .no, .no, .im (il row), a7, a8, a9, a10, a11, a12, .no, .no, a15, a16, .no, .no, .no] _
  refine runs_sn (sAs_ok (d := .str (il row).shown) ?_) ?_
  · as_aux_lemma =>
      walk_at "ev"
      exact repr_row ro
  change Runs _ [s, .im (il ds), .im (.int (i : Int)), .no, .no, .no, .im (il row), .im (.str (il row).shown), a8, a9, a10, a11, a12, .no, .no, a15, a16, .no, .no, .no] _
  refine runs_sn (sAs_ok (d := sums row (PU row.length 0)) (by walk_at "ev"; rfl)) ?_
  change Runs _ [s, .im (il ds), .im (.int (i : Int)), .no, .no, .no, .im (il row), .im (.str (il row).shown), .im (sums row (PU row.length 0)), a9, a10, a11, a12, .no, .no, a15, a16, .no, .no, .no] _
  refine runs_seq (runs_for (ds := rangeD 0 row.length) (fun t ε => ∃ a9, ε = [s, .im (il ds), .im (.int (i : Int)), .no, .no, .no, .im (il row), .im (.str (il row).shown), .im (sums row (PU row.length t)), a9, a10, a11, a12, .no, .no, a15, a16, .no, .no, .no]) ?_ ⟨_, rfl⟩ ?_ ?_)
  · rw [iRange1_ok (j := (row.length : Int)) ?_ (by omega) (by omega)]
    · as_aux_lemma =>
        rfl
    · as_aux_lemma =>
        simp only [il]
        walk_at "ev"
  · rintro t d ε hd ⟨a9, rfl⟩
    obtain ⟨ht, rfl⟩ := rangeD_get hd
    refine ⟨[s, .im (il ds), .im (.int (i : Int)), .no, .no, .no, .im (il row), .im (.str (il row).shown), .im (sums row (PU row.length t)), .im (.int (t : Int)), a10, a11, a12, .no, .no, a15, a16, .no, .no, .no], by simp only [Int.zero_add]; rfl, ?_⟩
    refine runs_eq (sAs_ok (d := sums row (PU row.length (t + 1))) ?_) ⟨_, rfl⟩
    refine (xBin_at rfl (sums_lc hlen ht _ _ _ _ _ _ _ _ _ _ _ _ _ _ _ _ _ _)).trans ?_
    unfold sums
    rw [dCat_ok, PU_succ, List.map_append]
    rw [List.length_map, List.length_map, ← List.length_append, ← PU_succ]
    refine Nat.le_trans (PU_len _ _) ?_
    have := Nat.mul_le_mul (show t + 1 ≤ 24 by omega) hlen
    omega
  rintro ε' ⟨a9, rfl⟩
  rw [rangeD_len]
  show Runs _ _ _
  refine runs_sn (sAs_ok (due_lc hlen _ _ _ _ _ _ _ _ _ _ _ _ _ _ _ _ _ _)) ?_
  change Runs _ [s, .im (il ds), .im (.int (i : Int)), .no, .no, .no, .im (il row), .im (.str (il row).shown), .im (sums row (PU row.length row.length)), a9, .im (il (kad 0 row)), a11, a12, .no, .no, a15, a16, .no, .no, .no] _
  refine runs_sn (ε' := [s, .im (il ds), .im (.int (i : Int)), .no, .no, .no, .im (il row), .im (.str (il row).shown), .im (sums row (PU row.length row.length)), .im (.int (f : Int)), .im (il (kad 0 row)), a11, a12, .no, .no, .im (.int (-M)), .im (.int (l : Int)), .no, .no, .no]) ?_ ?_
  · as_aux_lemma =>
      unfold sUn
      rw [xCall_at1 (a := sums row (PU row.length row.length)) rfl, min_sums hM pk]
      rfl
  refine runs_sn (sAsM_ok (d := il (kad 0 row)) ?_) ?_
  · as_aux_lemma =>
      walk_at "ev"
      exact ending_ok ro
  change Runs _ [s, .im (il ds), .im (.int (i : Int)), .no, .no, .no, .im (il row), .im (.str (il row).shown), .im (sums row (PU row.length row.length)), .im (.int (f : Int)), .im (il (kad 0 row)), .mu (il (kad 0 row)), a12, .no, .no, .im (.int (-M)), .im (.int (l : Int)), .no, .no, .no] _
  have mb := most_bd ro hM
  have ps := pk.small ro
  refine runs_seq (runs_if (b := false) ?_ (fun z => by cases z) (fun _ => runs_eq rfl ?_))
  · refine tOrr_ff (ne_same (d := .str (il (kad 0 row)).shown) (xTh_at ?_ rfl) ?_ rfl) (ne_same (d := .str (PyData.tuple [.int M, .int (f : Int), .int (l : Int)]).shown) ?_ ?_ rfl)
    · as_aux_lemma =>
        exact (xCall_at1 (a := il (kad 0 row)) rfl).trans (repr_kad ro)
    · as_aux_lemma =>
        walk_at "ev"
        exact repr_kad ro
    · as_aux_lemma =>
        walk_at "ev"
        rw [hpk]
        walk_at "ev"
        exact repr_tri mb ps.1 ps.2
    · as_aux_lemma =>
        walk_at "ev"
        rw [Int.neg_neg]
        exact repr_tri mb ps.1 ps.2
  show Runs _ _ _
  refine runs_sn (sAp_ok (d := .int 9) (ds := (kad 0 row).map PyData.int) (by walk_at "ev") rfl (by rw [List.length_map, kad_len]; omega)) ?_
  obtain ⟨x11, hx⟩ : ∃ x, x = SV.mu (.list ((kad 0 row).map PyData.int ++ [.int 9])) := ⟨_, rfl⟩
  rw [← hx]
  change Runs _ [s, .im (il ds), .im (.int (i : Int)), .no, .no, .no, .im (il row), .im (.str (il row).shown), .im (sums row (PU row.length row.length)), .im (.int (f : Int)), .im (il (kad 0 row)), x11, a12, .no, .no, .im (.int (-M)), .im (.int (l : Int)), .no, .no, .no] _
  obtain ⟨f', l', hpk', pk'⟩ := peak_ok ro.rev (most_rev hM hne)
  refine runs_seq (runs_if (b := false) ?_ (fun z => by cases z) (fun _ => runs_eq rfl ?_))
  · refine tOrr_ff (ne_same (d := .str (il (kad 0 row)).shown) ?_ ?_ rfl) (tOrr_ff (ne_same (d := .int M) ?_ ?_ rfl) (ne_same (d := .str (il row).shown) ?_ ?_ rfl))
    · as_aux_lemma =>
        walk_at "ev"
        rw [ending_ok ro]
        walk_at "ev"
        exact repr_kad ro
    · as_aux_lemma =>
        walk_at "ev"
        exact repr_kad ro
    · as_aux_lemma =>
        have e : (il row.reverse) = .list ((row.map PyData.int).reverse) := by
          unfold il
          rw [List.map_reverse]
        rw [e] at hpk'
        simp only [il]
        walk_at "ev"
        rw [hpk']
        rfl
    · as_aux_lemma =>
        walk_at "ev"
        rw [Int.neg_neg]
    · as_aux_lemma =>
        walk_at "ev"
        exact repr_row ro
    · as_aux_lemma =>
        rfl
  show Runs _ _ _
  obtain ⟨bits, hb, bo⟩ := bits_lc h hi s .no .no .no (.im (il row)) (.im (.str (il row).shown)) (.im (sums row (PU row.length row.length))) (.im (.int (f : Int))) (.im (il (kad 0 row))) x11 a12 .no .no (.im (.int (-M))) (.im (.int (l : Int))) .no .no .no
  refine runs_sn (sAs_ok hb) ?_
  change Runs _ [s, .im (il ds), .im (.int (i : Int)), .no, .no, .no, .im (il row), .im (.str (il row).shown), .im (sums row (PU row.length row.length)), .im (.int (f : Int)), .im (il (kad 0 row)), x11, .im (il bits), .no, .no, .im (.int (-M)), .im (.int (l : Int)), .no, .no, .no] _
  have r1 := runs_ok bo
  have r2 := runs_ok bo.flip
  rw [chg_flip bits bo.mem] at r2
  have r3 := law_runs_ok bo.pos (Nat.le_trans bo.len (by decide))
  have cb : ∀ b : List Int, 0 ≤ chg b ∧ chg b ≤ b.length := fun b => by
    induction b with
    | nil => decide
    | cons x r ih =>
      cases r with
      | nil => exact ⟨by show (0 : Int) ≤ 0; decide, by show (0 : Int) ≤ ((1 : Nat) : Int); decide⟩
      | cons y r =>
        show 0 ≤ (if x = y then 0 else 1) + chg (y :: r) ∧ (if x = y then 0 else 1) + chg (y :: r) ≤ _
        rw [List.length_cons]
        split <;> omega
  have r4 : (1 + chg bits).natAbs < 10 ^ 12 := by
    have := cb bits
    have := bo.len
    omega
  refine runs_if (b := false) ?_ (fun z => by cases z) (fun _ => runs_eq rfl ⟨_, _, _, _, _, _, _, _, _, rfl⟩)
  refine tOrr_ff (ne_same (d := .str (PyData.int (1 + chg bits)).shown) ?_ ?_ rfl) (ne_same (d := .int (1 + chg bits)) ?_ ?_ rfl)
  · as_aux_lemma =>
      walk_at "ev"
      rw [r1]
      walk_at "ev"
      exact cRepr_int r4
  · exact (xCall_at1 ((xCall_at1 (a := il bits) rfl).trans r3)).trans (cRepr_int r4)
  · as_aux_lemma =>
      exact (xCall_at1 (flip_lc bo _ _ _ _ _ _ _ _ _ _ _ _ _ _ _ _ _ _ _)).trans r2
  · as_aux_lemma =>
      walk_at "ev"
      exact r1
end My
set_option Elab.async false
set_option linter.all false
set_option maxRecDepth 100000
set_option maxHeartbeats 4000000
namespace My
open PySem Tw
local macro_rules | `(tactic| walk_at "ev") => `(tactic| simp only [xCall, xCons, xNil, xBin, xUn, xV, xC, xTup, xLst, xIm, xIf, xNo, xCh, gt, st, bind_ok, R.bind, bN, bT, bsC, bs0, tC', tV, tNo, tAn, tOrr, tYe, boD, truD, iSeq, iZi, iEnu, xSl, xRev, oSome, oNone, dAdd_i, dSub_i, dNeg_i, dLt_i, dLe_i, dGt_i, dGe_i, dEq_int, dNe_int, cLen_l, cLen_t, cInt_i, cInt_b, cAbs_i, kMax_i, kMin_i, List.length_map, List.length_cons, List.length_nil])
theorem xCall_at {f : List D → R D} {ms : Nv → R (List D)} {ε : Nv} {ds : List D} (h : ms ε = .ok ds) : xCall f ms ε = f ds := by
  unfold xCall
  rw [h, bind_ok]
theorem two_ok {ds : List Int} (h : DrawsOk ds) {i j p q : Int} (hi : 0 ≤ i) (hi' : i < 2 ^ 20) (hj : 0 ≤ j) (hj' : j < 2 ^ 20) (hp : 0 < p) (hq : 0 < q) (s a2 a3 a4 a5 a6 a7 a8 a9 a10 a11 a12 a13 a14 a15 a16 a17 a18 a19 : SV) :
    ∃ z o : Nat, sUn (xTup (xCons (xBin dAdd (xC (.int 1)) (xCall f__law_mix (xCons (xV 1) (xCons (xC (.int i)) (xCons (xC (.int p)) xNil))))) (xCons (xBin dAdd (xC (.int 1)) (xCall f__law_mix (xCons (xV 1) (xCons (xC (.int j)) (xCons (xC (.int q)) xNil))))) xNil))) (bT 2 (bsC (bN 13) (bsC (bN 14) bs0))) [s, .im (il ds), a2, a3, a4, a5, a6, a7, a8, a9, a10, a11, a12, a13, a14, a15, a16, a17, a18, a19]
      = .ok (.nx [s, .im (il ds), a2, a3, a4, a5, a6, a7, a8, a9, a10, a11, a12, .im (.int ((z : Int) + 1)), .im (.int ((o : Int) + 1)), a15, a16, a17, a18, a19]) ∧ (z : Int) < p ∧ (o : Int) < q := by
  obtain ⟨r1, m1, b1, c1⟩ := mix_ok h (k := i) (many := p) hi (by omega) hp
  obtain ⟨r2, m2, b2, c2⟩ := mix_ok h (k := j) (many := q) hj (by omega) hq
  refine ⟨r1.toNat, r2.toNat, ?_, by omega, by omega⟩
  unfold sUn
  walk_at "ev"
  rw [m1]
  walk_at "ev"
  rw [m2]
  walk_at "ev"
  rw [show (r1.toNat : Int) + 1 = 1 + r1 by omega, show (r2.toNat : Int) + 1 = 1 + r2 by omega]
  rfl
theorem rowsF_mem2 {n z o : Nat} {r : List Int} (h : r ∈ rowsF n z o) : r.length = z + o := rowsF_mem n z o r h
theorem rows_lc {z o : Nat} (hz : z < 5) (ho : o < 6) (s a1 a2 a3 a4 a5 a6 a7 a8 a9 a10 a11 a12 a15 a16 a17 a18 a19 : SV) :
    xLc [6] (iSeq (xCall f__law_rows (xCons (xV 13) (xCons (xV 14) xNil)))) (bN 6) tYe (xCall f__law_runs (xCons (xV 6) xNil)) [s, a1, a2, a3, a4, a5, a6, a7, a8, a9, a10, a11, a12, .im (.int ((z : Int) + 1)), .im (.int ((o : Int) + 1)), a15, a16, a17, a18, a19] = .ok (il (runsF (z + 1) (o + 1))) := by
  have hlim := lim_eq
  have h0 : f__law_rows [.int ((z : Int) + 1), .int ((o : Int) + 1)] = .ok (.list ((rowsF 40 (z + 1) (o + 1)).map il)) := rows_ok 40 (z + 1) (o + 1) (by omega) (by omega)
  have h1 : iSeq (xCall f__law_rows (xCons (xV 13) (xCons (xV 14) xNil))) [s, a1, a2, a3, a4, a5, a6, a7, a8, a9, a10, a11, a12, .im (.int ((z : Int) + 1)), .im (.int ((o : Int) + 1)), a15, a16, a17, a18, a19] = .ok ((rowsF 40 (z + 1) (o + 1)).map il) := by
    unfold iSeq
    rw [show xCall f__law_rows (xCons (xV 13) (xCons (xV 14) xNil)) [s, a1, a2, a3, a4, a5, a6, a7, a8, a9, a10, a11, a12, .im (.int ((z : Int) + 1)), .im (.int ((o : Int) + 1)), a15, a16, a17, a18, a19] = f__law_rows [.int ((z : Int) + 1), .int ((o : Int) + 1)] from rfl, h0]
    rfl
  have h2 := xLc_ok (vs := [6]) h1 (lcG_all (g := bN 6) (e := xCall f__law_runs (xCons (xV 6) xNil)) il (fun r => PyData.int (1 + chg r)) (rowsF 40 (z + 1) (o + 1)) (fun r hr => by
    have hl := rowsF_mem2 hr
    exact ⟨[s, a1, a2, a3, a4, a5, .im (il r), a7, a8, a9, a10, a11, a12, .im (.int ((z : Int) + 1)), .im (.int ((o : Int) + 1)), a15, a16, a17, a18, a19], rfl, (xCall_at1 (a := il r) rfl).trans (law_runs_ok (by omega) (by omega))⟩)) (by
      rw [List.length_map]
      have := rowsF_len2 40 (z + 1) (o + 1) (by omega)
      have := Nat.pow_le_pow_right (n := 2) (by decide) (show z + 1 + (o + 1) ≤ 12 by omega)
      have pw : 2 ^ 12 = 4096 := by decide
      omega)
  rw [h2]
  unfold runsF il
  rw [List.map_map]
  rfl
theorem cnt_lc (l : List Int) (hl : l.length ≤ 4096) (n : Int) (s a1 a2 a5 a6 a7 a8 a9 a10 a11 a12 a13 a14 a15 a16 a17 a18 a19 : SV) :
    xCall cLen (xCons (xLc [19] (iSeq (xV 3)) (bN 19) (tC' (xBin dEq (xV 19) (xV 4))) (xV 19)) xNil) [s, a1, a2, .im (il l), .im (.int n), a5, a6, a7, a8, a9, a10, a11, a12, a13, a14, a15, a16, a17, a18, a19] = .ok (.int (cnt l n : Int)) := by
  have hlim := lim_eq
  have h2 := xLc_ok (vs := [19]) (mi := iSeq (xV 3)) (ε := [s, a1, a2, .im (il l), .im (.int n), a5, a6, a7, a8, a9, a10, a11, a12, a13, a14, a15, a16, a17, a18, a19]) rfl (lcG_if (g := bN 19) (t := tC' (xBin dEq (xV 19) (xV 4))) (e := xV 19) PyData.int (fun x => decide (x = n)) PyData.int l (fun x _ => ⟨[s, a1, a2, .im (il l), .im (.int n), a5, a6, a7, a8, a9, a10, a11, a12, a13, a14, a15, a16, a17, a18, .im (.int x)], rfl, by walk_at "ev", fun _ => rfl⟩)) (by
    rw [List.length_map]
    have := List.length_filter_le (fun x => decide (x = n)) l
    omega)
  rw [xCall_at1 h2, cLen_l, List.length_map]
  rfl
theorem sumW_map (z o : Int) : ∀ n : Nat, ((List.range n).map fun j : Nat => waysZ z o (j : Int)).sum = sumW z o n
  | 0 => rfl
  | n + 1 => by
    rw [List.range_succ, List.map_append, sum_app, sumW_map z o n]
    show _ + (waysZ z o (n : Int) + 0) = _ + _
    omega
/-- the ways at 0, 1, .. -/
theorem ways_lc {z o : Nat} (hz : z < 30) (ho : o < 30) {n : Nat} (hn : n ≤ 1000) {mi : Nv → R (List D)} (x y : Nat) (zz oo : Int) (hzz : zz = (z : Int) + 1) (hoo : oo = (o : Int) + 1) {ε : Nv} (hmi : mi ε = .ok (rangeD 0 n)) (hv : ∀ j : Nat, j < n → ∃ ε1, bN 4 (.int (0 + (j : Int))) (wipeE ε [4]) = .ok ε1 ∧ xCall f_ways (xCons (xV x) (xCons (xV y) (xCons (xV 4) xNil))) ε1 = f_ways [.int zz, .int oo, .int (0 + (j : Int))]) :
    xLc [4] mi (bN 4) tYe (xCall f_ways (xCons (xV x) (xCons (xV y) (xCons (xV 4) xNil)))) ε = .ok (il ((List.range n).map fun j : Nat => waysZ zz oo (j : Int))) := by
  have hlim := lim_eq
  subst hzz hoo
  have h2 := xLc_ok (vs := [4]) (mi := mi) (ds := (List.range n).map fun j : Nat => PyData.int (0 + (j : Int))) hmi (lcG_all (g := bN 4) (e := xCall f_ways (xCons (xV x) (xCons (xV y) (xCons (xV 4) xNil)))) (fun j : Nat => PyData.int (0 + (j : Int))) (fun j => PyData.int (waysZ ((z : Int) + 1) ((o : Int) + 1) (j : Int))) (List.range n) (fun j hj => by
    rw [List.mem_range] at hj
    obtain ⟨ε1, h3, h4⟩ := hv j hj
    refine ⟨ε1, h3, h4.trans ?_⟩
    rw [Int.zero_add]
    exact ways_ok (by omega) (by omega) (by omega))) (by rw [List.length_map, List.length_range]; omega)
  rw [h2]
  unfold il
  rw [List.map_map]
  rfl
theorem runsF_len {z o : Nat} (hz : z < 5) (ho : o < 6) : (runsF (z + 1) (o + 1)).length ≤ 4096 := by
  unfold runsF
  rw [List.length_map]
  have := rowsF_len2 40 (z + 1) (o + 1) (by omega)
  have := Nat.pow_le_pow_right (n := 2) (by decide) (show z + 1 + (o + 1) ≤ 12 by omega)
  have pw : 2 ^ 12 = 4096 := by decide
  omega
theorem law_true (ns : List Int) (hn : ns.length ≤ 63) : f_law [.list (ns.map PyData.int)] = .ok (.bool true) := by
  have hlim := lim_eq
  obtain ⟨ds, hds, h⟩ := draws_ok hn
  unfold f_law
  refine runF_rt rfl ?_
  unfold m_law
  change Runs _ [.im (il ns), .no, .no, .no, .no, .no, .no, .no, .no, .no, .no, .no, .no, .no, .no, .no, .no, .no, .no, .no] _
  refine runs_sn (sAs_ok ((xCall_at1 (a := il ns) rfl).trans hds)) ?_
  change Runs _ [.im (il ns), .im (il ds), .no, .no, .no, .no, .no, .no, .no, .no, .no, .no, .no, .no, .no, .no, .no, .no, .no, .no] _
  refine runs_seq (runs_for (ds := rangeD 0 2) (fun _ ε => ∃ a2 a6 a7 a8 a9 a10 a11 a12 a15 a16, ε = [.im (il ns), .im (il ds), a2, .no, .no, .no, a6, a7, a8, a9, a10, a11, a12, .no, .no, a15, a16, .no, .no, .no]) ?_ ⟨_, _, _, _, _, _, _, _, _, _, rfl⟩ ?_ ?_)
  · rw [iRange1_ok (j := 2) (by walk_at "ev") (by decide) (by decide)]
    rfl
  · rintro i d ε hd ⟨a2, a6, a7, a8, a9, a10, a11, a12, a15, a16, rfl⟩
    obtain ⟨hi, rfl⟩ := rangeD_get hd
    refine ⟨[.im (il ns), .im (il ds), .im (.int (i : Int)), .no, .no, .no, a6, a7, a8, a9, a10, a11, a12, .no, .no, a15, a16, .no, .no, .no], by simp only [Int.zero_add]; rfl, ?_⟩
    refine Runs.mono (turn_body h hi _ _ _ _ _ _ _ _ _ _) ?_
    rintro fl ⟨b6, b7, b8, b9, b10, b11, b12, b15, b16, rfl⟩
    exact ⟨_, _, _, _, _, _, _, _, _, _, rfl⟩
  rintro ε' ⟨a2, a6, a7, a8, a9, a10, a11, a12, a15, a16, rfl⟩
  show Runs _ _ _
  obtain ⟨z, o, h1, hz, ho⟩ := two_ok h (i := 290) (j := 291) (p := 5) (q := 6) (by decide) (by decide) (by decide) (by decide) (by decide) (by decide) (.im (il ns)) a2 .no .no .no a6 a7 a8 a9 a10 a11 a12 .no .no a15 a16 .no .no .no
  refine runs_sn h1 ?_
  refine runs_sn (sAs_ok (rows_lc (by omega) (by omega) _ _ _ _ _ _ _ _ _ _ _ _ _ _ _ _ _ _)) ?_
  change Runs _ [.im (il ns), .im (il ds), a2, .im (il (runsF (z + 1) (o + 1))), .no, .no, a6, a7, a8, a9, a10, a11, a12, .im (.int ((z : Int) + 1)), .im (.int ((o : Int) + 1)), a15, a16, .no, .no, .no] _
  refine runs_seq (runs_for (ds := rangeD (-1) (z + o + 5)) (fun _ ε => ∃ a4, ε = [.im (il ns), .im (il ds), a2, .im (il (runsF (z + 1) (o + 1))), a4, .no, a6, a7, a8, a9, a10, a11, a12, .im (.int ((z : Int) + 1)), .im (.int ((o : Int) + 1)), a15, a16, .no, .no, .no]) ?_ ⟨_, rfl⟩ ?_ ?_)
  · rw [iRange2_ok (i := -1) (j := (z : Int) + 1 + ((o : Int) + 1) + 2) (by walk_at "ev") (by decide) (by decide) (by omega) (by omega)]
    rw [show ((z : Int) + 1 + ((o : Int) + 1) + 2 - -1).toNat = z + o + 5 by omega]
  · rintro i d ε hd ⟨a4, rfl⟩
    obtain ⟨hi, rfl⟩ := rangeD_get hd
    refine ⟨[.im (il ns), .im (il ds), a2, .im (il (runsF (z + 1) (o + 1))), .im (.int (-1 + (i : Int))), .no, a6, a7, a8, a9, a10, a11, a12, .im (.int ((z : Int) + 1)), .im (.int ((o : Int) + 1)), a15, a16, .no, .no, .no], rfl, ?_⟩
    have hw := ways_ok (z := (z : Int) + 1) (o := (o : Int) + 1) (n := -1 + (i : Int)) (by omega) (by omega) (by omega)
    have hf := fin1 z (by omega) o (by omega) i hi
    rw [show (i : Int) - 1 = -1 + (i : Int) by omega] at hf
    have hc : (cnt (runsF (z + 1) (o + 1)) (-1 + (i : Int))) ≤ 4096 := Nat.le_trans (List.length_filter_le _ _) (runsF_len (by omega) (by omega))
    rw [hf] at hw
    refine runs_if (b := false) ?_ (fun z => by cases z) (fun _ => runs_eq rfl ⟨_, rfl⟩)
    refine ne_same (d := .str (PyData.int (cnt (runsF (z + 1) (o + 1)) (-1 + (i : Int)) : Int)).shown) ?_ ?_ rfl
    · exact (xCall_at1 (a := .int (cnt (runsF (z + 1) (o + 1)) (-1 + (i : Int)) : Int)) hw).trans (cRepr_int (by omega))
    · exact (xCall_at1 (cnt_lc _ (runsF_len (by omega) (by omega)) _ _ _ _ _ _ _ _ _ _ _ _ _ _ _ _ _ _ _)).trans (cRepr_int (by omega))
  rintro ε' ⟨a4, rfl⟩
  show Runs _ _ _
  obtain ⟨z', o', h2, hz', ho'⟩ := two_ok h (i := 292) (j := 293) (p := 30) (q := 30) (by decide) (by decide) (by decide) (by decide) (by decide) (by decide) (.im (il ns)) a2 (.im (il (runsF (z + 1) (o + 1)))) a4 .no a6 a7 a8 a9 a10 a11 a12 (.im (.int ((z : Int) + 1))) (.im (.int ((o : Int) + 1))) a15 a16 .no .no .no
  refine runs_sn h2 ?_
  have hs := ways_lc (z := z') (o := o') (by omega) (by omega) (n := z' + o' + 3) (by omega) (mi := iRange1 (xCons (xBin dAdd (xBin dAdd (xV 13) (xV 14)) (xC (.int 1))) xNil)) 13 14 _ _ rfl rfl (ε := [.im (il ns), .im (il ds), a2, .im (il (runsF (z + 1) (o + 1))), a4, .no, a6, a7, a8, a9, a10, a11, a12, .im (.int ((z' : Int) + 1)), .im (.int ((o' : Int) + 1)), a15, a16, .no, .no, .no]) (by
    rw [iRange1_ok (j := (z' : Int) + 1 + ((o' : Int) + 1) + 1) (by walk_at "ev") (by omega) (by omega)]
    rw [show ((z' : Int) + 1 + ((o' : Int) + 1) + 1).toNat = z' + o' + 3 by omega]) (fun j hj => ⟨_, rfl, rfl⟩)
  refine runs_sn (sAs_ok ((xCall_at1 hs).trans (cSum_ints _))) ?_
  rw [sumW_map, fin2 z' (by omega) o' (by omega)]
  change Runs _ [.im (il ns), .im (il ds), a2, .im (il (runsF (z + 1) (o + 1))), a4, .im (.int (ov (z' + o' + 2) (o' + 1))), a6, a7, a8, a9, a10, a11, a12, .im (.int ((z' : Int) + 1)), .im (.int ((o' : Int) + 1)), a15, a16, .no, .no, .no] _
  have hch := choose_ok (n := z' + o' + 2) (k := o' + 1) (by omega) (by omega)
  rw [show ((z' + o' + 2 : Nat) : Int) = (z' : Int) + 1 + ((o' : Int) + 1) by omega, show ((o' + 1 : Nat) : Int) = (o' : Int) + 1 by omega] at hch
  refine runs_seq (runs_if (b := false) ?_ (fun z => by cases z) (fun _ => runs_eq rfl ?_))
  · exact ne_same (d := .int (ov (z' + o' + 2) (o' + 1))) rfl ((xCall_at (ds := [.int ((z' : Int) + 1 + ((o' : Int) + 1)), .int ((o' : Int) + 1)]) (by walk_at "ev")).trans hch) (okd_int _)
  show Runs _ _ _
  have w1 := ways_lc (z := z') (o := o') (by omega) (by omega) (n := 20) (by omega) (mi := iRange1 (xCons (xC (.int 20)) xNil)) 13 14 _ _ rfl rfl (ε := [.im (il ns), .im (il ds), a2, .im (il (runsF (z + 1) (o + 1))), a4, .im (.int (ov (z' + o' + 2) (o' + 1))), a6, a7, a8, a9, a10, a11, a12, .im (.int ((z' : Int) + 1)), .im (.int ((o' : Int) + 1)), a15, a16, .no, .no, .no]) (by
    rw [iRange1_ok (j := 20) (by walk_at "ev") (by decide) (by decide)]
    rfl) (fun j hj => ⟨_, rfl, rfl⟩)
  have w2 := ways_lc (z := o') (o := z') (by omega) (by omega) (n := 20) (by omega) (mi := iRange1 (xCons (xC (.int 20)) xNil)) 14 13 _ _ rfl rfl (ε := [.im (il ns), .im (il ds), a2, .im (il (runsF (z + 1) (o + 1))), a4, .im (.int (ov (z' + o' + 2) (o' + 1))), a6, a7, a8, a9, a10, a11, a12, .im (.int ((z' : Int) + 1)), .im (.int ((o' : Int) + 1)), a15, a16, .no, .no, .no]) (by
    rw [iRange1_ok (j := 20) (by walk_at "ev") (by decide) (by decide)]
    rfl) (fun j hj => ⟨_, rfl, rfl⟩)
  have e : ((List.range 20).map fun j : Nat => waysZ ((o' : Int) + 1) ((z' : Int) + 1) (j : Int)) = (List.range 20).map fun j : Nat => waysZ ((z' : Int) + 1) ((o' : Int) + 1) (j : Int) := List.map_congr_left fun j _ => waysZ_comm _ _ _
  rw [e] at w2
  exact runs_eq (sRt_ok ((xBin_at w1 w2).trans (dEq_same (okd_ints _)))) rfl
end My
set_option Elab.async false
set_option linter.all false
set_option maxRecDepth 100000
set_option maxHeartbeats 4000000
/-! the text's defs are these programs -/
namespace My
open PySem PySem.Spec PyProof.Rows L2 Tw
def topS (i : Nat) : Stmt := PySem.Challenge.pw_triedwares_k31_peaks_and_runs.main.body.getD i (.Pass ⟨0, 0, 0, 0⟩)
abbrev s_check_row : Stmt := topS 8
theorem sc_check_row : FnScope ["row", "k", "one"] ["row"] (defScope s_check_row) := ⟨rfl, rfl, rfl, by decide +kernel, rfl, by decide +kernel, by decide +kernel⟩
abbrev s_ending_of : Stmt := topS 11
theorem sc_ending_of : FnScope ["row", "found", "k", "one"] ["row"] (defScope s_ending_of) := ⟨rfl, rfl, rfl, by decide +kernel, rfl, by decide +kernel, by decide +kernel⟩
abbrev s_ending : Stmt := topS 12
theorem sc_ending : FnScope ["row"] ["row"] (defScope s_ending) := ⟨rfl, rfl, rfl, by decide +kernel, rfl, by decide +kernel, by decide +kernel⟩
abbrev s_peak : Stmt := topS 13
theorem sc_peak : FnScope ["row", "most", "first", "whole", "last"] ["row"] (defScope s_peak) := ⟨rfl, rfl, rfl, by decide +kernel, rfl, by decide +kernel, by decide +kernel⟩
abbrev s_runs : Stmt := topS 14
theorem sc_runs : FnScope ["row", "k", "one", "two"] ["row"] (defScope s_runs) := ⟨rfl, rfl, rfl, by decide +kernel, rfl, by decide +kernel, by decide +kernel⟩
abbrev s_over : Stmt := topS 15
theorem sc_over : FnScope ["n", "k", "found", "step"] ["n", "k"] (defScope s_over) := ⟨rfl, rfl, rfl, by decide +kernel, rfl, by decide +kernel, by decide +kernel⟩
abbrev s_ways : Stmt := topS 16
theorem sc_ways : FnScope ["zeros", "ones", "number", "count", "half"] ["zeros", "ones", "number"] (defScope s_ways) := ⟨rfl, rfl, rfl, by decide +kernel, rfl, by decide +kernel, by decide +kernel⟩
abbrev s__law_draws : Stmt := topS 18
theorem sc__law_draws : FnScope ["script", "draws", "k", "rest", "turn", "mixed"] ["script"] (defScope s__law_draws) := ⟨rfl, rfl, rfl, by decide +kernel, rfl, by decide +kernel, by decide +kernel⟩
abbrev s__law_mix : Stmt := topS 19
theorem sc__law_mix : FnScope ["draws", "k", "many", "value"] ["draws", "k", "many"] (defScope s__law_mix) := ⟨rfl, rfl, rfl, by decide +kernel, rfl, by decide +kernel, by decide +kernel⟩
abbrev s__law_row : Stmt := topS 20
theorem sc__law_row : FnScope ["draws", "k", "most", "wide", "level", "found", "t"] ["draws", "k", "most"] (defScope s__law_row) := ⟨rfl, rfl, rfl, by decide +kernel, rfl, by decide +kernel, by decide +kernel⟩
abbrev s__law_choose : Stmt := topS 21
theorem sc__law_choose : FnScope ["n", "k", "found", "step"] ["n", "k"] (defScope s__law_choose) := ⟨rfl, rfl, rfl, by decide +kernel, rfl, by decide +kernel, by decide +kernel⟩
abbrev s__law_rows : Stmt := topS 22
theorem sc__law_rows : FnScope ["zeros", "ones", "found", "row"] ["zeros", "ones"] (defScope s__law_rows) := ⟨rfl, rfl, rfl, by decide +kernel, rfl, by decide +kernel, by decide +kernel⟩
abbrev s__law_runs : Stmt := topS 23
theorem sc__law_runs : FnScope ["row", "t"] ["row"] (defScope s__law_runs) := ⟨rfl, rfl, rfl, by decide +kernel, rfl, by decide +kernel, by decide +kernel⟩
abbrev s_law : Stmt := topS 24
theorem sc_law : FnScope ["script", "draws", "turn", "rows", "number", "whole", "row", "kept", "sums", "first", "due", "told", "bits", "zeros", "ones", "most", "last", "k", "t", "one"] ["script"] (defScope s_law) := ⟨rfl, rfl, rfl, by decide +kernel, rfl, by decide +kernel, by decide +kernel⟩
/-- what the top has left -/
structure Top (K : PySem.W.Frag) (mg : Str → Option Value) : Type where
  a_check_row : Addr
  d_check_row : FuncData
  F_check_row : Fun K "check_row" "check_row" s_check_row a_check_row d_check_row
  g_check_row : mg "check_row" = some (.ref a_check_row)
  b_check_row : Binds K d_check_row ["row"] []
  a_ending_of : Addr
  d_ending_of : FuncData
  F_ending_of : Fun K "ending_of" "ending_of" s_ending_of a_ending_of d_ending_of
  g_ending_of : mg "ending_of" = some (.ref a_ending_of)
  b_ending_of : Binds K d_ending_of ["row"] []
  a_ending : Addr
  d_ending : FuncData
  F_ending : Fun K "ending" "ending" s_ending a_ending d_ending
  g_ending : mg "ending" = some (.ref a_ending)
  b_ending : Binds K d_ending ["row"] []
  a_peak : Addr
  d_peak : FuncData
  F_peak : Fun K "peak" "peak" s_peak a_peak d_peak
  g_peak : mg "peak" = some (.ref a_peak)
  b_peak : Binds K d_peak ["row"] []
  a_runs : Addr
  d_runs : FuncData
  F_runs : Fun K "runs" "runs" s_runs a_runs d_runs
  g_runs : mg "runs" = some (.ref a_runs)
  b_runs : Binds K d_runs ["row"] []
  a_over : Addr
  d_over : FuncData
  F_over : Fun K "over" "over" s_over a_over d_over
  g_over : mg "over" = some (.ref a_over)
  b_over : Binds K d_over ["n", "k"] []
  a_ways : Addr
  d_ways : FuncData
  F_ways : Fun K "ways" "ways" s_ways a_ways d_ways
  g_ways : mg "ways" = some (.ref a_ways)
  b_ways : Binds K d_ways ["zeros", "ones", "number"] []
  a__law_draws : Addr
  d__law_draws : FuncData
  F__law_draws : Fun K "_law_draws" "_law_draws" s__law_draws a__law_draws d__law_draws
  g__law_draws : mg "_law_draws" = some (.ref a__law_draws)
  b__law_draws : Binds K d__law_draws ["script"] []
  a__law_mix : Addr
  d__law_mix : FuncData
  F__law_mix : Fun K "_law_mix" "_law_mix" s__law_mix a__law_mix d__law_mix
  g__law_mix : mg "_law_mix" = some (.ref a__law_mix)
  b__law_mix : Binds K d__law_mix ["draws", "k", "many"] []
  a__law_row : Addr
  d__law_row : FuncData
  F__law_row : Fun K "_law_row" "_law_row" s__law_row a__law_row d__law_row
  g__law_row : mg "_law_row" = some (.ref a__law_row)
  b__law_row : Binds K d__law_row ["draws", "k", "most"] []
  a__law_choose : Addr
  d__law_choose : FuncData
  F__law_choose : Fun K "_law_choose" "_law_choose" s__law_choose a__law_choose d__law_choose
  g__law_choose : mg "_law_choose" = some (.ref a__law_choose)
  b__law_choose : Binds K d__law_choose ["n", "k"] []
  a__law_rows : Addr
  d__law_rows : FuncData
  F__law_rows : Fun K "_law_rows" "_law_rows" s__law_rows a__law_rows d__law_rows
  g__law_rows : mg "_law_rows" = some (.ref a__law_rows)
  b__law_rows : Binds K d__law_rows ["zeros", "ones"] []
  a__law_runs : Addr
  d__law_runs : FuncData
  F__law_runs : Fun K "_law_runs" "_law_runs" s__law_runs a__law_runs d__law_runs
  g__law_runs : mg "_law_runs" = some (.ref a__law_runs)
  b__law_runs : Binds K d__law_runs ["row"] []
  a_law : Addr
  d_law : FuncData
  F_law : Fun K "law" "law" s_law a_law d_law
  g_law : mg "law" = some (.ref a_law)
  b_law : Binds K d_law ["script"] []
  t_MOST_COUNT : Tok
  c_MOST_COUNT : mg "MOST_COUNT" = some (.int 30 t_MOST_COUNT)
  t_MOST_ENTRY : Tok
  c_MOST_ENTRY : mg "MOST_ENTRY" = some (.int 100 t_MOST_ENTRY)
  t_MOST_LENGTH : Tok
  c_MOST_LENGTH : mg "MOST_LENGTH" = some (.int 24 t_MOST_LENGTH)
  z_abs : mg "abs" = none
  z_enumerate : mg "enumerate" = none
  z_int : mg "int" = none
  z_len : mg "len" = none
  z_max : mg "max" = none
  z_min : mg "min" = none
  z_range : mg "range" = none
  z_repr : mg "repr" = none
  z_sum : mg "sum" = none
  z_zip : mg "zip" = none
section
variable {P : Program} {w : World} {K : PySem.W.Frag} {mg : Str → Option Value} {base : Heap}
theorem ok_check_row (T : Top K mg) : FnG P w K mg base 1 T.a_check_row T.d_check_row ["row"] (spF K f_check_row) :=
  def_F T.F_check_row sc_check_row rfl (by decide) fun cdv A outer s H E M hr hG =>
  (ss_c (ps_i (pt_no (pt_ch (o_le (units_of hr)) (o_le (units_of hr)) pk_int (pe_bi k_len T.z_len (by decide +kernel) (pa_c (pe_v (pv 0)) pa_n)) (pk_gi T.c_MOST_LENGTH)))
  (ss_1 ps_no)
  ss_nil)
  (ss_1 (ps_fr PassesOwn.never rfl (pi_e T.z_enumerate (pa_c (pe_v (pv 0)) pa_n)) (pg_tup (n := 2) rfl (pgs_cons (pg_name (i := 1) sc_check_row.nd rfl (by first | exact Or.inl rfl | exact Or.inr rfl)) (pgs_cons (pg_name (i := 2) sc_check_row.nd rfl (by first | exact Or.inl rfl | exact Or.inr rfl)) pgs_nil))) (gok_t (gsok_c (gok_n 1) (gsok_c (gok_n 2) gsok_0)))
  (ss_1 (ps_i (pt_no (pt_ch (o_le (units_of hr)) (o_le (units_of hr)) (pe_un1 o_neg (pk_gi T.c_MOST_ENTRY)) (pe_v (pv 2)) (pk_gi T.c_MOST_ENTRY)))
    (ss_1 ps_no)
    ss_nil)))))
theorem ok_ending_of (T : Top K mg) : FnG P w K mg base 1 T.a_ending_of T.d_ending_of ["row"] (spN K f_ending_of) :=
  def_N T.F_ending_of sc_ending_of rfl (by decide) (by unfold m_ending_of; repeat first | exact nnx_rt | exact nnx_rtM | exact nnx_no | refine nnx_seq ?_ | refine nnx_if ?_ ?_) fun cdv A outer s H E M hr hG =>
  (ss_c (ps_asM (i := 1) sc_ending_of.nd (pe_li pa_n (hl := xNil_len)))
  (ss_c (ps_fr PassesOwn.never rfl (pi_e T.z_enumerate (pa_c (pe_v (pv 0)) pa_n)) (pg_tup (n := 2) rfl (pgs_cons (pg_name (i := 2) sc_ending_of.nd rfl (by first | exact Or.inl rfl | exact Or.inr rfl)) (pgs_cons (pg_name (i := 3) sc_ending_of.nd rfl (by first | exact Or.inl rfl | exact Or.inr rfl)) pgs_nil))) (gok_t (gsok_c (gok_n 2) (gsok_c (gok_n 3) gsok_0)))
  (ss_1 (ps_ap (i := 1) (ps_expr (pe_bm PySem.F.plainAttrs_list PySem.F.slot_list_append PySem.F.type_list_append mt_append (pv 1) (pa_cons (pe_ife (pt_cp (o_gt (units_of hr)) (pe_v (pv 2)) pk_int) (pe_bin o_add (pe_v (pv 3)) (pe_bi (k_max rfl (units_of hr)) T.z_max (by decide +kernel) (pa_c pk_int (pa_c (pe_im (pv 1) (pe_bin o_sub (pe_v (pv 2)) pk_int)) pa_n)))) (pe_v (pv 3))) pa_nil))))))
  (ss_1 (ps_rtM (pv 1)))))
theorem ok_ending (T : Top K mg) (G_check_row : FnG P w K mg base 1 T.a_check_row T.d_check_row ["row"] (spF K f_check_row)) (G_ending_of : FnG P w K mg base 1 T.a_ending_of T.d_ending_of ["row"] (spN K f_ending_of)) : FnG P w K mg base 2 T.a_ending T.d_ending ["row"] (spN K f_ending) :=
  def_N T.F_ending sc_ending rfl (by decide) (by unfold m_ending; repeat first | exact nnx_rt | exact nnx_rtM | exact nnx_no | refine nnx_seq ?_ | refine nnx_if ?_ ?_) fun cdv A outer s H E M hr hG =>
  (ss_c (ps_dr (pf G_check_row (hr.mono (by decide)) hG T.g_check_row T.F_check_row.kp T.b_check_row (pa_c (pe_v (pv 0)) pa_n)))
  (ss_1 (ps_rtL rfl (pfL G_ending_of (hr.mono (by decide)) hG T.g_ending_of T.F_ending_of.kp T.b_ending_of (pa_c (pe_v (pv 0)) pa_n)))))
theorem ok_peak (T : Top K mg) (G_check_row : FnG P w K mg base 1 T.a_check_row T.d_check_row ["row"] (spF K f_check_row)) (G_ending_of : FnG P w K mg base 1 T.a_ending_of T.d_ending_of ["row"] (spN K f_ending_of)) : FnG P w K mg base 2 T.a_peak T.d_peak ["row"] (spF K f_peak) :=
  def_F T.F_peak sc_peak rfl (by decide) fun cdv A outer s H E M hr hG =>
  (ss_c (ps_dr (pf G_check_row (hr.mono (by decide)) hG T.g_check_row T.F_check_row.kp T.b_check_row (pa_c (pe_v (pv 0)) pa_n)))
  (ss_c (ps_as (i := 1) sc_peak.nd (pe_bi (k_max rfl (units_of hr)) T.z_max (by decide +kernel) (pa_c (PE.lE (pfL G_ending_of (hr.mono (by decide)) hG T.g_ending_of T.F_ending_of.kp T.b_ending_of (pa_c (pe_v (pv 0)) pa_n))) pa_n)))
  (ss_c (ps_fr PassesOwn.never rfl (pi_r1 T.z_range (pa_c (pe_bi k_len T.z_len (by decide +kernel) (pa_c (pe_v (pv 0)) pa_n)) pa_n)) (pg_name (i := 2) sc_peak.nd rfl (by first | exact Or.inl rfl | exact Or.inr rfl)) (gok_n 2)
  (ss_c (ps_as (i := 3) sc_peak.nd pk_int)
    (ss_1 (ps_fr PassesOwn.never rfl (pi_r2 T.z_range (pa_c (pe_v (pv 2)) (pa_c (pe_bi k_len T.z_len (by decide +kernel) (pa_c (pe_v (pv 0)) pa_n)) pa_n))) (pg_name (i := 4) sc_peak.nd rfl (by first | exact Or.inl rfl | exact Or.inr rfl)) (gok_n 4)
    (ss_c (ps_as (i := 3) sc_peak.nd (pe_bin o_add (pe_v (pv 3)) (pe_i (pe_v (pv 0)) (pe_v (pv 4)))))
      (ss_1 (ps_i (pt_cp (o_eq (units_of hr)) (pe_v (pv 3)) (pe_v (pv 1)))
      (ss_1 (ps_rt rfl (pe_tu (pa_c (pe_v (pv 1)) (pa_c (pe_v (pv 2)) (pa_c (pe_v (pv 4)) pa_n))) (hl := (xCons_len (xCons_len (xCons_len xNil_len)))))))
      ss_nil)))))))
  (ss_1 (ps_rt rfl pk_non)))))
theorem ok_runs (T : Top K mg) (G_check_row : FnG P w K mg base 1 T.a_check_row T.d_check_row ["row"] (spF K f_check_row)) : FnG P w K mg base 2 T.a_runs T.d_runs ["row"] (spF K f_runs) :=
  def_F T.F_runs sc_runs rfl (by decide) fun cdv A outer s H E M hr hG =>
  (ss_c (ps_dr (pf G_check_row (hr.mono (by decide)) hG T.g_check_row T.F_check_row.kp T.b_check_row (pa_c (pe_v (pv 0)) pa_n)))
  (ss_c (ps_fr PassesOwn.never rfl (pi_e T.z_enumerate (pa_c (pe_v (pv 0)) pa_n)) (pg_tup (n := 2) rfl (pgs_cons (pg_name (i := 1) sc_runs.nd rfl (by first | exact Or.inl rfl | exact Or.inr rfl)) (pgs_cons (pg_name (i := 2) sc_runs.nd rfl (by first | exact Or.inl rfl | exact Or.inr rfl)) pgs_nil))) (gok_t (gsok_c (gok_n 1) (gsok_c (gok_n 2) gsok_0)))
  (ss_1 (ps_i (pt_cp (o_notin (units_of hr)) (pe_v (pv 2)) (pe_tu (pa_c pk_int (pa_c pk_int pa_n)) (hl := (xCons_len (xCons_len xNil_len)))))
    (ss_1 ps_no)
    ss_nil)))
  (ss_1 (ps_rt rfl (pe_bin o_add pk_int (pe_bi (k_sum rfl) T.z_sum (by decide +kernel) (pa_c (PE.lE (pe_co (own := [("one", 2), ("two", 3)]) rfl sc_runs.nd (pi_z T.z_zip (pa_c (pe_v (pv 0)) (pa_c (PE.lE (pe_sl (pe_v (pv 0)) (po_s pk_int) po_n)) pa_n))) (blkOk_by (N := ["row", "k", "one", "two"]) (sc := defScope s_runs) (by decide +kernel)) (gok_t (gsok_c (gok_n 2) (gsok_c (gok_n 3) gsok_0))) (by decide) (fun _ _ _ _ _ => (pg_tup (n := 2) rfl (pgs_cons (pg_name (i := 2) sc_runs.nd rfl (by first | exact Or.inl rfl | exact Or.inr rfl)) (pgs_cons (pg_name (i := 3) sc_runs.nd rfl (by first | exact Or.inl rfl | exact Or.inr rfl)) pgs_nil)))) (fun _ _ _ _ _ => pts_y) (fun _ _ _ _ _ => (pe_ty k_int T.z_int (by decide +kernel) (pa_c (pe_cp (o_ne (units_of hr)) (pe_v (pv 2)) (pe_v (pv 3))) pa_n))))) pa_n)))))))
theorem ok_over (T : Top K mg) : FnG P w K mg base 1 T.a_over T.d_over ["n", "k"] (spF K f_over) :=
  def_F T.F_over sc_over rfl (by decide) fun cdv A outer s H E M hr hG =>
  (ss_c (ps_i (pt_no (pt_ch (o_le (units_of hr)) (o_le (units_of hr)) pk_int (pe_v (pv 1)) (pe_v (pv 0))))
  (ss_1 (ps_rt rfl pk_int))
  ss_nil)
  (ss_c (ps_as (i := 2) sc_over.nd pk_int)
  (ss_c (ps_fr PassesOwn.never rfl (pi_r1 T.z_range (pa_c (pe_v (pv 1)) pa_n)) (pg_name (i := 3) sc_over.nd rfl (by first | exact Or.inl rfl | exact Or.inr rfl)) (gok_n 3)
  (ss_1 (ps_as (i := 2) sc_over.nd (pe_bin o_div (pe_bin o_mul (pe_v (pv 2)) (pe_bin o_sub (pe_v (pv 0)) (pe_v (pv 3)))) (pe_bin o_add (pe_v (pv 3)) pk_int)))))
  (ss_1 (ps_rt rfl (pe_v (pv 2)))))))
theorem ok_ways (T : Top K mg) (G_over : FnG P w K mg base 1 T.a_over T.d_over ["n", "k"] (spF K f_over)) : FnG P w K mg base 2 T.a_ways T.d_ways ["zeros", "ones", "number"] (spF K f_ways) :=
  def_F T.F_ways sc_ways rfl (by decide) fun cdv A outer s H E M hr hG =>
  (ss_c (ps_fr PassesOwn.never rfl (pi_l (pe_tu (pa_c (pe_v (pv 0)) (pa_c (pe_v (pv 1)) pa_n)) (hl := (xCons_len (xCons_len xNil_len))))) (pg_name (i := 3) sc_ways.nd rfl (by first | exact Or.inl rfl | exact Or.inr rfl)) (gok_n 3)
  (ss_1 (ps_i (pt_no (pt_ch (o_le (units_of hr)) (o_le (units_of hr)) pk_int (pe_v (pv 3)) (pk_gi T.c_MOST_COUNT)))
    (ss_1 ps_no)
    ss_nil)))
  (ss_c (ps_i (pt_cp (o_lt (units_of hr)) (pe_v (pv 2)) pk_int)
  (ss_1 (ps_rt rfl pk_int))
  ss_nil)
  (ss_c (ps_as (i := 4) sc_ways.nd (pe_bin o_div (pe_v (pv 2)) pk_int))
  (ss_c (ps_i (pt_cp (o_eq (units_of hr)) (pe_bin o_mod (pe_v (pv 2)) pk_int) pk_int)
  (ss_1 (ps_rt rfl (pe_bin o_mul (pe_bin o_mul pk_int (pf G_over (hr.mono (by decide)) hG T.g_over T.F_over.kp T.b_over (pa_c (pe_bin o_sub (pe_v (pv 0)) pk_int) (pa_c (pe_bin o_sub (pe_v (pv 4)) pk_int) pa_n)))) (pf G_over (hr.mono (by decide)) hG T.g_over T.F_over.kp T.b_over (pa_c (pe_bin o_sub (pe_v (pv 1)) pk_int) (pa_c (pe_bin o_sub (pe_v (pv 4)) pk_int) pa_n))))))
  ss_nil)
  (ss_1 (ps_rt rfl (pe_bin o_add (pe_bin o_mul (pf G_over (hr.mono (by decide)) hG T.g_over T.F_over.kp T.b_over (pa_c (pe_bin o_sub (pe_v (pv 0)) pk_int) (pa_c (pe_v (pv 4)) pa_n))) (pf G_over (hr.mono (by decide)) hG T.g_over T.F_over.kp T.b_over (pa_c (pe_bin o_sub (pe_v (pv 1)) pk_int) (pa_c (pe_bin o_sub (pe_v (pv 4)) pk_int) pa_n)))) (pe_bin o_mul (pf G_over (hr.mono (by decide)) hG T.g_over T.F_over.kp T.b_over (pa_c (pe_bin o_sub (pe_v (pv 0)) pk_int) (pa_c (pe_bin o_sub (pe_v (pv 4)) pk_int) pa_n))) (pf G_over (hr.mono (by decide)) hG T.g_over T.F_over.kp T.b_over (pa_c (pe_bin o_sub (pe_v (pv 1)) pk_int) (pa_c (pe_v (pv 4)) pa_n)))))))))))
theorem ok__law_draws (T : Top K mg) : FnG P w K mg base 1 T.a__law_draws T.d__law_draws ["script"] (spN K f__law_draws) :=
  def_N T.F__law_draws sc__law_draws rfl (by decide) (by unfold m__law_draws; repeat first | exact nnx_rt | exact nnx_rtM | exact nnx_no | refine nnx_seq ?_ | refine nnx_if ?_ ?_) fun cdv A outer s H E M hr hG =>
  (ss_c (ps_asM (i := 1) sc__law_draws.nd (pe_li pa_n (hl := xNil_len)))
  (ss_c (ps_fr PassesOwn.never rfl (pi_r1 T.z_range (pa_c (pe_bi (k_min rfl (units_of hr)) T.z_min (by decide +kernel) (pa_c pk_int (pa_c (pe_bi k_len T.z_len (by decide +kernel) (pa_c (pe_v (pv 0)) pa_n)) pa_n))) pa_n)) (pg_name (i := 2) sc__law_draws.nd rfl (by first | exact Or.inl rfl | exact Or.inr rfl)) (gok_n 2)
  (ss_c (ps_as (i := 3) sc__law_draws.nd (pe_bi k_abs T.z_abs (by decide +kernel) (pa_c (pe_i (pe_v (pv 0)) (pe_v (pv 2))) pa_n)))
    (ss_1 (ps_i (pt_cp (o_ge (units_of hr)) (pe_v (pv 3)) (pe_bin o_pow pk_int pk_int))
    (ss_1 (ps_fr PassesOwn.never rfl (pi_r1 T.z_range (pa_c pk_int pa_n)) (pg_name (i := 4) sc__law_draws.nd rfl (by first | exact Or.inl rfl | exact Or.inr rfl)) (gok_n 4)
      (ss_1 (ps_i (pt_cp (o_gt (units_of hr)) (pe_v (pv 3)) pk_int)
        (ss_c (ps_ap (i := 1) (ps_expr (pe_bm PySem.F.plainAttrs_list PySem.F.slot_list_append PySem.F.type_list_append mt_append (pv 1) (pa_cons (pe_bin o_mod (pe_ty k_int T.z_int (by decide +kernel) (pa_c (pe_v (pv 3)) pa_n)) pk_int) pa_nil))))
          (ss_1 (ps_as (i := 3) sc__law_draws.nd (pe_bin o_div (pe_v (pv 3)) pk_int))))
        ss_nil))))
    (ss_c (ps_as (i := 5) sc__law_draws.nd (pe_bin o_mod (pe_ty k_int T.z_int (by decide +kernel) (pa_c (pe_bin o_add (pe_bin o_mul (pe_v (pv 3)) pk_int) (pe_bin o_mul (pe_bin o_add (pe_v (pv 2)) pk_int) pk_int)) pa_n)) pk_int))
      (ss_c (ps_as (i := 5) sc__law_draws.nd (pe_bin o_mod (pe_ty k_int T.z_int (by decide +kernel) (pa_c (pe_bin o_add (pe_bin o_add (pe_bin o_mul (pe_v (pv 5)) pk_int) (pe_bin o_mul pk_int (pe_v (pv 2)))) pk_int) pa_n)) pk_int))
      (ss_c (ps_ap (i := 1) (ps_expr (pe_bm PySem.F.plainAttrs_list PySem.F.slot_list_append PySem.F.type_list_append mt_append (pv 1) (pa_cons (pe_bin o_mod (pe_ty k_int T.z_int (by decide +kernel) (pa_c (pe_v (pv 5)) pa_n)) pk_int) pa_nil))))
      (ss_1 (ps_ap (i := 1) (ps_expr (pe_bm PySem.F.plainAttrs_list PySem.F.slot_list_append PySem.F.type_list_append mt_append (pv 1) (pa_cons (pe_bin o_mod (pe_ty k_int T.z_int (by decide +kernel) (pa_c (pe_bin o_div (pe_v (pv 5)) pk_int) pa_n)) pk_int) pa_nil))))))))))))
  (ss_1 (ps_rtM (pv 1)))))
theorem ok__law_mix (T : Top K mg) : FnG P w K mg base 1 T.a__law_mix T.d__law_mix ["draws", "k", "many"] (spF K f__law_mix) :=
  def_F T.F__law_mix sc__law_mix rfl (by decide) fun cdv A outer s H E M hr hG =>
  (ss_c (ps_as (i := 3) sc__law_mix.nd pk_int)
  (ss_c (ps_i (pt_cp (o_gt (units_of hr)) (pe_bi k_len T.z_len (by decide +kernel) (pa_c (pe_v (pv 0)) pa_n)) pk_int)
  (ss_1 (ps_as (i := 3) sc__law_mix.nd (pe_i (pe_v (pv 0)) (pe_bin o_mod (pe_ty k_int T.z_int (by decide +kernel) (pa_c (pe_v (pv 1)) pa_n)) (pe_bi k_len T.z_len (by decide +kernel) (pa_c (pe_v (pv 0)) pa_n))))))
  ss_nil)
  (ss_c (ps_i (pt_cp (o_lt (units_of hr)) (pe_v (pv 1)) (pe_bi k_len T.z_len (by decide +kernel) (pa_c (pe_v (pv 0)) pa_n)))
  (ss_1 (ps_rt rfl (pe_bin o_mod (pe_ty k_int T.z_int (by decide +kernel) (pa_c (pe_v (pv 3)) pa_n)) (pe_v (pv 2)))))
  ss_nil)
  (ss_1 (ps_rt rfl (pe_bin o_mod (pe_ty k_int T.z_int (by decide +kernel) (pa_c (pe_bin o_div (pe_ty k_int T.z_int (by decide +kernel) (pa_c (pe_bin o_add (pe_bin o_mul (pe_v (pv 3)) pk_int) (pe_bin o_mul (pe_v (pv 1)) pk_int)) pa_n)) pk_int) pa_n)) (pe_v (pv 2))))))))
theorem ok__law_row (T : Top K mg) (G__law_mix : FnG P w K mg base 1 T.a__law_mix T.d__law_mix ["draws", "k", "many"] (spF K f__law_mix)) : FnG P w K mg base 2 T.a__law_row T.d__law_row ["draws", "k", "most"] (spN K f__law_row) :=
  def_N T.F__law_row sc__law_row rfl (by decide) (by unfold m__law_row; repeat first | exact nnx_rt | exact nnx_rtM | exact nnx_no | refine nnx_seq ?_ | refine nnx_if ?_ ?_) fun cdv A outer s H E M hr hG =>
  (ss_c (ps_as (i := 3) sc__law_row.nd (pe_i (PE.lE (pe_li (pa_c pk_int (pa_c pk_int (pa_c pk_int pa_n))) (hl := (xCons_len (xCons_len (xCons_len xNil_len)))))) (pf G__law_mix (hr.mono (by decide)) hG T.g__law_mix T.F__law_mix.kp T.b__law_mix (pa_c (pe_v (pv 0)) (pa_c (pe_v (pv 1)) (pa_c pk_int pa_n))))))
  (ss_c (ps_as (i := 4) sc__law_row.nd (pe_bin o_sub (pf G__law_mix (hr.mono (by decide)) hG T.g__law_mix T.F__law_mix.kp T.b__law_mix (pa_c (pe_v (pv 0)) (pa_c (pe_bin o_add (pe_v (pv 1)) pk_int) (pa_c (pe_bin o_add (pe_v (pv 3)) pk_int) pa_n)))) (pe_bin o_div (pe_v (pv 3)) pk_int)))
  (ss_c (ps_asM (i := 5) sc__law_row.nd (pe_li pa_n (hl := xNil_len)))
  (ss_c (ps_fr PassesOwn.never rfl (pi_r1 T.z_range (pa_c (pe_bin o_add pk_int (pf G__law_mix (hr.mono (by decide)) hG T.g__law_mix T.F__law_mix.kp T.b__law_mix (pa_c (pe_v (pv 0)) (pa_c (pe_bin o_add (pe_v (pv 1)) pk_int) (pa_c (pe_v (pv 2)) pa_n))))) pa_n)) (pg_name (i := 6) sc__law_row.nd rfl (by first | exact Or.inl rfl | exact Or.inr rfl)) (gok_n 6)
  (ss_c (ps_i (pt_cp (o_eq (units_of hr)) (pf G__law_mix (hr.mono (by decide)) hG T.g__law_mix T.F__law_mix.kp T.b__law_mix (pa_c (pe_v (pv 0)) (pa_c (pe_bin o_add (pe_bin o_add (pe_v (pv 1)) pk_int) (pe_bin o_mul pk_int (pe_v (pv 6)))) (pa_c pk_int pa_n)))) pk_int)
    (ss_1 (ps_as (i := 4) sc__law_row.nd (pe_bin o_sub (pf G__law_mix (hr.mono (by decide)) hG T.g__law_mix T.F__law_mix.kp T.b__law_mix (pa_c (pe_v (pv 0)) (pa_c (pe_bin o_add (pe_bin o_add (pe_v (pv 1)) pk_int) (pe_bin o_mul pk_int (pe_v (pv 6)))) (pa_c (pe_bin o_add (pe_v (pv 3)) pk_int) pa_n)))) (pe_bin o_div (pe_v (pv 3)) pk_int))))
    ss_nil)
    (ss_1 (ps_ap (i := 5) (ps_expr (pe_bm PySem.F.plainAttrs_list PySem.F.slot_list_append PySem.F.type_list_append mt_append (pv 5) (pa_cons (pe_bi (k_max rfl (units_of hr)) T.z_max (by decide +kernel) (pa_c (pe_un1 o_neg pk_int) (pa_c (pe_bi (k_min rfl (units_of hr)) T.z_min (by decide +kernel) (pa_c pk_int (pa_c (pe_bin o_sub (pe_bin o_add (pe_v (pv 4)) (pf G__law_mix (hr.mono (by decide)) hG T.g__law_mix T.F__law_mix.kp T.b__law_mix (pa_c (pe_v (pv 0)) (pa_c (pe_bin o_add (pe_bin o_add (pe_v (pv 1)) pk_int) (pe_bin o_mul pk_int (pe_v (pv 6)))) (pa_c pk_int pa_n))))) pk_int) pa_n))) pa_n))) pa_nil)))))))
  (ss_1 (ps_rtM (pv 5)))))))
theorem ok__law_choose (T : Top K mg) : FnG P w K mg base 1 T.a__law_choose T.d__law_choose ["n", "k"] (spF K f__law_choose) :=
  def_F T.F__law_choose sc__law_choose rfl (by decide) fun cdv A outer s H E M hr hG =>
  (ss_c (ps_as (i := 2) sc__law_choose.nd pk_int)
  (ss_c (ps_fr PassesOwn.never rfl (pi_r1 T.z_range (pa_c (pe_v (pv 1)) pa_n)) (pg_name (i := 3) sc__law_choose.nd rfl (by first | exact Or.inl rfl | exact Or.inr rfl)) (gok_n 3)
  (ss_1 (ps_as (i := 2) sc__law_choose.nd (pe_bin o_div (pe_bin o_mul (pe_v (pv 2)) (pe_bin o_sub (pe_v (pv 0)) (pe_v (pv 3)))) (pe_bin o_add (pe_v (pv 3)) pk_int)))))
  (ss_1 (ps_rt rfl (pe_v (pv 2))))))
theorem okr__law_rows (T : Top K mg) : ∀ n : Nat, FnG P w K mg base (0 + n) T.a__law_rows T.d__law_rows ["zeros", "ones"] (spF K (r__law_rows n))
  | 0 => fn_bad
  | n + 1 => by
    have G_self : FnG P w K mg base (0 + n) T.a__law_rows T.d__law_rows ["zeros", "ones"] (spF K (r__law_rows n)) := okr__law_rows T n
    exact def_F T.F__law_rows sc__law_rows rfl (by decide) fun cdv A outer s H E M hr hG =>
  (ss_c (ps_i (pt_cp (o_eq (units_of hr)) (pe_bin o_add (pe_v (pv 0)) (pe_v (pv 1))) pk_int)
  (ss_1 (ps_rt rfl (PE.lE (pe_li (pa_c (PE.lE (pe_li pa_n (hl := xNil_len))) pa_n) (hl := (xCons_len xNil_len))))))
  ss_nil)
  (ss_c (ps_as (i := 2) sc__law_rows.nd (PE.lE (pe_li pa_n (hl := xNil_len))))
  (ss_c (ps_i (pt_cp (o_gt (units_of hr)) (pe_v (pv 0)) pk_int)
  (ss_1 (ps_as (i := 2) sc__law_rows.nd (PE.lE (pe_binL o_cat (pe_v (pv 2)) (PE.lE (pe_co (own := [("row", 3)]) rfl sc__law_rows.nd (pi_l (pf G_self hr hG T.g__law_rows T.F__law_rows.kp T.b__law_rows (pa_c (pe_bin o_sub (pe_v (pv 0)) pk_int) (pa_c (pe_v (pv 1)) pa_n)))) (blkOk_by (N := ["zeros", "ones", "found", "row"]) (sc := defScope s__law_rows) (by decide +kernel)) (gok_n 3) (by decide) (fun _ _ _ _ _ => (pg_name (i := 3) sc__law_rows.nd rfl (by first | exact Or.inl rfl | exact Or.inr rfl))) (fun _ _ _ _ _ => pts_y) (fun _ _ _ _ _ => (PE.lE (pe_binL o_cat (PE.lE (pe_li (pa_c pk_int pa_n) (hl := (xCons_len xNil_len)))) (pe_v (pv 3)))))))))))
  ss_nil)
  (ss_c (ps_i (pt_cp (o_gt (units_of hr)) (pe_v (pv 1)) pk_int)
  (ss_1 (ps_as (i := 2) sc__law_rows.nd (PE.lE (pe_binL o_cat (pe_v (pv 2)) (PE.lE (pe_co (own := [("row", 3)]) rfl sc__law_rows.nd (pi_l (pf G_self hr hG T.g__law_rows T.F__law_rows.kp T.b__law_rows (pa_c (pe_v (pv 0)) (pa_c (pe_bin o_sub (pe_v (pv 1)) pk_int) pa_n)))) (blkOk_by (N := ["zeros", "ones", "found", "row"]) (sc := defScope s__law_rows) (by decide +kernel)) (gok_n 3) (by decide) (fun _ _ _ _ _ => (pg_name (i := 3) sc__law_rows.nd rfl (by first | exact Or.inl rfl | exact Or.inr rfl))) (fun _ _ _ _ _ => pts_y) (fun _ _ _ _ _ => (PE.lE (pe_binL o_cat (PE.lE (pe_li (pa_c pk_int pa_n) (hl := (xCons_len xNil_len)))) (pe_v (pv 3)))))))))))
  ss_nil)
  (ss_1 (ps_rt rfl (pe_v (pv 2))))))))
theorem ok__law_rows (T : Top K mg) : FnG P w K mg base 40 T.a__law_rows T.d__law_rows ["zeros", "ones"] (spF K f__law_rows) := okr__law_rows T 40
theorem ok__law_runs (T : Top K mg) : FnG P w K mg base 1 T.a__law_runs T.d__law_runs ["row"] (spF K f__law_runs) :=
  def_F T.F__law_runs sc__law_runs rfl (by decide) fun cdv A outer s H E M hr hG =>
  (ss_1 (ps_rt rfl (pe_bin o_add pk_int (pe_bi k_len T.z_len (by decide +kernel) (pa_c (PE.lE (pe_co (own := [("t", 1)]) rfl sc__law_runs.nd (pi_r2 T.z_range (pa_c pk_int (pa_c (pe_bi k_len T.z_len (by decide +kernel) (pa_c (pe_v (pv 0)) pa_n)) pa_n))) (blkOk_by (N := ["row", "t"]) (sc := defScope s__law_runs) (by decide +kernel)) (gok_n 1) (by decide) (fun _ _ _ _ _ => (pg_name (i := 1) sc__law_runs.nd rfl (by first | exact Or.inl rfl | exact Or.inr rfl))) (fun _ _ _ _ _ => (pts_one (pt_cp (o_ne (units_of hr)) (pe_i (pe_v (pv 0)) (pe_v (pv 1))) (pe_i (pe_v (pv 0)) (pe_bin o_sub (pe_v (pv 1)) pk_int))))) (fun _ _ _ _ _ => (pe_v (pv 1))))) pa_n)))))
theorem ok_law (T : Top K mg) (G__law_draws : FnG P w K mg base 1 T.a__law_draws T.d__law_draws ["script"] (spN K f__law_draws)) (G__law_row : FnG P w K mg base 2 T.a__law_row T.d__law_row ["draws", "k", "most"] (spN K f__law_row)) (G_ending : FnG P w K mg base 2 T.a_ending T.d_ending ["row"] (spN K f_ending)) (G__law_runs : FnG P w K mg base 1 T.a__law_runs T.d__law_runs ["row"] (spF K f__law_runs)) (G__law_choose : FnG P w K mg base 1 T.a__law_choose T.d__law_choose ["n", "k"] (spF K f__law_choose)) (G__law_mix : FnG P w K mg base 1 T.a__law_mix T.d__law_mix ["draws", "k", "many"] (spF K f__law_mix)) (G__law_rows : FnG P w K mg base 40 T.a__law_rows T.d__law_rows ["zeros", "ones"] (spF K f__law_rows)) (G_ways : FnG P w K mg base 2 T.a_ways T.d_ways ["zeros", "ones", "number"] (spF K f_ways)) (G_runs : FnG P w K mg base 2 T.a_runs T.d_runs ["row"] (spF K f_runs)) (G_peak : FnG P w K mg base 2 T.a_peak T.d_peak ["row"] (spF K f_peak)) : FnG P w K mg base 41 T.a_law T.d_law ["script"] (spF K f_law) :=
  def_F T.F_law sc_law rfl (by decide) fun cdv A outer s H E M hr hG =>
  (ss_c (ps_as (i := 1) sc_law.nd (PE.lE (pfL G__law_draws (hr.mono (by decide)) hG T.g__law_draws T.F__law_draws.kp T.b__law_draws (pa_c (pe_v (pv 0)) pa_n))))
  (ss_c (ps_fr PassesOwn.never rfl (pi_r1 T.z_range (pa_c pk_int pa_n)) (pg_name (i := 2) sc_law.nd rfl (by first | exact Or.inl rfl | exact Or.inr rfl)) (gok_n 2)
  (ss_c (ps_as (i := 6) sc_law.nd (PE.lE (pfL G__law_row (hr.mono (by decide)) hG T.g__law_row T.F__law_row.kp T.b__law_row (pa_c (pe_v (pv 1)) (pa_c (pe_bin o_add pk_int (pe_bin o_mul pk_int (pe_v (pv 2)))) (pa_c pk_int pa_n))))))
    (ss_c (ps_as (i := 7) sc_law.nd (pe_bi (k_repr hG (units_of hr)) T.z_repr (by decide +kernel) (pa_c (pe_v (pv 6)) pa_n)))
    (ss_c (ps_as (i := 8) sc_law.nd (PE.lE (pe_li pa_n (hl := xNil_len))))
    (ss_c (ps_fr PassesOwn.never rfl (pi_r1 T.z_range (pa_c (pe_bi k_len T.z_len (by decide +kernel) (pa_c (pe_v (pv 6)) pa_n)) pa_n)) (pg_name (i := 9) sc_law.nd rfl (by first | exact Or.inl rfl | exact Or.inr rfl)) (gok_n 9)
    (ss_1 (ps_as (i := 8) sc_law.nd (PE.lE (pe_binL o_cat (pe_v (pv 8)) (PE.lE (pe_co (own := [("last", 16)]) rfl sc_law.nd (pi_r2 T.z_range (pa_c (pe_v (pv 9)) (pa_c (pe_bi k_len T.z_len (by decide +kernel) (pa_c (pe_v (pv 6)) pa_n)) pa_n))) (blkOk_by (N := ["script", "draws", "turn", "rows", "number", "whole", "row", "kept", "sums", "first", "due", "told", "bits", "zeros", "ones", "most", "last", "k", "t", "one"]) (sc := defScope s_law) (by decide +kernel)) (gok_n 16) (by decide) (fun _ _ _ _ _ => (pg_name (i := 16) sc_law.nd rfl (by first | exact Or.inl rfl | exact Or.inr rfl))) (fun _ _ _ _ _ => pts_y) (fun _ _ _ _ _ => (pe_tu (pa_c (pe_un1 o_neg (pe_bi (k_sum rfl) T.z_sum (by decide +kernel) (pa_c (PE.lE (pe_sl (pe_v (pv 6)) (po_s (pe_v (pv 9))) (po_s (pe_bin o_add (pe_v (pv 16)) pk_int)))) pa_n))) (pa_c (pe_v (pv 9)) (pa_c (pe_v (pv 16)) pa_n))) (hl := (xCons_len (xCons_len (xCons_len xNil_len)))))))))))))
    (ss_c (ps_co (i := 10) (own := [("k", 17)]) rfl sc_law.nd (pi_r1 T.z_range (pa_c (pe_bi k_len T.z_len (by decide +kernel) (pa_c (pe_v (pv 6)) pa_n)) pa_n)) (blkOk_by (N := ["script", "draws", "turn", "rows", "number", "whole", "row", "kept", "sums", "first", "due", "told", "bits", "zeros", "ones", "most", "last", "k", "t", "one"]) (sc := defScope s_law) (by decide +kernel)) (gok_n 17) (by decide) (fun _ _ _ _ _ => (pg_name (i := 17) sc_law.nd rfl (by first | exact Or.inl rfl | exact Or.inr rfl))) (fun _ _ _ _ _ => pts_y) (fun _ _ _ _ _ => (pe_bi (k_max rfl (units_of hr)) T.z_max (by decide +kernel) (pa_c (PE.lE (pe_co (own := [("whole", 5), ("first", 9), ("last", 16)]) rfl sc_law.nd (pi_l (pe_v (pv 8))) (blkOk_by (by with_unfolding_all rfl)) (gok_t (gsok_c (gok_n 5) (gsok_c (gok_n 9) (gsok_c (gok_n 16) gsok_0)))) (by decide) (fun _ _ _ _ _ => (pg_tup (n := 3) rfl (pgs_cons (pg_name (i := 5) sc_law.nd rfl (by first | exact Or.inl rfl | exact Or.inr rfl)) (pgs_cons (pg_name (i := 9) sc_law.nd rfl (by first | exact Or.inl rfl | exact Or.inr rfl)) (pgs_cons (pg_name (i := 16) sc_law.nd rfl (by first | exact Or.inl rfl | exact Or.inr rfl)) pgs_nil))))) (fun _ _ _ _ _ => (pts_one (pt_cp (o_eq (units_of hr)) (pe_v (pv 16)) (pe_v (pv 17))))) (fun _ _ _ _ _ => (pe_un1 o_neg (pe_v (pv 5)))))) pa_n))) (sw_true rfl rfl rfl (by decide +kernel)))
    (ss_c (ps_un (ps_asg (pe_bi (k_min rfl (units_of hr)) T.z_min (by decide +kernel) (pa_c (pe_v (pv 8)) pa_n)) (pg_tup (n := 3) rfl (pgs_cons (pg_name (i := 15) sc_law.nd rfl (by first | exact Or.inl rfl | exact Or.inr rfl)) (pgs_cons (pg_name (i := 9) sc_law.nd rfl (by first | exact Or.inl rfl | exact Or.inr rfl)) (pgs_cons (pg_name (i := 16) sc_law.nd rfl (by first | exact Or.inl rfl | exact Or.inr rfl)) pgs_nil))))) (gok_t (gsok_c (gok_n 15) (gsok_c (gok_n 9) (gsok_c (gok_n 16) gsok_0)))))
    (ss_c (ps_asM (i := 11) sc_law.nd (pfL G_ending (hr.mono (by decide)) hG T.g_ending T.F_ending.kp T.b_ending (pa_c (pe_v (pv 6)) pa_n)))
    (ss_c (ps_i (L2.PW.pt (pw_orr (pt_cp (o_ne (units_of hr)) (pe_th (pe_bi (k_repr hG (units_of hr)) T.z_repr (by decide +kernel) (pa_c (pe_v (pv 11)) pa_n))) (pe_bi (k_repr hG (units_of hr)) T.z_repr (by decide +kernel) (pa_c (pe_v (pv 10)) pa_n))) (L2.pw_or1 (pt_cp (o_ne (units_of hr)) (pe_bi (k_repr hG (units_of hr)) T.z_repr (by decide +kernel) (pa_c (pf G_peak (hr.mono (by decide)) hG T.g_peak T.F_peak.kp T.b_peak (pa_c (pe_v (pv 6)) pa_n)) pa_n)) (pe_bi (k_repr hG (units_of hr)) T.z_repr (by decide +kernel) (pa_c (pe_tu (pa_c (pe_un1 o_neg (pe_v (pv 15))) (pa_c (pe_v (pv 9)) (pa_c (pe_v (pv 16)) pa_n))) (hl := (xCons_len (xCons_len (xCons_len xNil_len))))) pa_n))))))
    (ss_1 (ps_rt rfl pk_bl))
    ss_nil)
    (ss_c (ps_ap (i := 11) (ps_expr (pe_bm PySem.F.plainAttrs_list PySem.F.slot_list_append PySem.F.type_list_append mt_append (pv 11) (pa_cons pk_int pa_nil))))
    (ss_c (ps_i (L2.PW.pt (pw_orr (pt_cp (o_ne (units_of hr)) (pe_bi (k_repr hG (units_of hr)) T.z_repr (by decide +kernel) (pa_c (PE.lE (pfL G_ending (hr.mono (by decide)) hG T.g_ending T.F_ending.kp T.b_ending (pa_c (pe_v (pv 6)) pa_n))) pa_n)) (pe_bi (k_repr hG (units_of hr)) T.z_repr (by decide +kernel) (pa_c (pe_v (pv 10)) pa_n))) (pw_orr (pt_cp (o_ne (units_of hr)) (pe_i (pf G_peak (hr.mono (by decide)) hG T.g_peak T.F_peak.kp T.b_peak (pa_c (PE.lE (pe_rv (pe_v (pv 6)))) pa_n)) pk_int) (pe_un1 o_neg (pe_v (pv 15)))) (L2.pw_or1 (pt_cp (o_ne (units_of hr)) (pe_bi (k_repr hG (units_of hr)) T.z_repr (by decide +kernel) (pa_c (pe_v (pv 6)) pa_n)) (pe_v (pv 7)))))))
    (ss_1 (ps_rt rfl pk_bl))
    ss_nil)
    (ss_c (ps_co (i := 12) (own := [("t", 18)]) rfl sc_law.nd (pi_r1 T.z_range (pa_c (pe_bin o_add pk_int (pf G__law_mix (hr.mono (by decide)) hG T.g__law_mix T.F__law_mix.kp T.b__law_mix (pa_c (pe_v (pv 1)) (pa_c (pe_bin o_add pk_int (pe_v (pv 2))) (pa_c pk_int pa_n))))) pa_n)) (blkOk_by (N := ["script", "draws", "turn", "rows", "number", "whole", "row", "kept", "sums", "first", "due", "told", "bits", "zeros", "ones", "most", "last", "k", "t", "one"]) (sc := defScope s_law) (by decide +kernel)) (gok_n 18) (by decide) (fun _ _ _ _ _ => (pg_name (i := 18) sc_law.nd rfl (by first | exact Or.inl rfl | exact Or.inr rfl))) (fun _ _ _ _ _ => pts_y) (fun _ _ _ _ _ => (pf G__law_mix (hr.mono (by decide)) hG T.g__law_mix T.F__law_mix.kp T.b__law_mix (pa_c (pe_v (pv 1)) (pa_c (pe_bin o_add (pe_bin o_add pk_int (pe_bin o_mul pk_int (pe_v (pv 2)))) (pe_v (pv 18))) (pa_c pk_int pa_n))))) (sw_true rfl rfl rfl (by decide +kernel)))
    (ss_1 (ps_i (L2.PW.pt (pw_orr (pt_cp (o_ne (units_of hr)) (pe_bi (k_repr hG (units_of hr)) T.z_repr (by decide +kernel) (pa_c (pf G_runs (hr.mono (by decide)) hG T.g_runs T.F_runs.kp T.b_runs (pa_c (pe_v (pv 12)) pa_n)) pa_n)) (pe_bi (k_repr hG (units_of hr)) T.z_repr (by decide +kernel) (pa_c (pf G__law_runs (hr.mono (by decide)) hG T.g__law_runs T.F__law_runs.kp T.b__law_runs (pa_c (pe_v (pv 12)) pa_n)) pa_n))) (L2.pw_or1 (pt_cp (o_ne (units_of hr)) (pf G_runs (hr.mono (by decide)) hG T.g_runs T.F_runs.kp T.b_runs (pa_c (PE.lE (pe_co (own := [("one", 19)]) rfl sc_law.nd (pi_l (pe_v (pv 12))) (blkOk_by (N := ["script", "draws", "turn", "rows", "number", "whole", "row", "kept", "sums", "first", "due", "told", "bits", "zeros", "ones", "most", "last", "k", "t", "one"]) (sc := defScope s_law) (by decide +kernel)) (gok_n 19) (by decide) (fun _ _ _ _ _ => (pg_name (i := 19) sc_law.nd rfl (by first | exact Or.inl rfl | exact Or.inr rfl))) (fun _ _ _ _ _ => pts_y) (fun _ _ _ _ _ => (pe_bin o_sub pk_int (pe_v (pv 19)))))) pa_n)) (pf G_runs (hr.mono (by decide)) hG T.g_runs T.F_runs.kp T.b_runs (pa_c (pe_v (pv 12)) pa_n))))))
    (ss_1 (ps_rt rfl pk_bl))
    ss_nil))))))))))))))
  (ss_c (ps_un (ps_asg (pe_tu (pa_c (pe_bin o_add pk_int (pf G__law_mix (hr.mono (by decide)) hG T.g__law_mix T.F__law_mix.kp T.b__law_mix (pa_c (pe_v (pv 1)) (pa_c pk_int (pa_c pk_int pa_n))))) (pa_c (pe_bin o_add pk_int (pf G__law_mix (hr.mono (by decide)) hG T.g__law_mix T.F__law_mix.kp T.b__law_mix (pa_c (pe_v (pv 1)) (pa_c pk_int (pa_c pk_int pa_n))))) pa_n)) (hl := (xCons_len (xCons_len xNil_len)))) (pg_tup (n := 2) rfl (pgs_cons (pg_name (i := 13) sc_law.nd rfl (by first | exact Or.inl rfl | exact Or.inr rfl)) (pgs_cons (pg_name (i := 14) sc_law.nd rfl (by first | exact Or.inl rfl | exact Or.inr rfl)) pgs_nil)))) (gok_t (gsok_c (gok_n 13) (gsok_c (gok_n 14) gsok_0))))
  (ss_c (ps_co (i := 3) (own := [("row", 6)]) rfl sc_law.nd (pi_l (pf G__law_rows (hr.mono (by decide)) hG T.g__law_rows T.F__law_rows.kp T.b__law_rows (pa_c (pe_v (pv 13)) (pa_c (pe_v (pv 14)) pa_n)))) (blkOk_by (N := ["script", "draws", "turn", "rows", "number", "whole", "row", "kept", "sums", "first", "due", "told", "bits", "zeros", "ones", "most", "last", "k", "t", "one"]) (sc := defScope s_law) (by decide +kernel)) (gok_n 6) (by decide) (fun _ _ _ _ _ => (pg_name (i := 6) sc_law.nd rfl (by first | exact Or.inl rfl | exact Or.inr rfl))) (fun _ _ _ _ _ => pts_y) (fun _ _ _ _ _ => (pf G__law_runs (hr.mono (by decide)) hG T.g__law_runs T.F__law_runs.kp T.b__law_runs (pa_c (pe_v (pv 6)) pa_n))) (sw_true rfl rfl rfl (by decide +kernel)))
  (ss_c (ps_fr PassesOwn.never rfl (pi_r2 T.z_range (pa_c (pe_un1 o_neg pk_int) (pa_c (pe_bin o_add (pe_bin o_add (pe_v (pv 13)) (pe_v (pv 14))) pk_int) pa_n))) (pg_name (i := 4) sc_law.nd rfl (by first | exact Or.inl rfl | exact Or.inr rfl)) (gok_n 4)
  (ss_1 (ps_i (pt_cp (o_ne (units_of hr)) (pe_bi (k_repr hG (units_of hr)) T.z_repr (by decide +kernel) (pa_c (pf G_ways (hr.mono (by decide)) hG T.g_ways T.F_ways.kp T.b_ways (pa_c (pe_v (pv 13)) (pa_c (pe_v (pv 14)) (pa_c (pe_v (pv 4)) pa_n)))) pa_n)) (pe_bi (k_repr hG (units_of hr)) T.z_repr (by decide +kernel) (pa_c (pe_bi k_len T.z_len (by decide +kernel) (pa_c (PE.lE (pe_co (own := [("one", 19)]) rfl sc_law.nd (pi_l (pe_v (pv 3))) (blkOk_by (N := ["script", "draws", "turn", "rows", "number", "whole", "row", "kept", "sums", "first", "due", "told", "bits", "zeros", "ones", "most", "last", "k", "t", "one"]) (sc := defScope s_law) (by decide +kernel)) (gok_n 19) (by decide) (fun _ _ _ _ _ => (pg_name (i := 19) sc_law.nd rfl (by first | exact Or.inl rfl | exact Or.inr rfl))) (fun _ _ _ _ _ => (pts_one (pt_cp (o_eq (units_of hr)) (pe_v (pv 19)) (pe_v (pv 4))))) (fun _ _ _ _ _ => (pe_v (pv 19))))) pa_n)) pa_n)))
    (ss_1 (ps_rt rfl pk_bl))
    ss_nil)))
  (ss_c (ps_un (ps_asg (pe_tu (pa_c (pe_bin o_add pk_int (pf G__law_mix (hr.mono (by decide)) hG T.g__law_mix T.F__law_mix.kp T.b__law_mix (pa_c (pe_v (pv 1)) (pa_c pk_int (pa_c pk_int pa_n))))) (pa_c (pe_bin o_add pk_int (pf G__law_mix (hr.mono (by decide)) hG T.g__law_mix T.F__law_mix.kp T.b__law_mix (pa_c (pe_v (pv 1)) (pa_c pk_int (pa_c pk_int pa_n))))) pa_n)) (hl := (xCons_len (xCons_len xNil_len)))) (pg_tup (n := 2) rfl (pgs_cons (pg_name (i := 13) sc_law.nd rfl (by first | exact Or.inl rfl | exact Or.inr rfl)) (pgs_cons (pg_name (i := 14) sc_law.nd rfl (by first | exact Or.inl rfl | exact Or.inr rfl)) pgs_nil)))) (gok_t (gsok_c (gok_n 13) (gsok_c (gok_n 14) gsok_0))))
  (ss_c (ps_as (i := 5) sc_law.nd (pe_bi (k_sum rfl) T.z_sum (by decide +kernel) (pa_c (PE.lE (pe_co (own := [("number", 4)]) rfl sc_law.nd (pi_r1 T.z_range (pa_c (pe_bin o_add (pe_bin o_add (pe_v (pv 13)) (pe_v (pv 14))) pk_int) pa_n)) (blkOk_by (N := ["script", "draws", "turn", "rows", "number", "whole", "row", "kept", "sums", "first", "due", "told", "bits", "zeros", "ones", "most", "last", "k", "t", "one"]) (sc := defScope s_law) (by decide +kernel)) (gok_n 4) (by decide) (fun _ _ _ _ _ => (pg_name (i := 4) sc_law.nd rfl (by first | exact Or.inl rfl | exact Or.inr rfl))) (fun _ _ _ _ _ => pts_y) (fun _ _ _ _ _ => (pf G_ways (hr.mono (by decide)) hG T.g_ways T.F_ways.kp T.b_ways (pa_c (pe_v (pv 13)) (pa_c (pe_v (pv 14)) (pa_c (pe_v (pv 4)) pa_n))))))) pa_n)))
  (ss_c (ps_i (pt_cp (o_ne (units_of hr)) (pe_v (pv 5)) (pf G__law_choose (hr.mono (by decide)) hG T.g__law_choose T.F__law_choose.kp T.b__law_choose (pa_c (pe_bin o_add (pe_v (pv 13)) (pe_v (pv 14))) (pa_c (pe_v (pv 14)) pa_n))))
  (ss_1 (ps_rt rfl pk_bl))
  ss_nil)
  (ss_1 (ps_rt rfl (pe_cp (o_eq (units_of hr)) (PE.lE (pe_co (own := [("number", 4)]) rfl sc_law.nd (pi_r1 T.z_range (pa_c pk_int pa_n)) (blkOk_by (N := ["script", "draws", "turn", "rows", "number", "whole", "row", "kept", "sums", "first", "due", "told", "bits", "zeros", "ones", "most", "last", "k", "t", "one"]) (sc := defScope s_law) (by decide +kernel)) (gok_n 4) (by decide) (fun _ _ _ _ _ => (pg_name (i := 4) sc_law.nd rfl (by first | exact Or.inl rfl | exact Or.inr rfl))) (fun _ _ _ _ _ => pts_y) (fun _ _ _ _ _ => (pf G_ways (hr.mono (by decide)) hG T.g_ways T.F_ways.kp T.b_ways (pa_c (pe_v (pv 13)) (pa_c (pe_v (pv 14)) (pa_c (pe_v (pv 4)) pa_n))))))) (PE.lE (pe_co (own := [("number", 4)]) rfl sc_law.nd (pi_r1 T.z_range (pa_c pk_int pa_n)) (blkOk_by (N := ["script", "draws", "turn", "rows", "number", "whole", "row", "kept", "sums", "first", "due", "told", "bits", "zeros", "ones", "most", "last", "k", "t", "one"]) (sc := defScope s_law) (by decide +kernel)) (gok_n 4) (by decide) (fun _ _ _ _ _ => (pg_name (i := 4) sc_law.nd rfl (by first | exact Or.inl rfl | exact Or.inr rfl))) (fun _ _ _ _ _ => pts_y) (fun _ _ _ _ _ => (pf G_ways (hr.mono (by decide)) hG T.g_ways T.F_ways.kp T.b_ways (pa_c (pe_v (pv 14)) (pa_c (pe_v (pv 13)) (pa_c (pe_v (pv 4)) pa_n))))))))))))))))))
theorem all (T : Top K mg) : FnG P w K mg base 41 T.a_law T.d_law ["script"] (spF K f_law) := by
  have G_check_row := ok_check_row (P := P) (w := w) (base := base) T
  have G_ending_of := ok_ending_of (P := P) (w := w) (base := base) T
  have G_ending := ok_ending (P := P) (w := w) (base := base) T G_check_row G_ending_of
  have G_peak := ok_peak (P := P) (w := w) (base := base) T G_check_row G_ending_of
  have G_runs := ok_runs (P := P) (w := w) (base := base) T G_check_row
  have G_over := ok_over (P := P) (w := w) (base := base) T
  have G_ways := ok_ways (P := P) (w := w) (base := base) T G_over
  have G__law_draws := ok__law_draws (P := P) (w := w) (base := base) T
  have G__law_mix := ok__law_mix (P := P) (w := w) (base := base) T
  have G__law_row := ok__law_row (P := P) (w := w) (base := base) T G__law_mix
  have G__law_choose := ok__law_choose (P := P) (w := w) (base := base) T
  have G__law_rows := ok__law_rows (P := P) (w := w) (base := base) T
  have G__law_runs := ok__law_runs (P := P) (w := w) (base := base) T
  have G_law := ok_law (P := P) (w := w) (base := base) T G__law_draws G__law_row G_ending G__law_runs G__law_choose G__law_mix G__law_rows G_ways G_runs G_peak
  exact G_law
end
end My
set_option Elab.async false
set_option linter.all false
set_option maxRecDepth 100000
set_option maxHeartbeats 4000000
/-! what the top has written, and the end -/
namespace My
open PySem PySem.Spec PyProof.Rows L2 Tw
theorem all_mk {l : PySem.W.OpenLaw} {w : World} {K : PySem.W.Frag} {h : Heap} {mg : Str → Option Value} {fa : Addr} (X : K.In h) (G : h.Ns mainGlobals mg) (hfa : mg "law" = some (.ref fa))
    {od0 an0 : Option Addr} {sl0 : Array (Option Value)} {oc0 kV0 dc0 pm0 cd0 ct0 : Value} {f0 : Addr}
    (a0 : PySem.W.nsIn K mainGlobals "check_row" = some (some (.ref f0))) (l0 : K.lookup f0 = some ⟨oc0, od0, .func (PySem.W.fnOf "check_row" "check_row" (defArgs s_check_row) (defBody s_check_row) (defScope s_check_row) .none kV0 dc0 pm0 an0 cd0 ct0), sl0⟩) (c0 : PySem.W.codeIn K cd0 "check_row" = true) (k0 : PySem.W.keepIn K (.ref f0) = true)
    {od1 an1 : Option Addr} {sl1 : Array (Option Value)} {oc1 kV1 dc1 pm1 cd1 ct1 : Value} {f1 : Addr}
    (a1 : PySem.W.nsIn K mainGlobals "ending_of" = some (some (.ref f1))) (l1 : K.lookup f1 = some ⟨oc1, od1, .func (PySem.W.fnOf "ending_of" "ending_of" (defArgs s_ending_of) (defBody s_ending_of) (defScope s_ending_of) .none kV1 dc1 pm1 an1 cd1 ct1), sl1⟩) (c1 : PySem.W.codeIn K cd1 "ending_of" = true) (k1 : PySem.W.keepIn K (.ref f1) = true)
    {od2 an2 : Option Addr} {sl2 : Array (Option Value)} {oc2 kV2 dc2 pm2 cd2 ct2 : Value} {f2 : Addr}
    (a2 : PySem.W.nsIn K mainGlobals "ending" = some (some (.ref f2))) (l2 : K.lookup f2 = some ⟨oc2, od2, .func (PySem.W.fnOf "ending" "ending" (defArgs s_ending) (defBody s_ending) (defScope s_ending) .none kV2 dc2 pm2 an2 cd2 ct2), sl2⟩) (c2 : PySem.W.codeIn K cd2 "ending" = true) (k2 : PySem.W.keepIn K (.ref f2) = true)
    {od3 an3 : Option Addr} {sl3 : Array (Option Value)} {oc3 kV3 dc3 pm3 cd3 ct3 : Value} {f3 : Addr}
    (a3 : PySem.W.nsIn K mainGlobals "peak" = some (some (.ref f3))) (l3 : K.lookup f3 = some ⟨oc3, od3, .func (PySem.W.fnOf "peak" "peak" (defArgs s_peak) (defBody s_peak) (defScope s_peak) .none kV3 dc3 pm3 an3 cd3 ct3), sl3⟩) (c3 : PySem.W.codeIn K cd3 "peak" = true) (k3 : PySem.W.keepIn K (.ref f3) = true)
    {od4 an4 : Option Addr} {sl4 : Array (Option Value)} {oc4 kV4 dc4 pm4 cd4 ct4 : Value} {f4 : Addr}
    (a4 : PySem.W.nsIn K mainGlobals "runs" = some (some (.ref f4))) (l4 : K.lookup f4 = some ⟨oc4, od4, .func (PySem.W.fnOf "runs" "runs" (defArgs s_runs) (defBody s_runs) (defScope s_runs) .none kV4 dc4 pm4 an4 cd4 ct4), sl4⟩) (c4 : PySem.W.codeIn K cd4 "runs" = true) (k4 : PySem.W.keepIn K (.ref f4) = true)
    {od5 an5 : Option Addr} {sl5 : Array (Option Value)} {oc5 kV5 dc5 pm5 cd5 ct5 : Value} {f5 : Addr}
    (a5 : PySem.W.nsIn K mainGlobals "over" = some (some (.ref f5))) (l5 : K.lookup f5 = some ⟨oc5, od5, .func (PySem.W.fnOf "over" "over" (defArgs s_over) (defBody s_over) (defScope s_over) .none kV5 dc5 pm5 an5 cd5 ct5), sl5⟩) (c5 : PySem.W.codeIn K cd5 "over" = true) (k5 : PySem.W.keepIn K (.ref f5) = true)
    {od6 an6 : Option Addr} {sl6 : Array (Option Value)} {oc6 kV6 dc6 pm6 cd6 ct6 : Value} {f6 : Addr}
    (a6 : PySem.W.nsIn K mainGlobals "ways" = some (some (.ref f6))) (l6 : K.lookup f6 = some ⟨oc6, od6, .func (PySem.W.fnOf "ways" "ways" (defArgs s_ways) (defBody s_ways) (defScope s_ways) .none kV6 dc6 pm6 an6 cd6 ct6), sl6⟩) (c6 : PySem.W.codeIn K cd6 "ways" = true) (k6 : PySem.W.keepIn K (.ref f6) = true)
    {od7 an7 : Option Addr} {sl7 : Array (Option Value)} {oc7 kV7 dc7 pm7 cd7 ct7 : Value} {f7 : Addr}
    (a7 : PySem.W.nsIn K mainGlobals "_law_draws" = some (some (.ref f7))) (l7 : K.lookup f7 = some ⟨oc7, od7, .func (PySem.W.fnOf "_law_draws" "_law_draws" (defArgs s__law_draws) (defBody s__law_draws) (defScope s__law_draws) .none kV7 dc7 pm7 an7 cd7 ct7), sl7⟩) (c7 : PySem.W.codeIn K cd7 "_law_draws" = true) (k7 : PySem.W.keepIn K (.ref f7) = true)
    {od8 an8 : Option Addr} {sl8 : Array (Option Value)} {oc8 kV8 dc8 pm8 cd8 ct8 : Value} {f8 : Addr}
    (a8 : PySem.W.nsIn K mainGlobals "_law_mix" = some (some (.ref f8))) (l8 : K.lookup f8 = some ⟨oc8, od8, .func (PySem.W.fnOf "_law_mix" "_law_mix" (defArgs s__law_mix) (defBody s__law_mix) (defScope s__law_mix) .none kV8 dc8 pm8 an8 cd8 ct8), sl8⟩) (c8 : PySem.W.codeIn K cd8 "_law_mix" = true) (k8 : PySem.W.keepIn K (.ref f8) = true)
    {od9 an9 : Option Addr} {sl9 : Array (Option Value)} {oc9 kV9 dc9 pm9 cd9 ct9 : Value} {f9 : Addr}
    (a9 : PySem.W.nsIn K mainGlobals "_law_row" = some (some (.ref f9))) (l9 : K.lookup f9 = some ⟨oc9, od9, .func (PySem.W.fnOf "_law_row" "_law_row" (defArgs s__law_row) (defBody s__law_row) (defScope s__law_row) .none kV9 dc9 pm9 an9 cd9 ct9), sl9⟩) (c9 : PySem.W.codeIn K cd9 "_law_row" = true) (k9 : PySem.W.keepIn K (.ref f9) = true)
    {od10 an10 : Option Addr} {sl10 : Array (Option Value)} {oc10 kV10 dc10 pm10 cd10 ct10 : Value} {f10 : Addr}
    (a10 : PySem.W.nsIn K mainGlobals "_law_choose" = some (some (.ref f10))) (l10 : K.lookup f10 = some ⟨oc10, od10, .func (PySem.W.fnOf "_law_choose" "_law_choose" (defArgs s__law_choose) (defBody s__law_choose) (defScope s__law_choose) .none kV10 dc10 pm10 an10 cd10 ct10), sl10⟩) (c10 : PySem.W.codeIn K cd10 "_law_choose" = true) (k10 : PySem.W.keepIn K (.ref f10) = true)
    {od11 an11 : Option Addr} {sl11 : Array (Option Value)} {oc11 kV11 dc11 pm11 cd11 ct11 : Value} {f11 : Addr}
    (a11 : PySem.W.nsIn K mainGlobals "_law_rows" = some (some (.ref f11))) (l11 : K.lookup f11 = some ⟨oc11, od11, .func (PySem.W.fnOf "_law_rows" "_law_rows" (defArgs s__law_rows) (defBody s__law_rows) (defScope s__law_rows) .none kV11 dc11 pm11 an11 cd11 ct11), sl11⟩) (c11 : PySem.W.codeIn K cd11 "_law_rows" = true) (k11 : PySem.W.keepIn K (.ref f11) = true)
    {od12 an12 : Option Addr} {sl12 : Array (Option Value)} {oc12 kV12 dc12 pm12 cd12 ct12 : Value} {f12 : Addr}
    (a12 : PySem.W.nsIn K mainGlobals "_law_runs" = some (some (.ref f12))) (l12 : K.lookup f12 = some ⟨oc12, od12, .func (PySem.W.fnOf "_law_runs" "_law_runs" (defArgs s__law_runs) (defBody s__law_runs) (defScope s__law_runs) .none kV12 dc12 pm12 an12 cd12 ct12), sl12⟩) (c12 : PySem.W.codeIn K cd12 "_law_runs" = true) (k12 : PySem.W.keepIn K (.ref f12) = true)
    {od13 an13 : Option Addr} {sl13 : Array (Option Value)} {oc13 kV13 dc13 pm13 cd13 ct13 : Value} {f13 : Addr}
    (a13 : PySem.W.nsIn K mainGlobals "law" = some (some (.ref f13))) (l13 : K.lookup f13 = some ⟨oc13, od13, .func (PySem.W.fnOf "law" "law" (defArgs s_law) (defBody s_law) (defScope s_law) .none kV13 dc13 pm13 an13 cd13 ct13), sl13⟩) (c13 : PySem.W.codeIn K cd13 "law" = true) (k13 : PySem.W.keepIn K (.ref f13) = true)
    {t_MOST_COUNT : Tok} (q_MOST_COUNT : PySem.W.nsIn K mainGlobals "MOST_COUNT" = some (some (.int 30 t_MOST_COUNT)))
    {t_MOST_ENTRY : Tok} (q_MOST_ENTRY : PySem.W.nsIn K mainGlobals "MOST_ENTRY" = some (some (.int 100 t_MOST_ENTRY)))
    {t_MOST_LENGTH : Tok} (q_MOST_LENGTH : PySem.W.nsIn K mainGlobals "MOST_LENGTH" = some (some (.int 24 t_MOST_LENGTH)))
    (z_abs : PySem.W.nsIn K mainGlobals "abs" = some none)
    (z_enumerate : PySem.W.nsIn K mainGlobals "enumerate" = some none)
    (z_int : PySem.W.nsIn K mainGlobals "int" = some none)
    (z_len : PySem.W.nsIn K mainGlobals "len" = some none)
    (z_max : PySem.W.nsIn K mainGlobals "max" = some none)
    (z_min : PySem.W.nsIn K mainGlobals "min" = some none)
    (z_range : PySem.W.nsIn K mainGlobals "range" = some none)
    (z_repr : PySem.W.nsIn K mainGlobals "repr" = some none)
    (z_sum : PySem.W.nsIn K mainGlobals "sum" = some none)
    (z_zip : PySem.W.nsIn K mainGlobals "zip" = some none)
    : ∃ fd : FuncData, (∀ (s : Shared) (v : Value), BindsTo s fd ⟨[v], []⟩ [("script", v)]) ∧ ∀ base : Heap, K.In base → base.Ns mainGlobals mg → FnG l.prog w K mg base 41 fa fd ["script"] (spF K f_law) := by
  have e := hfa.symm.trans (PySem.W.mg_of X G a13)
  cases e
  have F0 := fun_mk (st := s_check_row) l0 c0 k0
  have B0 := F0.binds (ps := ["row"]) fun _ _ _ _ _ _ us hl => match us, hl with | [_], _ => rfl
  have F1 := fun_mk (st := s_ending_of) l1 c1 k1
  have B1 := F1.binds (ps := ["row"]) fun _ _ _ _ _ _ us hl => match us, hl with | [_], _ => rfl
  have F2 := fun_mk (st := s_ending) l2 c2 k2
  have B2 := F2.binds (ps := ["row"]) fun _ _ _ _ _ _ us hl => match us, hl with | [_], _ => rfl
  have F3 := fun_mk (st := s_peak) l3 c3 k3
  have B3 := F3.binds (ps := ["row"]) fun _ _ _ _ _ _ us hl => match us, hl with | [_], _ => rfl
  have F4 := fun_mk (st := s_runs) l4 c4 k4
  have B4 := F4.binds (ps := ["row"]) fun _ _ _ _ _ _ us hl => match us, hl with | [_], _ => rfl
  have F5 := fun_mk (st := s_over) l5 c5 k5
  have B5 := F5.binds (ps := ["n", "k"]) fun _ _ _ _ _ _ us hl => match us, hl with | [_, _], _ => rfl
  have F6 := fun_mk (st := s_ways) l6 c6 k6
  have B6 := F6.binds (ps := ["zeros", "ones", "number"]) fun _ _ _ _ _ _ us hl => match us, hl with | [_, _, _], _ => rfl
  have F7 := fun_mk (st := s__law_draws) l7 c7 k7
  have B7 := F7.binds (ps := ["script"]) fun _ _ _ _ _ _ us hl => match us, hl with | [_], _ => rfl
  have F8 := fun_mk (st := s__law_mix) l8 c8 k8
  have B8 := F8.binds (ps := ["draws", "k", "many"]) fun _ _ _ _ _ _ us hl => match us, hl with | [_, _, _], _ => rfl
  have F9 := fun_mk (st := s__law_row) l9 c9 k9
  have B9 := F9.binds (ps := ["draws", "k", "most"]) fun _ _ _ _ _ _ us hl => match us, hl with | [_, _, _], _ => rfl
  have F10 := fun_mk (st := s__law_choose) l10 c10 k10
  have B10 := F10.binds (ps := ["n", "k"]) fun _ _ _ _ _ _ us hl => match us, hl with | [_, _], _ => rfl
  have F11 := fun_mk (st := s__law_rows) l11 c11 k11
  have B11 := F11.binds (ps := ["zeros", "ones"]) fun _ _ _ _ _ _ us hl => match us, hl with | [_, _], _ => rfl
  have F12 := fun_mk (st := s__law_runs) l12 c12 k12
  have B12 := F12.binds (ps := ["row"]) fun _ _ _ _ _ _ us hl => match us, hl with | [_], _ => rfl
  have F13 := fun_mk (st := s_law) l13 c13 k13
  have B13 := F13.binds (ps := ["script"]) fun _ _ _ _ _ _ us hl => match us, hl with | [_], _ => rfl
  refine ⟨_, fun s v => .of_eq rfl, fun base _ _ => all ⟨_, _, F0, PySem.W.mg_of X G a0, B0, _, _, F1, PySem.W.mg_of X G a1, B1, _, _, F2, PySem.W.mg_of X G a2, B2, _, _, F3, PySem.W.mg_of X G a3, B3, _, _, F4, PySem.W.mg_of X G a4, B4, _, _, F5, PySem.W.mg_of X G a5, B5, _, _, F6, PySem.W.mg_of X G a6, B6, _, _, F7, PySem.W.mg_of X G a7, B7, _, _, F8, PySem.W.mg_of X G a8, B8, _, _, F9, PySem.W.mg_of X G a9, B9, _, _, F10, PySem.W.mg_of X G a10, B10, _, _, F11, PySem.W.mg_of X G a11, B11, _, _, F12, PySem.W.mg_of X G a12, B12, _, _, F13, PySem.W.mg_of X G a13, B13, _, PySem.W.mg_of X G q_MOST_COUNT, _, PySem.W.mg_of X G q_MOST_ENTRY, _, PySem.W.mg_of X G q_MOST_LENGTH, PySem.W.mg_none_of X G z_abs, PySem.W.mg_none_of X G z_enumerate, PySem.W.mg_none_of X G z_int, PySem.W.mg_none_of X G z_len, PySem.W.mg_none_of X G z_max, PySem.W.mg_none_of X G z_min, PySem.W.mg_none_of X G z_range, PySem.W.mg_none_of X G z_repr, PySem.W.mg_none_of X G z_sum, PySem.W.mg_none_of X G z_zip⟩⟩
end My
open PySem PySem.W PyProof.Rows
set_option maxHeartbeats 0 in
theorem PySem.Challenge.cw_triedwares_k31_peaks_and_runs_holds : PySem.Challenge.rw_triedwares_k31_peaks_and_runs.Holds := by
  w_on; o_law; k_head; (case hw => w_witness2)
  k_fill
  refine Tw.walkG (l := PySem.Challenge.rw_triedwares_k31_peaks_and_runs) (n := 63) (k := 41) (x := "script") (sp := fun w => Tw.spF _ My.f_law) rfl (by decide) rfl ⟨rfl, by decide, by decide⟩ (fun w h Y => PySem.W.kIn_of Y) ?F (fun w H a ns hl _ hS => Tw.law_in hS (My.law_true ns hl))
  case F =>
    intro w mg fa h KX G hmg
    refine' My.all_mk KX G hmg ?a0 ?l0 ?c0 ?k0 ?a1 ?l1 ?c1 ?k1 ?a2 ?l2 ?c2 ?k2 ?a3 ?l3 ?c3 ?k3 ?a4 ?l4 ?c4 ?k4 ?a5 ?l5 ?c5 ?k5 ?a6 ?l6 ?c6 ?k6 ?a7 ?l7 ?c7 ?k7 ?a8 ?l8 ?c8 ?k8 ?a9 ?l9 ?c9 ?k9 ?a10 ?l10 ?c10 ?k10 ?a11 ?l11 ?c11 ?k11 ?a12 ?l12 ?c12 ?k12 ?a13 ?l13 ?c13 ?k13 ?q_MOST_COUNT ?q_MOST_ENTRY ?q_MOST_LENGTH ?z_abs ?z_enumerate ?z_int ?z_len ?z_max ?z_min ?z_range ?z_repr ?z_sum ?z_zip
    (case a0 => k_is); (case l0 => k_is); (case c0 => k_is); (case k0 => k_is)
    (case a1 => k_is); (case l1 => k_is); (case c1 => k_is); (case k1 => k_is)
    (case a2 => k_is); (case l2 => k_is); (case c2 => k_is); (case k2 => k_is)
    (case a3 => k_is); (case l3 => k_is); (case c3 => k_is); (case k3 => k_is)
    (case a4 => k_is); (case l4 => k_is); (case c4 => k_is); (case k4 => k_is)
    (case a5 => k_is); (case l5 => k_is); (case c5 => k_is); (case k5 => k_is)
    (case a6 => k_is); (case l6 => k_is); (case c6 => k_is); (case k6 => k_is)
    (case a7 => k_is); (case l7 => k_is); (case c7 => k_is); (case k7 => k_is)
    (case a8 => k_is); (case l8 => k_is); (case c8 => k_is); (case k8 => k_is)
    (case a9 => k_is); (case l9 => k_is); (case c9 => k_is); (case k9 => k_is)
    (case a10 => k_is); (case l10 => k_is); (case c10 => k_is); (case k10 => k_is)
    (case a11 => k_is); (case l11 => k_is); (case c11 => k_is); (case k11 => k_is)
    (case a12 => k_is); (case l12 => k_is); (case c12 => k_is); (case k12 => k_is)
    (case a13 => k_is); (case l13 => k_is); (case c13 => k_is); (case k13 => k_is)
    (case q_MOST_COUNT => k_is)
    (case q_MOST_ENTRY => k_is)
    (case q_MOST_LENGTH => k_is)
    (case z_abs => k_is)
    (case z_enumerate => k_is)
    (case z_int => k_is)
    (case z_len => k_is)
    (case z_max => k_is)
    (case z_min => k_is)
    (case z_range => k_is)
    (case z_repr => k_is)
    (case z_sum => k_is)
    (case z_zip => k_is)
