import PyProof.Rows.All
import Wide.All
import OpenK.AllK
import Wide.FinOn
import HandS.ForMost
import HandS.Exc
import HandS.TryOnly
import HandS.ExcOwn
import HandS.TupAny
import HandS.IsInst
import HandS.Wide
import HandS.Conv
import HandS.More
import HandS.Text
import HandS.DictComp
import HandS.RaiseMore
import HandS.Iter
import HandS.SortKw
import KE.DataMinMax
import HandS.SortInts
import HandS.Finally
import HandS.Zip
import PySem.Challenge.RW_sleepwalk_k11_matched
set_option Elab.async false
set_option linter.all false
set_option maxRecDepth 100000
set_option maxHeartbeats 4000000
/-! Data, and what stands for it in the heap; what an expression gives, told by a function over data. -/
namespace Dn
open PySem L2

/-! ### data -/
inductive D where
  | non | bl (b : Bool) | int (i : Int) | str (s : Str)
  | tup (xs : List D) | lst (xs : List D) | dic (es : List (L2.Key × D)) | scr (ns : List Int)
inductive R (α : Type) where
  | ok (a : α) | exc (c : Str) | no
def R.bind {α β : Type} : R α → (α → R β) → R β
  | .ok a, f => f a
  | .exc c, _ => .exc c
  | .no, _ => .no
instance : Monad R where
  pure := R.ok
  bind := R.bind
@[simp] theorem ok_bind {α β : Type} (a : α) (f : α → R β) : (R.ok a >>= f) = f a := Eq.trans rfl rfl
@[simp] theorem exc_bind {α β : Type} (c : Str) (f : α → R β) : ((R.exc c : R α) >>= f) = R.exc c := Eq.trans rfl rfl
@[simp] theorem no_bind {α β : Type} (f : α → R β) : ((R.no : R α) >>= f) = R.no := Eq.trans rfl rfl
@[simp] theorem pure_ok {α : Type} (a : α) : (pure a : R α) = R.ok a := Eq.trans rfl rfl
@[simp] theorem r_bind_ok {α β : Type} (a : α) (f : α → R β) : R.bind (R.ok a) f = f a := Eq.trans rfl rfl
@[simp] theorem r_bind_exc {α β : Type} (c : Str) (f : α → R β) : R.bind (R.exc c : R α) f = R.exc c := Eq.trans rfl rfl
@[simp] theorem r_bind_no {α β : Type} (f : α → R β) : R.bind (R.no : R α) f = R.no := Eq.trans rfl rfl
abbrev Env := List (Option D)

theorem rd_mono {F F' : Hp} {a : Addr} {u : HO} (e : Same F F') (h : Rd F a u) : Rd F' a u := by
  rcases h with h | ⟨o, h⟩
  · exact .inl (e _ _ h)
  · exact .inr ⟨o, e _ _ h⟩
/-! ### what stands for data in a heap that does not change -/
mutual
def Rep (K : PySem.W.Frag) (F : Hp) : D → V → Prop
  | .non, v => v = .non
  | .bl b, v => v = .bl b
  | .int i, v => v = .int i
  | .str s, v => v = .str s
  | .scr ns, v => ∃ a, v = .ref a ∧ SqL K F a (ns.map V.int)
  | .tup ds, v => ∃ a vs, v = .ref a ∧ F a = some (.tup vs) ∧ Reps K F ds vs
  | .lst ds, v => ∃ a vs, v = .ref a ∧ F a = some (.lst vs) ∧ Reps K F ds vs
  | .dic es, v => ∃ a kvs, v = .ref a ∧ Rd F a (.dK kvs) ∧ RepK K F es kvs
def Reps (K : PySem.W.Frag) (F : Hp) : List D → List V → Prop
  | [], vs => vs = []
  | d :: ds, vs => ∃ v vr, vs = v :: vr ∧ Rep K F d v ∧ Reps K F ds vr
def RepK (K : PySem.W.Frag) (F : Hp) : List (L2.Key × D) → List (L2.Key × V) → Prop
  | [], vs => vs = []
  | (k, d) :: ds, vs => ∃ v vr, vs = (k, v) :: vr ∧ Rep K F d v ∧ RepK K F ds vr
end
section
variable {K : PySem.W.Frag} {F F' H H' : Hp}
mutual
theorem Rep.mono (e : Same F F') : ∀ (d : D) (v : V), Rep K F d v → Rep K F' d v
  | .non, v, h => h
  | .bl b, v, h => h
  | .int i, v, h => h
  | .str i, v, h => h
  | .scr ns, v, h => by
    obtain ⟨a, h1, h2⟩ := h
    exact ⟨a, h1, e.seq h2⟩
  | .tup ds, v, h => by
    obtain ⟨a, vs, h1, h2, h3⟩ := h
    exact ⟨a, vs, h1, e _ _ h2, Reps.mono e ds vs h3⟩
  | .lst ds, v, h => by
    obtain ⟨a, vs, h1, h2, h3⟩ := h
    exact ⟨a, vs, h1, e _ _ h2, Reps.mono e ds vs h3⟩
  | .dic ds, v, h => by
    obtain ⟨a, vs, h1, h2, h3⟩ := h
    exact ⟨a, vs, h1, rd_mono e h2, RepK.mono e ds vs h3⟩
theorem Reps.mono (e : Same F F') : ∀ (ds : List D) (vs : List V), Reps K F ds vs → Reps K F' ds vs
  | [], vs, h => h
  | d :: ds, vs, h => by
    obtain ⟨v, vr, h1, h2, h3⟩ := h
    exact ⟨v, vr, h1, Rep.mono e d v h2, Reps.mono e ds vr h3⟩
theorem RepK.mono (e : Same F F') : ∀ (ds : List (L2.Key × D)) (vs : List (L2.Key × V)), RepK K F ds vs → RepK K F' ds vs
  | [], vs, h => h
  | (k, d) :: ds, vs, h => by
    obtain ⟨v, vr, h1, h2, h3⟩ := h
    exact ⟨v, vr, h1, Rep.mono e d v h2, RepK.mono e ds vr h3⟩
end
theorem Reps.length : ∀ {ds : List D} {vs : List V}, Reps K F ds vs → vs.length = ds.length
  | [], vs, h => by rw [show vs = [] from h]; rfl
  | d :: ds, vs, h => by
    obtain ⟨v, vr, rfl, _, h3⟩ := h
    rw [List.length_cons, List.length_cons, Reps.length h3]
theorem Reps.get : ∀ {ds : List D} {vs : List V} {i : Nat} {d : D}, Reps K F ds vs → ds[i]? = some d → ∃ v, vs[i]? = some v ∧ Rep K F d v
  | [], vs, i, d, h, e => by simp at e
  | d :: ds, vs, 0, d', h, e => by
    obtain ⟨v, vr, rfl, h2, h3⟩ := h
    simp at e
    subst e
    exact ⟨v, rfl, h2⟩
  | d :: ds, vs, i + 1, d', h, e => by
    obtain ⟨v, vr, rfl, h2, h3⟩ := h
    simp at e
    obtain ⟨w, h4, h5⟩ := Reps.get h3 e
    exact ⟨w, by simpa using h4, h5⟩
theorem Reps.get' {ds : List D} {vs : List V} {i : Nat} {v : V} (h : Reps K F ds vs) (e : vs[i]? = some v) : ∃ d, ds[i]? = some d ∧ Rep K F d v := by
  have hi : i < ds.length := by
    have := (List.getElem?_eq_some_iff.mp e).1
    rw [h.length] at this
    exact this
  obtain ⟨w, h1, h2⟩ := h.get (List.getElem?_eq_getElem hi)
  rw [e] at h1
  cases h1
  exact ⟨_, List.getElem?_eq_getElem hi, h2⟩
theorem Reps.append : ∀ {ds es : List D} {vs ws : List V}, Reps K F ds vs → Reps K F es ws → Reps K F (ds ++ es) (vs ++ ws)
  | [], es, vs, ws, h, h' => by
    rw [show vs = [] from h]
    exact h'
  | d :: ds, es, vs, ws, h, h' => by
    obtain ⟨v, vr, rfl, h2, h3⟩ := h
    exact ⟨v, vr ++ ws, rfl, h2, Reps.append h3 h'⟩
theorem Reps.drop : ∀ {ds : List D} {vs : List V} (n : Nat), Reps K F ds vs → Reps K F (ds.drop n) (vs.drop n)
  | ds, vs, 0, h => h
  | [], vs, n + 1, h => by
    rw [show vs = [] from h]
    exact rfl
  | d :: ds, vs, n + 1, h => by
    obtain ⟨v, vr, rfl, h2, h3⟩ := h
    exact Reps.drop n h3
theorem Reps.take : ∀ {ds : List D} {vs : List V} (n : Nat), Reps K F ds vs → Reps K F (ds.take n) (vs.take n)
  | ds, vs, 0, h => rfl
  | [], vs, n + 1, h => by
    rw [show vs = [] from h]
    exact rfl
  | d :: ds, vs, n + 1, h => by
    obtain ⟨v, vr, rfl, h2, h3⟩ := h
    exact ⟨v, vr.take n, rfl, h2, Reps.take n h3⟩
theorem Reps.one {d : D} {v : V} (h : Rep K F d v) : Reps K F [d] [v] := ⟨v, [], rfl, h, rfl⟩
theorem Reps.snoc {ds : List D} {vs : List V} {d : D} {v : V} (h : Reps K F ds vs) (h' : Rep K F d v) : Reps K F (ds ++ [d]) (vs ++ [v]) := h.append (.one h')
theorem Reps.dropLast {ds : List D} {vs : List V} (h : Reps K F ds vs) : Reps K F ds.dropLast vs.dropLast := by
  rw [List.dropLast_eq_take, List.dropLast_eq_take, h.length]
  exact h.take _
theorem Reps.reverse : ∀ {ds : List D} {vs : List V}, Reps K F ds vs → Reps K F ds.reverse vs.reverse
  | [], vs, h => by
    rw [show vs = [] from h]
    exact rfl
  | d :: ds, vs, h => by
    obtain ⟨v, vr, rfl, h2, h3⟩ := h
    rw [List.reverse_cons, List.reverse_cons]
    exact (Reps.reverse h3).snoc h2
theorem Reps.set : ∀ {ds : List D} {vs : List V} {d : D} {v : V} (i : Nat), Reps K F ds vs → Rep K F d v → Reps K F (ds.set i d) (vs.set i v)
  | [], vs, d, v, i, h, h' => by
    rw [show vs = [] from h]
    exact rfl
  | d :: ds, vs, d', v', 0, h, h' => by
    obtain ⟨v, vr, rfl, h2, h3⟩ := h
    exact ⟨v', vr, rfl, h', h3⟩
  | d :: ds, vs, d', v', i + 1, h, h' => by
    obtain ⟨v, vr, rfl, h2, h3⟩ := h
    exact ⟨v, vr.set i v', rfl, h2, Reps.set i h3 h'⟩
theorem Reps.rep {ds : List D} {vs : List V} (h : Reps K F ds vs) : ∀ n : Nat, Reps K F (List.replicate n ds).flatten (List.replicate n vs).flatten
  | 0 => rfl
  | n + 1 => by
    rw [List.replicate_succ, List.replicate_succ, List.flatten_cons, List.flatten_cons]
    exact h.append (Reps.rep h n)

/-! ### whose it is: frozen; one's own, to be changed; a tuple of such -/
inductive O where
  | fz | own (o : O) | tup (os : List O)
def AllO (P : D → V → List Addr → Prop) : List D → List V → List Addr → Prop
  | [], vs, B => vs = [] ∧ B = []
  | d :: ds, vs, B => ∃ v vr B1 B2, vs = v :: vr ∧ B = B1 ++ B2 ∧ P d v B1 ∧ AllO P ds vr B2
def isBox : D → Bool
  | .lst _ => true | .dic _ => true
  | _ => false
def OwnR (K : PySem.W.Frag) (F H : Hp) (P : D → V → List Addr → Prop) (d : D) (v : V) (B : List Addr) : Prop :=
  (∃ ds a vs B', d = .lst ds ∧ v = .ref a ∧ F a = none ∧ H a = some (.lst vs) ∧ B = a :: B' ∧ AllO P ds vs B') ∨
  (∃ es a kvs, d = .dic es ∧ v = .ref a ∧ F a = none ∧ H a = some (.dK kvs) ∧ RepK K F es kvs ∧ B = [a]) ∨ (isBox d = false ∧ Rep K F d v ∧ B = [])
mutual
def RepO (K : PySem.W.Frag) (F H : Hp) : O → D → V → List Addr → Prop
  | .fz, d, v, B => Rep K F d v ∧ B = []
  | .own o, d, v, B => OwnR K F H (RepO K F H o) d v B
  | .tup os, d, v, B => ∃ ds a vs, d = .tup ds ∧ v = .ref a ∧ F a = some (.tup vs) ∧ RepT K F H os ds vs B
def RepT (K : PySem.W.Frag) (F H : Hp) : List O → List D → List V → List Addr → Prop
  | [], ds, vs, B => ds = [] ∧ vs = [] ∧ B = []
  | o :: os, ds, vs, B => ∃ d dr v vr B1 B2, ds = d :: dr ∧ vs = v :: vr ∧ B = B1 ++ B2 ∧ RepO K F H o d v B1 ∧ RepT K F H os dr vr B2
end
/-- a heap and what is frozen of it, grown -/
structure Grow (F H F' H' : Hp) : Prop where
  ff : Same F F'
  hh : Same H H'
  fh : Same F' H'
  sep : ∀ x, F x = none → H x ≠ none → F' x = none
theorem Grow.refl {F H : Hp} (e : Same F H) : Grow F H F H := ⟨Same.refl _, Same.refl _, e, fun _ h _ => h⟩
theorem there {H H' : Hp} {x : Addr} (e : Same H H') (h : H x ≠ none) : H' x ≠ none := by
  cases q : H x with
  | none => exact absurd q h
  | some o => rw [e _ _ q]; simp
theorem Grow.trans {F H F1 H1 F2 H2 : Hp} (a : Grow F H F1 H1) (b : Grow F1 H1 F2 H2) : Grow F H F2 H2 :=
  ⟨a.ff.trans b.ff, a.hh.trans b.hh, b.fh, fun x h1 h2 => b.sep x (a.sep x h1 h2) (there a.hh h2)⟩
theorem AllO.imp {P P' : D → V → List Addr → Prop} (h : ∀ d v B, P d v B → P' d v B) : ∀ {ds : List D} {vs : List V} {B : List Addr}, AllO P ds vs B → AllO P' ds vs B
  | [], vs, B, q => q
  | d :: ds, vs, B, q => by
    obtain ⟨v, vr, B1, B2, h1, h2, h3, h4⟩ := q
    exact ⟨v, vr, B1, B2, h1, h2, h _ _ _ h3, AllO.imp h h4⟩
theorem AllO.impB {P P' : D → V → List Addr → Prop} : ∀ {ds : List D} {vs : List V} {B : List Addr}, AllO P ds vs B → (∀ d v B1, (∀ x ∈ B1, x ∈ B) → P d v B1 → P' d v B1) → AllO P' ds vs B
  | [], vs, B, q, h => q
  | d :: ds, vs, B, q, h => by
    obtain ⟨v, vr, B1, B2, h1, h2, h3, h4⟩ := q
    subst h2
    exact ⟨v, vr, B1, B2, h1, rfl, h _ _ _ (fun x hx => List.mem_append_left _ hx) h3, AllO.impB h4 fun d v B1 hb => h d v B1 fun x hx => List.mem_append_right _ (hb x hx)⟩
/-- what a list of owned things is when its owned parts are known otherwise -/
theorem AllO.reps {P : D → V → List Addr → Prop} {F' : Hp} : ∀ {ds : List D} {vs : List V} {B : List Addr}, AllO P ds vs B → (∀ d v B1, (∀ x ∈ B1, x ∈ B) → P d v B1 → Rep K F' d v) → Reps K F' ds vs
  | [], vs, B, q, h => q.1
  | d :: ds, vs, B, q, h => by
    obtain ⟨v, vr, B1, B2, h1, h2, h3, h4⟩ := q
    subst h2
    exact ⟨v, vr, h1, h _ _ _ (fun x hx => List.mem_append_left _ hx) h3, AllO.reps h4 fun d v B1 hb => h d v B1 fun x hx => List.mem_append_right _ (hb x hx)⟩
theorem AllO.mem {P : D → V → List Addr → Prop} {x : Addr} {Z : Prop} : ∀ {ds : List D} {vs : List V} {B : List Addr}, AllO P ds vs B → x ∈ B → (∀ d v B1, P d v B1 → x ∈ B1 → Z) → Z
  | [], vs, B, q, hx, h => by rw [q.2] at hx; simp at hx
  | d :: ds, vs, B, q, hx, h => by
    obtain ⟨v, vr, B1, B2, h1, h2, h3, h4⟩ := q
    subst h2
    rcases List.mem_append.mp hx with hx | hx
    · exact h _ _ _ h3 hx
    · exact AllO.mem h4 hx h
mutual
theorem RepO.mem {x : Addr} : ∀ (o : O) (d : D) (v : V) (B : List Addr), RepO K F H o d v B → x ∈ B → F x = none ∧ H x ≠ none
  | .fz, d, v, B, h, hx => by rw [h.2] at hx; simp at hx
  | .own o, d, v, B, h, hx => by
    rcases h with ⟨ds, a, vs, B', _, _, h1, h2, h3, h4⟩ | ⟨es, a, kvs, _, _, h1, h2, _, h3⟩ | ⟨_, _, h3⟩
    · subst h3
      rcases List.mem_cons.mp hx with rfl | hx
      · exact ⟨h1, by rw [h2]; simp⟩
      · exact h4.mem hx fun d v B1 q hx' => RepO.mem o d v B1 q hx'
    · subst h3
      obtain rfl := List.mem_singleton.mp hx
      exact ⟨h1, by rw [h2]; simp⟩
    · subst h3
      simp at hx
  | .tup os, d, v, B, h, hx => by
    obtain ⟨ds, a, vs, _, _, _, h4⟩ := h
    exact RepT.mem os ds vs B h4 hx
theorem RepT.mem {x : Addr} : ∀ (os : List O) (ds : List D) (vs : List V) (B : List Addr), RepT K F H os ds vs B → x ∈ B → F x = none ∧ H x ≠ none
  | [], ds, vs, B, h, hx => by rw [h.2.2] at hx; simp at hx
  | o :: os, ds, vs, B, h, hx => by
    obtain ⟨d, dr, v, vr, B1, B2, _, _, h3, h4, h5⟩ := h
    subst h3
    rcases List.mem_append.mp hx with hx | hx
    · exact RepO.mem o d v B1 h4 hx
    · exact RepT.mem os dr vr B2 h5 hx
end
mutual
theorem RepO.keep : ∀ (o : O) (d : D) (v : V) (B : List Addr), Same F F' → (∀ x ∈ B, F' x = none ∧ H' x = H x) → RepO K F H o d v B → RepO K F' H' o d v B
  | .fz, d, v, B, e, hB, h => ⟨Rep.mono e d v h.1, h.2⟩
  | .own o, d, v, B, e, hB, h => by
    rcases h with ⟨ds, a, vs, B', h1, h2, h3, h4, h5, h6⟩ | ⟨es, a, kvs, h1, h2, h3, h4, h5, h6⟩ | ⟨h1, h2, h3⟩
    · subst h5
      refine .inl ⟨ds, a, vs, B', h1, h2, (hB a (by simp)).1, by rw [(hB a (by simp)).2]; exact h4, rfl, h6.impB fun d v B1 hb q => RepO.keep o d v B1 e (fun x hx => hB x (List.mem_cons_of_mem _ (hb x hx))) q⟩
    · subst h6
      exact .inr (.inl ⟨es, a, kvs, h1, h2, (hB a (by simp)).1, by rw [(hB a (by simp)).2]; exact h4, RepK.mono e es kvs h5, rfl⟩)
    · exact .inr (.inr ⟨h1, Rep.mono e d v h2, h3⟩)
  | .tup os, d, v, B, e, hB, h => by
    obtain ⟨ds, a, vs, h1, h2, h3, h4⟩ := h
    exact ⟨ds, a, vs, h1, h2, e _ _ h3, RepT.keep os ds vs B e hB h4⟩
theorem RepT.keep : ∀ (os : List O) (ds : List D) (vs : List V) (B : List Addr), Same F F' → (∀ x ∈ B, F' x = none ∧ H' x = H x) → RepT K F H os ds vs B → RepT K F' H' os ds vs B
  | [], ds, vs, B, e, hB, h => h
  | o :: os, ds, vs, B, e, hB, h => by
    obtain ⟨d, dr, v, vr, B1, B2, h1, h2, h3, h4, h5⟩ := h
    subst h3
    exact ⟨d, dr, v, vr, B1, B2, h1, h2, rfl, RepO.keep o d v B1 e (fun x hx => hB x (List.mem_append_left _ hx)) h4, RepT.keep os dr vr B2 e (fun x hx => hB x (List.mem_append_right _ hx)) h5⟩
end
mutual
theorem RepO.thaw : ∀ (o : O) (d : D) (v : V) (B : List Addr), Same F F' → (∀ x ∈ B, F' x = H x) → RepO K F H o d v B → Rep K F' d v
  | .fz, d, v, B, e, hB, h => Rep.mono e d v h.1
  | .own o, d, v, B, e, hB, h => by
    rcases h with ⟨ds, a, vs, B', h1, h2, h3, h4, h5, h6⟩ | ⟨es, a, kvs, h1, h2, h3, h4, h5, h6⟩ | ⟨h1, h2, h3⟩
    · subst h5
      subst h1
      exact ⟨a, vs, h2, by rw [hB a (by simp)]; exact h4, h6.reps fun d v B1 hb q => RepO.thaw o d v B1 e (fun x hx => hB x (List.mem_cons_of_mem _ (hb x hx))) q⟩
    · subst h6
      subst h1
      exact ⟨a, kvs, h2, .inl (by rw [hB a (by simp)]; exact h4), RepK.mono e es kvs h5⟩
    · exact Rep.mono e d v h2
  | .tup os, d, v, B, e, hB, h => by
    obtain ⟨ds, a, vs, h1, h2, h3, h4⟩ := h
    subst h1
    exact ⟨a, vs, h2, e _ _ h3, RepT.thaw os ds vs B e hB h4⟩
theorem RepT.thaw : ∀ (os : List O) (ds : List D) (vs : List V) (B : List Addr), Same F F' → (∀ x ∈ B, F' x = H x) → RepT K F H os ds vs B → Reps K F' ds vs
  | [], ds, vs, B, e, hB, h => by
    rw [h.1]
    exact h.2.1
  | o :: os, ds, vs, B, e, hB, h => by
    obtain ⟨d, dr, v, vr, B1, B2, h1, h2, h3, h4, h5⟩ := h
    subst h3
    subst h1
    exact ⟨v, vr, h2, RepO.thaw o d v B1 e (fun x hx => hB x (List.mem_append_left _ hx)) h4, RepT.thaw os dr vr B2 e (fun x hx => hB x (List.mem_append_right _ hx)) h5⟩
end
theorem RepO.grow {o : O} {d : D} {v : V} {B : List Addr} (g : Grow F H F' H') (h : RepO K F H o d v B) : RepO K F' H' o d v B :=
  RepO.keep o d v B g.ff (fun x hx => by
    obtain ⟨h1, h2⟩ := RepO.mem o d v B h hx
    refine ⟨g.sep x h1 h2, ?_⟩
    cases q : H x with
    | none => exact absurd q h2
    | some u => exact g.hh _ _ q) h
theorem RepT.grow {os : List O} {ds : List D} {vs : List V} {B : List Addr} (g : Grow F H F' H') (h : RepT K F H os ds vs B) : RepT K F' H' os ds vs B :=
  RepT.keep os ds vs B g.ff (fun x hx => by
    obtain ⟨h1, h2⟩ := RepT.mem os ds vs B h hx
    refine ⟨g.sep x h1 h2, ?_⟩
    cases q : H x with
    | none => exact absurd q h2
    | some u => exact g.hh _ _ q) h
end

/-! ### the names' values -/
inductive Sl (K : PySem.W.Frag) (F H : Hp) : List O → Env → L2.St → List (List Addr) → Prop where
  | nil : Sl K F H [] [] [] []
  | none {o ω ρ x σ As} : Sl K F H ω ρ σ As → Sl K F H (o :: ω) (none :: ρ) (x :: σ) ([] :: As)
  | some {o ω d ρ v σ B As} : RepO K F H o d v B → Sl K F H ω ρ σ As → Sl K F H (o :: ω) (some d :: ρ) (some v :: σ) (B :: As)
/-- the state: what is frozen is part of the heap, the names' values stand for data -/
structure Stt (K : PySem.W.Frag) (ω : List O) (ρ : Env) (σ : L2.St) (F H : Hp) (As : List (List Addr)) : Prop where
  ex : Same F H
  sl : Sl K F H ω ρ σ As
  nd : As.flatten.Nodup
section
variable {K : PySem.W.Frag} {F F' H H' : Hp} {ω : List O} {ρ : Env} {σ : L2.St} {As : List (List Addr)}
theorem Sl.lens (h : Sl K F H ω ρ σ As) : ρ.length = ω.length ∧ σ.length = ω.length ∧ As.length = ω.length := by
  induction h with
  | nil => exact ⟨rfl, rfl, rfl⟩
  | none _ ih => exact ⟨by simp [ih.1], by simp [ih.2.1], by simp [ih.2.2]⟩
  | some _ _ ih => exact ⟨by simp [ih.1], by simp [ih.2.1], by simp [ih.2.2]⟩
theorem Sl.mem {x : Addr} (h : Sl K F H ω ρ σ As) (hx : x ∈ As.flatten) : F x = Option.none ∧ H x ≠ Option.none := by
  induction h with
  | nil => simp at hx
  | none _ ih => exact ih (by simpa using hx)
  | some r _ ih =>
    rw [List.flatten_cons] at hx
    rcases List.mem_append.mp hx with hx | hx
    · exact RepO.mem _ _ _ _ r hx
    · exact ih hx
theorem Sl.keep (h : Sl K F H ω ρ σ As) (e : Same F F') (hB : ∀ x ∈ As.flatten, F' x = Option.none ∧ H' x = H x) : Sl K F' H' ω ρ σ As := by
  induction h with
  | nil => exact .nil
  | none _ ih => exact .none (ih fun x hx => hB x (by simpa using hx))
  | some r _ ih =>
    rw [List.flatten_cons] at hB
    exact .some (RepO.keep _ _ _ _ e (fun x hx => hB x (List.mem_append_left _ hx)) r) (ih fun x hx => hB x (List.mem_append_right _ hx))
theorem Sl.get {i : Nat} {o : O} {d : D} (h : Sl K F H ω ρ σ As) (ho : ω[i]? = Option.some o) (hd : ρ[i]? = Option.some (Option.some d)) : ∃ v B, σ[i]? = Option.some (Option.some v) ∧ As[i]? = Option.some B ∧ RepO K F H o d v B := by
  induction h generalizing i with
  | nil => simp at hd
  | none _ ih =>
    cases i with
    | zero => simp at hd
    | succ i => exact ih (by simpa using ho) (by simpa using hd)
  | some r _ ih =>
    cases i with
    | zero =>
      simp at hd ho
      subst hd
      subst ho
      exact ⟨_, _, rfl, rfl, r⟩
    | succ i => exact ih (by simpa using ho) (by simpa using hd)
theorem Sl.getO {i : Nat} {d : D} (h : Sl K F H ω ρ σ As) (hd : ρ[i]? = Option.some (Option.some d)) : ∃ o, ω[i]? = Option.some o := by
  have hi : i < ω.length := by
    have := (List.getElem?_eq_some_iff.mp hd).1
    rw [h.lens.1] at this
    exact this
  exact ⟨_, List.getElem?_eq_getElem hi⟩
/-- all looked at as frozen -/
theorem Sl.thaw (h : Sl K F H ω ρ σ As) (e : Same F F') (hB : ∀ x ∈ As.flatten, F' x = H x) : Sl K F' H' (ω.map fun _ => .fz) ρ σ (As.map fun _ => []) := by
  induction h with
  | nil => exact .nil
  | none _ ih => exact .none (ih fun x hx => hB x (by simpa using hx))
  | some r _ ih =>
    rw [List.flatten_cons] at hB
    exact .some ⟨RepO.thaw _ _ _ _ e (fun x hx => hB x (List.mem_append_left _ hx)) r, rfl⟩ (ih fun x hx => hB x (List.mem_append_right _ hx))
theorem Stt.grow (S : Stt K ω ρ σ F H As) (g : Grow F H F' H') : Stt K ω ρ σ F' H' As :=
  ⟨g.fh, S.sl.keep g.ff fun x hx => by
    obtain ⟨h1, h2⟩ := S.sl.mem hx
    refine ⟨g.sep x h1 h2, ?_⟩
    cases q : H x with
    | none => exact absurd q h2
    | some u => exact g.hh _ _ q, S.nd⟩
/-- the owned things of the names counted as frozen -/
def thawed (F H : Hp) (A : List Addr) : Hp := fun x => if x ∈ A then H x else F x
theorem thawed_in {A : List Addr} {x : Addr} (h : x ∈ A) : thawed F H A x = H x := by
  unfold thawed
  rw [if_pos h]
theorem thawed_out {A : List Addr} {x : Addr} (h : x ∉ A) : thawed F H A x = F x := by
  unfold thawed
  rw [if_neg h]
theorem thawed_same {A : List Addr} (hA : ∀ x ∈ A, F x = Option.none) : Same F (thawed F H A) := fun x o e => by
  by_cases h : x ∈ A
  · rw [hA x h] at e
    cases e
  · rw [thawed_out h]
    exact e
theorem thawed_heap {A : List Addr} (e : Same F H) : Same (thawed F H A) H := fun x o q => by
  by_cases h : x ∈ A
  · rw [thawed_in h] at q
    exact q
  · rw [thawed_out h] at q
    exact e _ _ q
theorem Stt.thaw (S : Stt K ω ρ σ F H As) : Stt K (ω.map fun _ => .fz) ρ σ (thawed F H As.flatten) H (As.map fun _ => []) :=
  ⟨thawed_heap S.ex, S.sl.thaw (thawed_same fun x hx => (S.sl.mem hx).1) fun x hx => thawed_in hx, by
    have e : (As.map fun _ => ([] : List Addr)).flatten = [] := by
      generalize As = L
      induction L with
      | nil => rfl
      | cons a r ih => rw [List.map_cons, List.flatten_cons, ih]; rfl
    rw [e]
    exact List.nodup_nil⟩
end
end Dn

/-! What a reading gives, told by a function over data. -/
namespace Dn
open PySem L2

def clsOf (mg : Str → Option Value) (c : Str) : Value := (mg c).getD .none
/-- x is an owned thing of one of the names M -/
def OfM (As : List (List Addr)) (M : List Nat) (x : Addr) : Prop := ∃ i ∈ M, ∃ B, As[i]? = some B ∧ x ∈ B
theorem OfM.nil {As : List (List Addr)} {x : Addr} (h : OfM As [] x) : False := by
  obtain ⟨i, hi, _⟩ := h
  simp at hi
theorem OfM.flat {As : List (List Addr)} {M : List Nat} {x : Addr} (h : OfM As M x) : x ∈ As.flatten := by
  obtain ⟨i, _, B, hB, hx⟩ := h
  exact List.mem_flatten.mpr ⟨B, List.mem_of_getElem? hB, hx⟩
theorem OfM.imp {As : List (List Addr)} {M M' : List Nat} {x : Addr} (h : OfM As M x) (hM : ∀ i ∈ M, i ∈ M') : OfM As M' x := by
  obtain ⟨i, hi, q⟩ := h
  exact ⟨i, hM i hi, q⟩
theorem flat_apart {As : List (List Addr)} (nd : As.flatten.Nodup) {i j : Nat} {B C : List Addr} {x : Addr} (hi : As[i]? = some B) (hj : As[j]? = some C) (hB : x ∈ B) (hC : x ∈ C) : i = j := by
  induction As generalizing i j with
  | nil => simp at hi
  | cons a r ih =>
    rw [List.flatten_cons] at nd
    obtain ⟨_, n2, n3⟩ := List.nodup_append.mp nd
    cases i with
    | zero =>
      cases j with
      | zero => rfl
      | succ j =>
        simp at hi hj
        subst hi
        exact absurd rfl (n3 x hB x (List.mem_flatten.mpr ⟨C, List.mem_of_getElem? hj, hC⟩))
    | succ i =>
      cases j with
      | zero =>
        simp at hi hj
        subst hj
        exact absurd rfl (n3 x hC x (List.mem_flatten.mpr ⟨B, List.mem_of_getElem? hi, hB⟩))
      | succ j => exact congrArg Nat.succ (ih n2 (by simpa using hi) (by simpa using hj))
theorem flat_part {As : List (List Addr)} (nd : As.flatten.Nodup) {i : Nat} {B : List Addr} (hi : As[i]? = some B) : B.Nodup := by
  induction As generalizing i with
  | nil => simp at hi
  | cons a r ih =>
    rw [List.flatten_cons] at nd
    obtain ⟨n1, n2, _⟩ := List.nodup_append.mp nd
    cases i with
    | zero =>
      simp at hi
      subst hi
      exact n1
    | succ i => exact ih n2 (by simpa using hi)

section
variable (mg : Str → Option Value) (E : XK) (K : PySem.W.Frag)
def Pst (o : O) (As : List (List Addr)) (M : List Nat) (F H : Hp) (Q : VK) : R D → Prop
  | .ok d => ∀ v F' H' B, Grow F H F' H' → RepO K F' H' o d v B → (∀ x ∈ B, H x = none ∨ OfM As M x) → B.Nodup → Q v H'
  | .exc c => ∀ H', Same H H' → E (clsOf mg c) none H'
  | .no => False
def PstT (F H : Hp) (Q : Bool → Hp → Prop) : R Bool → Prop
  | .ok b => ∀ F' H', Grow F H F' H' → Q b H'
  | .exc c => ∀ H', Same H H' → E (clsOf mg c) none H'
  | .no => False
def PstA (os : List O) (As : List (List Addr)) (M : List Nat) (F H : Hp) (Q : List V → Hp → Prop) : R (List D) → Prop
  | .ok ds => ∀ vs F' H' B, Grow F H F' H' → RepT K F' H' os ds vs B → (∀ x ∈ B, H x = none ∨ OfM As M x) → B.Nodup → Q vs H'
  | .exc c => ∀ H', Same H H' → E (clsOf mg c) none H'
  | .no => False
def Sem (ω : List O) (t : TE) (f : Env → R D) (o : O) (M : List Nat) : Prop := ∀ σ ρ F H As Q, Stt K ω ρ σ F H As → Pst mg E K o As M F H Q (f ρ) → t σ H Q
def SemT (ω : List O) (t : TT) (f : Env → R Bool) : Prop := ∀ σ ρ F H As Q, Stt K ω ρ σ F H As → PstT mg E F H Q (f ρ) → t σ H Q
def SemA (ω : List O) (t : TA) (f : Env → R (List D)) (os : List O) (M : List Nat) : Prop := ∀ σ ρ F H As Q, Stt K ω ρ σ F H As → PstA mg E K os As M F H Q (f ρ) → t σ H Q
end
structure DE (X : Cx) (E : XK) (ω : List O) (e : Expr) (t : TE) (f : Env → R D) (o : O) (M : List Nat) : Prop where
  pe : PE X e t
  sem : Sem X.mg E X.K ω t f o M
structure DT (X : Cx) (E : XK) (ω : List O) (e : Expr) (t : TT) (f : Env → R Bool) : Prop where
  pt : PT X e t
  sem : SemT X.mg E X.K ω t f
structure DA (X : Cx) (E : XK) (ω : List O) (es : List Expr) (t : TA) (f : Env → R (List D)) (os : List O) (M : List Nat) : Prop where
  pa : PA X es t
  sem : SemA X.mg E X.K ω t f os M

section
variable {mg : Str → Option Value} {E : XK} {K : PySem.W.Frag} {F F' H H' F1 H1 : Hp} {ω : List O} {ρ : Env} {σ : L2.St} {As : List (List Addr)} {o o' : O} {M M' : List Nat}
theorem fresh_of {H H1 : Hp} {x : Addr} (e : Same H H1) (h : H1 x = none) : H x = none := e.free h
theorem Pst.grow {Q : VK} {r : R D} (g : Grow F H F1 H1) (p : Pst mg E K o As M F H Q r) : Pst mg E K o As M F1 H1 Q r := by
  cases r with
  | ok d => exact fun v F' H' B g' r hB nd => p v F' H' B (g.trans g') r (fun x hx => (hB x hx).imp (fresh_of g.hh) id) nd
  | exc c => exact fun H' e => p H' (g.hh.trans e)
  | no => exact p
theorem PstT.grow {Q : Bool → Hp → Prop} {r : R Bool} (g : Grow F H F1 H1) (p : PstT mg E F H Q r) : PstT mg E F1 H1 Q r := by
  cases r with
  | ok d => exact fun F' H' g' => p F' H' (g.trans g')
  | exc c => exact fun H' e => p H' (g.hh.trans e)
  | no => exact p
theorem PstA.grow {Q : List V → Hp → Prop} {os : List O} {r : R (List D)} (g : Grow F H F1 H1) (p : PstA mg E K os As M F H Q r) : PstA mg E K os As M F1 H1 Q r := by
  cases r with
  | ok d => exact fun v F' H' B g' r hB nd => p v F' H' B (g.trans g') r (fun x hx => (hB x hx).imp (fresh_of g.hh) id) nd
  | exc c => exact fun H' e => p H' (g.hh.trans e)
  | no => exact p
/-- an expression, then something of its value -/
theorem Sem.go {t : TE} {f : Env → R D} {Q1 : VK} {α : Type} {P : Hp → Hp → R α → Prop} {k : D → R α} (h : Sem mg E K ω t f o M) (S : Stt K ω ρ σ F H As)
    (hx : ∀ c, P F H (.exc c) → ∀ H', Same H H' → E (clsOf mg c) none H') (hn : P F H .no → False) (hg : ∀ d F1 H1, Grow F H F1 H1 → P F H (k d) → P F1 H1 (k d)) (p : P F H (f ρ >>= k))
    (n : ∀ d v F1 H1 B, Grow F H F1 H1 → Stt K ω ρ σ F1 H1 As → RepO K F1 H1 o d v B → (∀ x ∈ B, H x = none ∨ OfM As M x) → B.Nodup → P F1 H1 (k d) → Q1 v H1) : t σ H Q1 := by
  refine h σ ρ F H As Q1 S ?_
  cases hf : f ρ with
  | ok d =>
    rw [hf] at p
    exact fun v F1 H1 B g r hB nd => n d v F1 H1 B g (S.grow g) r hB nd (hg d F1 H1 g p)
  | exc c =>
    rw [hf] at p
    exact hx c p
  | no =>
    rw [hf] at p
    exact hn p
/-- the same into a value -/
theorem Sem.then {t : TE} {f : Env → R D} {Q Q1 : VK} {k : D → R D} (h : Sem mg E K ω t f o M) (S : Stt K ω ρ σ F H As) (p : Pst mg E K o' As M' F H Q (f ρ >>= k))
    (n : ∀ d v F1 H1 B, Grow F H F1 H1 → Stt K ω ρ σ F1 H1 As → RepO K F1 H1 o d v B → (∀ x ∈ B, H x = none ∨ OfM As M x) → B.Nodup → Pst mg E K o' As M' F1 H1 Q (k d) → Q1 v H1) : t σ H Q1 :=
  h.go S (P := fun F H r => Pst mg E K o' As M' F H Q r) (fun _ q => q) (fun q => q) (fun _ _ _ g q => q.grow g) p n
theorem Sem.thenT {t : TE} {f : Env → R D} {Q : Bool → Hp → Prop} {Q1 : VK} {k : D → R Bool} (h : Sem mg E K ω t f o M) (S : Stt K ω ρ σ F H As) (p : PstT mg E F H Q (f ρ >>= k))
    (n : ∀ d v F1 H1 B, Grow F H F1 H1 → Stt K ω ρ σ F1 H1 As → RepO K F1 H1 o d v B → (∀ x ∈ B, H x = none ∨ OfM As M x) → B.Nodup → PstT mg E F1 H1 Q (k d) → Q1 v H1) : t σ H Q1 :=
  h.go S (P := fun F H r => PstT mg E F H Q r) (fun _ q => q) (fun q => q) (fun _ _ _ g q => q.grow g) p n
theorem Sem.thenA {t : TE} {f : Env → R D} {os : List O} {Q : List V → Hp → Prop} {Q1 : VK} {k : D → R (List D)} (h : Sem mg E K ω t f o M) (S : Stt K ω ρ σ F H As) (p : PstA mg E K os As M' F H Q (f ρ >>= k))
    (n : ∀ d v F1 H1 B, Grow F H F1 H1 → Stt K ω ρ σ F1 H1 As → RepO K F1 H1 o d v B → (∀ x ∈ B, H x = none ∨ OfM As M x) → B.Nodup → PstA mg E K os As M' F1 H1 Q (k d) → Q1 v H1) : t σ H Q1 :=
  h.go S (P := fun F H r => PstA mg E K os As M' F H Q r) (fun _ q => q) (fun q => q) (fun _ _ _ g q => q.grow g) p n
theorem SemA.then {t : TA} {f : Env → R (List D)} {os : List O} {Q : VK} {Q1 : List V → Hp → Prop} {k : List D → R D} (h : SemA mg E K ω t f os M) (S : Stt K ω ρ σ F H As) (p : Pst mg E K o' As M' F H Q (f ρ >>= k))
    (n : ∀ d v F1 H1 B, Grow F H F1 H1 → Stt K ω ρ σ F1 H1 As → RepT K F1 H1 os d v B → (∀ x ∈ B, H x = none ∨ OfM As M x) → B.Nodup → Pst mg E K o' As M' F1 H1 Q (k d) → Q1 v H1) : t σ H Q1 := by
  refine h σ ρ F H As Q1 S ?_
  cases hf : f ρ with
  | ok d =>
    rw [hf] at p
    exact fun v F1 H1 B g r hB nd => n d v F1 H1 B g (S.grow g) r hB nd (Pst.grow g p)
  | exc c =>
    rw [hf] at p
    exact p
  | no =>
    rw [hf] at p
    exact p
theorem SemT.then {t : TT} {f : Env → R Bool} {Q : VK} {Q1 : Bool → Hp → Prop} {k : Bool → R D} (h : SemT mg E K ω t f) (S : Stt K ω ρ σ F H As) (p : Pst mg E K o' As M' F H Q (f ρ >>= k))
    (n : ∀ b F1 H1, Grow F H F1 H1 → Stt K ω ρ σ F1 H1 As → Pst mg E K o' As M' F1 H1 Q (k b) → Q1 b H1) : t σ H Q1 := by
  refine h σ ρ F H As Q1 S ?_
  cases hf : f ρ with
  | ok d =>
    rw [hf] at p
    exact fun F1 H1 g => n d F1 H1 g (S.grow g) (Pst.grow g p)
  | exc c =>
    rw [hf] at p
    exact p
  | no =>
    rw [hf] at p
    exact p
theorem SemT.thenT {t : TT} {f : Env → R Bool} {Q Q1 : Bool → Hp → Prop} {k : Bool → R Bool} (h : SemT mg E K ω t f) (S : Stt K ω ρ σ F H As) (p : PstT mg E F H Q (f ρ >>= k))
    (n : ∀ b F1 H1, Grow F H F1 H1 → Stt K ω ρ σ F1 H1 As → PstT mg E F1 H1 Q (k b) → Q1 b H1) : t σ H Q1 := by
  refine h σ ρ F H As Q1 S ?_
  cases hf : f ρ with
  | ok d =>
    rw [hf] at p
    exact fun F1 H1 g => n d F1 H1 g (S.grow g) (PstT.grow g p)
  | exc c =>
    rw [hf] at p
    exact p
  | no =>
    rw [hf] at p
    exact p
/-- ends: a value that is there -/
theorem Pst.fin {Q : VK} {d : D} {v : V} (p : Pst mg E K .fz As M F H Q (.ok d)) (e : Same F H) (r : Rep K F d v) : Q v H := p v F H [] (Grow.refl e) ⟨r, rfl⟩ (fun _ h => by simp at h) List.nodup_nil
/-- .. a new object, frozen -/
theorem Grow.new {p : Addr} {u : HO} (e : Same F H) (hp : H p = none) : Grow F H (upd F p u) (upd H p u) := by
  have fp : F p = none := e.free hp
  refine ⟨fun x q hx => ?_, fun x q hx => ?_, fun x q hx => ?_, fun x h1 h2 => ?_⟩
  · rw [upd_ne (ne_of_none hx fp)]; exact hx
  · rw [upd_ne (ne_of_none hx hp)]; exact hx
  · by_cases h : x = p
    · subst h
      rw [upd_same] at hx ⊢
      exact hx
    · rw [upd_ne h] at hx ⊢
      exact e _ _ hx
  · have : x ≠ p := fun q => by subst q; exact h2 hp
    rw [upd_ne this]; exact h1
/-- .. a new object, owned -/
theorem Grow.newO {p : Addr} {u : HO} (e : Same F H) (hp : H p = none) : Grow F H F (upd H p u) := by
  refine ⟨Same.refl _, fun x q hx => ?_, fun x q hx => ?_, fun x h1 _ => h1⟩
  · rw [upd_ne (ne_of_none hx hp)]; exact hx
  · rw [upd_ne (ne_of_none (e _ _ hx) hp)]; exact e _ _ hx
theorem Pst.newL {Q : VK} {ds : List D} {vs : List V} {p : Addr} (q : Pst mg E K (.own .fz) As M F H Q (.ok (.lst ds))) (e : Same F H) (hp : H p = none) (r : Reps K F ds vs) : Q (.ref p) (upd H p (.lst vs)) := by
  refine q (.ref p) F _ [p] (Grow.newO e hp) (.inl ⟨ds, p, vs, [], rfl, rfl, e.free hp, upd_same, rfl, ?_⟩) (fun x hx => .inl (by rw [List.mem_singleton.mp hx]; exact hp)) (by simp)
  clear q
  induction ds generalizing vs with
  | nil => exact ⟨r, rfl⟩
  | cons d ds ih =>
    obtain ⟨v, vr, rfl, h2, h3⟩ := r
    exact ⟨v, vr, [], [], rfl, rfl, ⟨h2, rfl⟩, ih h3⟩
theorem Pst.newD {Q : VK} {es : List (L2.Key × D)} {kvs : List (L2.Key × V)} {p : Addr} (q : Pst mg E K (.own .fz) As M F H Q (.ok (.dic es))) (e : Same F H) (hp : H p = none) (r : RepK K F es kvs) : Q (.ref p) (upd H p (.dK kvs)) :=
  q (.ref p) F _ [p] (Grow.newO e hp) (.inr (.inl ⟨es, p, kvs, rfl, rfl, e.free hp, upd_same, r, rfl⟩)) (fun x hx => .inl (by rw [List.mem_singleton.mp hx]; exact hp)) (by simp)
theorem Pst.newT {Q : VK} {ds : List D} {vs : List V} {p : Addr} (q : Pst mg E K .fz As M F H Q (.ok (.tup ds))) (e : Same F H) (hp : H p = none) (r : Reps K F ds vs) : Q (.ref p) (upd H p (.tup vs)) :=
  q (.ref p) _ _ [] (Grow.new e hp) ⟨⟨p, vs, rfl, upd_same, Reps.mono (Grow.new e hp).ff ds vs r⟩, rfl⟩ (fun _ h => by simp at h) List.nodup_nil
end

/-! ### names, constants -/
def eVar (i : Nat) (ρ : Env) : R D := match ρ[i]? with
  | some (some d) => .ok d
  | _ => .no
def eC (d : D) (_ : Env) : R D := .ok d
section
variable {X : Cx} {E : XK} {ω : List O} {e a b : Expr} {t ta tb : TE} {f fa fb : Env → R D} {o : O} {M : List Nat} {pos : Pos}
theorem sem_var {mg : Str → Option Value} {K : PySem.W.Frag} {i : Nat} {o : O} {M : List Nat} (h : ω[i]? = some o) (hM : o = .fz ∨ i ∈ M) : Sem mg E K ω (tVar i) (eVar i) o M := fun σ ρ F H As Q S p => by
  unfold eVar at p
  cases q : ρ[i]? with
  | none => rw [q] at p; exact p.elim
  | some u =>
    rw [q] at p
    cases u with
    | none => exact p.elim
    | some d =>
      obtain ⟨v, B, h1, h2, h3⟩ := S.sl.get h q
      refine ⟨v, h1, p v F H B (Grow.refl S.ex) h3 (fun x hx => ?_) (flat_part S.nd h2)⟩
      rcases hM with rfl | hM
      · rw [h3.2] at hx; simp at hx
      · exact .inr ⟨i, hM, B, h2, hx⟩
theorem de_var (i : Nat) {x : Str} (h : ω[i]? = some .fz := by rfl) (hN : X.N[i]? = some x := by rfl) (hv : Vis X.env.scope x := by first | exact Or.inl rfl | exact Or.inr (Or.inl rfl) | exact Or.inr (Or.inr rfl)) (hd : (x == ("__debug__" : Str)) = false := by decide)
    (hcd : (x == ("__classdict__" : Str)) = false := by decide) : DE X E ω (.Name x pos) (tVar i) (eVar i) .fz [] := ⟨pe_var hN hv hd hcd, sem_var h (.inl rfl)⟩
theorem de_move (i : Nat) {o : O} {x : Str} (h : ω[i]? = some o := by rfl) (hN : X.N[i]? = some x := by rfl) (hv : Vis X.env.scope x := by first | exact Or.inl rfl | exact Or.inr (Or.inl rfl) | exact Or.inr (Or.inr rfl)) (hd : (x == ("__debug__" : Str)) = false := by decide)
    (hcd : (x == ("__classdict__" : Str)) = false := by decide) : DE X E ω (.Name x pos) (tVar i) (eVar i) o [i] := ⟨pe_var hN hv hd hcd, sem_var h (.inr (by simp))⟩
theorem sem_c {mg : Str → Option Value} {K : PySem.W.Frag} {v : V} {d : D} (h : ∀ F, Rep K F d v) : Sem mg E K ω (tC v) (eC d) .fz [] := fun σ ρ F H As Q S p => p.fin S.ex (h F)
theorem de_int {i j} : DE X E ω (.Constant (.int i) j pos) (tC (.int i)) (eC (.int i)) .fz [] := ⟨pe_int, sem_c fun _ => rfl⟩
theorem de_bl {i j} : DE X E ω (.Constant (.bool i) j pos) (tC (.bl i)) (eC (.bl i)) .fz [] := ⟨pe_bl, sem_c fun _ => rfl⟩
theorem de_non {j} : DE X E ω (.Constant .none j pos) (tC .non) (eC .non) .fz [] := ⟨pe_non, sem_c fun _ => rfl⟩
theorem de_str {s j} : DE X E ω (.Constant (.str s) j pos) (tC (.str s)) (eC (.str s)) .fz [] := ⟨pe_str, sem_c fun _ => rfl⟩
/-- a module's constant, an int or a text -/
theorem de_gint {x : Str} {i : Int} (hm : ∃ t, X.mg x = some (.int i t)) (hg : Gl X x := by rfl) (hd : (x == ("__debug__" : Str)) = false := by decide) : DE X E ω (.Name x pos) (tC (.int i)) (eC (.int i)) .fz [] := by
  obtain ⟨t, hm⟩ := hm
  exact ⟨pe_glob hg hm ⟨t, rfl⟩ hd, sem_c fun _ => rfl⟩
theorem de_gstr {x : Str} {i : Str} (hm : ∃ t, X.mg x = some (.str i t)) (hg : Gl X x := by rfl) (hd : (x == ("__debug__" : Str)) = false := by decide) : DE X E ω (.Name x pos) (tC (.str i)) (eC (.str i)) .fz [] := by
  obtain ⟨t, hm⟩ := hm
  exact ⟨pe_glob hg hm ⟨t, rfl⟩ hd, sem_c fun _ => rfl⟩

/-! ### freezing a result; looking at what is owned -/
theorem sem_frz {mg : Str → Option Value} {K : PySem.W.Frag} {t : TE} {f : Env → R D} {o : O} (h : Sem mg E K ω t f o []) : Sem mg E K ω t f .fz [] := fun σ ρ F H As Q S p => by
  refine h σ ρ F H As Q S ?_
  cases hf : f ρ with
  | ok d =>
    rw [hf] at p
    intro v F' H' B g r hB nd
    have hB0 : ∀ x ∈ B, F' x = none := fun x hx => (RepO.mem o d v B r hx).1
    refine p v (thawed F' H' B) H' [] ⟨g.ff.trans (thawed_same hB0), g.hh, thawed_heap g.fh, fun x h1 h2 => ?_⟩ ⟨RepO.thaw o d v B (thawed_same hB0) (fun x hx => thawed_in hx) r, rfl⟩ (fun _ h => by simp at h) List.nodup_nil
    have : x ∉ B := fun hx => by
      rcases hB x hx with q | q
      · exact h2 q
      · exact q.nil.elim
    rw [thawed_out this]
    exact g.sep x h1 h2
  | exc c => rw [hf] at p; exact p
  | no => rw [hf] at p; exact p
theorem de_frz (h : DE X E ω e t f o []) : DE X E ω e t f .fz [] := ⟨h.pe, sem_frz h.sem⟩
def isScal : D → Bool
  | .non => true | .bl _ => true | .int _ => true | .str _ => true
  | _ => false
def scal1 (d : D) : R D := if isScal d = true then .ok d else .no
/-- a value that is no object, found by looking at what is owned, too -/
def eLook (f : Env → R D) (ρ : Env) : R D := f ρ >>= scal1
theorem rep_scal {K : PySem.W.Frag} {F F' : Hp} {d : D} {v : V} (h : isScal d = true) (r : Rep K F d v) : Rep K F' d v := by
  cases d <;> first | exact r | (exact absurd h (by simp [isScal]))
theorem sem_look {mg : Str → Option Value} {K : PySem.W.Frag} {t : TE} {f : Env → R D} (h : Sem mg E K (ω.map fun _ => .fz) t f .fz []) : Sem mg E K ω t (eLook f) .fz [] := fun σ ρ F H As Q S p => by
  refine h σ ρ _ H _ Q S.thaw ?_
  unfold eLook at p
  cases hf : f ρ with
  | ok d =>
    rw [hf] at p
    intro v F' H' B g r hB nd
    by_cases hs : isScal d = true
    · have p' : Pst mg E K .fz As [] F H Q (.ok d) := by
        have e : (R.ok d >>= scal1) = R.ok d := by
          show scal1 d = _
          unfold scal1
          rw [if_pos hs]
        rw [e] at p
        exact p
      exact p' v F H' [] ⟨Same.refl _, g.hh, S.ex.trans g.hh, fun _ q _ => q⟩ ⟨rep_scal hs r.1, rfl⟩ (fun _ h => by simp at h) List.nodup_nil
    · have e : (R.ok d >>= scal1) = R.no := by
        show scal1 d = _
        unfold scal1
        rw [if_neg hs]
      rw [e] at p
      exact p.elim
  | exc c => rw [hf] at p; exact p
  | no => rw [hf] at p; exact p
theorem de_look (h : DE X E (ω.map fun _ => .fz) e t f .fz []) : DE X E ω e t (eLook f) .fz [] := ⟨h.pe, sem_look h.sem⟩
theorem semT_look {mg : Str → Option Value} {K : PySem.W.Frag} {t : TT} {f : Env → R Bool} (h : SemT mg E K (ω.map fun _ => .fz) t f) : SemT mg E K ω t f := fun σ ρ F H As Q S p => by
  refine h σ ρ _ H _ Q S.thaw ?_
  cases hf : f ρ with
  | ok d =>
    rw [hf] at p
    exact fun F' H' g => p F H' ⟨Same.refl _, g.hh, S.ex.trans g.hh, fun _ q _ => q⟩
  | exc c => rw [hf] at p; exact p
  | no => rw [hf] at p; exact p
theorem dt_look {c : Expr} {t : TT} {f : Env → R Bool} (h : DT X E (ω.map fun _ => .fz) c t f) : DT X E ω c t f := ⟨h.pt, semT_look h.sem⟩
/-- a new list of such values -/
def scalL (d : D) : R D := match d with
  | .lst ds => if ds.all isScal = true then .ok d else .no
  | _ => .no
def eLookL (f : Env → R D) (ρ : Env) : R D := f ρ >>= scalL
theorem reps_scal {K : PySem.W.Frag} {F F' : Hp} : ∀ {ds : List D} {vs : List V}, ds.all isScal = true → Reps K F ds vs → Reps K F' ds vs
  | [], _, _, r => r
  | d :: ds, _, h, r => by
    obtain ⟨v, vr, rfl, h2, h3⟩ := r
    rw [List.all_cons, Bool.and_eq_true] at h
    exact ⟨v, vr, rfl, rep_scal h.1 h2, reps_scal h.2 h3⟩
theorem allO_fz {K : PySem.W.Frag} {F H : Hp} : ∀ {ds : List D} {vs : List V} {B : List Addr}, AllO (RepO K F H .fz) ds vs B → Reps K F ds vs ∧ B = []
  | [], _, _, r => r
  | d :: ds, _, _, r => by
    obtain ⟨v, vr, B1, B2, rfl, rfl, h3, h4⟩ := r
    obtain ⟨h5, h6⟩ := allO_fz h4
    exact ⟨⟨v, vr, rfl, h3.1, h5⟩, by rw [h3.2, h6]; rfl⟩
theorem allO_of {K : PySem.W.Frag} {F H : Hp} : ∀ {ds : List D} {vs : List V}, Reps K F ds vs → AllO (RepO K F H .fz) ds vs []
  | [], _, r => ⟨r, rfl⟩
  | d :: ds, _, r => by
    obtain ⟨v, vr, rfl, h2, h3⟩ := r
    exact ⟨v, vr, [], [], rfl, rfl, ⟨h2, rfl⟩, allO_of h3⟩
theorem sem_lookL {mg : Str → Option Value} {K : PySem.W.Frag} {t : TE} {f : Env → R D} (h : Sem mg E K (ω.map fun _ => .fz) t f (.own .fz) []) : Sem mg E K ω t (eLookL f) (.own .fz) [] := fun σ ρ F H As Q S p => by
  refine h σ ρ _ H _ Q S.thaw ?_
  unfold eLookL at p
  cases hf : f ρ with
  | ok d =>
    rw [hf] at p
    intro v F' H' B g r hB nd
    have hB' : ∀ x ∈ B, H x = none := fun x hx => by
      rcases hB x hx with q | q
      · exact q
      · exact q.nil.elim
    rcases r with ⟨ds, a, vs, B', rfl, rfl, h1, h2, rfl, h6⟩ | ⟨es, a, kvs, rfl, rfl, h1, h2, h3, rfl⟩ | ⟨hb, _, rfl⟩
    · obtain ⟨h7, rfl⟩ := allO_fz h6
      by_cases hs : ds.all isScal = true
      · have e : (R.ok (D.lst ds) >>= scalL) = R.ok (.lst ds) := by
          show scalL (.lst ds) = _
          unfold scalL
          exact if_pos hs
        rw [e] at p
        refine p (.ref a) F H' [a] ⟨Same.refl _, g.hh, S.ex.trans g.hh, fun _ q _ => q⟩ (.inl ⟨ds, a, vs, [], rfl, rfl, S.ex.free (hB' a (by simp)), h2, rfl, allO_of (reps_scal hs h7)⟩) (fun x hx => .inl (hB' x hx)) nd
      · have e : (R.ok (D.lst ds) >>= scalL) = R.no := by
          show scalL (.lst ds) = _
          unfold scalL
          exact if_neg hs
        rw [e] at p
        exact p.elim
    · exact (show False from p).elim
    · cases d <;> first
        | exact (show False from p).elim
        | exact absurd hb (by simp [isBox])
  | exc c => rw [hf] at p; exact p
  | no => rw [hf] at p; exact p
theorem de_lookL (h : DE X E (ω.map fun _ => .fz) e t f (.own .fz) []) : DE X E ω e t (eLookL f) (.own .fz) [] := ⟨h.pe, sem_lookL h.sem⟩
end
end Dn

/-! Operators over data. -/
namespace Dn
open PySem L2 PyProof.Rows

def most : Nat := 16777216
theorem dget_rd {H : Hp} {a : Addr} {kvs : List (L2.Key × V)} {k : L2.Key} (h : Rd H a (.dK kvs)) : DGet H a (kV k) (valV kvs k) := .inl ⟨kvs, k, h, rfl, rfl⟩
theorem most_eq : most = sizeLine := by rw [sizeLine_eq]; rfl
/-! ### what the operators give -/
def addD : D → D → R D
  | .int i, .int j => .ok (.int (i + j))
  | .str a, .str b => if a.length + b.length ≤ most then .ok (.str (a ++ b)) else .no
  | .lst a, .lst b => if a.length + b.length ≤ most then .ok (.lst (a ++ b)) else .no
  | .tup a, .tup b => if a.length + b.length ≤ most then .ok (.tup (a ++ b)) else .no
  | _, _ => .no
def subD : D → D → R D
  | .int i, .int j => .ok (.int (i - j))
  | _, _ => .no
def fits64 (i : Int) : Bool := decide (-18446744073709551616 < i) && decide (i < 18446744073709551616)
def mulD : D → D → R D
  | .int i, .int j => if (fits64 i || fits64 j || decide (i.natAbs.log2 + j.natAbs.log2 < 1000000)) = true then .ok (.int (i * j)) else .no
  | .lst xs, .int k => if -9223372036854775808 ≤ k ∧ k < 9223372036854775808 ∧ xs.length * k.toNat ≤ most then .ok (.lst (List.replicate k.toNat xs).flatten) else .no
  | _, _ => .no
def modD : D → D → R D
  | .int i, .int j => if 0 < j then .ok (.int (i % j)) else .no
  | _, _ => .no
def divD : D → D → R D
  | .int i, .int j => if 0 < j ∧ j < 1073741824 then .ok (.int (i / j)) else .no
  | _, _ => .no
def powD : D → D → R D
  | .int i, .int j => if 0 ≤ j ∧ j ≤ 1000000 ∧ fits64 i = true then .ok (.int (i ^ j.toNat)) else .no
  | _, _ => .no
def negD : D → R D
  | .int i => .ok (.int (-i))
  | _ => .no
def ltD : D → D → R D
  | .int i, .int j => .ok (.bl (decide (i < j)))
  | _, _ => .no
def leD : D → D → R D
  | .int i, .int j => .ok (.bl (decide (i ≤ j)))
  | _, _ => .no
def gtD : D → D → R D
  | .int i, .int j => .ok (.bl (decide (j < i)))
  | _, _ => .no
def geD : D → D → R D
  | .int i, .int j => .ok (.bl (decide (j ≤ i)))
  | _, _ => .no
mutual
def toP : D → PyData
  | .non => .none
  | .bl b => .bool b
  | .int i => .int i
  | .str s => .str s
  | .tup xs => .tuple (toPs xs)
  | .lst xs => .list (toPs xs)
  | .scr ns => .list (ns.map .int)
  | .dic _ => .dict []
def toPs : List D → List PyData
  | [] => []
  | d :: ds => toP d :: toPs ds
end
def sameFl : D → D → Bool
  | .non, .non => true
  | .bl a, .bl b => a == b
  | .int a, .int b => a == b
  | .str a, .str b => a == b
  | _, _ => false
def lookB (fs : List (L2.Key × D)) (k : L2.Key) (d : D) : Bool := match (fs.find? fun kv => decide (kv.1 = k)).map (·.2) with
  | some e => sameFl d e
  | none => false
/-- dicts of flat values that are equal -/
def dicB (es fs : List (L2.Key × D)) : Bool := es.length == fs.length && es.all fun kv => lookB fs kv.1 kv.2
def eqD : D → D → R D
  | .dic es, .dic fs => if dicB es fs = true then .ok (.bl true) else .no
  | .int i, .int j => .ok (.bl (decide (i = j)))
  | .str a, .str b => .ok (.bl (decide (a = b)))
  | .bl a, .bl b => .ok (.bl (a == b))
  | .non, .non => .ok (.bl true)
  | d, e => if (SeqAt.shaped (toP d) && SeqAt.shaped (toP e)) = true then .ok (.bl (PyData.eqv (toP d) (toP e))) else .no
def notD : D → R D
  | .bl b => .ok (.bl (!b))
  | _ => .no
def neD (d e : D) : R D := eqD d e >>= notD
def isNone : D → Bool
  | .non => true
  | _ => false
def isND (d : D) : R D := .ok (.bl (isNone d))
def isD : D → D → R D
  | d, .non => isND d
  | _, _ => .no
def isNotD (d e : D) : R D := isD d e >>= notD
def keyD : D → Option L2.Key
  | .int i => some (.inl i)
  | .str s => some (.inr s)
  | _ => none
def valK (es : List (L2.Key × D)) (k : L2.Key) : Option D := (es.find? fun kv => decide (kv.1 = k)).map (·.2)
def flatD : D → Bool
  | .non => true | .bl _ => true | .int _ => true | .str _ => true
  | _ => false
def toV : D → V
  | .bl b => .bl b | .int i => .int i | .str s => .str s
  | _ => .non
def seqD : D → Option (List D)
  | .tup xs => some xs
  | .lst xs => some xs
  | _ => none
/-- x in y -/
def inD (x y : D) : R D := match y with
  | .str z => match x with
    | .str a => if a.length = 1 then .ok (.bl (decide (a.cps.getD 0 0 ∈ z.cps.toList))) else .no
    | _ => .no
  | .dic es => match keyD x with
    | some k => .ok (.bl (valK es k).isSome)
    | none => .no
  | .tup xs => if (flatD x && xs.all flatD) = true then .ok (.bl (inV (toV x) (xs.map toV))) else .no
  | .lst xs => if (flatD x && xs.all flatD) = true then .ok (.bl (inV (toV x) (xs.map toV))) else .no
  | _ => .no
def notInD (x y : D) : R D := inD x y >>= notD
def ixD (x y : D) : R D := match x, y with
  | .lst xs, .int i => match atI xs i with
    | some d => .ok d
    | none => .no
  | .tup xs, .int i => match atI xs i with
    | some d => .ok d
    | none => .no
  | .scr xs, .int i => match atI xs i with
    | some d => .ok (.int d)
    | none => .no
  | .str z, .int i => if z.length ≤ most then (match atI z.cps.toList i with
    | some c => .ok (.str ⟨#[c]⟩)
    | none => .no) else .no
  | .dic es, k => match keyD k with
    | some k => (match valK es k with
      | some d => .ok d
      | none => .no)
    | none => .no
  | _, _ => .no

/-! ### the same of values -/
section
variable {mg : Str → Option Value} {E : XK} {K : PySem.W.Frag}
def OpD (mg : Str → Option Value) (E : XK) (K : PySem.W.Frag) (r : R2) (g : D → D → R D) (o : O) : Prop :=
  ∀ F H As x y dx dy Q, Same F H → Rep K F dx x → Rep K F dy y → Pst mg E K o As [] F H Q (g dx dy) → r x y H Q
theorem Pst.own {o : O} {F H : Hp} {As : List (List Addr)} {Q : VK} {d : D} {v : V} (p : Pst mg E K (.own .fz) As [] F H Q (.ok d)) (hb : isBox d = false) (e : Same F H) (r : Rep K F d v) : Q v H :=
  p v F H [] (Grow.refl e) (.inr (.inr ⟨hb, r, rfl⟩)) (fun _ h => by simp at h) List.nodup_nil
/-- a new tuple, as what is or is not one's own -/
theorem Pst.ownT {F H : Hp} {As : List (List Addr)} {Q : VK} {ds : List D} {vs : List V} {p : Addr} (q : Pst mg E K (.own .fz) As [] F H Q (.ok (.tup ds))) (e : Same F H) (hp : H p = none) (r : Reps K F ds vs) : Q (.ref p) (upd H p (.tup vs)) :=
  q (.ref p) _ _ [] (Grow.new e hp) (.inr (.inr ⟨rfl, ⟨p, vs, rfl, upd_same, Reps.mono (Grow.new e hp).ff ds vs r⟩, rfl⟩)) (fun _ h => by simp at h) List.nodup_nil
def rAddD (K : PySem.W.Frag) : R2 := fun x y H Q => rI0 (fun i j => .int (i + j)) x y H Q ∨ ((∃ i j, x = .str i ∧ y = .str j ∧ i.length + j.length ≤ sizeLine ∧ Q (.str (i ++ j)) H) ∨ (rCat x y H Q ∨ rCatA K x y H Q))
theorem or_add {X : Cx} : OpR X (binaryOp .Add) (rAddD X.K) := op_add.or (op_add_str.or (op_cat.or op_catA))
theorem reps_nil {K : PySem.W.Frag} {F : Hp} {ds : List D} {vs : List V} (r : Reps K F ds vs) : vs = [] ↔ ds = [] := by
  have h := r.length
  constructor
  · intro e
    subst e
    exact List.eq_nil_of_length_eq_zero h.symm
  · intro e
    subst e
    exact List.eq_nil_of_length_eq_zero h
theorem od_add : OpD mg E K (rAddD K) addD (.own .fz) := fun F H As x y dx dy Q e rx ry p => by
  cases dx <;> cases dy <;> first
    | exact (show False from p).elim
    | skip
  · exact .inl ⟨_, _, rx, ry, p.own (o := .fz) rfl e rfl⟩
  · rename_i a b
    unfold addD at p
    dsimp only at p
    by_cases h : a.length + b.length ≤ most
    · rw [if_pos h] at p
      exact .inr (.inl ⟨_, _, rx, ry, by rw [← most_eq]; exact h, p.own (o := .fz) rfl e rfl⟩)
    · rw [if_neg h] at p
      exact p.elim
  · rename_i a b
    unfold addD at p
    dsimp only at p
    by_cases h : a.length + b.length ≤ most
    · rw [if_pos h] at p
      obtain ⟨p1, vs, rfl, h1, r1⟩ := rx
      obtain ⟨p2, ws, rfl, h2, r2⟩ := ry
      refine .inr (.inr (.inr ⟨p1, p2, vs, ws, rfl, rfl, .of (e _ _ h1), .of (e _ _ h2), by rw [r1.length, r2.length, ← most_eq]; exact h, fun z => ?_, fun _ z => ?_, fun z1 z2 q hq => ?_⟩))
      · subst z
        have ea : a = [] := (reps_nil r1).mp rfl
        subst ea
        exact p.own (o := .fz) rfl e ⟨p2, ws, rfl, h2, r2⟩
      · subst z
        have eb : b = [] := (reps_nil r2).mp rfl
        subst eb
        rw [List.append_nil] at p
        exact p.own (o := .fz) rfl e ⟨p1, vs, rfl, h1, r1⟩
      · exact p.ownT e hq (r1.append r2)
    · rw [if_neg h] at p
      exact p.elim
  · rename_i a b
    unfold addD at p
    dsimp only at p
    by_cases h : a.length + b.length ≤ most
    · rw [if_pos h] at p
      obtain ⟨p1, vs, rfl, h1, r1⟩ := rx
      obtain ⟨p2, ws, rfl, h2, r2⟩ := ry
      exact .inr (.inr (.inl ⟨p1, p2, vs, ws, rfl, rfl, e _ _ h1, e _ _ h2, by rw [r1.length, r2.length, ← most_eq]; exact h, fun q hq => p.newL e hq (r1.append r2)⟩))
    · rw [if_neg h] at p
      exact p.elim
theorem od_sub : OpD mg E K (rI0 fun i j => .int (i - j)) subD .fz := fun F H As x y dx dy Q e rx ry p => by
  cases dx <;> cases dy <;> first
    | exact (show False from p).elim
    | exact ⟨_, _, rx, ry, p.fin e rfl⟩
theorem fits64_iff {i : Int} (h : fits64 i = true) : -(2 ^ 64) < i ∧ i < 2 ^ 64 := by
  unfold fits64 at h
  rw [Bool.and_eq_true, decide_eq_true_eq, decide_eq_true_eq] at h
  omega
def rMulD : R2 := fun x y H Q => rI (fun i j => CMul i j ∨ CMulW i j) (fun i j => .int (i * j)) x y H Q ∨ rRep x y H Q
theorem or_mul {X : Cx} : OpR X (binaryOp .Mult) rMulD := OpR.or (fun pins s σ H x y v u Q I rx ry h => by
  obtain ⟨i, j, ex, ey, c, q⟩ := h
  rcases c with c | c
  · exact op_mul pins s σ H x y v u Q I rx ry ⟨i, j, ex, ey, c, q⟩
  · exact op_mulW pins s σ H x y v u Q I rx ry ⟨i, j, ex, ey, c, q⟩) op_rep
theorem od_mul : OpD mg E K rMulD mulD (.own .fz) := fun F H As x y dx dy Q e rx ry p => by
  cases dx <;> cases dy <;> first
    | exact (show False from p).elim
    | skip
  · rename_i i j
    unfold mulD at p
    dsimp only at p
    by_cases h : (fits64 i || fits64 j || decide (i.natAbs.log2 + j.natAbs.log2 < 1000000)) = true
    · rw [if_pos h] at p
      refine .inl ⟨_, _, rx, ry, ?_, p.own (o := .fz) rfl e rfl⟩
      rcases Bool.or_eq_true_iff.mp h with h | h
      · rcases Bool.or_eq_true_iff.mp h with h | h
        · exact .inl (.inl (fits64_iff h))
        · exact .inl (.inr (fits64_iff h))
      · exact .inr (show i.natAbs.log2 + j.natAbs.log2 < 1000000 from of_decide_eq_true h)
    · rw [if_neg h] at p
      exact p.elim
  · rename_i xs k
    unfold mulD at p
    dsimp only at p
    by_cases h : -9223372036854775808 ≤ k ∧ k < 9223372036854775808 ∧ xs.length * k.toNat ≤ most
    · rw [if_pos h] at p
      obtain ⟨p1, vs, rfl, h1, r1⟩ := rx
      exact .inr ⟨p1, k, vs, rfl, ry, e _ _ h1, by omega, by omega, by rw [r1.length, ← most_eq]; exact h.2.2, fun q hq => p.newL e hq (r1.rep _)⟩
    · rw [if_neg h] at p
      exact p.elim
theorem od_mod : OpD mg E K (rI (fun _ j => 0 < j) fun i j => .int (i % j)) modD .fz := fun F H As x y dx dy Q e rx ry p => by
  cases dx <;> cases dy <;> first
    | exact (show False from p).elim
    | skip
  unfold modD at p
  dsimp only at p
  split at p
  · rename_i h
    exact ⟨_, _, rx, ry, h, p.fin e rfl⟩
  · exact p.elim
theorem od_div : OpD mg E K (rI CDiv fun i j => .int (i / j)) divD .fz := fun F H As x y dx dy Q e rx ry p => by
  cases dx <;> cases dy <;> first
    | exact (show False from p).elim
    | skip
  unfold divD at p
  dsimp only at p
  split at p
  · rename_i h
    exact ⟨_, _, rx, ry, h, p.fin e rfl⟩
  · exact p.elim
theorem od_pow : OpD mg E K (rI CPow fun i j => .int (i ^ j.toNat)) powD .fz := fun F H As x y dx dy Q e rx ry p => by
  cases dx <;> cases dy <;> first
    | exact (show False from p).elim
    | skip
  unfold powD at p
  dsimp only at p
  split at p
  · rename_i h
    refine ⟨_, _, rx, ry, ⟨h.1, h.2.1, ?_⟩, p.fin e rfl⟩
    have := fits64_iff h.2.2
    omega
  · exact p.elim
theorem od_lt : OpD mg E K (rI0 fun i j => .bl (decide (i < j))) ltD .fz := fun F H As x y dx dy Q e rx ry p => by
  cases dx <;> cases dy <;> first
    | exact (show False from p).elim
    | exact ⟨_, _, rx, ry, p.fin e rfl⟩
theorem od_le : OpD mg E K (rI0 fun i j => .bl (decide (i ≤ j))) leD .fz := fun F H As x y dx dy Q e rx ry p => by
  cases dx <;> cases dy <;> first
    | exact (show False from p).elim
    | exact ⟨_, _, rx, ry, p.fin e rfl⟩
theorem od_gt : OpD mg E K (rI0 fun i j => .bl (decide (j < i))) gtD .fz := fun F H As x y dx dy Q e rx ry p => by
  cases dx <;> cases dy <;> first
    | exact (show False from p).elim
    | exact ⟨_, _, rx, ry, p.fin e rfl⟩
theorem od_ge : OpD mg E K (rI0 fun i j => .bl (decide (j ≤ i))) geD .fz := fun F H As x y dx dy Q e rx ry p => by
  cases dx <;> cases dy <;> first
    | exact (show False from p).elim
    | exact ⟨_, _, rx, ry, p.fin e rfl⟩

/-! ### == -/
def noDic : D → Bool
  | .dic _ => false
  | _ => true
mutual
theorem rep_dp {F H : Hp} (e : Same F H) : ∀ (d : D) (v : V), Rep K F d v → PyData.canLay0 (toP d) = true → Dp K H v (toP d)
  | .non, v, h, _ => by rw [show v = .non from h]; exact .non
  | .bl b, v, h, _ => by rw [show v = .bl b from h]; exact .bl b
  | .int i, v, h, _ => by rw [show v = .int i from h]; exact .int i
  | .str s, v, h, _ => by rw [show v = .str s from h]; exact .str s
  | .scr ns, v, h, cc => by
    obtain ⟨a, rfl, h⟩ := h
    refine .lst (e.seq h) ?_
    clear h cc
    induction ns with
    | nil => exact .nil
    | cons n r ih => exact .cons (.int n) ih
  | .dic es, v, h, c => by
    rw [show toP (.dic es) = .dict [] from rfl] at c
    exact absurd c (by simp [PyData.canLay0])
  | .tup ds, v, h, c => by
    obtain ⟨a, vs, rfl, h1, h2⟩ := h
    exact .tup (.of (e _ _ h1)) (reps_dp e ds vs h2 (by simpa [toP, PyData.canLay0] using c))
  | .lst ds, v, h, c => by
    obtain ⟨a, vs, rfl, h1, h2⟩ := h
    exact .lst (.of (e _ _ h1)) (reps_dp e ds vs h2 (by simpa [toP, PyData.canLay0] using c))
theorem reps_dp {F H : Hp} (e : Same F H) : ∀ (ds : List D) (vs : List V), Reps K F ds vs → PyData.canLayAll0 (toPs ds) = true → DpAll K H vs (toPs ds)
  | [], vs, h, _ => by rw [show vs = [] from h]; exact .nil
  | d :: ds, vs, h, c => by
    obtain ⟨v, vr, rfl, h2, h3⟩ := h
    have c' : PyData.canLay0 (toP d) = true ∧ PyData.canLayAll0 (toPs ds) = true := by simpa [toPs, PyData.canLayAll0] using c
    exact .cons (rep_dp e d v h2 c'.1) (reps_dp e ds vr h3 c'.2)
end
def rDic (r : Bool) : R2 := fun x y H Q => ∃ a b ks ls, x = .ref a ∧ y = .ref b ∧ Rd H a (.dK ks) ∧ Rd H b (.dK ls) ∧ ks.length = ls.length ∧ (∀ p ∈ ks, valV ls p.1 = some p.2 ∧ flatB p.2 = true) ∧ Q (.bl r) H
theorem op_eqDic {X : Cx} (hu : X.A.units < cLine) : OpR X (compareOp .Eq) (rDic true) := by
  intro pins s σ H x y v u Q I rx ry h
  obtain ⟨a, b, ks, ls, rfl, rfl, ea, eb, hlen, hp, q⟩ := h
  obtain rfl : v = Value.ref a := rx
  obtain rfl : u = Value.ref b := ry
  obtain ⟨_, ya, va, ra, da⟩ := dk_rd I.hok ea
  obtain ⟨_, yb, vb, rb, db⟩ := dk_rd I.hok eb
  have hl : va.length = vb.length := by rw [← ra.length, ← rb.length]; exact hlen
  exact PySem.W.keq_eq (knd := mixKind X.prog X.w) (r := true) ya yb da db hu (fun _ => hits_all rb ra hp) (fin_bl I q (by simp [hl]))
theorem op_neDic {X : Cx} (hu : X.A.units < cLine) : OpR X (compareOp .NotEq) (rDic false) := by
  intro pins s σ H x y v u Q I rx ry h
  obtain ⟨a, b, ks, ls, rfl, rfl, ea, eb, hlen, hp, q⟩ := h
  obtain rfl : v = Value.ref a := rx
  obtain rfl : u = Value.ref b := ry
  obtain ⟨_, ya, va, ra, da⟩ := dk_rd I.hok ea
  obtain ⟨_, yb, vb, rb, db⟩ := dk_rd I.hok eb
  have hl : va.length = vb.length := by rw [← ra.length, ← rb.length]; exact hlen
  exact PySem.W.keq_ne (knd := mixKind X.prog X.w) (r := true) ya yb da db hu (fun _ => hits_all rb ra hp) (fin_bl I q (by simp [hl]))
def rEqA (K : PySem.W.Frag) : R2 := fun x y H Q => (rEq x y H Q ∨ rEqD K x y H Q) ∨ rDic true x y H Q
def rNeA (K : PySem.W.Frag) : R2 := fun x y H Q => (rNe x y H Q ∨ rNeD K x y H Q) ∨ rDic false x y H Q
theorem or_eq {X : Cx} {k : Nat} (hr : Room k X.A) : OpR X (compareOp .Eq) (rEqA X.K) := (op_eq.or (op_eqD hr.units)).or (op_eqDic (by have := hr.units; omega))
theorem or_ne {X : Cx} {k : Nat} (hr : Room k X.A) : OpR X (compareOp .NotEq) (rNeA X.K) := (op_ne.or (op_neD hr.units)).or (op_neDic (by have := hr.units; omega))
theorem flat_same {F : Hp} {d e : D} {v w : V} (h : sameFl d e = true) (r : Rep K F d v) (q : Rep K F e w) : w = v ∧ flatB v = true := by
  have key : ∀ x : V, flatB x = true → v = x → w = x → w = v ∧ flatB v = true := fun x h1 h2 h3 => by subst h2; subst h3; exact ⟨rfl, h1⟩
  unfold sameFl at h
  split at h
  · exact key .non rfl r q
  · rw [eq_of_beq h] at r; exact key _ rfl r q
  · rw [eq_of_beq h] at r; exact key _ rfl r q
  · rw [eq_of_beq h] at r; exact key _ rfl r q
  · cases h
theorem repK_find {F : Hp} {k : L2.Key} : ∀ {fs : List (L2.Key × D)} {ls : List (L2.Key × V)}, RepK K F fs ls → ∀ e, (fs.find? fun kv => decide (kv.1 = k)).map (·.2) = some e → ∃ w, valV ls k = some w ∧ Rep K F e w
  | [], _, _, e, h => by cases h
  | (k', d) :: fs, ls, r, e, h => by
    obtain ⟨v, vr, rfl, h2, h3⟩ := r
    by_cases q : k' = k
    · subst q
      rw [List.find?_cons_of_pos (by simp)] at h
      cases h
      exact ⟨v, valV_pos rfl, h2⟩
    · rw [List.find?_cons_of_neg (by simpa using q)] at h
      obtain ⟨w, h4, h5⟩ := repK_find h3 e h
      exact ⟨w, by rw [valV_neg q]; exact h4, h5⟩
theorem dic_same {F : Hp} {fs : List (L2.Key × D)} {ls : List (L2.Key × V)} (q : RepK K F fs ls) : ∀ {es : List (L2.Key × D)} {ks : List (L2.Key × V)}, RepK K F es ks → (es.all fun kv => lookB fs kv.1 kv.2) = true → ∀ p ∈ ks, valV ls p.1 = some p.2 ∧ flatB p.2 = true
  | [], ks, r, _, p, hp => by rw [show ks = [] from r] at hp; cases hp
  | (k, d) :: es, ks, r, h, p, hp => by
    obtain ⟨v, vr, rfl, h2, h3⟩ := r
    rw [List.all_cons, Bool.and_eq_true] at h
    rcases List.mem_cons.mp hp with rfl | hp
    · have h4 : lookB fs k d = true := h.1
      unfold lookB at h4
      split at h4
      · rename_i e he
        obtain ⟨w, h5, h6⟩ := repK_find q e he
        obtain ⟨h7, h8⟩ := flat_same h4 h2 h6
        exact ⟨by rw [h5, h7], h8⟩
      · cases h4
    · exact dic_same q h3 h.2 p hp
theorem repK_length {F : Hp} : ∀ {es : List (L2.Key × D)} {ks : List (L2.Key × V)}, RepK K F es ks → ks.length = es.length
  | [], ks, r => by rw [show ks = [] from r]; rfl
  | (k, d) :: es, ks, r => by
    obtain ⟨v, vr, rfl, h2, h3⟩ := r
    simp [repK_length h3]
theorem rDic_of {F H : Hp} {x y : V} {es fs : List (L2.Key × D)} {Q : VK} {r : Bool} (e : Same F H) (rx : Rep K F (.dic es) x) (ry : Rep K F (.dic fs) y) (h : dicB es fs = true) (q : Q (.bl r) H) : rDic r x y H Q := by
  obtain ⟨a, ks, rfl, h1, h2⟩ := rx
  obtain ⟨b, ls, rfl, h3, h4⟩ := ry
  unfold dicB at h
  rw [Bool.and_eq_true] at h
  exact ⟨a, b, ks, ls, rfl, rfl, rd_mono e h1, rd_mono e h3, by rw [repK_length h2, repK_length h4]; exact eq_of_beq h.1, dic_same h4 h2 h.2, q⟩
theorem eq_gen {F H : Hp} {As : List (List Addr)} {x y : V} {dx dy : D} {Q : VK} (e : Same F H) (rx : Rep K F dx x) (ry : Rep K F dy y)
    (p : Pst mg E K .fz As [] F H Q (if (SeqAt.shaped (toP dx) && SeqAt.shaped (toP dy)) = true then .ok (.bl (PyData.eqv (toP dx) (toP dy))) else .no)) : rEqA K x y H Q := by
  by_cases h : (SeqAt.shaped (toP dx) && SeqAt.shaped (toP dy)) = true
  · rw [if_pos h] at p
    rw [Bool.and_eq_true] at h
    exact .inl (.inr ⟨_, _, rep_dp e dx x rx (SeqAt.canLay_of_shaped h.1), rep_dp e dy y ry (SeqAt.canLay_of_shaped h.2), h.1, h.2, p.fin e rfl⟩)
  · rw [if_neg h] at p
    exact p.elim
theorem ne_gen {F H : Hp} {As : List (List Addr)} {x y : V} {dx dy : D} {Q : VK} (e : Same F H) (rx : Rep K F dx x) (ry : Rep K F dy y)
    (p : Pst mg E K .fz As [] F H Q ((if (SeqAt.shaped (toP dx) && SeqAt.shaped (toP dy)) = true then .ok (.bl (PyData.eqv (toP dx) (toP dy))) else .no) >>= notD)) : rNeA K x y H Q := by
  by_cases h : (SeqAt.shaped (toP dx) && SeqAt.shaped (toP dy)) = true
  · rw [if_pos h] at p
    rw [Bool.and_eq_true] at h
    exact .inl (.inr ⟨_, _, rep_dp e dx x rx (SeqAt.canLay_of_shaped h.1), rep_dp e dy y ry (SeqAt.canLay_of_shaped h.2), h.1, h.2, p.fin e rfl⟩)
  · rw [if_neg h] at p
    exact p.elim
theorem od_eq : OpD mg E K (rEqA K) eqD .fz := fun F H As x y dx dy Q e rx ry p => by
  unfold eqD at p
  split at p
  · split at p
    · rename_i h
      exact .inr (rDic_of e rx ry h (p.fin e rfl))
    · exact (show False from p).elim
  · obtain rfl := (show x = _ from rx)
    obtain rfl := (show y = _ from ry)
    exact .inl (.inl ⟨rfl, by have := p.fin e (v := .bl _) rfl; rw [dec_int, Bool.beq_eq_decide_eq]; exact this⟩)
  · obtain rfl := (show x = _ from rx)
    obtain rfl := (show y = _ from ry)
    exact .inl (.inl ⟨rfl, by have := p.fin e (v := .bl _) rfl; rw [dec_str, Bool.beq_eq_decide_eq]; exact this⟩)
  · obtain rfl := (show x = _ from rx)
    obtain rfl := (show y = _ from ry)
    exact .inl (.inl ⟨rfl, by have := p.fin e (v := .bl _) rfl; rw [dec_bl]; exact this⟩)
  · obtain rfl := (show x = _ from rx)
    obtain rfl := (show y = _ from ry)
    exact .inl (.inl ⟨rfl, by have := p.fin e (v := .bl _) rfl; simpa using this⟩)
  · exact eq_gen e rx ry p
theorem od_ne : OpD mg E K (rNeA K) neD .fz := fun F H As x y dx dy Q e rx ry p => by
  unfold neD eqD at p
  split at p
  · split at p
    · rename_i h
      exact .inr (rDic_of e rx ry h (p.fin e rfl))
    · exact (show False from p).elim
  · obtain rfl := (show x = _ from rx)
    obtain rfl := (show y = _ from ry)
    exact .inl (.inl ⟨rfl, by have := p.fin e (v := .bl _) rfl; rw [dec_int, Bool.beq_eq_decide_eq]; exact this⟩)
  · obtain rfl := (show x = _ from rx)
    obtain rfl := (show y = _ from ry)
    exact .inl (.inl ⟨rfl, by have := p.fin e (v := .bl _) rfl; rw [dec_str, Bool.beq_eq_decide_eq]; exact this⟩)
  · obtain rfl := (show x = _ from rx)
    obtain rfl := (show y = _ from ry)
    exact .inl (.inl ⟨rfl, by have := p.fin e (v := .bl _) rfl; rw [dec_bl]; exact this⟩)
  · obtain rfl := (show x = _ from rx)
    obtain rfl := (show y = _ from ry)
    exact .inl (.inl ⟨rfl, by have := p.fin e (v := .bl _) rfl; simpa using this⟩)
  · exact ne_gen e rx ry p
theorem rep_non {F : Hp} {d : D} {v : V} (r : Rep K F d v) : decide (v = .non) = isNone d := by
  cases d with
  | non => rw [show v = .non from r]; rfl
  | bl b => rw [show v = .bl b from r]; rfl
  | int b => rw [show v = .int b from r]; rfl
  | str b => rw [show v = .str b from r]; rfl
  | tup b => obtain ⟨a, _, rfl, _⟩ := r; rfl
  | lst b => obtain ⟨a, _, rfl, _⟩ := r; rfl
  | dic b => obtain ⟨a, _, rfl, _⟩ := r; rfl
  | scr b => obtain ⟨a, rfl, _⟩ := r; rfl
theorem od_is : OpD mg E K (fun x y H Q => y = .non ∧ Q (.bl (decide (x = .non))) H) isD .fz := fun F H As x y dx dy Q e rx ry p => by
  cases dy with
  | non =>
    refine ⟨ry, ?_⟩
    rw [rep_non rx]
    exact Pst.fin (K := K) (d := .bl _) (by unfold isD isND at p; exact p) e rfl
  | _ => exact (show False from p).elim
theorem od_isNot : OpD mg E K (fun x y H Q => y = .non ∧ Q (.bl (!decide (x = .non))) H) isNotD .fz := fun F H As x y dx dy Q e rx ry p => by
  cases dy with
  | non =>
    refine ⟨ry, ?_⟩
    rw [rep_non rx]
    exact Pst.fin (K := K) (d := .bl _) (by unfold isNotD isD isND at p; exact p) e rfl
  | _ => exact (show False from p).elim

/-! ### in -/
theorem rep_flat {F : Hp} {d : D} {v : V} (h : flatD d = true) (r : Rep K F d v) : v = toV d ∧ flatV v = true := by
  cases d <;> first
    | exact ⟨r, by rw [show _ = _ from r]; rfl⟩
    | exact absurd h (by simp [flatD])
theorem reps_flat {F : Hp} : ∀ {ds : List D} {vs : List V}, ds.all flatD = true → Reps K F ds vs → vs = ds.map toV ∧ vs.all flatV = true
  | [], vs, _, r => by rw [show vs = [] from r]; exact ⟨rfl, rfl⟩
  | d :: ds, _, h, r => by
    obtain ⟨v, vr, rfl, h2, h3⟩ := r
    rw [List.all_cons, Bool.and_eq_true] at h
    obtain ⟨h4, h5⟩ := rep_flat h.1 h2
    obtain ⟨h6, h7⟩ := reps_flat h.2 h3
    exact ⟨by rw [List.map_cons, ← h4, ← h6], by rw [List.all_cons, h5, h7]; rfl⟩
theorem repK_val {F : Hp} {k : L2.Key} : ∀ {es : List (L2.Key × D)} {kvs : List (L2.Key × V)}, RepK K F es kvs → (valV kvs k = none ∧ valK es k = none) ∨ ∃ d v, valV kvs k = some v ∧ valK es k = some d ∧ Rep K F d v
  | [], kvs, r => by rw [show kvs = [] from r]; exact .inl ⟨rfl, rfl⟩
  | (k', d) :: es, kvs, r => by
    obtain ⟨v, vr, rfl, h2, h3⟩ := r
    by_cases h : k' = k
    · subst h
      exact .inr ⟨d, v, valV_pos rfl, by unfold valK; rw [List.find?_cons_of_pos (by simp)]; rfl, h2⟩
    · have e1 : valV ((k', v) :: vr) k = valV vr k := valV_neg h
      have e2 : valK ((k', d) :: es) k = valK es k := by unfold valK; rw [List.find?_cons_of_neg (by simpa using h)]
      rw [e1, e2]
      exact repK_val h3
theorem key_rep {F : Hp} {d : D} {v : V} {k : L2.Key} (h : keyD d = some k) (r : Rep K F d v) : v = kV k := by
  cases d with
  | int i =>
    have h' : Sum.inl i = k := Option.some.inj h
    subst h'
    exact r
  | str i =>
    have h' : Sum.inr i = k := Option.some.inj h
    subst h'
    exact r
  | _ => exact absurd h (by simp [keyD])
def rInS : R2 := fun x y H Q => ∃ (c : Nat) (z : Str), x = .str ⟨#[c]⟩ ∧ y = .str z ∧ Q (.bl (decide (c ∈ z.cps.toList))) H
def rNotInS : R2 := fun x y H Q => ∃ (c : Nat) (z : Str), x = .str ⟨#[c]⟩ ∧ y = .str z ∧ Q (.bl (!decide (c ∈ z.cps.toList))) H
def rInDk : R2 := fun x y H Q => ∃ a o, y = .ref a ∧ DGet H a x o ∧ Q (.bl o.isSome) H
def rNotInDk : R2 := fun x y H Q => ∃ a o, y = .ref a ∧ DGet H a x o ∧ Q (.bl (!o.isSome)) H
theorem or_inDk {X : Cx} (hu : X.A.units + 1 < cLine) : OpR X (compareOp .In) rInDk := fun pins s σ H x y v u Q I rx ry h => by
  obtain ⟨a, o, rfl, g, q⟩ := h
  cases ry
  exact d_in hu I g rx fun s' I' => ⟨.bl _, H, I', rfl, q⟩
theorem or_notInDk {X : Cx} (hu : X.A.units + 1 < cLine) : OpR X (compareOp .NotIn) rNotInDk := fun pins s σ H x y v u Q I rx ry h => by
  obtain ⟨a, o, rfl, g, q⟩ := h
  cases ry
  exact d_notIn hu I g rx fun s' I' => ⟨.bl _, H, I', rfl, q⟩
def rInA (K : PySem.W.Frag) : R2 := fun x y H Q => rIn K false x y H Q ∨ (rInS x y H Q ∨ rInDk x y H Q)
def rNotInA (K : PySem.W.Frag) : R2 := fun x y H Q => rIn K true x y H Q ∨ (rNotInS x y H Q ∨ rNotInDk x y H Q)
theorem or_in {X : Cx} {k : Nat} (hr : Room k X.A) : OpR X (compareOp .In) (rInA X.K) := op_in_seq.or (op_in_sign.or (or_inDk (hu_of hr)))
theorem or_notIn {X : Cx} {k : Nat} (hr : Room k X.A) : OpR X (compareOp .NotIn) (rNotInA X.K) := OpR.or op_notIn_seq (op_notIn_sign.or (or_notInDk (hu_of hr)))
theorem str_one {a : Str} (h : a.length = 1) : a = ⟨#[a.cps.getD 0 0]⟩ := by
  obtain ⟨⟨l⟩⟩ := a
  have h' : l.length = 1 := h
  match l, h' with
  | [c], _ => rfl
theorem od_in : OpD mg E K (rInA K) inD .fz := fun F H As x y dx dy Q e rx ry p => by
  cases dy with
  | str z =>
    cases dx with
    | str a =>
      unfold inD at p
      dsimp only at p
      split at p
      · rename_i h
        refine .inr (.inl ⟨a.cps.getD 0 0, z, ?_, ry, p.fin e rfl⟩)
        rw [show x = .str a from rx]
        exact congrArg V.str (str_one h)
      · exact p.elim
    | _ => exact (show False from p).elim
  | dic es =>
    unfold inD at p
    dsimp only at p
    split at p
    · rename_i k hk
      obtain ⟨a, kvs, rfl, h1, h2⟩ := ry
      refine .inr (.inr ⟨a, valV kvs k, rfl, ?_, ?_⟩)
      · rw [key_rep hk rx]
        exact dget_rd (rd_mono e h1)
      · rcases repK_val (k := k) h2 with ⟨q1, q2⟩ | ⟨d, v, q1, q2, _⟩
        · rw [q2] at p
          rw [q1]
          exact p.fin e rfl
        · rw [q2] at p
          rw [q1]
          exact p.fin e rfl
    · exact p.elim
  | tup xs =>
    unfold inD at p
    dsimp only at p
    split at p
    · rename_i h
      rw [Bool.and_eq_true] at h
      obtain ⟨a, vs, rfl, h1, h2⟩ := ry
      obtain ⟨e1, f1⟩ := rep_flat h.1 rx
      obtain ⟨e2, f2⟩ := reps_flat h.2 h2
      exact .inl ⟨a, vs, rfl, .inr (.of (e _ _ h1)), f1, f2, by rw [e1, e2]; exact p.fin e rfl⟩
    · exact p.elim
  | lst xs =>
    unfold inD at p
    dsimp only at p
    split at p
    · rename_i h
      rw [Bool.and_eq_true] at h
      obtain ⟨a, vs, rfl, h1, h2⟩ := ry
      obtain ⟨e1, f1⟩ := rep_flat h.1 rx
      obtain ⟨e2, f2⟩ := reps_flat h.2 h2
      exact .inl ⟨a, vs, rfl, .inl (.of (e _ _ h1)), f1, f2, by rw [e1, e2]; exact p.fin e rfl⟩
    · exact p.elim
  | _ => exact (show False from p).elim
theorem od_notIn : OpD mg E K (rNotInA K) notInD .fz := fun F H As x y dx dy Q e rx ry p => by
  unfold notInD at p
  cases dy with
  | str z =>
    cases dx with
    | str a =>
      unfold inD at p
      dsimp only at p
      split at p
      · rename_i h
        refine .inr (.inl ⟨a.cps.getD 0 0, z, ?_, ry, Pst.fin (K := K) (d := .bl _) p e rfl⟩)
        rw [show x = .str a from rx]
        exact congrArg V.str (str_one h)
      · exact (show False from p).elim
    | _ => exact (show False from p).elim
  | dic es =>
    unfold inD at p
    dsimp only at p
    split at p
    · rename_i k hk
      obtain ⟨a, kvs, rfl, h1, h2⟩ := ry
      refine .inr (.inr ⟨a, valV kvs k, rfl, ?_, ?_⟩)
      · rw [key_rep hk rx]
        exact dget_rd (rd_mono e h1)
      · rcases repK_val (k := k) h2 with ⟨q1, q2⟩ | ⟨d, v, q1, q2, _⟩
        · rw [q2] at p
          rw [q1]
          exact Pst.fin (K := K) (d := .bl _) p e rfl
        · rw [q2] at p
          rw [q1]
          exact Pst.fin (K := K) (d := .bl _) p e rfl
    · exact (show False from p).elim
  | tup xs =>
    unfold inD at p
    dsimp only at p
    split at p
    · rename_i h
      rw [Bool.and_eq_true] at h
      obtain ⟨a, vs, rfl, h1, h2⟩ := ry
      obtain ⟨e1, f1⟩ := rep_flat h.1 rx
      obtain ⟨e2, f2⟩ := reps_flat h.2 h2
      exact .inl ⟨a, vs, rfl, .inr (.of (e _ _ h1)), f1, f2, by rw [e1, e2]; exact Pst.fin (K := K) (d := .bl _) p e rfl⟩
    · exact (show False from p).elim
  | lst xs =>
    unfold inD at p
    dsimp only at p
    split at p
    · rename_i h
      rw [Bool.and_eq_true] at h
      obtain ⟨a, vs, rfl, h1, h2⟩ := ry
      obtain ⟨e1, f1⟩ := rep_flat h.1 rx
      obtain ⟨e2, f2⟩ := reps_flat h.2 h2
      exact .inl ⟨a, vs, rfl, .inl (.of (e _ _ h1)), f1, f2, by rw [e1, e2]; exact Pst.fin (K := K) (d := .bl _) p e rfl⟩
    · exact (show False from p).elim
  | _ => exact (show False from p).elim

/-! ### x[i] -/
def rIxDk : R2 := fun x y H Q => ∃ a v, x = .ref a ∧ DGet H a y (some v) ∧ Q v H
theorem ix_dict {X : Cx} (hu : X.A.units + 1 < cLine) : IxR X rIxDk := by
  intro value slice pins s σ H x y v u Q I rx ry h hs
  obtain ⟨a, w, rfl, g, q⟩ := h
  cases rx
  exact tail_any (dict_typeIs I g) slot_dict_getitem.lookup (d_getItem hu I g ry fun w' s' I' r' => ⟨w, H, I', r', q⟩) hs
def rIxA (K : PySem.W.Frag) : R2 := fun x y H Q => rIx K x y H Q ∨ rIxDk x y H Q
theorem ix_any {X : Cx} {k : Nat} (hr : Room k X.A) : IxR X (rIxA X.K) := ix_seq.or (ix_dict (hu_of hr))
theorem atI_reps {F : Hp} {ds : List D} {vs : List V} {i : Int} {d : D} (r : Reps K F ds vs) (h : atI ds i = some d) : ∃ v, atI vs i = some v ∧ Rep K F d v := by
  unfold atI at h ⊢
  rw [r.length]
  cases q : ixN ds.length i with
  | none => rw [q] at h; cases h
  | some j =>
    rw [q] at h
    exact r.get h
theorem od_ix : OpD mg E K (rIxA K) ixD .fz := fun F H As x y dx dy Q e rx ry p => by
  cases dx with
  | lst xs =>
    cases dy with
    | int i =>
      unfold ixD at p
      dsimp only at p
      split at p
      · rename_i d h
        obtain ⟨a, vs, rfl, h1, h2⟩ := rx
        obtain ⟨v, h3, h4⟩ := atI_reps h2 h
        exact .inl (.inl ⟨a, vs, i, v, rfl, ry, .of (e _ _ h1), h3, p.fin e h4⟩)
      · exact p.elim
    | _ => exact (show False from p).elim
  | tup xs =>
    cases dy with
    | int i =>
      unfold ixD at p
      dsimp only at p
      split at p
      · rename_i d h
        obtain ⟨a, vs, rfl, h1, h2⟩ := rx
        obtain ⟨v, h3, h4⟩ := atI_reps h2 h
        exact .inl (.inr (.inl ⟨a, vs, i, v, rfl, ry, .of (e _ _ h1), h3, p.fin e h4⟩))
      · exact p.elim
    | _ => exact (show False from p).elim
  | scr xs =>
    cases dy with
    | int i =>
      unfold ixD at p
      dsimp only at p
      split at p
      · rename_i d h
        obtain ⟨a, rfl, h1⟩ := rx
        refine .inl (.inl ⟨a, xs.map V.int, i, .int d, rfl, ry, e.seq h1, ?_, p.fin e rfl⟩)
        unfold atI at h ⊢
        rw [List.length_map]
        cases q : ixN xs.length i with
        | none => rw [q] at h; cases h
        | some j =>
          rw [q] at h
          have h' : xs[j]? = some d := h
          show (xs.map V.int)[j]? = _
          rw [List.getElem?_map, h']
          rfl
      · exact p.elim
    | _ => exact (show False from p).elim
  | str z =>
    cases dy with
    | int i =>
      unfold ixD at p
      dsimp only at p
      split at p
      · rename_i hz
        split at p
        · rename_i c h
          exact .inl (.inr (.inr ⟨z, i, c, rx, ry, by rw [← most_eq]; exact hz, h, p.fin e rfl⟩))
        · exact p.elim
      · exact p.elim
    | _ => exact (show False from p).elim
  | dic es =>
    unfold ixD at p
    dsimp only at p
    split at p
    · rename_i k hk
      obtain ⟨a, kvs, rfl, h1, h2⟩ := rx
      split at p
      · rename_i d hd
        rcases repK_val (k := k) h2 with ⟨q1, q2⟩ | ⟨d', v, q1, q2, r⟩
        · rw [hd] at q2
          cases q2
        · rw [hd] at q2
          cases q2
          refine .inr ⟨a, v, rfl, ?_, p.fin e r⟩
          rw [key_rep hk ry, ← q1]
          exact dget_rd (rd_mono e h1)
      · exact p.elim
    · exact p.elim
  | _ => exact (show False from p).elim
end

/-! ### the rules -/
def eOp (g : D → D → R D) (fa fb : Env → R D) (ρ : Env) : R D := fa ρ >>= fun x => fb ρ >>= fun y => g x y
def eUn (g : D → R D) (fa : Env → R D) (ρ : Env) : R D := fa ρ >>= g
def asB : D → R Bool
  | .bl b => .ok b
  | _ => .no
def tB' (f : Env → R D) (ρ : Env) : R Bool := f ρ >>= asB
section
variable {X : Cx} {E : XK} {ω : List O} {e a b : Expr} {t ta tb : TE} {f fa fb : Env → R D} {o : O} {M : List Nat} {pos : Pos} {g : D → D → R D} {r : R2}
theorem sem_op {mg : Str → Option Value} {K : PySem.W.Frag} (hd : OpD mg E K r g o) (ha : Sem mg E K ω ta fa .fz []) (hb : Sem mg E K ω tb fb .fz []) : Sem mg E K ω (tOp r ta tb) (eOp g fa fb) o [] := fun σ ρ F H As Q S p => by
  refine ha.then S p fun x v F1 H1 B1 g1 S1 r1 _ _ p1 => ?_
  refine hb.then S1 p1 fun y u F2 H2 B2 g2 S2 r2 _ _ p2 => ?_
  exact hd F2 H2 As v u x y Q S2.ex (Rep.mono g2.ff x v r1.1) r2.1 p2
theorem de_op {op : Operator} (ho : OpR X (binaryOp op) r) (hd : OpD X.mg E X.K r g o) (ha : DE X E ω a ta fa .fz []) (hb : DE X E ω b tb fb .fz []) : DE X E ω (.BinOp a op b pos) (tOp r ta tb) (eOp g fa fb) o [] :=
  ⟨pe_op ho ha.pe hb.pe, sem_op hd ha.sem hb.sem⟩
theorem de_add (ha : DE X E ω a ta fa .fz []) (hb : DE X E ω b tb fb .fz []) : DE X E ω (.BinOp a .Add b pos) (tOp (rAddD X.K) ta tb) (eOp addD fa fb) (.own .fz) [] := de_op or_add od_add ha hb
theorem de_sub (ha : DE X E ω a ta fa .fz []) (hb : DE X E ω b tb fb .fz []) : DE X E ω (.BinOp a .Sub b pos) (tOp (rI0 fun i j => .int (i - j)) ta tb) (eOp subD fa fb) .fz [] := de_op op_sub od_sub ha hb
theorem de_mul (ha : DE X E ω a ta fa .fz []) (hb : DE X E ω b tb fb .fz []) : DE X E ω (.BinOp a .Mult b pos) (tOp rMulD ta tb) (eOp mulD fa fb) (.own .fz) [] := de_op or_mul od_mul ha hb
theorem de_mod (ha : DE X E ω a ta fa .fz []) (hb : DE X E ω b tb fb .fz []) : DE X E ω (.BinOp a .Mod b pos) (tOp (rI (fun _ j => 0 < j) fun i j => .int (i % j)) ta tb) (eOp modD fa fb) .fz [] := de_op op_mod od_mod ha hb
theorem de_div (ha : DE X E ω a ta fa .fz []) (hb : DE X E ω b tb fb .fz []) : DE X E ω (.BinOp a .FloorDiv b pos) (tOp (rI CDiv fun i j => .int (i / j)) ta tb) (eOp divD fa fb) .fz [] := de_op op_fdiv od_div ha hb
theorem de_pow (ha : DE X E ω a ta fa .fz []) (hb : DE X E ω b tb fb .fz []) : DE X E ω (.BinOp a .Pow b pos) (tOp (rI CPow fun i j => .int (i ^ j.toNat)) ta tb) (eOp powD fa fb) .fz [] := de_op op_pow od_pow ha hb
theorem de_neg (ha : DE X E ω a ta fa .fz []) : DE X E ω (.UnaryOp .USub a pos) (tUn (rU fun i => .int (-i)) ta) (eUn negD fa) .fz [] :=
  ⟨pe_un un_neg ha.pe, fun σ ρ F H As Q S p => ha.sem.then S p fun x v F1 H1 B1 g1 S1 r1 _ _ p1 => by
    cases x <;> first
      | exact (show False from p1).elim
      | exact ⟨_, r1.1, p1.fin S1.ex rfl⟩⟩
theorem de_cmp {op : CmpOp} (ho : OpR X (compareOp op) r) (hd : OpD X.mg E X.K r g .fz) (ha : DE X E ω a ta fa .fz []) (hb : DE X E ω b tb fb .fz []) (hm : behindInMarks op b = false) : DE X E ω (.Compare a [op] [b] pos) (tOp r ta tb) (eOp g fa fb) .fz [] :=
  ⟨pe_cmpR ho ha.pe hb.pe hm, sem_op hd ha.sem hb.sem⟩
theorem semT_test {mg : Str → Option Value} {K : PySem.W.Frag} (h : Sem mg E K ω t f .fz []) : SemT mg E K ω (tTest t) (tB' f) := fun σ ρ F H As Q S p => by
  refine h.thenT S p fun d v F1 H1 B g S1 r _ _ q => ?_
  cases d <;> first
    | exact (show False from q).elim
    | exact ⟨_, r.1, q F1 H1 (Grow.refl S1.ex)⟩
theorem dt_cmp {op : CmpOp} (ho : OpR X (compareOp op) r) (hd : OpD X.mg E X.K r g .fz) (ha : DE X E ω a ta fa .fz []) (hb : DE X E ω b tb fb .fz []) (hm : behindInMarks op b = false) : DT X E ω (.Compare a [op] [b] pos) (tTest (tOp r ta tb)) (tB' (eOp g fa fb)) :=
  ⟨pt_cmpR ho ha.pe hb.pe hm, semT_test (sem_op hd ha.sem hb.sem)⟩
/-- a call or a name, True or False, as a test -/
theorem dt_val (h : DE X E ω e t f .fz []) (he : ∀ whole, isTrue e X.env whole = (do let v ← whole; standAt e.pos; holding [v] (truthy v)) := by intro _; rfl) : DT X E ω e (tB t) (tB' f) := ⟨pt_val h.pe he, semT_test h.sem⟩
def eAndT (f g : Env → R Bool) (ρ : Env) : R Bool := f ρ >>= fun b => if b = true then g ρ else .ok false
def eOrT (f g : Env → R Bool) (ρ : Env) : R Bool := f ρ >>= fun b => if b = true then .ok true else g ρ
def eNotT (f : Env → R Bool) (ρ : Env) : R Bool := f ρ >>= fun b => .ok (!b)
variable {tt tu : TT} {ft fu : Env → R Bool}
structure DW (X : Cx) (E : XK) (ω : List O) (e : Expr) (t : TT) (f : Env → R Bool) : Prop where
  pw : PW X e t
  sem : SemT X.mg E X.K ω t f
theorem dt_of (h : DW X E ω e tt ft) : DT X E ω e tt ft := ⟨h.pw.pt, h.sem⟩
theorem dw_and1 (h : DT X E ω a tt ft) : DW X E ω (.BoolOp .And [a] pos) tt ft := ⟨pw_and1 h.pt, h.sem⟩
theorem dw_or1 (h : DT X E ω a tt ft) : DW X E ω (.BoolOp .Or [a] pos) tt ft := ⟨pw_or1 h.pt, h.sem⟩
theorem dw_and {rest : List Expr} (h : DT X E ω a tt ft) (h' : DW X E ω (.BoolOp .And (b :: rest) pos) tu fu) : DW X E ω (.BoolOp .And (a :: b :: rest) pos) (tAnd tt tu) (eAndT ft fu) :=
  ⟨pw_and h.pt h'.pw, fun σ ρ F H As Q S p => h.sem.thenT S p fun c F1 H1 g S1 q => by
    cases c with
    | true => exact h'.sem σ ρ F1 H1 As Q S1 q
    | false => exact q F1 H1 (Grow.refl S1.ex)⟩
theorem dw_or {rest : List Expr} (h : DT X E ω a tt ft) (h' : DW X E ω (.BoolOp .Or (b :: rest) pos) tu fu) : DW X E ω (.BoolOp .Or (a :: b :: rest) pos) (tOr tt tu) (eOrT ft fu) :=
  ⟨pw_or h.pt h'.pw, fun σ ρ F H As Q S p => h.sem.thenT S p fun c F1 H1 g S1 q => by
    cases c with
    | true => exact q F1 H1 (Grow.refl S1.ex)
    | false => exact h'.sem σ ρ F1 H1 As Q S1 q⟩
theorem dt_not (h : DT X E ω a tt ft) : DT X E ω (.UnaryOp .Not a pos) (tNot tt) (eNotT ft) :=
  ⟨pt_not h.pt, fun σ ρ F H As Q S p => h.sem.thenT S p fun c F1 H1 g S1 q => q F1 H1 (Grow.refl S1.ex)⟩
/-- and, or, not as values -/
def eAndV (f g : Env → R D) (ρ : Env) : R D := f ρ >>= fun d => match d with
  | .bl true => g ρ
  | .bl false => .ok (.bl false)
  | _ => .no
def eOrV (f g : Env → R D) (ρ : Env) : R D := f ρ >>= fun d => match d with
  | .bl true => .ok (.bl true)
  | .bl false => g ρ
  | _ => .no
theorem de_one {op} (h : DE X E ω a t f o M) : DE X E ω (.BoolOp op [a] pos) t f o M := ⟨pe_one h.pe, h.sem⟩
theorem de_and {rest : List Expr} (h : DE X E ω a ta fa .fz []) (h' : DE X E ω (.BoolOp .And (b :: rest) pos) tb fb .fz []) : DE X E ω (.BoolOp .And (a :: b :: rest) pos) (tAndV ta tb) (eAndV fa fb) .fz [] :=
  ⟨pe_and h.pe h'.pe, fun σ ρ F H As Q S p => h.sem.then S p fun d v F1 H1 B g S1 r _ _ q => by
    cases d with
    | bl c =>
      refine ⟨c, r.1, ?_⟩
      cases c with
      | true => exact h'.sem σ ρ F1 H1 As Q S1 q
      | false => exact q.fin S1.ex rfl
    | _ => exact (show False from q).elim⟩
theorem de_or {rest : List Expr} (h : DE X E ω a ta fa .fz []) (h' : DE X E ω (.BoolOp .Or (b :: rest) pos) tb fb .fz []) : DE X E ω (.BoolOp .Or (a :: b :: rest) pos) (tOrV ta tb) (eOrV fa fb) .fz [] :=
  ⟨pe_or h.pe h'.pe, fun σ ρ F H As Q S p => h.sem.then S p fun d v F1 H1 B g S1 r _ _ q => by
    cases d with
    | bl c =>
      refine ⟨c, r.1, ?_⟩
      cases c with
      | true => exact q.fin S1.ex rfl
      | false => exact h'.sem σ ρ F1 H1 As Q S1 q
    | _ => exact (show False from q).elim⟩
theorem de_not (h : DE X E ω a ta fa .fz []) : DE X E ω (.UnaryOp .Not a pos) (tNotV ta) (eUn notD fa) .fz [] :=
  ⟨pe_not h.pe, fun σ ρ F H As Q S p => h.sem.then S p fun d v F1 H1 B g S1 r _ _ q => by
    cases d <;> first
      | exact (show False from q).elim
      | exact ⟨_, r.1, q.fin S1.ex rfl⟩⟩
/-- a if c else b -/
def eIf (c : Env → R Bool) (f g : Env → R D) (ρ : Env) : R D := c ρ >>= fun b => if b = true then f ρ else g ρ
theorem de_ifExp {c : Expr} (hc : DT X E ω c tt ft) (ha : DE X E ω a ta fa o []) (hb : DE X E ω b tb fb o []) : DE X E ω (.IfExp c a b pos) (tIf tt ta tb) (eIf ft fa fb) o [] :=
  ⟨pe_ifExp hc.pt ha.pe hb.pe, fun σ ρ F H As Q S p => hc.sem.then S p fun c F1 H1 g S1 q => by
    cases c with
    | true => exact ha.sem σ ρ F1 H1 As Q S1 q
    | false => exact hb.sem σ ρ F1 H1 As Q S1 q⟩
theorem de_ix {k : Nat} (hr : Room k X.A) (ha : DE X E ω a ta fa .fz []) (hb : DE X E ω b tb fb .fz []) (hs : PlainIx b := by intro _ _; rfl) : DE X E ω (.Subscript a b pos) (tOp (rIxA X.K) ta tb) (eOp ixD fa fb) .fz [] :=
  ⟨pe_ix (ix_any hr) ha.pe hb.pe hs, sem_op od_ix ha.sem hb.sem⟩
end
end Dn

/-! Displays, slices, calls, comprehensions over data. -/
namespace Dn
open PySem L2 PyProof.Rows

/-! ### argument lists, displays -/
def aNil (_ : Env) : R (List D) := .ok []
def aCons (f : Env → R D) (g : Env → R (List D)) (ρ : Env) : R (List D) := f ρ >>= fun d => g ρ >>= fun ds => .ok (d :: ds)
def eTup (g : Env → R (List D)) (ρ : Env) : R D := g ρ >>= fun ds => .ok (.tup ds)
def eLst (g : Env → R (List D)) (ρ : Env) : R D := g ρ >>= fun ds => .ok (.lst ds)
def O.isFz : O → Bool
  | .fz => true
  | _ => false
section
variable {K : PySem.W.Frag} {F H : Hp}
theorem repT_fz : ∀ {os : List O} {ds : List D} {vs : List V} {B : List Addr}, os.all O.isFz = true → RepT K F H os ds vs B → Reps K F ds vs ∧ B = []
  | [], ds, vs, B, _, h => by
    obtain ⟨rfl, rfl, rfl⟩ := h
    exact ⟨rfl, rfl⟩
  | o :: os, ds, vs, B, hf, h => by
    obtain ⟨d, dr, v, vr, B1, B2, rfl, rfl, rfl, h1, h2⟩ := h
    rw [List.all_cons, Bool.and_eq_true] at hf
    obtain ⟨h3, h4⟩ := repT_fz hf.2 h2
    cases o with
    | fz => exact ⟨⟨v, vr, rfl, h1.1, h3⟩, by rw [h1.2, h4]; rfl⟩
    | _ => exact absurd hf.1 (by simp [O.isFz])
theorem repT_len : ∀ {os : List O} {ds : List D} {vs : List V} {B : List Addr}, RepT K F H os ds vs B → vs.length = os.length ∧ ds.length = os.length
  | [], ds, vs, B, h => by
    obtain ⟨rfl, rfl, rfl⟩ := h
    exact ⟨rfl, rfl⟩
  | o :: os, ds, vs, B, h => by
    obtain ⟨d, dr, v, vr, B1, B2, rfl, rfl, rfl, h1, h2⟩ := h
    obtain ⟨h3, h4⟩ := repT_len h2
    exact ⟨congrArg Nat.succ h3, congrArg Nat.succ h4⟩
def O.isO (o : O) (o' : O) : Prop := o' = o
theorem repT_all {o : O} : ∀ {os : List O} {ds : List D} {vs : List V} {B : List Addr}, (∀ o' ∈ os, o' = o) → RepT K F H os ds vs B → AllO (RepO K F H o) ds vs B
  | [], ds, vs, B, _, h => by
    obtain ⟨rfl, rfl, rfl⟩ := h
    exact ⟨rfl, rfl⟩
  | o' :: os, ds, vs, B, hf, h => by
    obtain ⟨d, dr, v, vr, B1, B2, rfl, rfl, rfl, h1, h2⟩ := h
    have e : o' = o := hf o' (by simp)
    subst e
    exact ⟨v, vr, B1, B2, rfl, rfl, h1, repT_all (fun o'' h => hf o'' (by simp [h])) h2⟩
end
section
variable {X : Cx} {E : XK} {ω : List O} {e a b : Expr} {es : List Expr} {t ta tb : TE} {tas : TA} {f fa fb : Env → R D} {fas : Env → R (List D)} {o : O} {os : List O} {M M' : List Nat} {pos : Pos}
theorem da_nil : DA X E ω [] tNil aNil [] [] := ⟨pa_nil, fun σ ρ F H As Q S p => p [] F H [] (Grow.refl S.ex) ⟨rfl, rfl, rfl⟩ (fun _ h => by simp at h) List.nodup_nil⟩
theorem da_cons (h : DE X E ω e t f o M) (h' : DA X E ω es tas fas os M') (hM : ∀ i ∈ M, i ∉ M' := by decide) (hs : starEach (e :: es) X.env = (false, eval e X.env) :: starEach es X.env := by rfl) :
    DA X E ω (e :: es) (tCons t tas) (aCons f fas) (o :: os) (M ++ M') := by
  refine ⟨pa_cons h.pe h'.pa hs, fun σ ρ F H As Q S p => ?_⟩
  refine h.sem σ ρ F H As _ S ?_
  unfold aCons at p
  cases hf : f ρ with
  | ok d =>
    rw [hf] at p
    intro v F1 H1 B1 g1 r1 b1 n1
    have S1 := S.grow g1
    refine h'.sem σ ρ F1 H1 As _ S1 ?_
    cases hfs : fas ρ with
    | ok ds =>
      rw [ok_bind, hfs] at p
      intro vs F2 H2 B2 g2 r2 b2 n2
      refine p (v :: vs) F2 H2 (B1 ++ B2) (g1.trans g2) ⟨d, ds, v, vs, B1, B2, rfl, rfl, rfl, r1.grow g2, r2⟩ (fun x hx => ?_) ?_
      · rcases List.mem_append.mp hx with hx | hx
        · exact (b1 x hx).imp id fun q => q.imp fun i hi => List.mem_append_left _ hi
        · exact (b2 x hx).imp (fresh_of g1.hh) fun q => q.imp fun i hi => List.mem_append_right _ hi
      · refine List.nodup_append.mpr ⟨n1, n2, fun x hx y hy e => ?_⟩
        subst e
        have q1 := (RepO.mem _ _ _ _ r1 hx).2
        rcases b2 x hy with q2 | q2
        · exact q1 q2
        · have q3 := (S.sl.mem q2.flat).2
          rcases b1 x hx with q4 | q4
          · exact q3 q4
          · obtain ⟨i, hi, C, hC, xC⟩ := q4
            obtain ⟨j, hj, D', hD, xD⟩ := q2
            have := flat_apart S.nd hC hD xC xD
            subst this
            exact hM i hi hj
    | exc c =>
      rw [ok_bind, hfs] at p
      exact fun H' q => p H' (g1.hh.trans q)
    | no => rw [ok_bind, hfs] at p; exact p
  | exc c => rw [hf] at p; exact p
  | no => rw [hf] at p; exact p
/-- (a, b, ..), nothing of it one's own -/
theorem de_tup {k} (h : DA X E ω es tas fas os []) (hf : os.all O.isFz = true := by rfl) (hl : os.length ≤ 1000 := by decide) : DE X E ω (.Tuple es k pos) (tTup tas) (eTup fas) .fz [] :=
  ⟨pe_tup h.pa, fun σ ρ F H As Q S p => h.sem.then S p fun ds vs F1 H1 B g S1 r _ _ q => by
    obtain ⟨r', _⟩ := repT_fz hf r
    refine ⟨by rw [(repT_len r).1, ← most_eq]; exact Nat.le_trans hl (by decide), fun l hl => ?_⟩
    exact q.newT S1.ex hl r'⟩
/-- .. what is one's own in it stays so -/
theorem de_tupO {k} (h : DA X E ω es tas fas os M) (hl : os.length ≤ 1000 := by decide) : DE X E ω (.Tuple es k pos) (tTup tas) (eTup fas) (.tup os) M :=
  ⟨pe_tup h.pa, fun σ ρ F H As Q S p => by
    refine h.sem σ ρ F H As _ S ?_
    unfold eTup at p
    cases hf : fas ρ with
    | ok ds =>
      rw [hf] at p
      intro vs F1 H1 B g r b n
      refine ⟨by rw [(repT_len r).1, ← most_eq]; exact Nat.le_trans hl (by decide), fun l hl => ?_⟩
      have g' := Grow.new (u := .tup vs) g.fh hl
      exact p (.ref l) _ _ B (g.trans g') ⟨ds, l, vs, rfl, rfl, upd_same, r.grow g'⟩ b n
    | exc c => rw [hf] at p; exact p
    | no => rw [hf] at p; exact p⟩
/-- [a, b, ..], a new list of what is not one's own -/
theorem de_lst (h : DA X E ω es tas fas os []) (hf : os.all O.isFz = true := by rfl) (hl : os.length ≤ 1000 := by decide) : DE X E ω (.List es pos) (tLst tas) (eLst fas) (.own .fz) [] :=
  ⟨pe_lst h.pa, fun σ ρ F H As Q S p => h.sem.then S p fun ds vs F1 H1 B g S1 r _ _ q => by
    obtain ⟨r', _⟩ := repT_fz hf r
    refine ⟨by rw [(repT_len r).1, ← most_eq]; exact Nat.le_trans hl (by decide), fun l hl => ?_⟩
    exact q.newL S1.ex hl r'⟩
theorem de_dic0 : DE X E ω (.Dict [] [] pos) tDNewK (eC (.dic [])) (.own .fz) [] :=
  ⟨pe_dnewK, fun σ ρ F H As Q S p l hl => p.newD S.ex hl rfl⟩

/-! ### slices -/
def PstO (mg : Str → Option Value) (E : XK) (F H : Hp) (Q : Option Int → Hp → Prop) : R (Option Int) → Prop
  | .ok b => ∀ F' H', Grow F H F' H' → Q b H'
  | .exc c => ∀ H', Same H H' → E (clsOf mg c) none H'
  | .no => False
def SemO (mg : Str → Option Value) (E : XK) (K : PySem.W.Frag) (ω : List O) (t : TO) (f : Env → R (Option Int)) : Prop := ∀ σ ρ F H As Q, Stt K ω ρ σ F H As → PstO mg E F H Q (f ρ) → t σ H Q
structure DO (X : Cx) (E : XK) (ω : List O) (e : Option Expr) (t : TO) (f : Env → R (Option Int)) : Prop where
  po : PO X e t
  sem : SemO X.mg E X.K ω t f
def oNone (_ : Env) : R (Option Int) := .ok none
def asI : D → R (Option Int)
  | .int i => .ok (some i)
  | _ => .no
def oSome (f : Env → R D) (ρ : Env) : R (Option Int) := f ρ >>= asI
theorem do_none : DO X E ω none tNoPart oNone := ⟨po_none, fun σ ρ F H As Q S p => p F H (Grow.refl S.ex)⟩
theorem do_some (h : DE X E ω e t f .fz []) : DO X E ω (some e) (tPart t) (oSome f) := by
  refine ⟨po_some h.pe, fun σ ρ F H As Q S p => ?_⟩
  refine h.sem σ ρ F H As _ S ?_
  unfold oSome at p
  cases hf : f ρ with
  | ok d =>
    rw [hf] at p
    intro v F1 H1 B g r b n
    cases d <;> first
      | exact (show False from p).elim
      | exact ⟨_, r.1, p F1 H1 g⟩
  | exc c => rw [hf] at p; exact p
  | no => rw [hf] at p; exact p
/-- the part of n things from lo to hi -/
def cut {α : Type} (xs : List α) (lo hi : Option Int) : List α := (xs.drop (HT.sIx xs.length 0 lo)).take (HT.sIx xs.length xs.length hi - HT.sIx xs.length 0 lo)
def slD : D → Option Int → Option Int → R D
  | .lst xs, lo, hi => .ok (.lst (cut xs lo hi))
  | .tup xs, lo, hi => .ok (.tup (cut xs lo hi))
  | .str z, lo, hi => if z.length ≤ most then .ok (.str (cutS z lo hi)) else .no
  | _, _, _ => .no
def eSl (f : Env → R D) (l h : Env → R (Option Int)) (ρ : Env) : R D := f ρ >>= fun d => l ρ >>= fun lo => h ρ >>= fun hi => slD d lo hi
def rSlAll (K : PySem.W.Frag) : V → Option Int → Option Int → Hp → VK → Prop := fun x lo hi H Q => rSlL K x lo hi H Q ∨ (rSlA K x lo hi H Q ∨ rSlS x lo hi H Q)
theorem cut_whole {α : Type} {xs : List α} {lo hi : Option Int} (h : HT.sIx xs.length 0 lo = 0 ∧ HT.sIx xs.length xs.length hi = xs.length) : cut xs lo hi = xs := by
  unfold cut
  rw [h.1, h.2]
  simp
theorem reps_cut {K : PySem.W.Frag} {F : Hp} {ds : List D} {vs : List V} (r : Reps K F ds vs) (lo hi : Option Int) : Reps K F (cut ds lo hi) (cutV vs lo hi) := by
  unfold cut cutV
  rw [r.length]
  exact (r.drop _).take _
theorem de_slice {lo hi : Option Expr} {tl th : TO} {fl fh : Env → R (Option Int)} {p2 : Pos} (ha : DE X E ω a ta fa .fz []) (hl : DO X E ω lo tl fl) (hh : DO X E ω hi th fh) :
    DE X E ω (.Subscript a (.Slice lo hi none p2) pos) (tSl (rSlAll X.K) ta tl th) (eSl fa fl fh) (.own .fz) [] := by
  refine ⟨pe_slice (sl_list.or (sl_tupA.or sl_str)) ha.pe hl.po hh.po, fun σ ρ F H As Q S p => ?_⟩
  refine ha.sem.then S p fun d v F1 H1 B g S1 r _ _ p1 => ?_
  refine hl.sem σ ρ F1 H1 As _ S1 ?_
  cases hfl : fl ρ with
  | ok lo =>
    rw [hfl] at p1
    intro F2 H2 g2
    have S2 := S1.grow g2
    refine hh.sem σ ρ F2 H2 As _ S2 ?_
    cases hfh : fh ρ with
    | ok hi =>
      rw [ok_bind, hfh, ok_bind] at p1
      intro F3 H3 g3
      have S3 := S2.grow g3
      have r3 := Rep.mono (g2.trans g3).ff d v r.1
      have p3 := p1.grow (g2.trans g3)
      cases d with
      | lst xs =>
        obtain ⟨l, vs, rfl, h1, h2⟩ := r3
        exact .inl ⟨l, vs, rfl, .of (S3.ex _ _ h1), fun q hq => p3.newL S3.ex hq (reps_cut h2 _ _)⟩
      | tup xs =>
        obtain ⟨l, vs, rfl, h1, h2⟩ := r3
        refine .inr (.inl ⟨l, vs, rfl, .of (S3.ex _ _ h1), fun hw => ?_, fun _ q hq => p3.ownT S3.ex hq (reps_cut h2 _ _)⟩)
        rw [h2.length] at hw
        have p3' : Pst X.mg E X.K (.own .fz) As [] F3 H3 Q (.ok (.tup (cut xs lo hi))) := p3
        rw [cut_whole hw] at p3'
        exact p3'.own (o := .fz) rfl S3.ex ⟨l, vs, rfl, h1, h2⟩
      | str z =>
        unfold slD at p3
        dsimp only at p3
        by_cases hz : z.length ≤ most
        · rw [if_pos hz] at p3
          exact .inr (.inr ⟨z, r3, by rw [← most_eq]; exact hz, p3.own (o := .fz) rfl S3.ex rfl⟩)
        · rw [if_neg hz] at p3
          exact p3.elim
      | _ => exact (show False from p3).elim
    | exc c =>
      rw [ok_bind, hfh] at p1
      exact fun H' q => p1 H' (g2.hh.trans q)
    | no => rw [ok_bind, hfh] at p1; exact p1
  | exc c => rw [hfl] at p1; exact p1
  | no => rw [hfl] at p1; exact p1

/-! ### calls of built-ins -/
def CallD (mg : Str → Option Value) (E : XK) (K : PySem.W.Frag) (r : List V → Hp → VK → Prop) (g : List D → R D) (o : O) : Prop :=
  ∀ F H As vs ds Q, Same F H → Reps K F ds vs → Pst mg E K o As [] F H Q (g ds) → r vs H Q
def eCall (g : List D → R D) (fas : Env → R (List D)) (ρ : Env) : R D := fas ρ >>= g
theorem sem_call {mg : Str → Option Value} {K : PySem.W.Frag} {r : List V → Hp → VK → Prop} {g : List D → R D} (hd : CallD mg E K r g o) (h : SemA mg E K ω tas fas os []) (hf : os.all O.isFz = true) : Sem mg E K ω (tCB r tas) (eCall g fas) o [] := fun σ ρ F H As Q S p =>
  h.then S p fun ds vs F1 H1 B g1 S1 r1 _ _ q => hd F1 H1 As vs ds Q S1.ex (repT_fz hf r1).1 q
theorem de_callB {id : String} {x : Str} {p : Pos} {r : List V → Hp → VK → Prop} {g : List D → R D} (hc : CallR X (.builtin id) r) (hd : CallD X.mg E X.K r g o) (hm : X.mg x = none) (hv : bootBuiltins x = some (.builtin id)) (ha : DA X E ω (e :: es) tas fas os [])
    (hg : Gl X x := by rfl) (hf : os.all O.isFz = true := by rfl) (hn : x ≠ "__name__" := by decide) (hdb : (x == ("__debug__" : Str)) = false := by decide)
    (he : starEach (e :: es) X.env = (false, eval e X.env) :: starEach es X.env := by rfl) (hpl : (backTo pos (starEach es X.env)).any (·.1) = false := by rfl) : DE X E ω (.Call (.Name x p) (e :: es) [] pos) (tCB r tas) (eCall g fas) o [] :=
  ⟨pe_callB hc hg hm hv ha.pa hn hdb he hpl, sem_call hd ha.sem hf⟩
theorem de_callTy {T : String} {x : Str} {p : Pos} {r : List V → Hp → VK → Prop} {g : List D → R D} (hc : CallR X (.type T) r) (hd : CallD X.mg E X.K r g o) (hm : X.mg x = none) (hv : bootBuiltins x = some (.type T)) (ha : DA X E ω (e :: es) tas fas os [])
    (hg : Gl X x := by rfl) (hf : os.all O.isFz = true := by rfl) (hn : x ≠ "__name__" := by decide) (hdb : (x == ("__debug__" : Str)) = false := by decide)
    (he : starEach (e :: es) X.env = (false, eval e X.env) :: starEach es X.env := by rfl) (hpl : (backTo pos (starEach es X.env)).any (·.1) = false := by rfl) : DE X E ω (.Call (.Name x p) (e :: es) [] pos) (tCB r tas) (eCall g fas) o [] :=
  ⟨pe_callTy hc hg hm hv ha.pa hn hdb he hpl, sem_call hd ha.sem hf⟩
end
section
variable {mg : Str → Option Value} {E : XK} {K : PySem.W.Frag}
theorem reps1 {F : Hp} {d : D} {vs : List V} (r : Reps K F [d] vs) : ∃ v, vs = [v] ∧ Rep K F d v := by
  obtain ⟨v, vr, rfl, h, h'⟩ := r
  exact ⟨v, by rw [show vr = [] from h'], h⟩
theorem reps2 {F : Hp} {d d' : D} {vs : List V} (r : Reps K F [d, d'] vs) : ∃ v w, vs = [v, w] ∧ Rep K F d v ∧ Rep K F d' w := by
  obtain ⟨v, vr, rfl, h, h'⟩ := r
  obtain ⟨w, rfl, h2⟩ := reps1 h'
  exact ⟨v, w, rfl, h, h2⟩
def lenD : List D → R D
  | [.lst xs] => .ok (.int xs.length)
  | [.tup xs] => .ok (.int xs.length)
  | [.scr xs] => .ok (.int xs.length)
  | [.dic xs] => .ok (.int xs.length)
  | [.str z] => if z.length ≤ most then .ok (.int z.length) else .no
  | _ => .no
def rLenA (K : PySem.W.Frag) : List V → Hp → VK → Prop := fun xs H Q => (∃ p ys, xs = [.ref p] ∧ (SqL K H p ys ∨ SqT K H p ys) ∧ Q (.int ys.length) H) ∨ ((∃ z, xs = [.str z] ∧ z.length ≤ sizeLine ∧ Q (.int z.length) H) ∨ (∃ a kvs, xs = [V.ref a] ∧ Rd H a (.dK kvs) ∧ Q (.int kvs.length) H))
theorem call_lenR {X : Cx} : CallR X (.builtin "len") (fun xs H Q => ∃ a kvs, xs = [V.ref a] ∧ Rd H a (.dK kvs) ∧ Q (.int kvs.length) H) := by
  intro pins s σ H xs us Q I r h
  obtain ⟨a, kvs, rfl, ha, q⟩ := h
  obtain ⟨u, rfl, ru⟩ := vals1 r
  cases ru
  exact d_len I ha fun t s' I' => ⟨.int kvs.length, H, I', ⟨t, rfl⟩, q⟩
theorem cr_len {X : Cx} : CallR X (.builtin "len") (rLenA X.K) := call_len_seq.or (call_len_str.or call_lenR)
theorem repK_len : ∀ {F : Hp} {es : List (L2.Key × D)} {kvs : List (L2.Key × V)}, RepK K F es kvs → kvs.length = es.length
  | _, [], kvs, r => by rw [show kvs = [] from r]; rfl
  | _, (k, d) :: es, kvs, r => by
    obtain ⟨v, vr, rfl, _, h3⟩ := r
    exact congrArg Nat.succ (repK_len h3)
theorem cd_len : CallD mg E K (rLenA K) lenD .fz := fun F H As vs ds Q e r p => by
  unfold lenD at p
  split at p
  · rename_i xs
    obtain ⟨v, rfl, r1⟩ := reps1 r
    obtain ⟨a, ws, rfl, h1, h2⟩ := r1
    exact .inl ⟨a, ws, rfl, .inl (.of (e _ _ h1)), by rw [h2.length]; exact p.fin e rfl⟩
  · rename_i xs
    obtain ⟨v, rfl, r1⟩ := reps1 r
    obtain ⟨a, ws, rfl, h1, h2⟩ := r1
    exact .inl ⟨a, ws, rfl, .inr (.of (e _ _ h1)), by rw [h2.length]; exact p.fin e rfl⟩
  · rename_i xs
    obtain ⟨v, rfl, r1⟩ := reps1 r
    obtain ⟨a, rfl, h1⟩ := r1
    exact .inl ⟨a, xs.map V.int, rfl, .inl (e.seq h1), by rw [List.length_map]; exact p.fin e rfl⟩
  · rename_i xs
    obtain ⟨v, rfl, r1⟩ := reps1 r
    obtain ⟨a, ws, rfl, h1, h2⟩ := r1
    exact .inr (.inr ⟨a, ws, rfl, rd_mono e h1, by rw [repK_len h2]; exact p.fin e rfl⟩)
  · rename_i z
    obtain ⟨v, rfl, r1⟩ := reps1 r
    split at p
    · rename_i hz
      exact .inr (.inl ⟨z, by rw [show v = .str z from r1], by rw [← most_eq]; exact hz, p.fin e rfl⟩)
    · exact (show False from p).elim
  · exact (show False from p).elim
def intD : List D → R D
  | [.int i] => .ok (.int i)
  | [.bl b] => .ok (.int (if b then 1 else 0))
  | [.str z] => match PySem.intText? z with
    | some n => if z.length ≤ 640 then .ok (.int n) else .no
    | none => .no
  | _ => .no
def rIntA : List V → Hp → VK → Prop := fun xs H Q => ((∃ i, xs = [.int i] ∧ Q (.int i) H) ∨ ∃ k, xs = [.bl k] ∧ Q (.int (if k then 1 else 0)) H) ∨ (∃ a n, xs = [.str a] ∧ PySem.intText? a = some n ∧ a.length ≤ 640 ∧ Q (.int n) H)
theorem cr_int {X : Cx} : CallR X (.type "int") rIntA := call_int1.or call_int_str
theorem cd_int : CallD mg E K rIntA intD .fz := fun F H As vs ds Q e r p => by
  unfold intD at p
  split at p
  · obtain ⟨v, rfl, r1⟩ := reps1 r
    exact .inl (.inl ⟨_, by rw [show v = .int _ from r1], p.fin e rfl⟩)
  · obtain ⟨v, rfl, r1⟩ := reps1 r
    exact .inl (.inr ⟨_, by rw [show v = .bl _ from r1], p.fin e rfl⟩)
  · obtain ⟨v, rfl, r1⟩ := reps1 r
    split at p
    · rename_i n hn
      split at p
      · rename_i hz
        exact .inr ⟨_, n, by rw [show v = .str _ from r1], hn, hz, p.fin e rfl⟩
      · exact (show False from p).elim
    · exact (show False from p).elim
  · exact (show False from p).elim
def strD : List D → R D
  | [.int i] => if i.natAbs.log2 < 1920 then .ok (.str (toString i)) else .no
  | [.str s] => .ok (.str s)
  | _ => .no
def rStrA : List V → Hp → VK → Prop := fun xs H Q => (∃ i, xs = [.int i] ∧ i.natAbs.log2 < 1920 ∧ Q (.str (toString i)) H) ∨ ∃ a, xs = [.str a] ∧ Q (.str a) H
theorem cr_str {X : Cx} : CallR X (.type "str") rStrA := call_str_int.or SkE.call_str_str
theorem cd_str : CallD mg E K rStrA strD .fz := fun F H As vs ds Q e r p => by
  unfold strD at p
  split at p
  · rename_i i
    obtain ⟨v, rfl, r1⟩ := reps1 r
    split at p
    · rename_i hz
      exact .inl ⟨i, by rw [show v = .int _ from r1], hz, p.fin e rfl⟩
    · exact (show False from p).elim
  · obtain ⟨v, rfl, r1⟩ := reps1 r
    exact .inr ⟨_, by rw [show v = .str _ from r1], p.fin e rfl⟩
  · exact (show False from p).elim
def dKey : L2.Key → D
  | .inl i => .int i
  | .inr s => .str s
def listD : List D → R D
  | [.lst xs] => .ok (.lst xs)
  | [.tup xs] => .ok (.lst xs)
  | [.scr xs] => .ok (.lst (xs.map .int))
  | [.dic es] => .ok (.lst (es.map fun kv => dKey kv.1))
  | _ => .no
def rListA (K : PySem.W.Frag) : List V → Hp → VK → Prop := fun xs H Q => (∃ p ys, xs = [.ref p] ∧ (SqL K H p ys ∨ SqT K H p ys) ∧ ∀ l, H l = none → Q (.ref l) (upd H l (.lst ys))) ∨ ∃ (a : Addr) (kvs : List (L2.Key × V)), xs = [.ref a] ∧ Rd H a (.dK kvs) ∧ ∀ p, H p = none → Q (.ref p) (upd H p (.lst (kvs.map fun kv => kV kv.1)))
theorem cr_list {X : Cx} (hc : X.calm = true) : CallR X (.type "list") (rListA X.K) := call_list_of.or (call_listD hc)
theorem reps_ints {F : Hp} : ∀ ns : List Int, Reps K F (ns.map .int) (ns.map V.int)
  | [] => rfl
  | n :: ns => ⟨.int n, ns.map V.int, rfl, rfl, reps_ints ns⟩
theorem reps_keys {F : Hp} : ∀ {es : List (L2.Key × D)} {kvs : List (L2.Key × V)}, RepK K F es kvs → Reps K F (es.map fun kv => dKey kv.1) (kvs.map fun kv => kV kv.1)
  | [], kvs, r => by rw [show kvs = [] from r]; exact rfl
  | (k, d) :: es, kvs, r => by
    obtain ⟨v, vr, rfl, _, h3⟩ := r
    refine ⟨kV k, _, rfl, ?_, reps_keys h3⟩
    cases k <;> exact rfl
theorem cd_list : CallD mg E K (rListA K) listD (.own .fz) := fun F H As vs ds Q e r p => by
  unfold listD at p
  split at p
  · obtain ⟨v, rfl, r1⟩ := reps1 r
    obtain ⟨a, ws, rfl, h1, h2⟩ := r1
    exact .inl ⟨a, ws, rfl, .inl (.of (e _ _ h1)), fun l hl => p.newL e hl h2⟩
  · obtain ⟨v, rfl, r1⟩ := reps1 r
    obtain ⟨a, ws, rfl, h1, h2⟩ := r1
    exact .inl ⟨a, ws, rfl, .inr (.of (e _ _ h1)), fun l hl => p.newL e hl h2⟩
  · rename_i xs
    obtain ⟨v, rfl, r1⟩ := reps1 r
    obtain ⟨a, rfl, h1⟩ := r1
    exact .inl ⟨a, xs.map V.int, rfl, .inl (e.seq h1), fun l hl => p.newL e hl (reps_ints xs)⟩
  · obtain ⟨v, rfl, r1⟩ := reps1 r
    obtain ⟨a, ws, rfl, h1, h2⟩ := r1
    exact .inr ⟨a, ws, rfl, rd_mono e h1, fun l hl => p.newL e hl (reps_keys h2)⟩
  · exact (show False from p).elim
def tupleD : List D → R D
  | [.lst xs] => .ok (.tup xs)
  | [.tup xs] => .ok (.tup xs)
  | _ => .no
def rTupA (K : PySem.W.Frag) : List V → Hp → VK → Prop := fun xs H Q => ∃ p ys, xs = [.ref p] ∧ ((SqL K H p ys ∧ ∀ l, H l = none → Q (.ref l) (upd H l (.tup ys))) ∨ (SqT K H p ys ∧ Q (.ref p) H))
theorem cr_tup {X : Cx} : CallR X (.type "tuple") (rTupA X.K) := call_tuple_of
theorem cd_tup : CallD mg E K (rTupA K) tupleD .fz := fun F H As vs ds Q e r p => by
  unfold tupleD at p
  split at p
  · obtain ⟨v, rfl, r1⟩ := reps1 r
    obtain ⟨a, ws, rfl, h1, h2⟩ := r1
    exact ⟨a, ws, rfl, .inl ⟨.of (e _ _ h1), fun l hl => p.newT e hl h2⟩⟩
  · obtain ⟨v, rfl, r1⟩ := reps1 r
    obtain ⟨a, ws, rfl, h1, h2⟩ := r1
    exact ⟨a, ws, rfl, .inr ⟨.of (e _ _ h1), p.fin e ⟨a, ws, rfl, h1, h2⟩⟩⟩
  · exact (show False from p).elim
/-- dict(d), a new one; dict([(k, v), ..]) -/
def putD (es : List (L2.Key × D)) (k : L2.Key) (d : D) : List (L2.Key × D) :=
  if (es.any fun kv => decide (kv.1 = k)) = true then es.map (fun kv => if kv.1 = k then (kv.1, d) else kv) else es ++ [(k, d)]
def pairsD : List D → Option (List (L2.Key × D))
  | [] => some []
  | .tup [k, d] :: r => match keyD k, pairsD r with
    | some k, some es => some ((k, d) :: es)
    | _, _ => none
  | _ => none
def dictD : List D → R D
  | [.dic es] => .ok (.dic es)
  | [.lst xs] => match pairsD xs with
    | some es => .ok (.dic (es.foldl (fun acc kv => putD acc kv.1 kv.2) []))
    | none => .no
  | _ => .no
def rDictA (K : PySem.W.Frag) : List V → Hp → VK → Prop := fun xs H Q => (∃ (a : Addr) (kvs : List (L2.Key × V)), xs = [.ref a] ∧ Rd H a (.dK kvs) ∧ ∀ p, H p = none → Q (.ref p) (upd H p (.dK kvs))) ∨
  (∃ (a : Addr) (ps : List Addr) (kvs : List (L2.Key × V)), xs = [.ref a] ∧ SqL K H a (ps.map V.ref) ∧ Paired (fun p kv => SqT K H p [kV kv.1, kv.2]) ps kvs ∧ ∀ p, H p = none → Q (.ref p) (upd H p (.dK (mergeK [] kvs))))
theorem cr_dict {X : Cx} (hc : X.calm = true) : CallR X (.type "dict") (rDictA X.K) := call_dictD.or (call_dictP hc)
theorem repK_any {F : Hp} {k : L2.Key} : ∀ {es : List (L2.Key × D)} {kvs : List (L2.Key × V)}, RepK K F es kvs → (kvs.any fun kv => decide (kv.1 = k)) = es.any fun kv => decide (kv.1 = k)
  | [], kvs, r => by rw [show kvs = [] from r]; rfl
  | (k', d) :: es, kvs, r => by
    obtain ⟨v, vr, rfl, _, h3⟩ := r
    rw [List.any_cons, List.any_cons, repK_any h3]
theorem repK_map {F : Hp} {k : L2.Key} {d : D} {v : V} (hd : Rep K F d v) : ∀ {es : List (L2.Key × D)} {kvs : List (L2.Key × V)}, RepK K F es kvs → RepK K F (es.map fun kv => if kv.1 = k then (kv.1, d) else kv) (kvs.map fun kv => if kv.1 = k then (kv.1, v) else kv)
  | [], kvs, r => by rw [show kvs = [] from r]; exact rfl
  | (k', d') :: es, kvs, r => by
    obtain ⟨v', vr, rfl, h2, h3⟩ := r
    rw [List.map_cons, List.map_cons]
    by_cases h : k' = k
    · rw [if_pos (show (k', d').1 = k from h), if_pos (show (k', v').1 = k from h)]
      exact ⟨v, _, rfl, hd, repK_map hd h3⟩
    · rw [if_neg (show ¬ (k', d').1 = k from h), if_neg (show ¬ (k', v').1 = k from h)]
      exact ⟨v', _, rfl, h2, repK_map hd h3⟩
theorem repK_app {F : Hp} : ∀ {es es' : List (L2.Key × D)} {kvs kvs' : List (L2.Key × V)}, RepK K F es kvs → RepK K F es' kvs' → RepK K F (es ++ es') (kvs ++ kvs')
  | [], es', kvs, kvs', r, r' => by rw [show kvs = [] from r]; exact r'
  | (k, d) :: es, es', kvs, kvs', r, r' => by
    obtain ⟨v, vr, rfl, h2, h3⟩ := r
    exact ⟨v, vr ++ kvs', rfl, h2, repK_app h3 r'⟩
theorem repK_put {F : Hp} {k : L2.Key} {d : D} {v : V} {es : List (L2.Key × D)} {kvs : List (L2.Key × V)} (hd : Rep K F d v) (r : RepK K F es kvs) : RepK K F (putD es k d) (putK kvs k v) := by
  unfold putD putK
  rw [repK_any r]
  split
  · exact repK_map hd r
  · exact repK_app r ⟨v, [], rfl, hd, rfl⟩
theorem repK_fold {F : Hp} : ∀ {es acc : List (L2.Key × D)} {kvs acc' : List (L2.Key × V)}, RepK K F es kvs → RepK K F acc acc' → RepK K F (es.foldl (fun acc kv => putD acc kv.1 kv.2) acc) (mergeK acc' kvs)
  | [], acc, kvs, acc', r, q => by rw [show kvs = [] from r]; exact q
  | (k, d) :: es, acc, kvs, acc', r, q => by
    obtain ⟨v, vr, rfl, h2, h3⟩ := r
    have z := repK_fold (es := es) (acc := putD acc k d) (kvs := vr) (acc' := putK acc' k v) h3 (repK_put h2 q)
    exact z
theorem pairs_rep {F H : Hp} (e : Same F H) : ∀ {xs : List D} {es : List (L2.Key × D)} {vs : List V}, pairsD xs = some es → Reps K F xs vs → ∃ ps kvs, vs = ps.map V.ref ∧ RepK K F es kvs ∧ Paired (fun p kv => SqT K H p [kV kv.1, kv.2]) ps kvs
  | [], es, vs, h, r => by
    cases h
    exact ⟨[], [], r, rfl, .nil⟩
  | x :: xs, es, vs, h, r => by
    obtain ⟨v, vr, rfl, h2, h3⟩ := r
    unfold pairsD at h
    split at h
    · rename_i heq
      cases heq
    · rename_i k d r' heq
      cases heq
      split at h
      · rename_i k' es' hk hp
        cases h
        obtain ⟨ps, kvs, rfl, h4, h5⟩ := pairs_rep e hp h3
        obtain ⟨a, ws, rfl, h6, h7⟩ := h2
        obtain ⟨w1, w2, rfl, h8, h9⟩ := reps2 h7
        refine ⟨a :: ps, (k', w2) :: kvs, rfl, ⟨w2, kvs, rfl, h9, h4⟩, .cons ?_ h5⟩
        rw [key_rep hk h8] at h6
        exact .of (e _ _ h6)
      · cases h
    · cases h
theorem cd_dict : CallD mg E K (rDictA K) dictD (.own .fz) := fun F H As vs ds Q e r p => by
  unfold dictD at p
  split at p
  · obtain ⟨v, rfl, r1⟩ := reps1 r
    obtain ⟨a, ws, rfl, h1, h2⟩ := r1
    exact .inl ⟨a, ws, rfl, rd_mono e h1, fun l hl => p.newD e hl h2⟩
  · obtain ⟨v, rfl, r1⟩ := reps1 r
    split at p
    · rename_i es hp
      obtain ⟨a, ws, rfl, h1, h2⟩ := r1
      obtain ⟨ps, kvs, rfl, h3, h4⟩ := pairs_rep e hp h2
      exact .inr ⟨a, ps, kvs, rfl, .of (e _ _ h1), h4, fun l hl => p.newD e hl (repK_fold (acc := []) (acc' := []) h3 rfl)⟩
    · exact (show False from p).elim
  · exact (show False from p).elim
def absD : List D → R D
  | [.int i] => .ok (.int (if i < 0 then -i else i))
  | _ => .no
def rAbsA : List V → Hp → VK → Prop := fun xs H Q => ∃ i, xs = [.int i] ∧ Q (.int (if i < 0 then -i else i)) H
theorem cd_abs : CallD mg E K rAbsA absD .fz := fun F H As vs ds Q e r p => by
  unfold absD at p
  split at p
  · rename_i i
    obtain ⟨v, rfl, r1⟩ := reps1 r
    exact ⟨i, by rw [show v = .int _ from r1], p.fin e rfl⟩
  · exact (show False from p).elim
def max2D : List D → R D
  | [.int i, .int j] => .ok (.int (if j > i then j else i))
  | _ => .no
def rMax2A : List V → Hp → VK → Prop := fun xs H Q => ∃ i j, xs = [.int i, .int j] ∧ Q (.int (if j > i then j else i)) H
theorem cd_max2 : CallD mg E K rMax2A max2D .fz := fun F H As vs ds Q e r p => by
  unfold max2D at p
  split at p
  · rename_i i j
    obtain ⟨v, w, rfl, r1, r2⟩ := reps2 r
    exact ⟨i, j, by rw [show v = .int _ from r1, show w = .int _ from r2], p.fin e rfl⟩
  · exact (show False from p).elim
def min2D : List D → R D
  | [.int i, .int j] => .ok (.int (if j < i then j else i))
  | _ => .no
def rMin2A : List V → Hp → VK → Prop := fun xs H Q => ∃ i j, xs = [.int i, .int j] ∧ Q (.int (if j < i then j else i)) H
theorem cd_min2 : CallD mg E K rMin2A min2D .fz := fun F H As vs ds Q e r p => by
  unfold min2D at p
  split at p
  · rename_i i j
    obtain ⟨v, w, rfl, r1, r2⟩ := reps2 r
    exact ⟨i, j, by rw [show v = .int _ from r1, show w = .int _ from r2], p.fin e rfl⟩
  · exact (show False from p).elim
def blsD : List D → Option (List Bool)
  | [] => some []
  | .bl b :: r => (blsD r).map (b :: ·)
  | _ => none
theorem bls_rep {F : Hp} : ∀ {ds : List D} {bs : List Bool} {vs : List V}, blsD ds = some bs → Reps K F ds vs → vs = bs.map V.bl
  | [], bs, vs, h, r => by
    cases h
    exact r
  | x :: xs, bs, vs, h, r => by
    obtain ⟨v, vr, rfl, h2, h3⟩ := r
    cases x with
    | bl b =>
      have h' : (blsD xs).map (b :: ·) = some bs := h
      cases hq : blsD xs with
      | none => rw [hq] at h'; cases h'
      | some bs' =>
        rw [hq] at h'
        cases h'
        rw [show v = .bl b from h2, bls_rep hq h3]
        rfl
    | _ => exact absurd h (by simp [blsD])
def anyD : List D → R D
  | [.lst xs] => match blsD xs with
    | some bs => .ok (.bl (bs.any id))
    | none => .no
  | _ => .no
def allD : List D → R D
  | [.lst xs] => match blsD xs with
    | some bs => .ok (.bl (bs.all id))
    | none => .no
  | _ => .no
theorem cd_any : CallD mg E K (rAny K) anyD .fz := fun F H As vs ds Q e r p => by
  unfold anyD at p
  split at p
  · obtain ⟨v, rfl, r1⟩ := reps1 r
    split at p
    · rename_i bs hb
      obtain ⟨a, ws, rfl, h1, h2⟩ := r1
      rw [bls_rep hb h2] at h1
      exact ⟨a, bs, rfl, .of (e _ _ h1), p.fin e rfl⟩
    · exact (show False from p).elim
  · exact (show False from p).elim
theorem cd_all : CallD mg E K (rAll K) allD .fz := fun F H As vs ds Q e r p => by
  unfold allD at p
  split at p
  · obtain ⟨v, rfl, r1⟩ := reps1 r
    split at p
    · rename_i bs hb
      obtain ⟨a, ws, rfl, h1, h2⟩ := r1
      rw [bls_rep hb h2] at h1
      exact ⟨a, bs, rfl, .of (e _ _ h1), p.fin e rfl⟩
    · exact (show False from p).elim
  · exact (show False from p).elim
end
end Dn

/-! isinstance, own defs, comprehensions over data. -/
namespace Dn
open PySem L2 PyProof.Rows

/-! ### isinstance -/
def tyName : D → String
  | .non => "NoneType" | .bl _ => "bool" | .int _ => "int" | .str _ => "str" | .tup _ => "tuple" | .lst _ => "list" | .scr _ => "list" | .dic _ => "dict"
def isiB (T : String) (d : D) : Bool := tyName d == T || (T == "int" && tyName d == "bool")
def isiD (T : String) (d : D) : R D := .ok (.bl (isiB T d))
def isi2D (T U : String) (d : D) : R D := .ok (.bl (isiB T d || isiB U d))
def KitOk (T : String) : Prop := ∀ a ∈ ["NoneType", "bool", "int", "str", "tuple", "list", "dict"], kitB a T = some (a == T || (T == "int" && a == "bool"))
theorem kit_int : KitOk "int" := by unfold KitOk; decide +kernel
theorem kit_bool : KitOk "bool" := by unfold KitOk; decide +kernel
theorem kit_tuple : KitOk "tuple" := by unfold KitOk; decide +kernel
theorem kit_list : KitOk "list" := by unfold KitOk; decide +kernel
theorem kit_dict : KitOk "dict" := by unfold KitOk; decide +kernel
theorem kit_str : KitOk "str" := by unfold KitOk; decide +kernel
theorem kit_of' {T : String} (h : KitOk T) (d : D) : kitB (tyName d) T = some (isiB T d) := h _ (by cases d <;> simp [tyName])
section
variable {X : Cx} {E : XK} {ω : List O} {e a b : Expr} {es : List Expr} {t ta tb : TE} {tas : TA} {f fa fb : Env → R D} {fas : Env → R (List D)} {o : O} {os : List O} {M M' : List Nat} {pos : Pos}
theorem rep_ty {K : PySem.W.Frag} {F H : Hp} {d : D} {v : V} (e : Same F H) (r : Rep K F d v) : TyX K H v (.type (tyName d)) := by
  cases d with
  | non => rw [show v = .non from r]; exact .base .non
  | bl b => rw [show v = .bl b from r]; exact .base (.bl b)
  | int b => rw [show v = .int b from r]; exact .base (.int b)
  | str b => rw [show v = .str b from r]; exact .base (.str b)
  | tup ds => obtain ⟨a, vs, rfl, h1, _⟩ := r; exact .base (.tup (e _ _ h1))
  | lst ds => obtain ⟨a, vs, rfl, h1, _⟩ := r; exact .base (.lst (e _ _ h1))
  | dic es =>
    obtain ⟨a, vs, rfl, h1, _⟩ := r
    rcases h1 with h1 | ⟨o, h1⟩
    · exact .base (.dK (e _ _ h1))
    · exact .fDict (e _ _ h1)
  | scr ns =>
    obtain ⟨a, rfl, h1⟩ := r
    rcases e.seq h1 with (h | ⟨o, h⟩) | ⟨o, its, n, h, hc, _⟩
    · exact .base (.lst h)
    · exact .base (.frz h)
    · exact .kList h hc
theorem de_isi {T : String} {x : Str} {p p2 : Pos} (hT : KitOk T) (hm : X.mg "isinstance" = none) (hm2 : X.mg x = none) (hv : bootBuiltins x = some (.type T)) (ha : DE X E ω a ta fa .fz []) (hg : Gl X "isinstance" := by rfl) (hg2 : Gl X x := by rfl) (hn : x ≠ "__name__" := by decide) (hd : (x == ("__debug__" : Str)) = false := by decide)
    (hs : starEach [a, .Name x p2] X.env = (false, eval a X.env) :: starEach [.Name x p2] X.env := by rfl) (hs2 : starEach [.Name x p2] X.env = (false, eval (.Name x p2) X.env) :: starEach [] X.env := by rfl) (hpl : (backTo pos (starEach [.Name x p2] X.env)).any (·.1) = false := by rfl) :
    DE X E ω (.Call (.Name "isinstance" p) [a, .Name x p2] [] pos) (tCB (rIsi X.K) (tCons ta (tCons (tC (.ty T)) tNil))) (eUn (isiD T) fa) .fz [] :=
  ⟨pe_callB call_isi hg hm boot_isinstance (pa_cons ha.pe (pa_cons (pe_bltn (v := .ty T) hg2 hm2 hv rfl hn hd) pa_nil hs2) hs) (by decide) (by decide) hs hpl, fun σ ρ F H As Q S p =>
    ha.sem.then S p fun d v F1 H1 B g S1 r _ _ q => ⟨v, .ty T, _, _, _, rfl, .ty T, rep_ty S1.ex r.1, kit_ty (kit_of' hT d), q.fin S1.ex rfl⟩⟩
theorem de_isi2 {T U : String} {x y : Str} {k} {p p2 p3 p4 : Pos} (hT : KitOk T) (hU : KitOk U) (hm : X.mg "isinstance" = none) (hm2 : X.mg x = none) (hm3 : X.mg y = none) (hv : bootBuiltins x = some (.type T)) (hv2 : bootBuiltins y = some (.type U)) (ha : DE X E ω a ta fa .fz [])
    (hg : Gl X "isinstance" := by rfl) (hg2 : Gl X x := by rfl) (hg3 : Gl X y := by rfl) (hn : x ≠ "__name__" := by decide) (hd : (x == ("__debug__" : Str)) = false := by decide) (hn2 : y ≠ "__name__" := by decide) (hd2 : (y == ("__debug__" : Str)) = false := by decide)
    (hs : starEach [a, .Tuple [.Name x p2, .Name y p3] k p4] X.env = (false, eval a X.env) :: starEach [.Tuple [.Name x p2, .Name y p3] k p4] X.env := by rfl) (hs2 : starEach [.Tuple [.Name x p2, .Name y p3] k p4] X.env = (false, eval (.Tuple [.Name x p2, .Name y p3] k p4) X.env) :: starEach [] X.env := by rfl)
    (hpl : (backTo pos (starEach [.Tuple [.Name x p2, .Name y p3] k p4] X.env)).any (·.1) = false := by rfl)
    (hs3 : starEach [.Name x p2, .Name y p3] X.env = (false, eval (.Name x p2) X.env) :: starEach [.Name y p3] X.env := by rfl) (hs4 : starEach [.Name y p3] X.env = (false, eval (.Name y p3) X.env) :: starEach [] X.env := by rfl) :
    DE X E ω (.Call (.Name "isinstance" p) [a, .Tuple [.Name x p2, .Name y p3] k p4] [] pos) (tCB (rIsiT X.K) (tCons ta (tCons (tTup (tCons (tC (.ty T)) (tCons (tC (.ty U)) tNil))) tNil))) (eUn (isi2D T U) fa) .fz [] :=
  ⟨pe_callB call_isiT hg hm boot_isinstance (pa_cons ha.pe (pa_cons (pe_tup (pa_cons (pe_bltn (v := .ty T) hg2 hm2 hv rfl hn hd) (pa_cons (pe_bltn (v := .ty U) hg3 hm3 hv2 rfl hn2 hd2) pa_nil hs4) hs3)) pa_nil hs2) hs) (by decide) (by decide) hs hpl, fun σ ρ F H As Q S p =>
    ha.sem.then S p fun d v F1 H1 B g S1 r _ _ q => ⟨by rw [← most_eq]; show 2 ≤ most; decide, fun l hl => by
      have g2 := Grow.new (u := .tup [.ty T, .ty U]) S1.ex hl
      refine ⟨v, l, _, _, _, isiB T d || isiB U d, rfl, upd_same, .cons (.ty T) (.cons (.ty U) .nil), rep_ty (S1.ex.trans g2.hh) r.1, ?_, (Pst.grow g2 q).fin g2.fh rfl⟩
      refine kitAny_cons (kit_ty (kit_of' hT d)) (fun h => kitAny_cons (kit_ty (kit_of' hU d)) (fun h2 => ?_) fun h2 => ?_) fun h => ?_
      · rw [h, h2]; exact kitAny_nil
      · rw [h, h2]; rfl
      · rw [h]; rfl⟩⟩

/-! ### own defs -/
/-- a def's promise: what it gives of data -/
def spD (K : PySem.W.Frag) (mg : Str → Option Value) (n : Nat) (g : List D → R D) (o : O) : Sp := fun vs H Q E => ∃ ds F, Same F H ∧ Reps K F ds vs ∧ ds.length = n ∧ Pst mg E K o [] [] F H Q (g ds)
structure DFn (P : Program) (w : World) (K : PySem.W.Frag) (mg : Str → Option Value) (base : Heap) (CX : CXT) (k : Nat) (x : Str) (n : Nat) (g : List D → R D) (o : O) : Prop where
  ex : ∃ f fd ps, mg x = some (.ref f) ∧ PySem.W.keepIn K (.ref f) = true ∧ Binds K fd ps [] ∧ FnOk P w K mg base CX k f fd ps (spD K mg n g o)
theorem DFn.mono {P : Program} {w : World} {K : PySem.W.Frag} {mg : Str → Option Value} {base : Heap} {CX : CXT} {j k : Nat} {x : Str} {n : Nat} {g : List D → R D} (C : DFn P w K mg base CX j x n g o) (h : j ≤ k) : DFn P w K mg base CX k x n g o := by
  obtain ⟨f, fd, ps, h1, h2, h3, h4⟩ := C.ex
  exact ⟨⟨f, fd, ps, h1, h2, h3, h4.mono h⟩⟩
theorem sem_own {mg : Str → Option Value} {K : PySem.W.Frag} {n : Nat} {g : List D → R D} (h : SemA mg E K ω tas fas os []) (hf : os.all O.isFz = true) (hn : os.length = n) : Sem mg E K ω (tCall (spD K mg n g o) [] E tas) (eCall g fas) o [] := fun σ ρ F H As Q S p =>
  h.then S p fun ds vs F1 H1 B g1 S1 r1 _ _ q => by
    refine ⟨ds, F1, S1.ex, by rw [List.append_nil]; exact (repT_fz hf r1).1, by rw [(repT_len r1).2, hn], ?_⟩
    cases hg : g ds with
    | ok d =>
      rw [hg] at q
      exact fun v F' H' B g r b n => q v F' H' B g r (fun x hx => (b x hx).imp id fun z => z.nil.elim) n
    | exc c => rw [hg] at q; exact q
    | no => rw [hg] at q; exact q
theorem de_call {CX : CXT} {k n : Nat} {x : Str} {p : Pos} {g : List D → R D} (C : DFn X.prog X.w X.K X.mg X.base CX k x n g o) (hr : Room k X.A) (hx : Passes CX X E) (ha : DA X E ω (e :: es) tas fas os []) (hg : Gl X x := by rfl) (hf : os.all O.isFz = true := by rfl) (hn : os.length = n := by rfl)
    (hdb : (x == ("__debug__" : Str)) = false := by decide) (he : starEach (e :: es) X.env = (false, eval e X.env) :: starEach es X.env := by rfl) (hpl : (backTo pos (starEach es X.env)).any (·.1) = false := by rfl) :
    DE X E ω (.Call (.Name x p) (e :: es) [] pos) (tCall (spD X.K X.mg n g o) [] E tas) (eCall g fas) o [] := by
  obtain ⟨f, fd, ps, h1, h2, h3, h4⟩ := C.ex
  exact ⟨pe_call h4 hr hg h1 h2 h3 .nil hx ha.pa hdb he hpl, sem_own ha.sem hf hn⟩
theorem de_call0 {CX : CXT} {k : Nat} {x : Str} {p : Pos} {g : List D → R D} (C : DFn X.prog X.w X.K X.mg X.base CX k x 0 g o) (hr : Room k X.A) (hx : Passes CX X E) (hg : Gl X x := by rfl) (hdb : (x == ("__debug__" : Str)) = false := by decide) :
    DE X E ω (.Call (.Name x p) [] [] pos) (tCall (spD X.K X.mg 0 g o) [] E tNil) (eCall g aNil) o [] := by
  obtain ⟨f, fd, ps, h1, h2, h3, h4⟩ := C.ex
  exact ⟨pe_call0 h4 hr hg h1 h2 h3 .nil hx hdb, sem_own (os := []) (da_nil (X := X) (E := E) (ω := ω)).sem rfl rfl⟩

/-! ### what is walked -/
/-- the iterator gives what stands for ds, whatever is made meanwhile -/
def ItOk (K : PySem.W.Frag) (J : It) (F : Hp) (ds : List D) : Prop := ∃ vs, Reps K F ds vs ∧ (∀ i H, Same F H → i < vs.length → J.go i H ∧ ∀ x H', J.yld i H x H' → H' = H ∧ vs[i]? = some x) ∧ ∀ i H, Same F H → vs.length ≤ i → J.stop i H
theorem ItOk.mono {K : PySem.W.Frag} {J : It} {F F' : Hp} {ds : List D} (e : Same F F') (h : ItOk K J F ds) : ItOk K J F' ds := by
  obtain ⟨vs, h1, h2, h3⟩ := h
  exact ⟨vs, Reps.mono e ds vs h1, fun i H q => h2 i H (e.trans q), fun i H q => h3 i H (e.trans q)⟩
def PstI (mg : Str → Option Value) (E : XK) (K : PySem.W.Frag) (F H : Hp) (Q : It → Hp → Prop) : R (List D) → Prop
  | .ok ds => ∀ J F' H', Grow F H F' H' → ItOk K J F' ds → Q J H'
  | .exc c => ∀ H', Same H H' → E (clsOf mg c) none H'
  | .no => False
def SemI (mg : Str → Option Value) (E : XK) (K : PySem.W.Frag) (ω : List O) (t : TI) (f : Env → R (List D)) : Prop := ∀ σ ρ F H As Q, Stt K ω ρ σ F H As → PstI mg E K F H Q (f ρ) → t σ H Q
structure DI (X : Cx) (E : XK) (ω : List O) (tg iter : Expr) (t : TI) (f : Env → R (List D)) : Prop where
  pi : PI X tg iter t
  sem : SemI X.mg E X.K ω t f
def signsD (z : Str) : List D := z.cps.toList.map fun c => .str ⟨#[c]⟩
def walkD : D → R (List D)
  | .lst xs => .ok xs
  | .tup xs => .ok xs
  | .scr ns => .ok (ns.map .int)
  | .str z => .ok (signsD z)
  | _ => .no
def iWalk (f : Env → R D) (ρ : Env) : R (List D) := f ρ >>= walkD
def iAny (K : PySem.W.Frag) (tl : TE) : TI := fun σ H R => tl σ H fun x H1 => (∃ a, x = .ref a ∧ (∃ xs, SqL K H1 a xs) ∧ R (Itl K a) H1) ∨ ((∃ a, x = .ref a ∧ (∃ xs, SqT K H1 a xs) ∧ R (Itt K a) H1) ∨ ∃ z, x = .str z ∧ R (Its z) H1)
theorem pi_any {tg l : Expr} {tl : TE} (hl : PE X l tl) : PI X tg l (iAny X.K tl) := by
  refine ⟨fun pins s σ H R I h => ?_⟩
  refine thn (hl.run pins s σ H _ I h) fun v s1 ⟨x, H1, I1, r1, q1⟩ => ?_
  rcases q1 with ⟨a, e, ⟨xs, hq⟩, q⟩ | ⟨a, e, ⟨xs, hq⟩, q⟩ | ⟨z, e, q⟩
  · subst e
    cases r1
    obtain ⟨its, rv, p, hz⟩ := I1.list hq
    refine wpAny_pyIter_list p.isList ?_
    refine ⟨s1.heap.objs.size, [s1.heap.objs.size], _, _, H1, rfl, I1.kept (t' := s1.toks) fun b o e => Heap.get?_push_of_some _ e, turn_list a _, ⟨_, Heap.get?_push_size _ rfl, rfl, rfl⟩, fun b hb => ?_, q⟩
    have e : b = s1.heap.objs.size := by simpa using hb
    subst e
    exact I1.fpOk (Nat.le_refl _) (I1.hok.fresh (Nat.le_refl _))
  · subst e
    cases r1
    obtain ⟨its, rv, p, hz⟩ := I1.tuple hq
    refine wpAny_pyIter_tuple (show s1.heap.IsTuple a its.toArray from p) ?_
    refine ⟨s1.heap.objs.size, [s1.heap.objs.size], _, _, H1, rfl, I1.kept (t' := s1.toks) fun b o e => Heap.get?_push_of_some _ e, turn_tuple a _, ⟨_, Heap.get?_push_size _ rfl, rfl, rfl⟩, fun b hb => ?_, q⟩
    have e : b = s1.heap.objs.size := by simpa using hb
    subst e
    exact I1.fpOk (Nat.le_refl _) (I1.hok.fresh (Nat.le_refl _))
  · subst e
    obtain ⟨t, rfl⟩ := r1
    cases ha : z.cps.all (· < 128)
    · exact wpAny_pyIter_wide ha (pi_one (tk := s1.toks) I1 _ (turn_str _ z t "str_iterator" (.inr rfl)) ⟨_, Heap.get?_push_size _ rfl, rfl, rfl⟩ q)
    · exact wpAny_pyIter_ascii ha (pi_one (tk := s1.toks) I1 _ (turn_str _ z t "str_ascii_iterator" (.inl rfl)) ⟨_, Heap.get?_push_size _ rfl, rfl, rfl⟩ q)
theorem itOk_l {K : PySem.W.Frag} {F : Hp} {a : Addr} {ds : List D} {vs : List V} (h : SqL K F a vs) (r : Reps K F ds vs) : ItOk K (Itl K a) F ds :=
  ⟨vs, r, fun i H e hi => ⟨⟨vs, vs[i], e.seq h, List.getElem?_eq_getElem hi⟩, fun x H' ⟨h1, h2⟩ => ⟨h1, h2 vs (e.seq h)⟩⟩, fun i H e hi => ⟨vs, e.seq h, hi⟩⟩
theorem itOk_t {K : PySem.W.Frag} {F : Hp} {a : Addr} {ds : List D} {vs : List V} (h : F a = some (.tup vs)) (r : Reps K F ds vs) : ItOk K (Itt K a) F ds :=
  ⟨vs, r, fun i H e hi => ⟨⟨vs, vs[i], .of (e _ _ h), List.getElem?_eq_getElem hi⟩, fun x H' ⟨h1, h2⟩ => ⟨h1, h2 vs (.of (e _ _ h))⟩⟩, fun i H e hi => ⟨vs, .of (e _ _ h), hi⟩⟩
theorem reps_signs {K : PySem.W.Frag} {F : Hp} : ∀ l : List Nat, Reps K F (l.map fun c => D.str ⟨#[c]⟩) (l.map fun c => V.str ⟨#[c]⟩)
  | [] => rfl
  | c :: l => ⟨_, _, rfl, rfl, reps_signs l⟩
theorem itOk_s {K : PySem.W.Frag} {F : Hp} (z : Str) : ItOk K (Its z) F (signsD z) := by
  refine ⟨z.cps.toList.map fun c => V.str ⟨#[c]⟩, reps_signs _, fun i H e hi => ?_, fun i H e hi => ?_⟩
  · rw [List.length_map, Array.length_toList] at hi
    refine ⟨hi, fun x H' ⟨h1, c, h2, h3⟩ => ⟨h1, ?_⟩⟩
    rw [List.getElem?_map, Array.getElem?_toList, h2, h3]
    rfl
  · rw [List.length_map, Array.length_toList] at hi
    exact hi
theorem di_any {tg : Expr} (h : DE X E ω e t f .fz []) : DI X E ω tg e (iAny X.K t) (iWalk f) := by
  refine ⟨pi_any h.pe, fun σ ρ F H As Q S p => ?_⟩
  refine h.sem σ ρ F H As _ S ?_
  unfold iWalk at p
  cases hf : f ρ with
  | ok d =>
    rw [hf] at p
    intro v F1 H1 B g r _ _
    cases d with
    | lst xs =>
      obtain ⟨a, vs, rfl, h1, h2⟩ := r.1
      exact .inl ⟨a, rfl, ⟨vs, .of (g.fh _ _ h1)⟩, p _ F1 H1 g (itOk_l (.of h1) h2)⟩
    | tup xs =>
      obtain ⟨a, vs, rfl, h1, h2⟩ := r.1
      exact .inr (.inl ⟨a, rfl, ⟨vs, .of (g.fh _ _ h1)⟩, p _ F1 H1 g (itOk_t h1 h2)⟩)
    | scr ns =>
      obtain ⟨a, rfl, h1⟩ := r.1
      exact .inl ⟨a, rfl, ⟨_, g.fh.seq h1⟩, p _ F1 H1 g (itOk_l h1 (reps_ints ns))⟩
    | str z => exact .inr (.inr ⟨z, r.1, p _ F1 H1 g (itOk_s z)⟩)
    | _ => exact (show False from p).elim
  | exc c => rw [hf] at p; exact p
  | no => rw [hf] at p; exact p
def rangeD (lo : Int) (n : Nat) : List D := (List.range n).map fun i : Nat => .int (lo + (i : Int))
def rng1 : D → R (List D)
  | .int n => if -4611686018427387904 ≤ n ∧ n < 4611686018427387904 then .ok (rangeD 0 n.toNat) else .no
  | _ => .no
def rng2 : D → D → R (List D)
  | .int m, .int n => if -4611686018427387904 ≤ m ∧ m < 4611686018427387904 ∧ -4611686018427387904 ≤ n ∧ n < 4611686018427387904 then .ok (rangeD m (n - m).toNat) else .no
  | _, _ => .no
def iRange1 (f : Env → R D) (ρ : Env) : R (List D) := f ρ >>= rng1
def iRange2 (f g : Env → R D) (ρ : Env) : R (List D) := f ρ >>= fun x => g ρ >>= fun y => rng2 x y
theorem reps_range {K : PySem.W.Frag} {F : Hp} (lo : Int) : ∀ l : List Nat, Reps K F (l.map fun i : Nat => D.int (lo + (i : Int))) (l.map fun i : Nat => V.int (lo + (i : Int)))
  | [] => rfl
  | c :: l => ⟨_, _, rfl, rfl, reps_range lo l⟩
theorem itOk_r {K : PySem.W.Frag} {F : Hp} (lo : Int) (n : Nat) : ItOk K (Itr lo n) F (rangeD lo n) := by
  refine ⟨(List.range n).map fun i : Nat => V.int (lo + (i : Int)), reps_range lo _, fun i H e hi => ?_, fun i H e hi => ?_⟩
  · rw [List.length_map, List.length_range] at hi
    refine ⟨hi, fun x H' ⟨h1, h2⟩ => ⟨h1, ?_⟩⟩
    rw [List.getElem?_map, List.getElem?_range hi, h2]
    rfl
  · rw [List.length_map, List.length_range] at hi
    exact hi
theorem di_range1 {tg : Expr} {p : Pos} (hm : X.mg "range" = none) (h : DE X E ω e t f .fz []) (hg : Gl X "range" := by rfl) (hs : starEach [e] X.env = [(false, eval e X.env)] := by rfl) : DI X E ω tg (.Call (.Name "range" p) [e] [] pos) (iRng1 (tCons t tNil)) (iRange1 f) := by
  refine ⟨pi_range1 hg hm (pa_cons h.pe pa_nil hs) hs, fun σ ρ F H As Q S p => ?_⟩
  refine h.sem σ ρ F H As _ S ?_
  unfold iRange1 at p
  cases hf : f ρ with
  | ok d =>
    rw [hf] at p
    intro v F1 H1 B g r _ _
    cases d with
    | int n =>
      have p' : PstI X.mg E X.K F H Q (if -4611686018427387904 ≤ n ∧ n < 4611686018427387904 then .ok (rangeD 0 n.toNat) else .no) := p
      by_cases hn : -4611686018427387904 ≤ n ∧ n < 4611686018427387904
      · rw [if_pos hn] at p'
        exact ⟨n, by rw [show v = .int n from r.1], by omega, by omega, p' _ F1 H1 g (itOk_r 0 _)⟩
      · rw [if_neg hn] at p'
        exact (show False from p').elim
    | _ => exact (show False from p).elim
  | exc c => rw [hf] at p; exact p
  | no => rw [hf] at p; exact p
theorem di_range2 {tg : Expr} {p : Pos} (hm : X.mg "range" = none) (ha : DE X E ω a ta fa .fz []) (hb : DE X E ω b tb fb .fz []) (hg : Gl X "range" := by rfl) (hs : starEach [a, b] X.env = [(false, eval a X.env), (false, eval b X.env)] := by rfl) (hs2 : starEach [b] X.env = [(false, eval b X.env)] := by rfl) :
    DI X E ω tg (.Call (.Name "range" p) [a, b] [] pos) (iRng2 (tCons ta (tCons tb tNil))) (iRange2 fa fb) := by
  refine ⟨pi_range2 hg hm (pa_cons ha.pe (pa_cons hb.pe pa_nil hs2) (by rw [hs, hs2])) hs hs2, fun σ ρ F H As Q S p => ?_⟩
  refine ha.sem σ ρ F H As _ S ?_
  unfold iRange2 at p
  cases hf : fa ρ with
  | ok d =>
    rw [hf] at p
    intro v F1 H1 B g r _ _
    refine hb.sem σ ρ F1 H1 As _ (S.grow g) ?_
    cases hf2 : fb ρ with
    | ok d2 =>
      rw [ok_bind, hf2] at p
      intro v2 F2 H2 B2 g2 r2 _ _
      cases d with
      | int m =>
        cases d2 with
        | int n =>
          have p' : PstI X.mg E X.K F H Q (if -4611686018427387904 ≤ m ∧ m < 4611686018427387904 ∧ -4611686018427387904 ≤ n ∧ n < 4611686018427387904 then .ok (rangeD m (n - m).toNat) else .no) := p
          by_cases hn : -4611686018427387904 ≤ m ∧ m < 4611686018427387904 ∧ -4611686018427387904 ≤ n ∧ n < 4611686018427387904
          · rw [if_pos hn] at p'
            exact ⟨m, n, by rw [show v = .int m from r.1, show v2 = .int n from r2.1], ⟨by omega, by omega, by omega, by omega⟩, p' _ F2 H2 (g.trans g2) (itOk_r m _)⟩
          · rw [if_neg hn] at p'
            exact (show False from p').elim
        | _ => exact (show False from p).elim
      | _ => exact (show False from p).elim
    | exc c =>
      rw [ok_bind, hf2] at p
      exact fun H' q => p H' (g.hh.trans q)
    | no => rw [ok_bind, hf2] at p; exact p
  | exc c => rw [hf] at p; exact p
  | no => rw [hf] at p; exact p
end
end Dn

/-! List comprehensions over data. -/
namespace Dn
open PySem L2 PyProof.Rows

def wipeE (ρ : Env) : List Nat → Env
  | [] => ρ
  | v :: vs => (wipeE ρ vs).set v none
/-- the turns of a comprehension -/
def lcD (set : D → Env → R Env) (fc : Env → R Bool) (fe : Env → R D) (ρ : Env) : List D → R (List D)
  | [] => .ok []
  | x :: xs => set x ρ >>= fun ρ' => fc ρ' >>= fun b => if b = true then fe ρ' >>= fun d => lcD set fc fe ρ xs >>= fun ds => .ok (d :: ds) else lcD set fc fe ρ xs
def setN (i : Nat) (d : D) (ρ : Env) : R Env := .ok (ρ.set i (some d))
def eLc (fi : Env → R (List D)) (vs : List Nat) (set : D → Env → R Env) (fc : Env → R Bool) (fe : Env → R D) (ρ : Env) : R D :=
  fi ρ >>= fun xs => if xs.length ≤ 1000000 then lcD set fc fe (wipeE ρ vs) xs >>= fun ds => .ok (.lst ds) else .no
def cYes (_ : Env) : R Bool := .ok true
section
variable {K : PySem.W.Frag} {F H : Hp} {ω : List O} {ρ : Env} {σ : L2.St} {As : List (List Addr)}
theorem Sl.setNone (h : Sl K F H ω ρ σ As) (i : Nat) : ∃ As', Sl K F H ω (ρ.set i Option.none) (σ.set i Option.none) As' ∧ As'.flatten.Sublist As.flatten := by
  induction h generalizing i with
  | nil => exact ⟨[], .nil, .refl _⟩
  | @none o ω ρ x σ As h ih =>
    cases i with
    | zero => exact ⟨[] :: As, .none h, .refl _⟩
    | succ i =>
      obtain ⟨As', h1, h2⟩ := ih i
      exact ⟨[] :: As', .none h1, h2⟩
  | @some o ω d ρ v σ B As r h ih =>
    cases i with
    | zero => exact ⟨[] :: As, .none h, by rw [List.flatten_cons, List.flatten_cons]; exact List.sublist_append_right B As.flatten⟩
    | succ i =>
      obtain ⟨As', h1, h2⟩ := ih i
      exact ⟨B :: As', .some r h1, by rw [List.flatten_cons, List.flatten_cons]; exact List.Sublist.append_left h2 B⟩
theorem Stt.wipe (S : Stt K ω ρ σ F H As) (vs : List Nat) : ∃ As', Stt K ω (wipeE ρ vs) (L2.wipe σ vs) F H As' := by
  induction vs with
  | nil => exact ⟨As, S⟩
  | cons v vs ih =>
    obtain ⟨A1, S1⟩ := ih
    obtain ⟨A2, h1, h2⟩ := S1.sl.setNone v
    exact ⟨A2, S1.ex, h1, h2.nodup S1.nd⟩
/-- a name takes what is not one's own -/
theorem Sl.setFz (h : Sl K F H ω ρ σ As) {i : Nat} {d : D} {v : V} (r : Rep K F d v) (hi : ω[i]? = Option.some .fz) : Sl K F H ω (ρ.set i (Option.some d)) (σ.set i (Option.some v)) As := by
  induction h generalizing i with
  | nil => exact .nil
  | @none o ω ρ x σ As h ih =>
    cases i with
    | zero =>
      simp at hi
      subst hi
      exact .some ⟨r, rfl⟩ h
    | succ i => exact .none (ih (by simpa using hi))
  | @some o ω d ρ v σ B As r' h ih =>
    cases i with
    | zero =>
      simp at hi
      subst hi
      obtain ⟨_, rfl⟩ := r'
      exact .some ⟨r, rfl⟩ h
    | succ i => exact .some r' (ih (by simpa using hi))
theorem Stt.setFz (S : Stt K ω ρ σ F H As) {i : Nat} {d : D} {v : V} (r : Rep K F d v) (hi : ω[i]? = some .fz) : Stt K ω (ρ.set i (some d)) (σ.set i (some v)) F H As := ⟨S.ex, S.sl.setFz r hi, S.nd⟩
end
/-- what a target does in a comprehension or a loop: all that it stores is not one's own -/
def SemG (mg : Str → Option Value) (E : XK) (K : PySem.W.Frag) (W : List Nat) (ω : List O) (g : TG) (set : D → Env → R Env) : Prop :=
  ∀ σ ρ F H As d v (Q : L2.St → Hp → Prop), Stt K ω ρ σ F H As → Rep K F d v → (match set d ρ with
    | .ok ρ' => ∀ σ', Stt K ω ρ' σ' F H As → (∀ j, j ∉ W → σ'[j]? = σ[j]?) → Q σ' H
    | .exc _ => False
    | .no => False) → g v σ H Q
structure DG (X : Cx) (E : XK) (W : List Nat) (ω : List O) (tg : Expr) (g : TG) (set : D → Env → R Env) : Prop where
  pg : PG X tg g
  sem : SemG X.mg E X.K W ω g set
  nex : ∀ d ρ c, set d ρ ≠ .exc c
theorem set_off {W : List Nat} {σ : L2.St} {i : Nat} {v : Option V} (hW : W.contains i = true) : ∀ j, j ∉ W → (σ.set i v)[j]? = σ[j]? := fun j hj => by
  rw [List.getElem?_set_ne]
  intro e
  subst e
  exact hj (List.contains_iff_mem.mp hW)
theorem semG_name {mg : Str → Option Value} {E : XK} {K : PySem.W.Frag} {W : List Nat} {ω : List O} {i : Nat} (hi : ω[i]? = some .fz) (hW : W.contains i = true) : SemG mg E K W ω (gName i) (setN i) := fun σ ρ F H As d v Q S r p => p _ (S.setFz r hi) (set_off hW)
section
variable {X : Cx} {E : XK} {ω : List O} {elt tg iter : Expr} {ifs : List Expr} {scope : Scope} {own : List (Str × Nat)} {pos : Pos} {wi : TI} {tt : TT} {te : TE} {fi : Env → R (List D)} {fc : Env → R Bool} {fe : Env → R D} {i : Nat}
structure DTs (X : Cx) (E : XK) (ω : List O) (ifs : List Expr) (t : TT) (f : Env → R Bool) : Prop where
  pts : PTs X ifs t
  sem : SemT X.mg E X.K ω t f
theorem dts_nil : DTs X E ω [] tYes cYes := ⟨pts_nil, fun σ ρ F H As Q S p => p F H (Grow.refl S.ex)⟩
theorem dts_one {c : Expr} (h : DT X E ω c tt fc) : DTs X E ω [c] tt fc := ⟨pts_one h.pt, h.sem⟩

theorem lc_sem {mg : Str → Option Value} {K : PySem.W.Frag} (hi : ω[i]? = some .fz) (hvs : (own.map (·.2)).contains i = true) (hw : ∀ (σ : L2.St) x, L2.wipe ((L2.wipe σ (own.map (·.2))).set i (some x)) (own.map (·.2)) = L2.wipe σ (own.map (·.2)))
    (ti : SemI mg E K ω wi fi) (tc : SemT mg E K ω tt fc) (tel : Sem mg E K ω te fe .fz []) : Sem mg E K ω (tLc wi (gName i) tt te (own.map (·.2))) (eLc fi (own.map (·.2)) (setN i) fc fe) (.own .fz) [] := fun σ ρ F H As Q S p => by
  refine ti σ ρ F H As _ S ?_
  unfold eLc at p
  cases hfi : fi ρ with
  | exc c => rw [hfi] at p; exact p
  | no => rw [hfi] at p; exact p
  | ok xs =>
    rw [hfi] at p
    intro J F1 H1 g1 it Ld hD
    have hz : xs.length ≤ 1000000 := by
      by_cases h : xs.length ≤ 1000000
      · exact h
      · rw [ok_bind, if_neg h] at p
        exact p.elim
    rw [ok_bind, if_pos hz] at p
    obtain ⟨vs, hr, hgo, hst⟩ := it
    have hn := hr.length
    obtain ⟨As', S'⟩ := (S.grow g1).wipe (own.map (·.2))
    have FD : F1 Ld = none := g1.fh.free hD
    -- the invariant: what is made stands at Ld, the rest is to come
    refine ⟨fun n m H' => m = xs.length - n ∧ n ≤ xs.length ∧ ∃ F' acc ws, Same F1 F' ∧ Same F' H' ∧ (∀ x o, x ≠ Ld → H1 x = some o → H' x = some o) ∧ (∀ x, F1 x = none → H1 x ≠ none → F' x = none) ∧ F' Ld = none ∧ H' Ld = some (.lst ws) ∧ Reps K F' acc ws ∧ acc.length ≤ n ∧
      Pst mg E K (.own .fz) As [] F1 H1 Q (lcD (setN i) fc fe (wipeE ρ (own.map (·.2))) (xs.drop n) >>= fun ds => .ok (.lst (acc ++ ds))), ⟨xs.length, rfl, Nat.zero_le _, F1, [], [], Same.refl _, (Grow.newO g1.fh hD).fh, fun x o hx h => by rw [upd_ne hx]; exact h, fun x h _ => h, FD, upd_same, rfl, Nat.le_refl _, ?_⟩, ?_⟩
    · simpa using p.grow g1
    · rintro j m H' ⟨rfl, hj, F', acc, ws, e1, e2, e3, e4, e5, e6, e7, e8, p'⟩
      have exH : Same F1 H' := e1.trans e2
      have growJ : Grow F1 H1 F' H' := ⟨e1, fun x o h => e3 x o (fun q => by subst q; rw [hD] at h; cases h) h, e2, e4⟩
      by_cases hlt : j < xs.length
      · refine .inr ⟨(hgo j H' exH (by rw [hn]; exact hlt)).1, _, fun H'' q => q, fun x H'' y => ?_⟩
        obtain ⟨rfl, hx⟩ := (hgo j H' exH (by rw [hn]; exact hlt)).2 x H'' y
        obtain ⟨d, hd, rd⟩ := hr.get' hx
        have hdrop : xs.drop j = d :: xs.drop (j + 1) := by
          rw [List.drop_eq_getElem_cons hlt]
          congr 1
          rw [List.getElem?_eq_getElem hlt] at hd
          exact Option.some.inj hd
        rw [hdrop] at p'
        -- the frame as it stands in this turn: the list at Ld is nobody's
        have S1 : Stt K ω (wipeE ρ (own.map (·.2))) (L2.wipe σ (own.map (·.2))) F' H'' As' := S'.grow growJ
        have S2 := S1.setFz (i := i) (Rep.mono e1 d x rd) hi
        refine ⟨hw σ x, ?_⟩
        -- p' : set, test, element, rest
        have p2 : Pst mg E K (.own .fz) As [] F1 H1 Q (fc ((wipeE ρ (own.map (·.2))).set i (some d)) >>= fun b => (if b = true then fe ((wipeE ρ (own.map (·.2))).set i (some d)) >>= fun d' => lcD (setN i) fc fe (wipeE ρ (own.map (·.2))) (xs.drop (j + 1)) >>= fun ds => .ok (d' :: ds) else lcD (setN i) fc fe (wipeE ρ (own.map (·.2))) (xs.drop (j + 1))) >>= fun ds => .ok (.lst (acc ++ ds))) := by
          have e : (lcD (setN i) fc fe (wipeE ρ (own.map (·.2))) (d :: xs.drop (j + 1)) >>= fun ds => R.ok (Dn.D.lst (acc ++ ds))) = _ := rfl
          cases hc : fc ((wipeE ρ (own.map (·.2))).set i (some d)) with
          | ok b =>
            have e' : lcD (setN i) fc fe (wipeE ρ (own.map (·.2))) (d :: xs.drop (j + 1)) = (if b = true then fe ((wipeE ρ (own.map (·.2))).set i (some d)) >>= fun d' => lcD (setN i) fc fe (wipeE ρ (own.map (·.2))) (xs.drop (j + 1)) >>= fun ds => .ok (d' :: ds) else lcD (setN i) fc fe (wipeE ρ (own.map (·.2))) (xs.drop (j + 1))) := by
              show (setN i d (wipeE ρ (own.map (·.2))) >>= fun ρ' => fc ρ' >>= fun b => _) = _
              unfold setN
              rw [ok_bind, hc, ok_bind]
            rw [e'] at p'
            exact p'
          | exc c =>
            have e' : lcD (setN i) fc fe (wipeE ρ (own.map (·.2))) (d :: xs.drop (j + 1)) = .exc c := by
              show (setN i d (wipeE ρ (own.map (·.2))) >>= fun ρ' => fc ρ' >>= fun b => _) = _
              unfold setN
              rw [ok_bind, hc, exc_bind]
            rw [e'] at p'
            exact p'
          | no =>
            have e' : lcD (setN i) fc fe (wipeE ρ (own.map (·.2))) (d :: xs.drop (j + 1)) = .no := by
              show (setN i d (wipeE ρ (own.map (·.2))) >>= fun ρ' => fc ρ' >>= fun b => _) = _
              unfold setN
              rw [ok_bind, hc, no_bind]
            rw [e'] at p'
            exact p'
        refine tc _ _ F' H'' As' _ S2 ?_
        cases hc : fc ((wipeE ρ (own.map (·.2))).set i (some d)) with
        | exc c =>
          rw [hc] at p2
          exact fun H3 q => p2 H3 (growJ.hh.trans q)
        | no => rw [hc] at p2; exact p2.elim
        | ok b =>
          rw [hc, ok_bind] at p2
          intro F3 H3 g3
          cases b with
          | false =>
            rw [if_neg Bool.false_ne_true] at p2 ⊢
            exact ⟨_, Nat.sub_lt_sub_left hlt (Nat.lt_succ_self j), rfl, hlt, F3, acc, ws, e1.trans g3.ff, g3.fh, fun x o h1 h2 => g3.hh _ _ (e3 x o h1 h2), fun x h1 h2 => g3.sep x (e4 x h1 h2) (there growJ.hh h2), g3.sep Ld e5 (by rw [e6]; simp), g3.hh _ _ e6, Reps.mono g3.ff _ _ e7, Nat.le_succ_of_le e8, p2⟩
          | true =>
            rw [if_pos rfl] at p2 ⊢
            refine tel _ _ F3 H3 As' _ (S2.grow g3) ?_
            cases hfe : fe ((wipeE ρ (own.map (·.2))).set i (some d)) with
            | exc c =>
              rw [hfe] at p2
              exact fun H4 q => p2 H4 ((growJ.hh.trans g3.hh).trans q)
            | no => rw [hfe] at p2; exact p2.elim
            | ok d' =>
              rw [hfe, ok_bind] at p2
              intro y' F4 H4 B4 g4 r4 _ _
              have e64 : H4 Ld = some (.lst ws) := g4.hh _ _ (g3.hh _ _ e6)
              have F4D : F4 Ld = none := g4.sep Ld (g3.sep Ld e5 (by rw [e6]; simp)) (by rw [g3.hh _ _ e6]; simp)
              have len : ws.length ≤ j := by rw [e7.length]; exact e8
              refine ⟨ws, e64, by rw [← most_eq]; exact Nat.lt_of_le_of_lt len (Nat.lt_of_lt_of_le hlt (Nat.le_trans hz (by decide))), _, Nat.sub_lt_sub_left hlt (Nat.lt_succ_self j), rfl, hlt, F4, acc ++ [d'], ws ++ [y'], (e1.trans g3.ff).trans g4.ff, fun x o h => ?_, fun x o h1 h2 => ?_, fun x h1 h2 => ?_, F4D, upd_same, (Reps.mono (g3.ff.trans g4.ff) _ _ e7).snoc r4.1, ?_, ?_⟩
              · have : x ≠ Ld := fun q => by subst q; rw [F4D] at h; cases h
                rw [upd_ne this]
                exact g4.fh _ _ h
              · rw [upd_ne h1]
                exact g4.hh _ _ (g3.hh _ _ (e3 x o h1 h2))
              · exact g4.sep x (g3.sep x (e4 x h1 h2) (there growJ.hh h2)) (there (growJ.hh.trans g3.hh) h2)
              · rw [List.length_append]
                exact Nat.succ_le_succ e8
              · have e : (lcD (setN i) fc fe (wipeE ρ (own.map (·.2))) (xs.drop (j + 1)) >>= fun ds => R.ok (Dn.D.lst (acc ++ [d'] ++ ds))) = ((lcD (setN i) fc fe (wipeE ρ (own.map (·.2))) (xs.drop (j + 1)) >>= fun ds => R.ok (d' :: ds)) >>= fun ds => R.ok (Dn.D.lst (acc ++ ds))) := by
                  cases lcD (setN i) fc fe (wipeE ρ (own.map (·.2))) (xs.drop (j + 1)) with
                  | ok ds => simp
                  | exc c => rfl
                  | no => rfl
                rw [e]
                exact p2
      · have ej : j = xs.length := by omega
        subst ej
        refine .inl ⟨hst _ H' exH (by rw [hn]; exact Nat.le_refl _), ?_⟩
        rw [List.drop_length] at p'
        have p2 : Pst mg E K (.own .fz) As [] F1 H1 Q (.ok (.lst acc)) := by
          have e : (lcD (setN i) fc fe (wipeE ρ (own.map (·.2))) [] >>= fun ds => R.ok (Dn.D.lst (acc ++ ds))) = R.ok (.lst acc) := by
            show R.ok (Dn.D.lst (acc ++ [])) = _
            rw [List.append_nil]
          rw [e] at p'
          exact p'
        exact p2 (.ref Ld) F' H' [Ld] growJ (.inl ⟨acc, Ld, ws, [], rfl, rfl, e5, e6, rfl, allO_of e7⟩) (fun x hx => .inl (by rw [List.mem_singleton.mp hx]; exact hD)) (by simp)
/-- [elt for x in iter if ..] -/
theorem de_lc (hc : X.calm = true) (hN : X.N.Nodup) (hi : ω[i]? = some .fz) (hvs : (own.map (·.2)).contains i = true) (hw : ∀ (σ : L2.St) x, L2.wipe ((L2.wipe σ (own.map (·.2))).set i (some x)) (own.map (·.2)) = L2.wipe σ (own.map (·.2))) (ti : DI X E ω tg iter wi fi) (ok : BlkOk X.N X.env.scope scope own)
    (hg : ∀ (s : Shared) (H : Hp) (C : Addr) (cl : List (Str × Addr)) (fp : List Addr), PG (X.blk s H scope (compEnvC scope cl C X.env) fp) tg (gName i)) (ht : ∀ (s : Shared) (H : Hp) (C : Addr) (cl : List (Str × Addr)) (fp : List Addr), DTs (X.blk s H scope (compEnvC scope cl C X.env) fp) E ω ifs tt fc)
    (he : ∀ (s : Shared) (H : Hp) (C : Addr) (cl : List (Str × Addr)) (fp : List Addr), DE (X.blk s H scope (compEnvC scope cl C X.env) fp) E ω elt te fe .fz []) (hs : ∀ x, foldedSetIterable iter X.env x = pure x := by intro _; rfl) :
    DE X E ω (.ListComp elt [⟨tg, iter, ifs, 0⟩] scope pos) (tLc wi (gName i) tt te (own.map (·.2))) (eLc fi (own.map (·.2)) (setN i) fc fe) (.own .fz) [] := by
  refine ⟨pe_lc hc hN ti.pi ok hg (fun s H C cl fp => (ht s H C cl fp).pts) (fun s H C cl fp => (he s H C cl fp).pe) hs, ?_⟩
  exact lc_sem hi hvs hw ti.sem (ht {} (fun _ => none) 0 [] []).sem (he {} (fun _ => none) 0 [] []).sem
end
end Dn

/-! Statements over data. -/
namespace Dn
open PySem L2 PyProof.Rows

inductive Fl where
  | nx (ρ : Env) | rt (d : D) (ρ : Env)
/-- the names that a def stores; those of its arguments that it changes -/
structure Cfg where
  W : List Nat
  io : List Nat
def O.isOwn : O → Bool
  | .own .fz => true
  | _ => false
def ioOk (io : List Nat) (ω : List O) : Bool := io.all fun i => match ω[i]? with
  | some o => o.isOwn
  | none => false
/-- grown, where what was owned may have changed -/
structure GrowA (A : List Addr) (F H F' H' : Hp) (A' : List Addr) : Prop where
  ff : Same F F'
  fh : Same F' H'
  keep : ∀ x o, H x = some o → x ∉ A → H' x = some o
  th : ∀ x, H x ≠ none → H' x ≠ none
  sep : ∀ x, F x = none → H x ≠ none → x ∉ A → F' x = none
  new : ∀ x ∈ A', x ∈ A ∨ H x = none
section
variable {mg : Str → Option Value} {E : XK} {K : PySem.W.Frag} {F F' H H' F1 H1 F2 H2 : Hp} {ω ω' : List O} {ρ : Env} {σ : L2.St} {As : List (List Addr)} {A A1 A2 : List Addr} {o o' : O} {M M' : List Nat}
theorem GrowA.of (g : Grow F H F1 H1) (h : ∀ x ∈ A1, x ∈ A ∨ H x = none) : GrowA A F H F1 H1 A1 := ⟨g.ff, g.fh, fun x o q _ => g.hh x o q, fun x q => there g.hh q, fun x q1 q2 _ => g.sep x q1 q2, h⟩
theorem GrowA.refl (e : Same F H) : GrowA A F H F H A := .of (Grow.refl e) fun _ h => .inl h
theorem GrowA.trans (a : GrowA A F H F1 H1 A1) (b : GrowA A1 F1 H1 F2 H2 A2) : GrowA A F H F2 H2 A2 := by
  have nA : ∀ x, H x ≠ none → x ∉ A → x ∉ A1 := fun x h1 h2 h3 => by
    rcases a.new x h3 with q | q
    · exact h2 q
    · exact h1 q
  refine ⟨a.ff.trans b.ff, b.fh, fun x o q h => b.keep x o (a.keep x o q h) (nA x (by rw [q]; simp) h), fun x q => b.th x (a.th x q), fun x h1 h2 h3 => b.sep x (a.sep x h1 h2 h3) (a.th x h2) (nA x h2 h3), fun x h => ?_⟩
  rcases b.new x h with q | q
  · exact a.new x q
  · cases hx : H x with
    | none => exact .inr rfl
    | some o => exact absurd q (a.th x (by rw [hx]; simp))
theorem GrowA.sub {A' : List Addr} (a : GrowA A F H F1 H1 A1) (h : ∀ x ∈ A', x ∈ A1) : GrowA A F H F1 H1 A' := ⟨a.ff, a.fh, a.keep, a.th, a.sep, fun x q => a.new x (h x q)⟩
/-- with nothing owned at the start nothing has changed -/
theorem GrowA.grow (a : GrowA [] F H F1 H1 A1) : Grow F H F1 H1 := ⟨a.ff, fun x o q => a.keep x o q (by simp), a.fh, fun x h1 h2 => a.sep x h1 h2 (by simp)⟩

/-- .. the names' values, but for those stored, as they were -/
structure GS (W : List Nat) (σ : L2.St) (A : List Addr) (F H : Hp) (σ' : L2.St) (F' H' : Hp) (A' : List Addr) : Prop where
  g : GrowA A F H F' H' A'
  ag : ∀ i, i ∉ W → σ'[i]? = σ[i]?
theorem GS.same {W : List Nat} {A' : List Addr} (g : GrowA A F H F' H' A') : GS W σ A F H σ F' H' A' := ⟨g, fun _ _ => rfl⟩
theorem GS.trans {W : List Nat} {σ1 σ2 : L2.St} (a : GS W σ A F H σ1 F1 H1 A1) (b : GS W σ1 A1 F1 H1 σ2 F2 H2 A2) : GS W σ A F H σ2 F2 H2 A2 := ⟨a.g.trans b.g, fun i hi => (b.ag i hi).trans (a.ag i hi)⟩
def PstS (mg : Str → Option Value) (E : XK) (K : PySem.W.Frag) (c : Cfg) (ω' : List O) (or : O) (σ : L2.St) (A : List Addr) (F H : Hp) (Dd : Ends) : R Fl → Prop
  | .ok (.nx ρ') => ∀ σ' F' H' As', Stt K ω' ρ' σ' F' H' As' → GS c.W σ A F H σ' F' H' As'.flatten → Dd.nx σ' H'
  | .ok (.rt d ρ') => ∀ v σ' F' H' B As' ω'', RepO K F' H' or d v B → B.Nodup → (∀ x ∈ B, x ∉ As'.flatten) → Stt K ω'' ρ' σ' F' H' As' → ioOk c.io ω'' = true → GS c.W σ A F H σ' F' H' (B ++ As'.flatten) → Dd.rt v H'
  | .exc e => ∀ H', (∀ x o, H x = some o → x ∉ A → H' x = some o) → E (clsOf mg e) none H'
  | .no => False
def SemS (mg : Str → Option Value) (E : XK) (K : PySem.W.Frag) (c : Cfg) (ω : List O) (t : TS) (f : Env → R Fl) (ω' : List O) (or : O) : Prop := ∀ σ ρ F H As Dd, Stt K ω ρ σ F H As → PstS mg E K c ω' or σ As.flatten F H Dd (f ρ) → t Dd σ H
theorem PstS.grow {c : Cfg} {Dd : Ends} {r : R Fl} {σ1 : L2.St} (g : GS c.W σ A F H σ1 F1 H1 A1) (p : PstS mg E K c ω o σ A F H Dd r) : PstS mg E K c ω o σ1 A1 F1 H1 Dd r := by
  cases r with
  | ok fl =>
    cases fl with
    | nx ρ' => exact fun σ' F' H' As' S q => p σ' F' H' As' S (g.trans q)
    | rt d ρ' => exact fun v σ' F' H' B As' w r n ap S i q => p v σ' F' H' B As' w r n ap S i (g.trans q)
  | exc e =>
    refine fun H' q => p H' fun x o h1 h2 => q x o (g.g.keep x o h1 h2) fun h3 => ?_
    rcases g.g.new x h3 with z | z
    · exact h2 z
    · rw [h1] at z; cases z
  | no => exact p
theorem PstS.growG {c : Cfg} {Dd : Ends} {r : R Fl} (g : Grow F H F1 H1) (p : PstS mg E K c ω o σ A F H Dd r) : PstS mg E K c ω o σ A F1 H1 Dd r := p.grow (.same (.of g fun x h => .inl h))
end
structure DS (X : Cx) (E : XK) (c : Cfg) (ω : List O) (st : Stmt) (t : TS) (f : Env → R Fl) (ω' : List O) (or : O) : Prop where
  ps : PS X st t
  sem : SemS X.mg E X.K c ω t f ω' or
structure DSs (X : Cx) (E : XK) (c : Cfg) (ω : List O) (st : List Stmt) (t : TS) (f : Env → R Fl) (ω' : List O) (or : O) : Prop where
  pss : PSs X st t
  sem : SemS X.mg E X.K c ω t f ω' or

/-! ### one after another -/
def sNext (ρ : Env) : R Fl := .ok (.nx ρ)
def sSeq (f g : Env → R Fl) (ρ : Env) : R Fl := f ρ >>= fun fl => match fl with
  | .nx ρ' => g ρ'
  | .rt d ρ' => .ok (.rt d ρ')
section
variable {X : Cx} {E : XK} {c : Cfg} {ω ω1 ω' : List O} {st : Stmt} {sts : List Stmt} {e a b : Expr} {es : List Expr} {t u : TS} {te ta tb : TE} {f g : Env → R Fl} {fe fa fb : Env → R D} {o or : O} {M : List Nat} {pos : Pos}
theorem sem_seq {mg : Str → Option Value} {K : PySem.W.Frag} (h : SemS mg E K c ω t f ω1 or) (h' : SemS mg E K c ω1 u g ω' or) : SemS mg E K c ω (tSeq t u) (sSeq f g) ω' or := fun σ ρ F H As Dd S p => by
  refine h σ ρ F H As _ S ?_
  unfold sSeq at p
  cases hf : f ρ with
  | ok fl =>
    rw [hf] at p
    cases fl with
    | nx ρ' => exact fun σ' F' H' As' S' q => h' σ' ρ' F' H' As' Dd S' (PstS.grow q p)
    | rt d ρ' => exact p
  | exc c => rw [hf] at p; exact p
  | no => rw [hf] at p; exact p
theorem dss_cons (h : DS X E c ω st t f ω1 or) (h' : DSs X E c ω1 sts u g ω' or) : DSs X E c ω (st :: sts) (tSeq t u) (sSeq f g) ω' or := ⟨pss_cons h.ps h'.pss, sem_seq h.sem h'.sem⟩
theorem dss_one (h : DS X E c ω st t f ω' or) : DSs X E c ω [st] t f ω' or := ⟨pss_one h.ps, h.sem⟩
theorem sem_next {mg : Str → Option Value} {K : PySem.W.Frag} : SemS mg E K c ω tNext sNext ω or := fun σ ρ F H As Dd S p => p σ F H As S (.same (GrowA.refl S.ex))
theorem dss_nil : DSs X E c ω [] tNext sNext ω or := ⟨pss_nil, sem_next⟩
theorem ds_pass : DS X E c ω (.Pass pos) tNext sNext ω or := ⟨ps_pass, sem_next⟩
theorem ds_doc {x j pos'} : DS X E c ω (.Expr (.Constant (.str x) j pos) pos') tNext sNext ω or := ⟨ps_doc, sem_next⟩

/-! ### what is owned counted as frozen from here on -/
/-- fewer things owned -/
inductive Froze : List O → List O → Prop where
  | nil : Froze [] []
  | same {o' : O} {r r' : List O} : Froze r r' → Froze (o' :: r) (o' :: r')
  | fz {o' : O} {r r' : List O} : Froze r r' → Froze (o' :: r) (.fz :: r')
theorem Sl.froze {K : PySem.W.Frag} {F H : Hp} {ω ω' : List O} {ρ : Env} {σ : L2.St} {As : List (List Addr)} (z : Froze ω ω') (S : Sl K F H ω ρ σ As) (e : Same F H) (nd : As.flatten.Nodup) :
    ∃ C As', (∀ x ∈ C, x ∈ As.flatten) ∧ (∀ x ∈ As'.flatten, x ∈ As.flatten ∧ x ∉ C) ∧ As'.flatten.Nodup ∧ Sl K (thawed F H C) H ω' ρ σ As' := by
  induction z generalizing ρ σ As with
  | nil =>
    cases S
    exact ⟨[], [], by simp, by simp, List.nodup_nil, .nil⟩
  | @same o ω ω' z ih =>
    cases S with
    | none S =>
      obtain ⟨C, As', h1, h2, h3, h4⟩ := ih S nd
      exact ⟨C, [] :: As', h1, h2, h3, .none h4⟩
    | @some _ _ d ρ v σ B As r S =>
      rw [List.flatten_cons] at nd
      obtain ⟨n1, n2, n3⟩ := List.nodup_append.mp nd
      obtain ⟨C, As', h1, h2, h3, h4⟩ := ih S n2
      have nB : ∀ x ∈ B, x ∉ C := fun x hx hc => n3 x hx x (h1 x hc) rfl
      have hC : ∀ x ∈ C, F x = Option.none := fun x hx => (S.mem (h1 x hx)).1
      refine ⟨C, B :: As', fun x hx => ?_, fun x hx => ?_, ?_, .some (RepO.keep o d v B (thawed_same hC) (fun x hx => ⟨?_, rfl⟩) r) h4⟩
      · rw [List.flatten_cons]; exact List.mem_append_right _ (h1 x hx)
      · rw [List.flatten_cons] at hx ⊢
        rcases List.mem_append.mp hx with hx | hx
        · exact ⟨List.mem_append_left _ hx, nB x hx⟩
        · exact ⟨List.mem_append_right _ (h2 x hx).1, (h2 x hx).2⟩
      · rw [List.flatten_cons]
        exact List.nodup_append.mpr ⟨n1, h3, fun x hx y hy => n3 x hx y (h2 y hy).1⟩
      · rw [thawed_out (nB x hx)]
        exact (RepO.mem _ _ _ _ r hx).1
  | @fz o ω ω' z ih =>
    cases S with
    | none S =>
      obtain ⟨C, As', h1, h2, h3, h4⟩ := ih S nd
      exact ⟨C, [] :: As', h1, h2, h3, .none h4⟩
    | @some _ _ d ρ v σ B As r S =>
      rw [List.flatten_cons] at nd
      obtain ⟨n1, n2, n3⟩ := List.nodup_append.mp nd
      obtain ⟨C, As', h1, h2, h3, h4⟩ := ih S n2
      have hC : ∀ x ∈ C, F x = Option.none := fun x hx => (S.mem (h1 x hx)).1
      have hBC : ∀ x ∈ B ++ C, F x = Option.none := fun x hx => by
        rcases List.mem_append.mp hx with hx | hx
        · exact (RepO.mem _ _ _ _ r hx).1
        · exact hC x hx
      refine ⟨B ++ C, [] :: As', fun x hx => ?_, fun x hx => ?_, by simpa using h3, .some ⟨RepO.thaw o d v B (thawed_same hBC) (fun x hx => thawed_in (List.mem_append_left _ hx)) r, rfl⟩ (h4.keep (fun x o q => ?_) fun x hx => ⟨?_, rfl⟩)⟩
      · rw [List.flatten_cons]
        rcases List.mem_append.mp hx with hx | hx
        · exact List.mem_append_left _ hx
        · exact List.mem_append_right _ (h1 x hx)
      · have hx' : x ∈ As'.flatten := by simpa using hx
        rw [List.flatten_cons]
        refine ⟨List.mem_append_right _ (h2 x hx').1, fun hc => ?_⟩
        rcases List.mem_append.mp hc with hc | hc
        · exact n3 x hc x (h2 x hx').1 rfl
        · exact (h2 x hx').2 hc
      · by_cases hc : x ∈ C
        · rw [thawed_in hc] at q
          rw [thawed_in (List.mem_append_right _ hc)]
          exact q
        · rw [thawed_out hc] at q
          by_cases hb : x ∈ B
          · rw [(RepO.mem _ _ _ _ r hb).1] at q
            cases q
          · rw [thawed_out (fun h => (List.mem_append.mp h).elim hb hc)]
            exact q
      · have q := h4.mem hx
        have nc := (h2 x hx).2
        have nb : x ∉ B := fun hb => n3 x hb x (h2 x hx).1 rfl
        rw [thawed_out (fun h => (List.mem_append.mp h).elim nb nc)]
        rw [thawed_out nc] at q
        exact q.1
theorem Stt.froze {K : PySem.W.Frag} {F H : Hp} {ω ω' : List O} {ρ : Env} {σ : L2.St} {As : List (List Addr)} (z : Froze ω ω') (S : Stt K ω ρ σ F H As) : ∃ F' As', Stt K ω' ρ σ F' H As' ∧ GrowA As.flatten F H F' H As'.flatten := by
  obtain ⟨C, As', h1, h2, h3, h4⟩ := S.sl.froze z S.ex S.nd
  have hC : ∀ x ∈ C, F x = none := fun x hx => (S.sl.mem (h1 x hx)).1
  refine ⟨thawed F H C, As', ⟨thawed_heap S.ex, h4, h3⟩, thawed_same hC, thawed_heap S.ex, fun x o q _ => q, fun x q => q, fun x q1 q2 q3 => ?_, fun x hx => .inl (h2 x hx).1⟩
  rw [thawed_out (fun hc => q3 (h1 x hc))]
  exact q1
theorem sem_froze {mg : Str → Option Value} {K : PySem.W.Frag} (z : Froze ω ω1) (h : SemS mg E K c ω1 t f ω' or) : SemS mg E K c ω t f ω' or := fun σ ρ F H As Dd S p => by
  obtain ⟨F', As', S', g⟩ := S.froze z
  exact h σ ρ F' H As' Dd S' (PstS.grow (.same g) p)
theorem dss_froze (z : Froze ω ω1) (h : DSs X E c ω1 sts t f ω' or) : DSs X E c ω sts t f ω' or := ⟨h.pss, sem_froze z h.sem⟩
theorem ds_froze (z : Froze ω ω1) (h : DS X E c ω1 st t f ω' or) : DS X E c ω st t f ω' or := ⟨h.ps, sem_froze z h.sem⟩

/-! ### name = value -/
def hideE (ρ : Env) : List Nat → Env
  | [] => ρ
  | v :: vs => (hideE ρ vs).set v none
def sAsg (i : Nat) (M : List Nat) (f : Env → R D) (ρ : Env) : R Fl := f ρ >>= fun d => .ok (.nx ((hideE ρ M).set i (some d)))
theorem Sl.hide {K : PySem.W.Frag} {F H : Hp} {ω : List O} {ρ : Env} {σ : L2.St} {As : List (List Addr)} (h : Sl K F H ω ρ σ As) (i : Nat) : Sl K F H ω (ρ.set i Option.none) σ (As.set i []) := by
  induction h generalizing i with
  | nil => exact .nil
  | none h ih =>
    cases i with
    | zero => exact .none h
    | succ i => exact .none (ih i)
  | some r h ih =>
    cases i with
    | zero => exact .none h
    | succ i => exact .some r (ih i)
def emptied (As : List (List Addr)) : List Nat → List (List Addr)
  | [] => As
  | v :: vs => (emptied As vs).set v []
theorem Sl.hides {K : PySem.W.Frag} {F H : Hp} {ω : List O} {ρ : Env} {σ : L2.St} {As : List (List Addr)} (h : Sl K F H ω ρ σ As) : ∀ M, Sl K F H ω (hideE ρ M) σ (emptied As M)
  | [] => h
  | i :: M => (Sl.hides h M).hide i
theorem flat_set {As : List (List Addr)} {i : Nat} {C : List Addr} {x : Addr} (h : x ∈ (As.set i C).flatten) : x ∈ C ∨ ∃ j B, j ≠ i ∧ As[j]? = some B ∧ x ∈ B := by
  induction As generalizing i with
  | nil => simp at h
  | cons a r ih =>
    cases i with
    | zero =>
      rw [List.set_cons_zero, List.flatten_cons] at h
      rcases List.mem_append.mp h with h | h
      · exact .inl h
      · obtain ⟨B, hB, hx⟩ := List.mem_flatten.mp h
        obtain ⟨j, hj⟩ := List.getElem?_of_mem hB
        exact .inr ⟨j + 1, B, by simp, by simpa using hj, hx⟩
    | succ i =>
      rw [List.set_cons_succ, List.flatten_cons] at h
      rcases List.mem_append.mp h with h | h
      · exact .inr ⟨0, a, by simp, rfl, h⟩
      · rcases ih h with q | ⟨j, B, h1, h2, h3⟩
        · exact .inl q
        · exact .inr ⟨j + 1, B, by simpa using h1, by simpa using h2, h3⟩
theorem flat_set_nd {As : List (List Addr)} {i : Nat} {C : List Addr} (nd : As.flatten.Nodup) (nC : C.Nodup) (ap : ∀ x ∈ C, ∀ j B, j ≠ i → As[j]? = some B → x ∉ B) : (As.set i C).flatten.Nodup := by
  induction As generalizing i with
  | nil => simpa using nd
  | cons a r ih =>
    rw [List.flatten_cons] at nd
    obtain ⟨n1, n2, n3⟩ := List.nodup_append.mp nd
    cases i with
    | zero =>
      rw [List.set_cons_zero, List.flatten_cons]
      refine List.nodup_append.mpr ⟨nC, n2, fun x hx y hy e => ?_⟩
      subst e
      obtain ⟨B, hB, hx'⟩ := List.mem_flatten.mp hy
      obtain ⟨j, hj⟩ := List.getElem?_of_mem hB
      exact ap x hx (j + 1) B (by simp) (by simpa using hj) hx'
    | succ i =>
      rw [List.set_cons_succ, List.flatten_cons]
      refine List.nodup_append.mpr ⟨n1, ih n2 fun x hx j B h1 h2 => ap x hx (j + 1) B (by simpa using h1) (by simpa using h2), fun x hx y hy e => ?_⟩
      subst e
      rcases flat_set hy with q | ⟨j, B, h1, h2, h3⟩
      · exact ap x q 0 a (by simp) rfl hx
      · exact n3 x hx x (List.mem_flatten.mpr ⟨B, List.mem_of_getElem? h2, h3⟩) rfl
theorem emptied_get {As : List (List Addr)} : ∀ {M : List Nat} {j : Nat} {B : List Addr} {x : Addr}, (emptied As M)[j]? = some B → x ∈ B → j ∉ M ∧ As[j]? = some B
  | [], j, B, x, h, hx => ⟨by simp, h⟩
  | i :: M, j, B, x, h, hx => by
    have h' : ((emptied As M).set i [])[j]? = some B := h
    by_cases e : i = j
    · subst e
      rw [List.getElem?_set] at h'
      rw [if_pos rfl] at h'
      split at h'
      · cases h'
        simp at hx
      · cases h'
    · rw [List.getElem?_set_ne e] at h'
      obtain ⟨h1, h2⟩ := emptied_get h' hx
      exact ⟨by simp [Ne.symm e, h1], h2⟩
theorem emptied_nd {As : List (List Addr)} (nd : As.flatten.Nodup) : ∀ M, (emptied As M).flatten.Nodup
  | [] => nd
  | i :: M => flat_set_nd (emptied_nd nd M) List.nodup_nil (by simp)
theorem Sl.put {K : PySem.W.Frag} {F H : Hp} {ω : List O} {ρ : Env} {σ : L2.St} {As : List (List Addr)} (h : Sl K F H ω ρ σ As) {i : Nat} {o : O} {d : D} {v : V} {B : List Addr} (r : RepO K F H o d v B) : Sl K F H (ω.set i o) (ρ.set i (Option.some d)) (σ.set i (Option.some v)) (As.set i B) := by
  induction h generalizing i with
  | nil => exact .nil
  | none h ih =>
    cases i with
    | zero => exact .some r h
    | succ i => exact .none ih
  | some r' h ih =>
    cases i with
    | zero => exact .some r h
    | succ i => exact .some r' ih
/-- a name takes a value, what the value was made of is given away -/
theorem Stt.take {K : PySem.W.Frag} {F H F1 H1 : Hp} {ω : List O} {ρ : Env} {σ : L2.St} {As : List (List Addr)} (S : Stt K ω ρ σ F H As) (g : Grow F H F1 H1) {i : Nat} {o : O} {d : D} {v : V} {B : List Addr} {M : List Nat} (r : RepO K F1 H1 o d v B) (hB : ∀ x ∈ B, H x = none ∨ OfM As M x) (nB : B.Nodup) :
    ∃ As', Stt K (ω.set i o) ((hideE ρ M).set i (some d)) (σ.set i (some v)) F1 H1 As' ∧ GrowA As.flatten F H F1 H1 As'.flatten := by
  have S1 := S.grow g
  refine ⟨(emptied As M).set i B, ⟨g.fh, (S1.sl.hides M).put r, flat_set_nd (emptied_nd S.nd M) nB fun x hx j C h1 h2 h3 => ?_⟩, .of g fun x hx => ?_⟩
  · obtain ⟨h4, h5⟩ := emptied_get h2 h3
    have hf : x ∈ As.flatten := List.mem_flatten.mpr ⟨C, List.mem_of_getElem? h5, h3⟩
    rcases hB x hx with q | ⟨k, hk, C', hC, xC⟩
    · exact (S.sl.mem hf).2 q
    · have := flat_apart S.nd hC h5 xC h3
      subst this
      exact h4 hk
  · rcases flat_set hx with q | ⟨j, C, h1, h2, h3⟩
    · exact (hB x q).elim (fun z => .inr z) fun z => .inl z.flat
    · exact .inl (List.mem_flatten.mpr ⟨C, List.mem_of_getElem? (emptied_get h2 h3).2, h3⟩)
theorem sem_asg {mg : Str → Option Value} {K : PySem.W.Frag} {i : Nat} (hW : c.W.contains i = true) (h : Sem mg E K ω te fe o M) : SemS mg E K c ω (tAsg te (gName i)) (sAsg i M fe) (ω.set i o) or := fun σ ρ F H As Dd S p => by
  refine h σ ρ F H As _ S ?_
  unfold sAsg at p
  cases hf : fe ρ with
  | ok d =>
    rw [hf] at p
    intro v F1 H1 B g r b n
    obtain ⟨As', S', g'⟩ := S.take g (i := i) r b n
    exact p _ F1 H1 As' S' ⟨g', set_off hW⟩
  | exc c => rw [hf] at p; exact fun H' q => p H' fun x o h1 _ => q x o h1
  | no => rw [hf] at p; exact p
theorem ds_set {i : Nat} {x : Str} {pos' : Pos} (hN : X.N.Nodup) (he : DE X E ω e te fe o M) (hx : Loc X.env.scope x := by first | exact Or.inl rfl | exact Or.inr rfl) (hi : X.N[i]? = some x := by rfl) (hs : swapsWith e (some (.Name x pos')) pos.line X.env = pure false := by rfl)
    (hf : X.fn x = true ∨ X.env.scope.names.lookup x = some .local := by first | exact .inl rfl | exact .inr rfl | assumption) (hW : c.W.contains i = true := by rfl) : DS X E c ω (.Assign [.Name x pos'] e pos) (tAsg te (gName i)) (sAsg i M fe) (ω.set i o) or :=
  ⟨ps_set hN hi hx he.pe hs hf, sem_asg hW he.sem⟩
/-- y = [elt for x in iter if ..] -/
theorem ds_setLc {i j : Nat} {y : Str} {py : Pos} {elt tg iter : Expr} {ifs : List Expr} {scope : Scope} {own : List (Str × Nat)} {spos : Pos} {wi : TI} {tt : TT} {te : TE} {fi : Env → R (List D)} {fc : Env → R Bool} {fe : Env → R D} (hc : X.calm = true) (hN : X.N.Nodup) (hi : ω[i]? = some .fz)
    (hvs : (own.map (·.2)).contains i = true) (hw : ∀ (σ : L2.St) x, L2.wipe ((L2.wipe σ (own.map (·.2))).set i (some x)) (own.map (·.2)) = L2.wipe σ (own.map (·.2))) (ti : DI X E ω tg iter wi fi) (ok : BlkOk X.N X.env.scope scope own)
    (hg : ∀ (s : Shared) (H : Hp) (C : Addr) (cl : List (Str × Addr)) (fp : List Addr), PG (X.blk s H scope (compEnvC scope cl C X.env) fp) tg (gName i)) (ht : ∀ (s : Shared) (H : Hp) (C : Addr) (cl : List (Str × Addr)) (fp : List Addr), DTs (X.blk s H scope (compEnvC scope cl C X.env) fp) E ω ifs tt fc)
    (he : ∀ (s : Shared) (H : Hp) (C : Addr) (cl : List (Str × Addr)) (fp : List Addr), DE (X.blk s H scope (compEnvC scope cl C X.env) fp) E ω elt te fe .fz []) (hy : X.N[j]? = some y := by rfl) (hyl : X.env.scope.names.lookup y = some .local := by rfl)
    (hsw : swapsWith (.ListComp elt [⟨tg, iter, ifs, 0⟩] scope pos) (some (.Name y py)) spos.line X.env = pure true := by exact sw_true rfl rfl rfl (by decide +kernel)) (hs : ∀ x, foldedSetIterable iter X.env x = pure x := by intro _; rfl) (hW : c.W.contains j = true := by rfl) :
    DS X E c ω (.Assign [.Name y py] (.ListComp elt [⟨tg, iter, ifs, 0⟩] scope pos) spos) (tAsg (tLc wi (gName i) tt te (own.map (·.2))) (gName j)) (sAsg j [] (eLc fi (own.map (·.2)) (setN i) fc fe)) (ω.set j (.own .fz)) or :=
  ⟨ps_setLc hc hN hy hyl hsw ti.pi ok hg (fun s H C cl fp => (ht s H C cl fp).pts) (fun s H C cl fp => (he s H C cl fp).pe) hs, sem_asg hW (lc_sem hi hvs hw ti.sem (ht {} (fun _ => none) 0 [] []).sem (he {} (fun _ => none) 0 [] []).sem)⟩
/-- .. all of it frozen at once -/
theorem ds_setLcF {i j : Nat} {y : Str} {py : Pos} {elt tg iter : Expr} {ifs : List Expr} {scope : Scope} {own : List (Str × Nat)} {spos : Pos} {wi : TI} {tt : TT} {te : TE} {fi : Env → R (List D)} {fc : Env → R Bool} {fe : Env → R D} (hc : X.calm = true) (hN : X.N.Nodup) (hi : ω[i]? = some .fz)
    (hvs : (own.map (·.2)).contains i = true) (hw : ∀ (σ : L2.St) x, L2.wipe ((L2.wipe σ (own.map (·.2))).set i (some x)) (own.map (·.2)) = L2.wipe σ (own.map (·.2))) (ti : DI X E ω tg iter wi fi) (ok : BlkOk X.N X.env.scope scope own)
    (hg : ∀ (s : Shared) (H : Hp) (C : Addr) (cl : List (Str × Addr)) (fp : List Addr), PG (X.blk s H scope (compEnvC scope cl C X.env) fp) tg (gName i)) (ht : ∀ (s : Shared) (H : Hp) (C : Addr) (cl : List (Str × Addr)) (fp : List Addr), DTs (X.blk s H scope (compEnvC scope cl C X.env) fp) E ω ifs tt fc)
    (he : ∀ (s : Shared) (H : Hp) (C : Addr) (cl : List (Str × Addr)) (fp : List Addr), DE (X.blk s H scope (compEnvC scope cl C X.env) fp) E ω elt te fe .fz []) (hy : X.N[j]? = some y := by rfl) (hyl : X.env.scope.names.lookup y = some .local := by rfl)
    (hsw : swapsWith (.ListComp elt [⟨tg, iter, ifs, 0⟩] scope pos) (some (.Name y py)) spos.line X.env = pure true := by exact sw_true rfl rfl rfl (by decide +kernel)) (hs : ∀ x, foldedSetIterable iter X.env x = pure x := by intro _; rfl) (hW : c.W.contains j = true := by rfl) :
    DS X E c ω (.Assign [.Name y py] (.ListComp elt [⟨tg, iter, ifs, 0⟩] scope pos) spos) (tAsg (tLc wi (gName i) tt te (own.map (·.2))) (gName j)) (sAsg j [] (eLc fi (own.map (·.2)) (setN i) fc fe)) (ω.set j .fz) or :=
  ⟨ps_setLc hc hN hy hyl hsw ti.pi ok hg (fun s H C cl fp => (ht s H C cl fp).pts) (fun s H C cl fp => (he s H C cl fp).pe) hs, sem_asg hW (sem_frz (lc_sem hi hvs hw ti.sem (ht {} (fun _ => none) 0 [] []).sem (he {} (fun _ => none) 0 [] []).sem))⟩

/-! ### return, if -/
def sRet (M : List Nat) (f : Env → R D) (ρ : Env) : R Fl := f ρ >>= fun d => .ok (.rt d (hideE ρ M))
theorem emptied_sub {As : List (List Addr)} {M : List Nat} {x : Addr} (hx : x ∈ (emptied As M).flatten) : x ∈ As.flatten := by
  obtain ⟨C, hC, hx'⟩ := List.mem_flatten.mp hx
  obtain ⟨j, hj⟩ := List.getElem?_of_mem hC
  exact List.mem_flatten.mpr ⟨C, List.mem_of_getElem? (emptied_get hj hx').2, hx'⟩
theorem emptied_apart {K : PySem.W.Frag} {F H : Hp} {ω : List O} {ρ : Env} {σ : L2.St} {As : List (List Addr)} {M : List Nat} {B : List Addr} (S : Stt K ω ρ σ F H As) (b : ∀ x ∈ B, H x = none ∨ OfM As M x) : ∀ x ∈ B, x ∉ (emptied As M).flatten := fun x hx hf => by
  obtain ⟨C, hC, hx'⟩ := List.mem_flatten.mp hf
  obtain ⟨j, hj⟩ := List.getElem?_of_mem hC
  obtain ⟨h4, h5⟩ := emptied_get hj hx'
  rcases b x hx with q | ⟨m, hm, C', hC', xC⟩
  · exact (S.sl.mem (emptied_sub hf)).2 q
  · have := flat_apart S.nd hC' h5 xC hx'
    subst this
    exact h4 hm
theorem ds_ret (he : DE X E ω e te fe or M) (hio : ioOk c.io ω = true := by rfl) : DS X E c ω (.Return (some e) pos) (tRet te) (sRet M fe) ω' or :=
  ⟨ps_ret he.pe, fun σ ρ F H As Dd S p => by
    refine he.sem σ ρ F H As _ S ?_
    unfold sRet at p
    cases hf : fe ρ with
    | ok d =>
      rw [hf] at p
      intro v F1 H1 B g r b n
      have S1 := S.grow g
      exact p v σ F1 H1 B (emptied As M) ω r n (emptied_apart S b) ⟨g.fh, S1.sl.hides M, emptied_nd S.nd M⟩ hio (.same (.of g fun x hx => by
        rcases List.mem_append.mp hx with hx | hx
        · exact (b x hx).elim (fun z => .inr z) fun z => .inl z.flat
        · exact .inl (emptied_sub hx)))
    | exc c => rw [hf] at p; exact fun H' q => p H' fun x o h1 _ => q x o h1
    | no => rw [hf] at p; exact p⟩
def sIf (c : Env → R Bool) (f g : Env → R Fl) (ρ : Env) : R Fl := c ρ >>= fun b => if b = true then f ρ else g ρ
theorem ds_if {ce : Expr} {sa sb : List Stmt} {tc : TT} {fc : Env → R Bool} (hc : DT X E ω ce tc fc) (ha : DSs X E c ω sa t f ω' or) (hb : DSs X E c ω sb u g ω' or) : DS X E c ω (.If ce sa sb pos) (tIfS tc t u) (sIf fc f g) ω' or :=
  ⟨ps_if hc.pt ha.pss hb.pss, fun σ ρ F H As Dd S p => by
    refine hc.sem σ ρ F H As _ S ?_
    unfold sIf at p
    cases hf : fc ρ with
    | ok b =>
      rw [hf, ok_bind] at p
      intro F1 H1 g1
      have p1 := PstS.growG g1 p
      cases b with
      | true => exact ha.sem σ ρ F1 H1 As Dd (S.grow g1) p1
      | false => exact hb.sem σ ρ F1 H1 As Dd (S.grow g1) p1
    | exc c => rw [hf] at p; exact fun H' q => p H' fun x o h1 _ => q x o h1
    | no => rw [hf] at p; exact p⟩
end
end Dn

/-! Stores, loops, defs over data. -/
namespace Dn
open PySem L2 PyProof.Rows

section
variable {mg : Str → Option Value} {E : XK} {K : PySem.W.Frag} {F F' H H' F1 H1 F2 H2 : Hp} {ω ω' : List O} {ρ : Env} {σ : L2.St} {As : List (List Addr)} {A A1 A2 : List Addr} {o o' : O} {M M' : List Nat}
theorem list_set_self {α : Type} : ∀ {l : List α} {i : Nat} {x : α}, l[i]? = some x → l.set i x = l
  | [], i, x, h => by simp at h
  | a :: l, 0, x, h => by simp at h; subst h; rfl
  | a :: l, i + 1, x, h => by
    rw [List.set_cons_succ, list_set_self (by simpa using h)]
/-- what a name owns is changed -/
theorem Stt.change (S : Stt K ω ρ σ F H As) {i : Nat} {d' : D} {v : V} {a : Addr} {B B2 : List Addr} {u : HO} (hi : ω[i]? = some o) (hσ : σ[i]? = some (some v)) (hA : As[i]? = some B) (ha : a ∈ B)
    (r : RepO K F (upd H a u) o d' v B2) (hB : ∀ x ∈ B2, x ∈ B) (nB : B2.Nodup) : Stt K ω (ρ.set i (some d')) σ F (upd H a u) (As.set i B2) ∧ GrowA As.flatten F H F (upd H a u) (As.set i B2).flatten := by
  have Fa : F a = none ∧ H a ≠ none := S.sl.mem (List.mem_flatten.mpr ⟨B, List.mem_of_getElem? hA, ha⟩)
  have ap : ∀ x ∈ (As.set i []).flatten, x ≠ a := fun x hx e => by
    subst e
    rcases flat_set hx with q | ⟨j, C, h1, h2, h3⟩
    · simp at q
    · exact h1 (flat_apart S.nd h2 hA h3 ha)
  have S1 := (S.sl.hide i).keep (F' := F) (H' := upd H a u) (Same.refl F) fun x hx => ⟨((S.sl.hide i).mem hx).1, upd_ne (ap x hx)⟩
  have S2 := S1.put (i := i) r
  rw [list_set_self hi, list_set_self hσ, List.set_set, List.set_set] at S2
  refine ⟨⟨fun x q hx => ?_, S2, flat_set_nd S.nd nB fun x hx j C h1 h2 h3 => h1 (flat_apart S.nd h2 hA h3 (hB x hx))⟩, Same.refl F, fun x q hx => ?_, fun x q hx hn => ?_, fun x hx => ?_, fun x h1 _ _ => h1, fun x hx => ?_⟩
  · rw [upd_ne (ne_of_none hx Fa.1)]; exact S.ex _ _ hx
  · rw [upd_ne (ne_of_none hx Fa.1)]; exact S.ex _ _ hx
  · rw [upd_ne (fun e => hn (by rw [e]; exact List.mem_flatten.mpr ⟨B, List.mem_of_getElem? hA, ha⟩))]; exact hx
  · by_cases e : x = a
    · subst e; rw [upd_same]; simp
    · rw [upd_ne e]; exact hx
  · rcases flat_set hx with q | ⟨j, C, h1, h2, h3⟩
    · exact .inl (List.mem_flatten.mpr ⟨B, List.mem_of_getElem? hA, hB x q⟩)
    · exact .inl (List.mem_flatten.mpr ⟨C, List.mem_of_getElem? h2, h3⟩)
end

/-! ### x.append(e), x.reverse(), x.clear() -/
def putE (ρ : Env) (i : Nat) (r : R D) : R Fl := r >>= fun d => .ok (.nx (ρ.set i (some d)))
def appD (y : D) : D → R D
  | .lst xs => if xs.length < most then .ok (.lst (xs ++ [y])) else .no
  | _ => .no
def sApp (i : Nat) (fe : Env → R D) (ρ : Env) : R Fl := match ρ[i]? with
  | some (some (.lst ds)) => fe ρ >>= fun y => putE ρ i (appD y (.lst ds))
  | _ => .no
def revD : D → R D
  | .lst xs => .ok (.lst xs.reverse)
  | _ => .no
def clrD : D → R D
  | .lst _ => .ok (.lst [])
  | _ => .no
def sRev (i : Nat) (ρ : Env) : R Fl := match ρ[i]? with
  | some (some d) => putE ρ i (revD d)
  | _ => .no
section
variable {X : Cx} {E : XK} {c : Cfg} {ω ω1 ω' : List O} {st : Stmt} {sts : List Stmt} {e a b : Expr} {es : List Expr} {t u : TS} {te ta tb : TE} {f g : Env → R Fl} {fe fa fb : Env → R D} {o or : O} {M : List Nat} {pos cpos apos npos : Pos} {x : Str}
theorem list_at {K : PySem.W.Frag} {F H : Hp} {v : V} {B : List Addr} {ds : List D} (r : RepO K F H (.own .fz) (.lst ds) v B) : ∃ a vs, v = .ref a ∧ F a = none ∧ H a = some (.lst vs) ∧ B = [a] ∧ Reps K F ds vs := by
  rcases r with ⟨ds', a, vs, B', h1, h2, h3, h4, h5, h6⟩ | ⟨es, a, kvs, h1, _⟩ | ⟨h1, _⟩
  · cases h1
    obtain ⟨h7, rfl⟩ := allO_fz h6
    exact ⟨a, vs, h2, h3, h4, h5, h7⟩
  · cases h1
  · exact absurd h1 (by simp [isBox])
theorem dict_at {K : PySem.W.Frag} {F H : Hp} {v : V} {B : List Addr} {es : List (L2.Key × D)} (r : RepO K F H (.own .fz) (.dic es) v B) : ∃ a kvs, v = .ref a ∧ F a = none ∧ H a = some (.dK kvs) ∧ B = [a] ∧ RepK K F es kvs := by
  rcases r with ⟨ds', a, vs, B', h1, _⟩ | ⟨es, a, kvs, h1, h2, h3, h4, h5, h6⟩ | ⟨h1, _⟩
  · cases h1
  · cases h1
    exact ⟨a, kvs, h2, h3, h4, h6, h5⟩
  · exact absurd h1 (by simp [isBox])
theorem own_lst {K : PySem.W.Frag} {F H : Hp} {a : Addr} {ds : List D} {vs : List V} (h : F a = none) (h1 : H a = some (.lst vs)) (r : Reps K F ds vs) : RepO K F H (.own .fz) (.lst ds) (.ref a) [a] := .inl ⟨ds, a, vs, [], rfl, rfl, h, h1, rfl, allO_of r⟩
theorem own_dic {K : PySem.W.Frag} {F H : Hp} {a : Addr} {ds : List (L2.Key × D)} {vs : List (L2.Key × V)} (h : F a = none) (h1 : H a = some (.dK vs)) (r : RepK K F ds vs) : RepO K F H (.own .fz) (.dic ds) (.ref a) [a] := .inr (.inl ⟨ds, a, vs, rfl, rfl, h, h1, r, rfl⟩)
theorem ds_app {i : Nat} (he : DE X E ω e te fe .fz []) (hi : ω[i]? = some (.own .fz) := by rfl) (hN : X.N[i]? = some x := by rfl) (hv : Vis X.env.scope x := by first | exact Or.inl rfl | exact Or.inr (Or.inl rfl) | exact Or.inr (Or.inr rfl)) (hd : (x == ("__debug__" : Str)) = false := by decide)
    (hcd : (x == ("__classdict__" : Str)) = false := by decide) (hbase : attributeBase (.Name x npos) "append" X.env (eval (.Name x npos) X.env) = eval (.Name x npos) X.env := by rfl)
    (hfew : ((backTo cpos (starEach [e] X.env)).all (fun x => !x.1) && (backToKw cpos (keywordEach [] X.env)).all (fun x => x.1.isSome) && decide ([e].length + ([] : List Keyword).length + (if ([] : List Keyword).isEmpty then 0 else 1) < 30)) = true := by rfl) (hline : (apos.endLine == cpos.line) = true := by rfl)
    (hst : starEach (e :: []) X.env = (false, eval e X.env) :: starEach [] X.env := by rfl) (hpl : (backTo cpos (starEach [] X.env)).any (·.1) = false := by rfl) (hs : swapsWith (.Call (.Attribute (.Name x npos) "append" apos) [e] [] cpos) none pos.line X.env = pure false := by rfl) :
    DS X E c ω (.Expr (.Call (.Attribute (.Name x npos) "append" apos) [e] [] cpos) pos) (tDrop (tBM X.K "list" rAppend (tVar i) (tCons te tNil))) (sApp i fe) ω or :=
  ⟨ps_expr (pe_bm PySem.F.plainAttrs_list PySem.F.slot_list_append PySem.F.type_list_append mt_append (pe_var hN hv hd hcd) (pa_cons he.pe pa_nil hst) hbase hfew hline hst hpl) hs, fun σ ρ F H As Dd S p => by
    unfold sApp at p
    split at p
    · rename_i ds hρ
      obtain ⟨v, B, hσ, hA, r⟩ := S.sl.get hi hρ
      obtain ⟨a, vs, rfl, Fa, Ha, rfl, rs⟩ := list_at r
      refine ⟨.ref a, hσ, .inl ⟨rfl, vs, .of Ha⟩, ?_⟩
      refine he.sem σ ρ F H As _ S ?_
      cases hf : fe ρ with
      | ok y =>
        rw [hf, ok_bind] at p
        intro w F1 H1 B1 g1 r1 b1 n1
        have S1 := S.grow g1
        have Ha1 := g1.hh _ _ Ha
        have Fa1 := g1.sep a Fa (by rw [Ha]; simp)
        by_cases hl : ds.length < most
        · have e : appD y (.lst ds) = .ok (.lst (ds ++ [y])) := if_pos hl
          rw [e] at p
          refine ⟨a, vs, w, rfl, rfl, Ha1, by rw [rs.length, ← most_eq]; exact hl, ?_⟩
          obtain ⟨S2, g2⟩ := S1.change hi hσ hA (a := a) (by simp) (own_lst Fa1 upd_same ((Reps.mono g1.ff ds vs rs).snoc r1.1)) (fun x h => h) (by simp)
          exact p σ F1 _ _ S2 (.same ((GrowA.of g1 fun x h => .inl h).trans g2))
        · have e : appD y (.lst ds) = .no := if_neg hl
          rw [e] at p
          exact p.elim
      | exc c => rw [hf] at p; exact fun H' q => p H' fun x o h1 _ => q x o h1
      | no => rw [hf] at p; exact p
    · exact p.elim⟩
/-- x.reverse() -/
theorem ds_rev {i : Nat} (hi : ω[i]? = some (.own .fz) := by rfl) (hN : X.N[i]? = some x := by rfl) (hv : Vis X.env.scope x := by first | exact Or.inl rfl | exact Or.inr (Or.inl rfl) | exact Or.inr (Or.inr rfl)) (hd : (x == ("__debug__" : Str)) = false := by decide)
    (hcd : (x == ("__classdict__" : Str)) = false := by decide) (hbase : attributeBase (.Name x npos) "reverse" X.env (eval (.Name x npos) X.env) = eval (.Name x npos) X.env := by rfl)
    (hline : (apos.endLine == cpos.line) = true := by rfl) (hs : swapsWith (.Call (.Attribute (.Name x npos) "reverse" apos) [] [] cpos) none pos.line X.env = pure false := by rfl) :
    DS X E c ω (.Expr (.Call (.Attribute (.Name x npos) "reverse" apos) [] [] cpos) pos) (tDrop (tBM0 X.K "list" rReverse (tVar i))) (sRev i) ω or :=
  ⟨ps_expr (pe_bm0 PySem.F.plainAttrs_list PySem.F.slot_list_reverse PySem.F.type_list_reverse mt_reverse (pe_var hN hv hd hcd) hbase hline) hs, fun σ ρ F H As Dd S p => by
    unfold sRev at p
    split at p
    · rename_i d hρ
      obtain ⟨v, B, hσ, hA, r⟩ := S.sl.get hi hρ
      cases d with
      | lst ds =>
        obtain ⟨a, vs, rfl, Fa, Ha, rfl, rs⟩ := list_at r
        refine ⟨.ref a, hσ, .inl ⟨rfl, vs, .of Ha⟩, a, vs, rfl, rfl, Ha, ?_⟩
        obtain ⟨S2, g2⟩ := S.change hi hσ hA (a := a) (by simp) (own_lst Fa upd_same rs.reverse) (fun x h => h) (by simp)
        exact p σ F _ _ S2 (.same g2)
      | _ => exact (show False from p).elim
    · exact p.elim⟩
/-- x.clear() of a dict -/
def rClearD : V → List V → Hp → VK → Prop := fun x vs H Q => ∃ l kvs, x = .ref l ∧ vs = [] ∧ H l = some (.dK kvs) ∧ Q .non (upd H l (.dK []))
def storeD (d k y : D) : R D := match d with
  | .dic es => match keyD k with
    | some k => if es.length < most then .ok (.dic (putD es k y)) else .no
    | none => .no
  | .lst xs => match k with
    | .int k => match ixN xs.length k with
      | some j => .ok (.lst (xs.set j y))
      | none => .no
    | _ => .no
  | _ => .no
def sPut (i : Nat) (fk fe : Env → R D) (ρ : Env) : R Fl := fe ρ >>= fun y => match ρ[i]? with
  | some (some d) => fk ρ >>= fun k => putE ρ i (storeD d k y)
  | _ => .no
def rSetDk : V → V → V → Hp → (Hp → Prop) → Prop := fun o i v H Q => ∃ a H', o = .ref a ∧ DPut H a i v H' ∧ Q H'
theorem set_dk (hu : X.A.units + 1 < cLine) : PSet X rSetDk := by
  intro pins s σ H o i v ov iv u Q I ro ri rv h
  obtain ⟨a, H', rfl, g, q⟩ := h
  cases ro
  exact d_setItem hu I g ri rv fun s' I' => ⟨H', I', q⟩
def rSetA : V → V → V → Hp → (Hp → Prop) → Prop := fun o i v H Q => rSetL o i v H Q ∨ rSetDk o i v H Q
theorem set_any {k : Nat} (hr : Room k X.A) : PSet X rSetA := by
  intro pins s σ H o i v ov iv u Q I ro ri rv h
  rcases h with h | h
  · exact set_list pins s σ H o i v ov iv u Q I ro ri rv h
  · exact set_dk (hu_of hr) pins s σ H o i v ov iv u Q I ro ri rv h
/-- x[b] = e -/
theorem ds_put {i k : Nat} {spos : Pos} (hr : Room k X.A) (hk : DE X E ω b tb fb .fz []) (he : DE X E ω e te fe .fz []) (hi : ω[i]? = some (.own .fz) := by rfl) (hN : X.N[i]? = some x := by rfl) (hv : Vis X.env.scope x := by first | exact Or.inl rfl | exact Or.inr (Or.inl rfl) | exact Or.inr (Or.inr rfl)) (hd : (x == ("__debug__" : Str)) = false := by decide)
    (hcd : (x == ("__classdict__" : Str)) = false := by decide) (ha : ∀ v, assign (.Subscript (.Name x npos) b spos) X.env v = (do
      let ov ← holding [v] (eval (.Name x npos) X.env)
      let iv ← holding [v, ov] (eval b X.env)
      standAt spos
      holding [v, ov, iv] (setItem ov iv v)
      release [v, ov, iv] []) := by intro _; rfl) (hs : swapsWithSole [.Subscript (.Name x npos) b spos] e pos.line X.env = pure false := by rfl) (hw : swappedStores [.Subscript (.Name x npos) b spos] e X.env = pure none := by rfl)
    (h1 : (assignEach [.Subscript (.Name x npos) b spos] X.env).map (·.2) = [assign (.Subscript (.Name x npos) b spos) X.env] := by rfl) :
    DS X E c ω (.Assign [.Subscript (.Name x npos) b spos] e pos) (tAsg te (gSub (tVar i) tb rSetA)) (sPut i fb fe) ω or :=
  ⟨ps_asg he.pe (pg_sub (pe_var hN hv hd hcd) hk.pe (set_any hr) ha) hs hw h1, fun σ ρ F H As Dd S p => by
    refine he.sem σ ρ F H As _ S ?_
    unfold sPut at p
    cases hf : fe ρ with
    | ok y =>
      rw [hf, ok_bind] at p
      intro w F1 H1 B1 g1 r1 b1 n1
      have S1 := S.grow g1
      split at p
      · rename_i d hρ
        obtain ⟨v, B, hσ, hA, r⟩ := S1.sl.get hi hρ
        refine ⟨v, hσ, ?_⟩
        refine hk.sem σ ρ F1 H1 As _ S1 ?_
        cases hfk : fb ρ with
        | ok k =>
          rw [hfk, ok_bind] at p
          intro wk F2 H2 B2 g2 r2 b2 n2
          have S2 := S1.grow g2
          have r' := r.grow g2
          have rw' := Rep.mono g2.ff y w r1.1
          have gA : GrowA As.flatten F H F2 H2 As.flatten := GrowA.of (g1.trans g2) fun x h => .inl h
          cases d with
          | dic es =>
            obtain ⟨a, kvs, rfl, Fa, Ha, rfl, rs⟩ := dict_at r'
            have p' : PstS X.mg E X.K c ω or σ As.flatten F H Dd (putE ρ i (match keyD k with
              | some k => if es.length < most then .ok (.dic (putD es k y)) else .no
              | none => .no)) := p
            split at p'
            · rename_i k' hk'
              split at p'
              · rename_i hl
                refine .inr ⟨a, upd H2 a (.dK (putK kvs k' w)), rfl, ?_, ?_⟩
                · rw [key_rep hk' r2.1]
                  exact DPut.k Ha (by rw [repK_len rs, ← most_eq]; exact hl)
                · obtain ⟨S3, g3⟩ := S2.change hi hσ hA (a := a) (by simp) (own_dic Fa upd_same (repK_put (k := k') rw' rs)) (fun x h => h) (by simp)
                  exact p' σ F2 _ _ S3 (.same (gA.trans g3))
              · exact p'.elim
            · exact p'.elim
          | lst ds =>
            obtain ⟨a, vs, rfl, Fa, Ha, rfl, rs⟩ := list_at r'
            cases k with
            | int k =>
              have p' : PstS X.mg E X.K c ω or σ As.flatten F H Dd (putE ρ i (match ixN ds.length k with
                | some j => .ok (.lst (ds.set j y))
                | none => .no)) := p
              split at p'
              · rename_i j hj
                refine .inl ⟨a, vs, k, j, rfl, r2.1, Ha, by rw [rs.length]; exact hj, ?_⟩
                obtain ⟨S3, g3⟩ := S2.change hi hσ hA (a := a) (by simp) (own_lst Fa upd_same (rs.set j rw')) (fun x h => h) (by simp)
                exact p' σ F2 _ _ S3 (.same (gA.trans g3))
              · exact p'.elim
            | _ => exact (show False from p).elim
          | _ => exact (show False from p).elim
        | exc c => rw [hfk] at p; exact fun H' q => p H' fun x o h1 _ => q x o (g1.hh x o h1)
        | no => rw [hfk] at p; exact p
      · exact p.elim
    | exc c => rw [hf] at p; exact fun H' q => p H' fun x o h1 _ => q x o h1
    | no => rw [hf] at p; exact p⟩
end

/-! ### targets -/
def setsN : List Nat → List D → Env → R Env
  | [], [], ρ => .ok ρ
  | i :: is, d :: ds, ρ => setsN is ds (ρ.set i (some d))
  | _, _, _ => .no
/-- a, b, .. = a tuple -/
def setT (is : List Nat) (d : D) (ρ : Env) : R Env := match d with
  | .tup ds => setsN is ds ρ
  | _ => .no
section
variable {X : Cx} {E : XK} {c : Cfg} {ω ω1 ω' : List O} {st : Stmt} {sts : List Stmt} {e a b : Expr} {es : List Expr} {t u : TS} {te ta tb : TE} {f g : Env → R Fl} {fe fa fb : Env → R D} {o or : O} {M : List Nat} {pos cpos apos npos : Pos} {x : Str}
theorem dg_name {i : Nat} (hN : X.N.Nodup) (hi : X.N[i]? = some x := by rfl) (hx : Loc X.env.scope x := by first | exact Or.inl rfl | exact Or.inr rfl) (ho : ω[i]? = some .fz := by rfl) (hf : X.fn x = true ∨ X.env.scope.names.lookup x = some .local := by first | exact .inl rfl | exact .inr rfl | assumption) (hW : c.W.contains i = true := by rfl) :
    DG X E c.W ω (.Name x pos) (gName i) (setN i) := ⟨pg_name hN hi hx hf, semG_name ho hW, fun _ _ _ h => by cases h⟩
/-- several targets -/
structure DGs (X : Cx) (E : XK) (W : List Nat) (ω : List O) (es : List Expr) (g : TGs) (is : List Nat) : Prop where
  pgs : PGs X es g
  sem : ∀ σ ρ F H As ds vs (Q : L2.St → Hp → Prop), Stt X.K ω ρ σ F H As → Reps X.K F ds vs → (match setsN is ds ρ with
    | .ok ρ' => ∀ σ', Stt X.K ω ρ' σ' F H As → (∀ j, j ∉ W → σ'[j]? = σ[j]?) → Q σ' H
    | .exc _ => False
    | .no => False) → g vs σ H Q
theorem dgs_nil : DGs X E c.W ω [] gNil [] := ⟨pgs_nil, fun σ ρ F H As ds vs Q S r p => by
  cases ds with
  | nil => exact ⟨r, p σ S fun _ _ => rfl⟩
  | cons d ds => exact (show False from p).elim⟩
theorem dgs_cons {i : Nat} {es : List Expr} {g : TGs} {is : List Nat} (hN : X.N.Nodup) (h' : DGs X E c.W ω es g is) (hi : X.N[i]? = some x := by rfl) (hx : Loc X.env.scope x := by first | exact Or.inl rfl | exact Or.inr rfl) (ho : ω[i]? = some .fz := by rfl)
    (hf : X.fn x = true ∨ X.env.scope.names.lookup x = some .local := by first | exact .inl rfl | exact .inr rfl | assumption) (hs : (assignEach (.Name x pos :: es) X.env).map (·.2) = assign (.Name x pos) X.env :: (assignEach es X.env).map (·.2) := by rfl) (hW : c.W.contains i = true := by rfl) :
    DGs X E c.W ω (.Name x pos :: es) (gCons (gName i) g) (i :: is) := ⟨pgs_cons (pg_name hN hi hx hf) h'.pgs hs, fun σ ρ F H As ds vs Q S r p => by
  cases ds with
  | nil => exact (show False from p).elim
  | cons d ds =>
    obtain ⟨v, vr, rfl, h2, h3⟩ := r
    refine ⟨v, vr, rfl, h'.sem _ _ F H As ds vr Q (S.setFz h2 ho) h3 ?_⟩
    have p' : (match setsN is ds (ρ.set i (some d)) with
      | .ok ρ' => ∀ σ', Stt X.K ω ρ' σ' F H As → (∀ j, j ∉ c.W → σ'[j]? = σ[j]?) → Q σ' H
      | .exc _ => False
      | .no => False) := p
    split at p'
    · exact fun σ' S' ag => p' σ' S' fun j hj => (ag j hj).trans (set_off hW j hj)
    · exact p'.elim
    · exact p'.elim⟩
theorem setsN_len : ∀ {is : List Nat} {ds : List D} {ρ ρ' : Env}, setsN is ds ρ = .ok ρ' → ds.length = is.length
  | [], [], _, _, _ => rfl
  | i :: is, d :: ds, ρ, ρ', h => by
    have h' : setsN is ds (ρ.set i (some d)) = .ok ρ' := h
    exact congrArg Nat.succ (setsN_len h')
  | [], d :: ds, _, _, h => by cases h
  | i :: is, [], _, _, h => by cases h
theorem setsN_nex : ∀ {is : List Nat} {ds : List D} {ρ : Env} {c : Str}, setsN is ds ρ ≠ .exc c
  | [], [], _, _, h => by cases h
  | i :: is, d :: ds, ρ, c, h => setsN_nex (show setsN is ds (ρ.set i (some d)) = .exc c from h)
  | [], d :: ds, _, _, h => by cases h
  | i :: is, [], _, _, h => by cases h
theorem dg_tup {es : List Expr} {k : Nat} {g : TGs} {is : List Nat} (hc : X.calm = true) (h : DGs X E c.W ω es g is) (hn : (assignEach es X.env).length = is.length := by rfl) (hst : (assignEach es X.env).findIdx? (·.1) = none := by rfl) : DG X E c.W ω (.Tuple es k pos) (gTup X.K is.length g) (setT is) :=
  ⟨pg_tup hc h.pgs hn hst, fun σ ρ F H As d v Q S r p => by
    cases d with
    | tup ds =>
      obtain ⟨a, vs, rfl, h1, h2⟩ := r
      refine ⟨a, vs, rfl, .of (S.ex _ _ h1), ?_, h.sem σ ρ F H As ds vs Q S h2 p⟩
      rw [h2.length]
      have p' : (match setsN is ds ρ with
        | .ok ρ' => ∀ σ', Stt X.K ω ρ' σ' F H As → (∀ j, j ∉ c.W → σ'[j]? = σ[j]?) → Q σ' H
        | .exc _ => False
        | .no => False) := p
      split at p'
      · rename_i ρ' hq
        exact setsN_len hq
      · exact p'.elim
      · exact p'.elim
    | _ => exact (show False from p).elim, fun d ρ c h => by
      cases d with
      | tup ds => exact setsN_nex (show setsN is ds ρ = .exc c from h)
      | _ => cases h⟩
/-- target = e, what is stored is not one's own -/
def sAsgG (set : D → Env → R Env) (f : Env → R D) (ρ : Env) : R Fl := f ρ >>= fun d => set d ρ >>= fun ρ' => .ok (.nx ρ')
theorem ds_asgG {tg : Expr} {gt : TG} {set : D → Env → R Env} (he : DE X E ω e te fe .fz []) (hg : DG X E c.W ω tg gt set) (hs : swapsWithSole [tg] e pos.line X.env = pure false := by rfl) (hw : swappedStores [tg] e X.env = pure none := by rfl)
    (h1 : (assignEach [tg] X.env).map (·.2) = [assign tg X.env] := by rfl) : DS X E c ω (.Assign [tg] e pos) (tAsg te gt) (sAsgG set fe) ω or :=
  ⟨ps_asg he.pe hg.pg hs hw h1, fun σ ρ F H As Dd S p => by
    refine he.sem σ ρ F H As _ S ?_
    unfold sAsgG at p
    cases hf : fe ρ with
    | ok d =>
      rw [hf, ok_bind] at p
      intro v F1 H1 B g r b n
      have S1 := S.grow g
      refine hg.sem σ ρ F1 H1 As d v _ S1 r.1 ?_
      cases hq : set d ρ with
      | ok ρ' =>
        rw [hq] at p
        exact fun σ' S' ag => p σ' F1 H1 As S' ⟨GrowA.of g fun x h => .inl h, ag⟩
      | exc c => exact absurd hq (hg.nex d ρ c)
      | no => rw [hq] at p; exact p
    | exc c => rw [hf] at p; exact fun H' q => p H' fun x o h1 _ => q x o h1
    | no => rw [hf] at p; exact p⟩
end
end Dn

/-! Loops and defs over data. -/
namespace Dn
open PySem L2 PyProof.Rows

section
variable {X : Cx} {E : XK} {c : Cfg} {ω ω1 ω' : List O} {st : Stmt} {sts : List Stmt} {e a b : Expr} {es : List Expr} {t u : TS} {te ta tb : TE} {f g : Env → R Fl} {fe fa fb : Env → R D} {o or : O} {M : List Nat} {pos cpos apos npos : Pos} {x : Str}

/-! ### a, b = a tuple of which parts may be one's own -/
def setOs (ω : List O) : List Nat → List O → List O
  | i :: is, o :: os => setOs (ω.set i o) is os
  | _, _ => ω
def gNames : List Nat → TGs
  | [] => gNil
  | i :: is => gCons (gName i) (gNames is)
theorem takes {K : PySem.W.Frag} {F H : Hp} {Q : L2.St → Hp → Prop} : ∀ {is : List Nat} {os : List O} {ω : List O} {ρ ρ' : Env} {σ : L2.St} {As : List (List Addr)} {ds : List D} {vs : List V} {B : List Addr}, Stt K ω ρ σ F H As → RepT K F H os ds vs B → B.Nodup → (∀ x ∈ B, x ∉ As.flatten) → setsN is ds ρ = .ok ρ' →
    (∀ σ' As', Stt K (setOs ω is os) ρ' σ' F H As' → (∀ x ∈ As'.flatten, x ∈ As.flatten ∨ x ∈ B) → (∀ j, j ∉ is → σ'[j]? = σ[j]?) → Q σ' H) → gNames is vs σ H Q
  | [], os, ω, ρ, ρ', σ, As, ds, vs, B, S, r, nB, ap, hs, k => by
    cases ds with
    | cons d ds => cases hs
    | nil =>
      cases hs
      cases os with
      | cons o os =>
        obtain ⟨d, dr, v, vr, B1, B2, h, _⟩ := r
        cases h
      | nil =>
        obtain ⟨_, rfl, rfl⟩ := r
        exact ⟨rfl, k σ As S (fun x h => .inl h) fun _ _ => rfl⟩
  | i :: is, os, ω, ρ, ρ', σ, As, ds, vs, B, S, r, nB, ap, hs, k => by
    cases ds with
    | nil => cases hs
    | cons d ds =>
      have hs' : setsN is ds (ρ.set i (some d)) = .ok ρ' := hs
      cases os with
      | nil =>
        obtain ⟨h, _⟩ := r
        cases h
      | cons o os =>
        obtain ⟨d', dr, v, vr, B1, B2, h1, rfl, rfl, r1, r2⟩ := r
        cases h1
        obtain ⟨n1, n2, n3⟩ := List.nodup_append.mp nB
        have S1 : Stt K (ω.set i o) (ρ.set i (some d)) (σ.set i (some v)) F H (As.set i B1) := ⟨S.ex, S.sl.put r1, flat_set_nd S.nd n1 fun x hx j C h1 h2 h3 => ap x (List.mem_append_left _ hx) (List.mem_flatten.mpr ⟨C, List.mem_of_getElem? h2, h3⟩)⟩
        refine ⟨v, vr, rfl, takes S1 r2 n2 (fun x hx hf => ?_) hs' fun σ' As' S' hA ag => k σ' As' S' (fun x hx => ?_) fun j hj => ?_⟩
        · rcases flat_set hf with q | ⟨j, C, h1, h2, h3⟩
          · exact n3 x q x hx rfl
          · exact ap x (List.mem_append_right _ hx) (List.mem_flatten.mpr ⟨C, List.mem_of_getElem? h2, h3⟩)
        · rcases hA x hx with q | q
          · rcases flat_set q with q | ⟨j, C, h1, h2, h3⟩
            · exact .inr (List.mem_append_left _ q)
            · exact .inl (List.mem_flatten.mpr ⟨C, List.mem_of_getElem? h2, h3⟩)
          · exact .inr (List.mem_append_right _ q)
        · rw [ag j fun h => hj (List.mem_cons_of_mem _ h), List.getElem?_set_ne fun h => hj (by rw [h]; exact List.mem_cons_self)]
structure PGn (X : Cx) (es : List Expr) (is : List Nat) : Prop where
  pgs : PGs X es (gNames is)
theorem pgn_nil : PGn X [] [] := ⟨pgs_nil⟩
theorem pgn_cons {i : Nat} {es : List Expr} {is : List Nat} (hN : X.N.Nodup) (h' : PGn X es is) (hi : X.N[i]? = some x := by rfl) (hx : Loc X.env.scope x := by first | exact Or.inl rfl | exact Or.inr rfl)
    (hf : X.fn x = true ∨ X.env.scope.names.lookup x = some .local := by first | exact .inl rfl | exact .inr rfl | assumption) (hs : (assignEach (.Name x pos :: es) X.env).map (·.2) = assign (.Name x pos) X.env :: (assignEach es X.env).map (·.2) := by rfl) : PGn X (.Name x pos :: es) (i :: is) :=
  ⟨pgs_cons (pg_name hN hi hx hf) h'.pgs hs⟩
def sAsgT (is M : List Nat) (f : Env → R D) (ρ : Env) : R Fl := f ρ >>= fun d => setT is d (hideE ρ M) >>= fun ρ' => .ok (.nx ρ')
theorem ds_asgT {is : List Nat} {os : List O} {k : Nat} {tpos : Pos} (hc : X.calm = true) (he : DE X E ω e te fe (.tup os) M) (hg : PGn X es is) (hn : (assignEach es X.env).length = is.length := by rfl) (hst : (assignEach es X.env).findIdx? (·.1) = none := by rfl)
    (hs : swapsWithSole [.Tuple es k tpos] e pos.line X.env = pure false := by rfl) (hw : swappedStores [.Tuple es k tpos] e X.env = pure none := by rfl)
    (h1 : (assignEach [.Tuple es k tpos] X.env).map (·.2) = [assign (.Tuple es k tpos) X.env] := by rfl) (hW : is.all c.W.contains = true := by rfl) : DS X E c ω (.Assign [.Tuple es k tpos] e pos) (tAsg te (gTup X.K is.length (gNames is))) (sAsgT is M fe) (setOs ω is os) or :=
  ⟨ps_asg he.pe (pg_tup hc hg.pgs hn hst) hs hw h1, fun σ ρ F H As Dd S p => by
    refine he.sem σ ρ F H As _ S ?_
    unfold sAsgT at p
    cases hf : fe ρ with
    | ok d =>
      rw [hf, ok_bind] at p
      intro v F1 H1 B g r bB n
      obtain ⟨ds, l, vs, rfl, rfl, h1, h2⟩ := r
      have S1 := S.grow g
      cases hq : setsN is ds (hideE ρ M) with
      | ok ρ' =>
        have p' : PstS X.mg E X.K c (setOs ω is os) or σ As.flatten F H Dd (setsN is ds (hideE ρ M) >>= fun ρ' => .ok (.nx ρ')) := p
        rw [hq] at p'
        have S2 : Stt X.K ω (hideE ρ M) σ F1 H1 (emptied As M) := ⟨g.fh, S1.sl.hides M, emptied_nd S.nd M⟩
        have sub : ∀ x ∈ (emptied As M).flatten, x ∈ As.flatten := fun x hx => by
          obtain ⟨C, hC, hx'⟩ := List.mem_flatten.mp hx
          obtain ⟨j, hj⟩ := List.getElem?_of_mem hC
          exact List.mem_flatten.mpr ⟨C, List.mem_of_getElem? (emptied_get hj hx').2, hx'⟩
        refine ⟨l, vs, rfl, .of (g.fh _ _ h1), ?_, takes S2 h2 n (fun x hx hf => ?_) hq fun σ' As' S' hA ag => p' σ' F1 H1 As' S' ⟨GrowA.of g fun x hx => ?_, fun j hj => ag j fun h => hj (List.contains_iff_mem.mp (List.all_eq_true.mp hW j h))⟩⟩
        · have := setsN_len hq
          rw [(repT_len h2).1, ← (repT_len h2).2, this]
        · obtain ⟨C, hC, hx'⟩ := List.mem_flatten.mp hf
          obtain ⟨j, hj⟩ := List.getElem?_of_mem hC
          obtain ⟨h4, h5⟩ := emptied_get hj hx'
          rcases bB x hx with q | ⟨m, hm, C', hC', xC⟩
          · exact (S.sl.mem (sub x hf)).2 q
          · have := flat_apart S.nd hC' h5 xC hx'
            subst this
            exact h4 hm
        · rcases hA x hx with q | q
          · exact .inl (sub x q)
          · exact (bB x q).elim (fun z => .inr z) fun z => .inl z.flat
      | exc c => exact absurd hq setsN_nex
      | no =>
        have p' : PstS X.mg E X.K c (setOs ω is os) or σ As.flatten F H Dd (setsN is ds (hideE ρ M) >>= fun ρ' => .ok (.nx ρ')) := p
        rw [hq] at p'
        exact p'.elim
    | exc c => rw [hf] at p; exact fun H' q => p H' fun x o h1 _ => q x o h1
    | no => rw [hf] at p; exact p⟩

/-! ### for -/
def forD (set : D → Env → R Env) (body : Env → R Fl) : List D → Env → R Fl
  | [], ρ => .ok (.nx ρ)
  | x :: xs, ρ => set x ρ >>= fun ρ' => body ρ' >>= fun fl => match fl with
    | .nx ρ'' => forD set body xs ρ''
    | .rt d ρ' => .ok (.rt d ρ')
def sFor (fi : Env → R (List D)) (set : D → Env → R Env) (body : Env → R Fl) (ρ : Env) : R Fl := fi ρ >>= fun xs => forD set body xs ρ
theorem ds_for {tg iter : Expr} {wi : TI} {gt : TG} {fi : Env → R (List D)} {set : D → Env → R Env} {body : List Stmt} (hp : PassesOwn (model X.prog X.w) X.A X.env X.xe) (hc : X.calm = true) (hi : DI X E ω tg iter wi fi) (hg : DG X E c.W ω tg gt set) (hb : DSs X E c ω body t f ω or)
    (hs : ∀ x, foldedSetIterable iter X.env x = pure x := by intro _; rfl) : DS X E c ω (.For tg iter body [] pos) (tFor wi gt t) (sFor fi set f) ω or :=
  ⟨ps_for hp hc hi.pi hg.pg hb.pss hs, fun σ ρ F H As Dd S p => by
    refine hi.sem σ ρ F H As _ S ?_
    unfold sFor at p
    cases hfi : fi ρ with
    | exc c => rw [hfi] at p; exact fun H' q => p H' fun x o h1 _ => q x o h1
    | no => rw [hfi] at p; exact p
    | ok xs =>
      rw [hfi, ok_bind] at p
      intro J F1 H1 g1 it
      obtain ⟨vs, hr, hgo, hst⟩ := it
      have hn := hr.length
      refine ⟨fun i m σ' H' => m = xs.length - i ∧ i ≤ xs.length ∧ ∃ ρ' F' As', Stt X.K ω ρ' σ' F' H' As' ∧ Same F1 F' ∧ PstS X.mg E X.K c ω or σ' As'.flatten F' H' Dd (forD set f (xs.drop i) ρ'), ⟨xs.length, rfl, Nat.zero_le _, ρ, F1, As, S.grow g1, Same.refl _, by simpa using PstS.growG g1 p⟩, ?_⟩
      rintro j m σ' H' ⟨rfl, hj, ρ', F', As', S', e1, p'⟩
      have exH : Same F1 H' := e1.trans S'.ex
      by_cases hlt : j < xs.length
      · refine .inr ⟨(hgo j H' exH (by rw [hn]; exact hlt)).1, fun σ2 H2 => ∃ ρ2 F2 As2, Stt X.K ω ρ2 σ2 F2 H2 As2 ∧ Same F1 F2 ∧ PstS X.mg E X.K c ω or σ2 As2.flatten F2 H2 Dd (forD set f (xs.drop (j + 1)) ρ2), fun σ2 H2 q => ⟨_, Nat.sub_lt_sub_left hlt (Nat.lt_succ_self j), rfl, hlt, q⟩, fun v H2 y => ?_⟩
        obtain ⟨rfl, hx⟩ := (hgo j H' exH (by rw [hn]; exact hlt)).2 v H2 y
        obtain ⟨d, hd, rd⟩ := hr.get' hx
        have hdrop : xs.drop j = d :: xs.drop (j + 1) := by
          rw [List.drop_eq_getElem_cons hlt]
          congr 1
          rw [List.getElem?_eq_getElem hlt] at hd
          exact Option.some.inj hd
        rw [hdrop] at p'
        have p2 : PstS X.mg E X.K c ω or σ' As'.flatten F' H2 Dd (set d ρ' >>= fun ρ' => f ρ' >>= fun fl => match fl with
          | .nx ρ'' => forD set f (xs.drop (j + 1)) ρ''
          | .rt d ρ3 => .ok (.rt d ρ3)) := p'
        refine hg.sem σ' ρ' F' H2 As' d v _ S' (Rep.mono e1 d v rd) ?_
        cases hset : set d ρ' with
        | exc c => exact absurd hset (hg.nex d ρ' c)
        | no => rw [hset] at p2; exact p2.elim
        | ok ρ2 =>
          rw [hset, ok_bind] at p2
          intro σ2 S2 ag
          have p2 := PstS.grow (σ1 := σ2) (F1 := F') (H1 := H2) ⟨GrowA.refl S'.ex, ag⟩ p2
          refine hb.sem σ2 ρ2 F' H2 As' _ S2 ?_
          cases hf : f ρ2 with
          | exc c => rw [hf] at p2; exact p2
          | no => rw [hf] at p2; exact p2
          | ok fl =>
            rw [hf, ok_bind] at p2
            cases fl with
            | nx ρ3 => exact fun σ3 F3 H3 As3 S3 g3 => ⟨ρ3, F3, As3, S3, e1.trans g3.g.ff, PstS.grow g3 p2⟩
            | rt d ρ3 => exact p2
      · have ej : j = xs.length := by omega
        subst ej
        refine .inl ⟨hst _ H' exH (by rw [hn]; exact Nat.le_refl _), ?_⟩
        rw [List.drop_length] at p'
        exact p' σ' F' H' As' S' (.same (GrowA.refl S'.ex))⟩

/-! ### while -/
def whileD (c : Env → R Bool) (body : Env → R Fl) : Nat → Env → R Fl
  | 0, _ => .no
  | n + 1, ρ => c ρ >>= fun b => if b = true then body ρ >>= fun fl => (match fl with
    | .nx ρ' => whileD c body n ρ'
    | .rt d ρ' => .ok (.rt d ρ')) else .ok (.nx ρ)
def sWhile (n : Nat) (c : Env → R Bool) (body : Env → R Fl) (ρ : Env) : R Fl := whileD c body n ρ
theorem ds_while {ce : Expr} {tc : TT} {fc : Env → R Bool} {body : List Stmt} (n : Nat) (hp : PassesOwn (model X.prog X.w) X.A X.env X.xe) (hc : DT X E ω ce tc fc) (hb : DSs X E c ω body t f ω or) : DS X E c ω (.While ce body [] pos) (tWhile tc t) (sWhile n fc f) ω or :=
  ⟨ps_while hp hc.pt hb.pss, fun σ ρ F H As Dd S p => by
    refine ⟨fun m σ' H' => ∃ ρ' F' As', Stt X.K ω ρ' σ' F' H' As' ∧ PstS X.mg E X.K c ω or σ' As'.flatten F' H' Dd (whileD fc f m ρ'), ⟨n, ρ, F, As, S, p⟩, ?_⟩
    rintro m σ' H' ⟨ρ', F', As', S', p'⟩
    cases m with
    | zero => exact (show False from p').elim
    | succ m =>
      have p2 : PstS X.mg E X.K c ω or σ' As'.flatten F' H' Dd (fc ρ' >>= fun b => if b = true then f ρ' >>= fun fl => (match fl with
        | .nx ρ' => whileD fc f m ρ'
        | .rt d ρ3 => .ok (.rt d ρ3)) else .ok (.nx ρ')) := p'
      refine hc.sem σ' ρ' F' H' As' _ S' ?_
      cases hfc : fc ρ' with
      | exc c => rw [hfc] at p2; exact fun H' q => p2 H' fun x o h1 _ => q x o h1
      | no => rw [hfc] at p2; exact p2
      | ok b =>
        rw [hfc, ok_bind] at p2
        intro F1 H1 g1
        have S1 := S'.grow g1
        have p3 := PstS.growG g1 p2
        cases b with
        | false =>
          rw [if_neg Bool.false_ne_true] at p3 ⊢
          exact p3 σ' F1 H1 As' S1 (.same (GrowA.refl S1.ex))
        | true =>
          rw [if_pos rfl] at p3 ⊢
          refine ⟨fun σ2 H2 => ∃ ρ2 F2 As2, Stt X.K ω ρ2 σ2 F2 H2 As2 ∧ PstS X.mg E X.K c ω or σ2 As2.flatten F2 H2 Dd (whileD fc f m ρ2), fun σ2 H2 q => ⟨m, Nat.lt_succ_self m, q⟩, ?_⟩
          refine hb.sem σ' ρ' F1 H1 As' _ S1 ?_
          cases hf : f ρ' with
          | exc c => rw [hf] at p3; exact p3
          | no => rw [hf] at p3; exact p3
          | ok fl =>
            rw [hf, ok_bind] at p3
            cases fl with
            | nx ρ3 => exact fun σ3 F3 H3 As3 S3 g3 => ⟨ρ3, F3, As3, S3, PstS.grow g3 p3⟩
            | rt d ρ3 => exact p3⟩
/-- what the proof never comes to -/
def sNo (_ : Env) : R Fl := .no
theorem ds_never : DS X E c ω st tNever sNo ω' or := ⟨ps_never, fun σ ρ F H As Dd S p => p⟩
end

/-! ### a def -/
def enter (n : Nat) (ds : List D) : Env := ds.map some ++ List.replicate (n - ds.length) none
def leave : R Fl → R D
  | .ok (.rt d _) => .ok d
  | _ => .no
/-- what a def gives, by its body; n names in all -/
def fnD (n : Nat) (f : Env → R Fl) (ds : List D) : R D := leave (f (enter n ds))
theorem sl_enter {K : PySem.W.Frag} {F H : Hp} : ∀ {ds : List D} {vs : List V} {ωp : List O}, Reps K F ds vs → ωp.length = ds.length → ωp.all O.isFz = true → ∀ (ωl : List O), Sl K F H (ωp ++ ωl) (ds.map some ++ List.replicate ωl.length none) (vs.map some ++ List.replicate ωl.length none) (List.replicate (ωp.length + ωl.length) [])
  | [], vs, [], r, _, _, ωl => by
    rw [show vs = [] from r]
    induction ωl with
    | nil => exact .nil
    | cons o ωl ih => simpa [List.replicate_succ] using Sl.none (o := o) (x := none) ih
  | d :: ds, vs, o :: ωp, r, hl, hf, ωl => by
    obtain ⟨v, vr, rfl, h2, h3⟩ := r
    rw [List.all_cons, Bool.and_eq_true] at hf
    cases o with
    | fz =>
      have ih := sl_enter (H := H) h3 (Nat.succ.inj hl) hf.2 ωl
      have e : (List.replicate ((O.fz :: ωp).length + ωl.length) ([] : List Addr)) = [] :: List.replicate (ωp.length + ωl.length) [] := by
        rw [List.length_cons, Nat.succ_add, List.replicate_succ]
      rw [e]
      exact Sl.some ⟨h2, rfl⟩ ih
    | _ => exact absurd hf.1 (by simp [O.isFz])
  | [], _, _ :: _, _, hl, _, _ => by cases hl
  | _ :: _, _, [], _, hl, _, _ => by cases hl
theorem flat_nils (n : Nat) : (List.replicate n ([] : List Addr)).flatten = [] := by
  induction n with
  | zero => rfl
  | succ n ih => rw [List.replicate_succ, List.flatten_cons, ih]; rfl
/-- THE RULE for a def that raises nothing -/
theorem fn_ok {P : Program} {w : World} {K : PySem.W.Frag} {mg : Str → Option Value} {base : Heap} {x qual : Str} {st : Stmt} {f : Addr} {fd : FuncData} {N ps : List Str} {k : Nat} {fb : Env → R Fl} {ωp ωl : List O} {o : O} {W : List Nat} (Fn : Fun K x qual st f fd) (S : FnScope N ps (defScope st))
    (hp : ωp.length = ps.length) (hz : ωp.all O.isFz = true) (hl : ωp.length + ωl.length = N.length)
    (hbody : ∀ (cdv : Value) (A : Around) (outer : List PySem.Env) (s : Shared) (H : Hp) (E : XK), Room k (A.deeper (envOfC qual (defScope st) s.heap.objs.size f cdv)) →
      ∃ t ω', DSs (cxOf CX0 P w K mg base N qual (defScope st) f cdv A outer s H E).nox E0 ⟨W, []⟩ (ωp ++ ωl) (defBody st) t fb ω' o) : FnOk P w K mg base CX0 (k + 1) f fd ps (spD K mg ps.length (fnD N.length fb) o) := by
  refine Fn.ok S (fun vs H Q E h => ?_) (fun cdv A outer s H vs Q E hr h => ?_)
  · obtain ⟨ds, F, _, r, hn, _⟩ := h
    rw [r.length, hn]
  · obtain ⟨ds, F, e, r, hn, p⟩ := h
    obtain ⟨t, ω', B⟩ := hbody cdv A outer s H E hr
    refine ⟨t, B.pss, ?_⟩
    have hlen : ds.length = ωp.length := by rw [hn, hp]
    have e1 : enter N.length ds = ds.map some ++ List.replicate ωl.length none := by
      unfold enter
      rw [hlen, ← hl, Nat.add_sub_cancel_left]
    have e2 : L2.start N vs = vs.map some ++ List.replicate ωl.length none := by
      unfold L2.start
      rw [r.length, hlen, ← hl, Nat.add_sub_cancel_left]
    have S0 : Stt K (ωp ++ ωl) (enter N.length ds) (L2.start N vs) F H (List.replicate (ωp.length + ωl.length) []) := by
      refine ⟨e, ?_, by rw [flat_nils]; exact List.nodup_nil⟩
      rw [e1, e2]
      exact sl_enter r hlen.symm hz ωl
    refine B.sem _ _ F H _ _ S0 ?_
    rw [flat_nils]
    unfold fnD at p
    cases hf : fb (enter N.length ds) with
    | ok fl =>
      rw [hf] at p
      cases fl with
      | nx ρ' => exact (show False from p).elim
      | rt d ρ' => exact fun v σ' F' H' B As' w r n ap S i g => p v F' H' B g.g.grow r (fun x hx => .inl ((g.g.new x (List.mem_append_left _ hx)).resolve_left (by simp))) n
    | exc c => rw [hf] at p; exact (show False from p).elim
    | no => rw [hf] at p; exact (show False from p).elim
end Dn

/-! Looking at what is owned; defs that change their arguments. -/
namespace Dn
open PySem L2 PyProof.Rows

/-! ### a value without lists and dicts in what is not one's own -/
mutual
def noBox : D → Bool
  | .tup xs => noBoxs xs
  | .lst _ => false
  | .dic _ => false
  | .scr _ => false
  | _ => true
def noBoxs : List D → Bool
  | [] => true
  | d :: ds => noBox d && noBoxs ds
end
mutual
def chk : O → D → Bool
  | .fz, d => noBox d
  | .own o, .lst ds => ds.all (chk o)
  | .own _, .dic es => es.all fun kv => noBox kv.2
  | .own _, d => noBox d
  | .tup os, .tup ds => chks os ds
  | .tup _, _ => false
def chks : List O → List D → Bool
  | o :: os, d :: ds => chk o d && chks os ds
  | [], [] => true
  | _, _ => false
end
section
variable {K : PySem.W.Frag} {F F' H H' : Hp}
/-- the tuples stand -/
def Tups (F F' : Hp) : Prop := ∀ x vs, F x = some (.tup vs) → F' x = some (.tup vs)
mutual
theorem rep_tups (e : Tups F F') : ∀ (d : D) (v : V), noBox d = true → Rep K F d v → Rep K F' d v
  | .non, v, _, r => r
  | .bl _, v, _, r => r
  | .int _, v, _, r => r
  | .str _, v, _, r => r
  | .tup ds, v, h, r => by
    obtain ⟨a, vs, h1, h2, h3⟩ := r
    exact ⟨a, vs, h1, e _ _ h2, reps_tups e ds vs h h3⟩
  | .lst _, v, h, _ => absurd h (by simp [noBox])
  | .dic _, v, h, _ => absurd h (by simp [noBox])
  | .scr _, v, h, _ => absurd h (by simp [noBox])
theorem reps_tups (e : Tups F F') : ∀ (ds : List D) (vs : List V), noBoxs ds = true → Reps K F ds vs → Reps K F' ds vs
  | [], vs, _, r => r
  | d :: ds, vs, h, r => by
    obtain ⟨v, vr, h1, h2, h3⟩ := r
    have h' : noBox d = true ∧ noBoxs ds = true := by simpa [noBoxs] using h
    exact ⟨v, vr, h1, rep_tups e d v h'.1 h2, reps_tups e ds vr h'.2 h3⟩
end
theorem repK_tups (e : Tups F F') : ∀ (es : List (L2.Key × D)) (kvs : List (L2.Key × V)), (es.all fun kv => noBox kv.2) = true → RepK K F es kvs → RepK K F' es kvs
  | [], kvs, _, r => r
  | (k, d) :: es, kvs, h, r => by
    obtain ⟨v, vr, h1, h2, h3⟩ := r
    rw [List.all_cons, Bool.and_eq_true] at h
    exact ⟨v, vr, h1, rep_tups e d v h.1 h2, repK_tups e es vr h.2 h3⟩
theorem allO_imp {P P' : D → V → List Addr → Prop} {p : D → Bool} (h : ∀ d v B, p d = true → P d v B → P' d v B) : ∀ {ds : List D} {vs : List V} {B : List Addr}, ds.all p = true → AllO P ds vs B → AllO P' ds vs B
  | [], vs, B, _, q => q
  | d :: ds, vs, B, hp, q => by
    obtain ⟨v, vr, B1, B2, h1, h2, h3, h4⟩ := q
    rw [List.all_cons, Bool.and_eq_true] at hp
    exact ⟨v, vr, B1, B2, h1, h2, h d v B1 hp.1 h3, allO_imp h hp.2 h4⟩
mutual
theorem repO_tups (e : Tups F F') (n : ∀ x, F x = none → F' x = none) : ∀ (o : O) (d : D) (v : V) (B : List Addr), chk o d = true → RepO K F H o d v B → RepO K F' H o d v B
  | .fz, d, v, B, h, r => ⟨rep_tups e d v (by simpa [chk] using h) r.1, r.2⟩
  | .own o, d, v, B, h, r => by
    rcases r with ⟨ds, a, vs, B', rfl, h2, h3, h4, h5, h6⟩ | ⟨es, a, kvs, rfl, h2, h3, h4, h5, h6⟩ | ⟨h1, h2, h3⟩
    · exact .inl ⟨ds, a, vs, B', rfl, h2, n _ h3, h4, h5, allO_imp (fun d v B hd q => repO_tups e n o d v B hd q) (by simpa [chk] using h) h6⟩
    · exact .inr (.inl ⟨es, a, kvs, rfl, h2, n _ h3, h4, repK_tups e es kvs (by simpa [chk] using h) h5, h6⟩)
    · refine .inr (.inr ⟨h1, rep_tups e d v ?_ h2, h3⟩)
      cases d with
      | lst _ => exact absurd h1 (by simp [isBox])
      | dic _ => exact absurd h1 (by simp [isBox])
      | _ => exact h
  | .tup os, d, v, B, h, r => by
    obtain ⟨ds, a, vs, rfl, h2, h3, h4⟩ := r
    exact ⟨ds, a, vs, rfl, h2, e _ _ h3, repT_tups e n os ds vs B (by simpa [chk] using h) h4⟩
theorem repT_tups (e : Tups F F') (n : ∀ x, F x = none → F' x = none) : ∀ (os : List O) (ds : List D) (vs : List V) (B : List Addr), chks os ds = true → RepT K F H os ds vs B → RepT K F' H os ds vs B
  | [], ds, vs, B, h, r => r
  | o :: os, ds, vs, B, h, r => by
    obtain ⟨d, dr, v, vr, B1, B2, rfl, h2, h3, h4, h5⟩ := r
    have h' : chk o d = true ∧ chks os dr = true := by simpa [chks] using h
    exact ⟨d, dr, v, vr, B1, B2, rfl, h2, h3, repO_tups e n o d v B1 h'.1 h4, repT_tups e n os dr vr B2 h'.2 h5⟩
end
end
theorem own_box {K : PySem.W.Frag} {F H : Hp} {x : Addr} : ∀ (o : O) (d : D) (v : V) (B : List Addr), RepO K F H o d v B → x ∈ B → ∀ vs, H x ≠ some (.tup vs) := by
  have main : ∀ (n : Nat), (∀ (o : O), sizeOf o ≤ n → ∀ (d : D) (v : V) (B : List Addr), RepO K F H o d v B → x ∈ B → ∀ vs, H x ≠ some (.tup vs)) ∧ (∀ (os : List O), sizeOf os ≤ n → ∀ (ds : List D) (vs : List V) (B : List Addr), RepT K F H os ds vs B → x ∈ B → ∀ vs, H x ≠ some (.tup vs)) := by
    intro n
    induction n with
    | zero => exact ⟨fun o h => by cases o <;> simp at h, fun os h => by cases os <;> simp at h⟩
    | succ n ih =>
      refine ⟨fun o h d v B r hx ws => ?_, fun os h ds vs B r hx ws => ?_⟩
      · cases o with
        | fz => rw [r.2] at hx; simp at hx
        | own o =>
          rcases r with ⟨ds, a, vs, B', _, _, h1, h2, h3, h4⟩ | ⟨es, a, kvs, _, _, h1, h2, _, h3⟩ | ⟨_, _, h3⟩
          · subst h3
            rcases List.mem_cons.mp hx with rfl | hx
            · rw [h2]; intro q; cases q
            · exact h4.mem hx fun d v B1 q hx' => ih.1 o (by simp at h; omega) d v B1 q hx' ws
          · subst h3
            obtain rfl := List.mem_singleton.mp hx
            rw [h2]; intro q; cases q
          · subst h3; simp at hx
        | tup os =>
          obtain ⟨ds, a, vs, _, _, _, h4⟩ := r
          exact ih.2 os (by simp at h; omega) ds vs B h4 hx ws
      · cases os with
        | nil => rw [r.2.2] at hx; simp at hx
        | cons o os =>
          obtain ⟨d, dr, v, vr, B1, B2, _, _, h3, h4, h5⟩ := r
          subst h3
          rcases List.mem_append.mp hx with hx | hx
          · exact ih.1 o (by simp at h; omega) d v B1 h4 hx ws
          · exact ih.2 os (by simp at h; omega) dr vr B2 h5 hx ws
  exact fun o => (main _).1 o (Nat.le_refl _)
section
variable {X : Cx} {E : XK} {ω : List O} {e a b : Expr} {t ta tb : TE} {f fa fb : Env → R D} {o : O} {M : List Nat} {pos : Pos}
/-- found by looking at what is owned, too -/
def eChk (o : O) (f : Env → R D) (ρ : Env) : R D := f ρ >>= fun d => if chk o d = true then .ok d else .no
theorem sl_box {K : PySem.W.Frag} {F H : Hp} {ρ : Env} {σ : L2.St} {As : List (List Addr)} {x : Addr} (S : Sl K F H ω ρ σ As) (hx : x ∈ As.flatten) : ∀ vs, H x ≠ some (.tup vs) := by
  induction S with
  | nil => simp at hx
  | none _ ih => exact ih (by simpa using hx)
  | some r _ ih =>
    rw [List.flatten_cons] at hx
    rcases List.mem_append.mp hx with hx | hx
    · exact own_box _ _ _ _ r hx
    · exact ih hx
theorem sem_chk {mg : Str → Option Value} {K : PySem.W.Frag} (h : Sem mg E K (ω.map fun _ => .fz) t f o []) : Sem mg E K ω t (eChk o f) o [] := fun σ ρ F H As Q S p => by
  refine h σ ρ _ H _ Q S.thaw ?_
  unfold eChk at p
  cases hf : f ρ with
  | ok d =>
    rw [hf, ok_bind] at p
    intro v F1 H1 B g r hB nd
    by_cases hc : chk o d = true
    · rw [if_pos hc] at p
      have hB' : ∀ x ∈ B, H x = none := fun x hx => by
        rcases hB x hx with q | q
        · exact q
        · exact q.nil.elim
      refine p v (fun x => if x ∈ As.flatten then none else F1 x) H1 B ⟨fun x u q => ?_, g.hh, fun x u q => ?_, fun x h1 h2 => ?_⟩ (repO_tups (fun x vs q => ?_) (fun x q => ?_) o d v B hc r) (fun x hx => .inl (hB' x hx)) nd
      · have nx : x ∉ As.flatten := fun hx => by rw [(S.sl.mem hx).1] at q; cases q
        show (if x ∈ As.flatten then none else F1 x) = some u
        rw [if_neg nx]
        exact g.ff _ _ (by rw [thawed_out nx]; exact q)
      · have q' : (if x ∈ As.flatten then none else F1 x) = some u := q
        by_cases hx : x ∈ As.flatten
        · rw [if_pos hx] at q'; cases q'
        · rw [if_neg hx] at q'; exact g.fh _ _ q'
      · show (if x ∈ As.flatten then none else F1 x) = none
        by_cases hx : x ∈ As.flatten
        · rw [if_pos hx]
        · rw [if_neg hx]
          exact g.sep x (by rw [thawed_out hx]; exact h1) h2
      · show (if x ∈ As.flatten then none else F1 x) = some (.tup vs)
        have nx : x ∉ As.flatten := fun hx => by
          have q2 := g.fh _ _ q
          cases hH : H x with
          | none => exact (S.sl.mem hx).2 hH
          | some u =>
            rw [g.hh _ _ hH] at q2
            cases q2
            exact sl_box S.sl hx vs hH
        rw [if_neg nx]
        exact q
      · show (if x ∈ As.flatten then none else F1 x) = none
        by_cases hx : x ∈ As.flatten
        · rw [if_pos hx]
        · rw [if_neg hx]; exact q
    · rw [if_neg hc] at p
      exact p.elim
  | exc c => rw [hf] at p; exact p
  | no => rw [hf] at p; exact p
theorem de_chk (h : DE X E (ω.map fun _ => .fz) e t f o []) : DE X E ω e t (eChk o f) o [] := ⟨h.pe, sem_chk h.sem⟩
/-- x[b], x one's own -/
def eIxV (i : Nat) (fb : Env → R D) (ρ : Env) : R D := match ρ[i]? with
  | some (some d) => fb ρ >>= fun k => ixD d k
  | _ => .no
theorem de_ixV {i k : Nat} {x : Str} {npos : Pos} (hr : Room k X.A) (hb : DE X E ω b tb fb .fz []) (hi : ω[i]? = some (.own .fz) := by rfl) (hN : X.N[i]? = some x := by rfl) (hv : Vis X.env.scope x := by first | exact Or.inl rfl | exact Or.inr (Or.inl rfl) | exact Or.inr (Or.inr rfl)) (hd : (x == ("__debug__" : Str)) = false := by decide)
    (hcd : (x == ("__classdict__" : Str)) = false := by decide) (hs : PlainIx b := by intro _ _; rfl) : DE X E ω (.Subscript (.Name x npos) b pos) (tOp (rIxA X.K) (tVar i) tb) (eIxV i fb) .fz [] :=
  ⟨pe_ix (ix_any hr) (pe_var hN hv hd hcd) hb.pe hs, fun σ ρ F H As Q S p => by
    unfold eIxV at p
    split at p
    · rename_i d hρ
      obtain ⟨v, B, hσ, hA, r⟩ := S.sl.get hi hρ
      refine ⟨v, hσ, ?_⟩
      refine hb.sem.then S p fun kd kv F1 H1 B1 g1 S1 r1 _ _ p1 => ?_
      have r' := r.grow g1
      cases d with
      | lst ds =>
        obtain ⟨a, vs, rfl, Fa, Ha, rfl, rs⟩ := list_at r'
        cases kd with
        | int i =>
          have p2 : Pst X.mg E X.K .fz As [] F1 H1 Q (match atI ds i with
            | some d => .ok d
            | none => .no) := p1
          split at p2
          · rename_i d h
            obtain ⟨w, h3, h4⟩ := atI_reps rs h
            exact .inl (.inl ⟨a, vs, i, w, rfl, r1.1, .of Ha, h3, p2.fin S1.ex h4⟩)
          · exact p2.elim
        | _ => exact (show False from p1).elim
      | dic es =>
        obtain ⟨a, kvs, rfl, Fa, Ha, rfl, rs⟩ := dict_at r'
        have p2 : Pst X.mg E X.K .fz As [] F1 H1 Q (match keyD kd with
          | some k => (match valK es k with
            | some d => .ok d
            | none => .no)
          | none => .no) := p1
        split at p2
        · rename_i k hk
          split at p2
          · rename_i d hd
            rcases repK_val (k := k) rs with ⟨q1, q2⟩ | ⟨d', w, q1, q2, r3⟩
            · rw [hd] at q2; cases q2
            · rw [hd] at q2
              cases q2
              refine .inr ⟨a, w, rfl, ?_, p2.fin S1.ex r3⟩
              rw [key_rep hk r1.1, ← q1]
              exact DGet.k Ha
          · exact p2.elim
        · exact p2.elim
      | _ =>
        rcases r' with ⟨ds', a, vs, B', h1, _⟩ | ⟨es, a, kvs, h1, _⟩ | ⟨hb, rr, rfl⟩
        · cases h1
        · cases h1
        · exact od_ix F1 H1 As v kv _ kd Q S1.ex rr r1.1 p1
    · exact p.elim⟩
end
end Dn

/-! Expressions that change what names own: calls of defs that change their arguments. -/
namespace Dn
open PySem L2 PyProof.Rows

section
variable (mg : Str → Option Value) (E : XK) (K : PySem.W.Frag)
def PstX (ω : List O) (o : O) (σ : L2.St) (A : List Addr) (F H : Hp) (Q : VK) : R (D × Env) → Prop
  | .ok (d, ρ') => ∀ v F' H' As' B, Stt K ω ρ' σ F' H' As' → RepO K F' H' o d v B → B.Nodup → (∀ x ∈ B, x ∉ As'.flatten) → GrowA A F H F' H' (B ++ As'.flatten) → Q v H'
  | .exc c => ∀ H', (∀ x o, H x = some o → x ∉ A → H' x = some o) → E (clsOf mg c) none H'
  | .no => False
def SemX (ω : List O) (t : TE) (f : Env → R (D × Env)) (o : O) : Prop := ∀ σ ρ F H As Q, Stt K ω ρ σ F H As → PstX mg E K ω o σ As.flatten F H Q (f ρ) → t σ H Q
/-- arguments: none, frozen data; some i, the name i itself -/
def ArgR (F : Hp) (ρ : Env) (σ : L2.St) : List (Option Nat) → List D → List V → Prop
  | [], ds, vs => ds = [] ∧ vs = []
  | none :: ks, ds, vs => ∃ d dr v vr, ds = d :: dr ∧ vs = v :: vr ∧ Rep K F d v ∧ ArgR F ρ σ ks dr vr
  | some i :: ks, ds, vs => ∃ d dr v vr, ds = d :: dr ∧ vs = v :: vr ∧ σ[i]? = some (some v) ∧ ρ[i]? = some (some d) ∧ ArgR F ρ σ ks dr vr
def PstXA (ω : List O) (ks : List (Option Nat)) (σ : L2.St) (A : List Addr) (F H : Hp) (Q : List V → Hp → Prop) : R (List D × Env) → Prop
  | .ok (ds, ρ') => ∀ vs F' H' As', Stt K ω ρ' σ F' H' As' → ArgR K F' ρ' σ ks ds vs → GrowA A F H F' H' As'.flatten → Q vs H'
  | .exc c => ∀ H', (∀ x o, H x = some o → x ∉ A → H' x = some o) → E (clsOf mg c) none H'
  | .no => False
def SemXA (ω : List O) (t : TA) (f : Env → R (List D × Env)) (ks : List (Option Nat)) : Prop := ∀ σ ρ F H As Q, Stt K ω ρ σ F H As → PstXA mg E K ω ks σ As.flatten F H Q (f ρ) → t σ H Q
end
section
variable {mg : Str → Option Value} {E : XK} {K : PySem.W.Frag} {F F' H H' F1 H1 F2 H2 : Hp} {ω ω' : List O} {ρ : Env} {σ : L2.St} {As : List (List Addr)} {A A1 A2 : List Addr} {o o' : O} {ks : List (Option Nat)}
theorem exc_grow {A1 : List Addr} {Z : Hp → Prop} (g : GrowA A F H F1 H1 A1) (p : ∀ H', (∀ x o, H x = some o → x ∉ A → H' x = some o) → Z H') : ∀ H', (∀ x o, H1 x = some o → x ∉ A1 → H' x = some o) → Z H' := fun H' q => p H' fun x o h1 h2 => q x o (g.keep x o h1 h2) fun h3 => by
  rcases g.new x h3 with z | z
  · exact h2 z
  · rw [h1] at z; cases z
theorem PstX.grow {Q : VK} {r : R (D × Env)} (g : GrowA A F H F1 H1 A1) (p : PstX mg E K ω o σ A F H Q r) : PstX mg E K ω o σ A1 F1 H1 Q r := by
  cases r with
  | ok q => exact fun v F' H' As' B S r n ap g' => p v F' H' As' B S r n ap (g.trans g')
  | exc c => exact exc_grow g p
  | no => exact p
theorem PstXA.grow {Q : List V → Hp → Prop} {r : R (List D × Env)} (g : GrowA A F H F1 H1 A1) (p : PstXA mg E K ω ks σ A F H Q r) : PstXA mg E K ω ks σ A1 F1 H1 Q r := by
  cases r with
  | ok q => exact fun v F' H' As' S r g' => p v F' H' As' S r (g.trans g')
  | exc c => exact exc_grow g p
  | no => exact p
theorem PstX.growG {Q : VK} {r : R (D × Env)} (g : Grow F H F1 H1) (p : PstX mg E K ω o σ A F H Q r) : PstX mg E K ω o σ A F1 H1 Q r := p.grow (.of g fun x h => .inl h)
theorem ArgR.mono : ∀ {ks : List (Option Nat)} {ds : List D} {vs : List V}, Same F F' → ArgR K F ρ σ ks ds vs → ArgR K F' ρ σ ks ds vs
  | [], ds, vs, e, r => r
  | none :: ks, ds, vs, e, r => by
    obtain ⟨d, dr, v, vr, h1, h2, h3, h4⟩ := r
    exact ⟨d, dr, v, vr, h1, h2, Rep.mono e d v h3, ArgR.mono e h4⟩
  | some i :: ks, ds, vs, e, r => by
    obtain ⟨d, dr, v, vr, h1, h2, h3, h4, h5⟩ := r
    exact ⟨d, dr, v, vr, h1, h2, h3, h4, ArgR.mono e h5⟩
end
structure DX (X : Cx) (E : XK) (ω : List O) (e : Expr) (t : TE) (f : Env → R (D × Env)) (o : O) : Prop where
  pe : PE X e t
  sem : SemX X.mg E X.K ω t f o
structure DXA (X : Cx) (E : XK) (ω : List O) (es : List Expr) (t : TA) (f : Env → R (List D × Env)) (ks : List (Option Nat)) : Prop where
  pa : PA X es t
  sem : SemXA X.mg E X.K ω t f ks
def xPure (f : Env → R D) (ρ : Env) : R (D × Env) := f ρ >>= fun d => .ok (d, ρ)
def xaNil (ρ : Env) : R (List D × Env) := .ok ([], ρ)
def xaCons (f : Env → R (D × Env)) (g : Env → R (List D × Env)) (ρ : Env) : R (List D × Env) := f ρ >>= fun p => g p.2 >>= fun q => .ok (p.1 :: q.1, q.2)
def xaVar (i : Nat) (g : Env → R (List D × Env)) (ρ : Env) : R (List D × Env) := match ρ[i]? with
  | some (some _) => g ρ >>= fun q => (match q.2[i]? with
    | some (some d) => .ok (d :: q.1, q.2)
    | _ => .no)
  | _ => .no
section
variable {X : Cx} {E : XK} {c : Cfg} {ω ω1 ω' : List O} {st : Stmt} {sts : List Stmt} {e a b : Expr} {es : List Expr} {t u : TS} {te ta tb : TE} {tas : TA} {f g : Env → R (D × Env)} {fe fa fb : Env → R D} {fas : Env → R (List D × Env)} {o or : O} {M : List Nat} {ks : List (Option Nat)} {pos cpos apos npos : Pos} {x : Str}
theorem dx_pure (h : DE X E ω e te fe o []) : DX X E ω e te (xPure fe) o := ⟨h.pe, fun σ ρ F H As Q S p => by
  refine h.sem σ ρ F H As _ S ?_
  unfold xPure at p
  cases hf : fe ρ with
  | ok d =>
    rw [hf] at p
    intro v F1 H1 B g r b n
    have b' : ∀ x ∈ B, H x = none := fun x hx => (b x hx).resolve_right fun z => z.nil.elim
    exact p v F1 H1 As B (S.grow g) r n (fun x hx hf => (S.sl.mem hf).2 (b' x hx)) (.of g fun x hx => by
      rcases List.mem_append.mp hx with hx | hx
      · exact .inr (b' x hx)
      · exact .inl hx)
  | exc c => rw [hf] at p; exact fun H' q => p H' fun x o h1 _ => q x o h1
  | no => rw [hf] at p; exact p⟩
theorem sx_frz {mg : Str → Option Value} {K : PySem.W.Frag} (h : SemX mg E K ω te f o) : SemX mg E K ω te f .fz := fun σ ρ F H As Q S p => by
  refine h σ ρ F H As Q S ?_
  cases hf : f ρ with
  | ok q =>
    rw [hf] at p
    obtain ⟨d, ρ'⟩ := q
    intro v F' H' As' B S' r n ap g
    have hB0 : ∀ x ∈ B, F' x = none := fun x hx => (RepO.mem o d v B r hx).1
    have S2 : Stt K ω ρ' σ (thawed F' H' B) H' As' := ⟨thawed_heap S'.ex, S'.sl.keep (thawed_same hB0) fun x hx => ⟨by rw [thawed_out fun hb => ap x hb hx]; exact (S'.sl.mem hx).1, rfl⟩, S'.nd⟩
    refine p v _ H' As' [] S2 ⟨RepO.thaw o d v B (thawed_same hB0) (fun x hx => thawed_in hx) r, rfl⟩ List.nodup_nil (by simp) ⟨g.ff.trans (thawed_same hB0), thawed_heap g.fh, g.keep, g.th, fun x h1 h2 h3 => ?_, fun x hx => g.new x (List.mem_append_right _ hx)⟩
    have nb : x ∉ B := fun hb => by
      rcases g.new x (List.mem_append_left _ hb) with q | q
      · exact h3 q
      · exact h2 q
    rw [thawed_out nb]
    exact g.sep x h1 h2 h3
  | exc c => rw [hf] at p; exact p
  | no => rw [hf] at p; exact p
theorem dx_frz (h : DX X E ω e te f o) : DX X E ω e te f .fz := ⟨h.pe, sx_frz h.sem⟩
theorem dxa_nil : DXA X E ω [] tNil xaNil [] := ⟨pa_nil, fun σ ρ F H As Q S p => p [] F H As S ⟨rfl, rfl⟩ (GrowA.refl S.ex)⟩
theorem dxa_cons (h : DX X E ω e te f .fz) (h' : DXA X E ω es tas fas ks) (hs : starEach (e :: es) X.env = (false, eval e X.env) :: starEach es X.env := by rfl) : DXA X E ω (e :: es) (tCons te tas) (xaCons f fas) (none :: ks) :=
  ⟨pa_cons h.pe h'.pa hs, fun σ ρ F H As Q S p => by
    refine h.sem σ ρ F H As _ S ?_
    unfold xaCons at p
    cases hf : f ρ with
    | ok q =>
      rw [hf] at p
      obtain ⟨d, ρ'⟩ := q
      intro v F1 H1 As1 B S1 r n ap g
      obtain ⟨r, rfl⟩ := r
      have g' : GrowA As.flatten F H F1 H1 As1.flatten := g
      have p1 := PstXA.grow g' p
      refine h'.sem σ ρ' F1 H1 As1 _ S1 ?_
      cases hg : fas ρ' with
      | ok q =>
        obtain ⟨ds, ρ2⟩ := q
        rw [show (R.ok (d, ρ') >>= fun p => fas p.2 >>= fun q => R.ok (p.1 :: q.1, q.2)) = (fas ρ' >>= fun q => R.ok (d :: q.1, q.2)) from rfl, hg] at p1
        exact fun vs F2 H2 As2 S2 ar g2 => p1 (v :: vs) F2 H2 As2 S2 ⟨d, ds, v, vs, rfl, rfl, Rep.mono g2.ff d v r, ar⟩ g2
      | exc c =>
        rw [show (R.ok (d, ρ') >>= fun p => fas p.2 >>= fun q => R.ok (p.1 :: q.1, q.2)) = (fas ρ' >>= fun q => R.ok (d :: q.1, q.2)) from rfl, hg] at p1
        exact p1
      | no =>
        rw [show (R.ok (d, ρ') >>= fun p => fas p.2 >>= fun q => R.ok (p.1 :: q.1, q.2)) = (fas ρ' >>= fun q => R.ok (d :: q.1, q.2)) from rfl, hg] at p1
        exact p1
    | exc c => rw [hf] at p; exact p
    | no => rw [hf] at p; exact p⟩
theorem dxa_var {i : Nat} (h' : DXA X E ω es tas fas ks) (hN : X.N[i]? = some x := by rfl) (hv : Vis X.env.scope x := by first | exact Or.inl rfl | exact Or.inr (Or.inl rfl) | exact Or.inr (Or.inr rfl)) (hd : (x == ("__debug__" : Str)) = false := by decide)
    (hcd : (x == ("__classdict__" : Str)) = false := by decide) (hs : starEach (.Name x npos :: es) X.env = (false, eval (.Name x npos) X.env) :: starEach es X.env := by rfl) : DXA X E ω (.Name x npos :: es) (tCons (tVar i) tas) (xaVar i fas) (some i :: ks) :=
  ⟨pa_cons (pe_var hN hv hd hcd) h'.pa hs, fun σ ρ F H As Q S p => by
    unfold xaVar at p
    split at p
    · rename_i d0 hρ
      obtain ⟨o0, ho⟩ := S.sl.getO hρ
      obtain ⟨v, B, hσ, hA, r⟩ := S.sl.get ho hρ
      refine ⟨v, hσ, ?_⟩
      refine h'.sem σ ρ F H As _ S ?_
      cases hg : fas ρ with
      | ok q =>
        obtain ⟨ds, ρ'⟩ := q
        rw [hg] at p
        intro vs F1 H1 As1 S1 ar g1
        have p' : PstXA X.mg E X.K ω (some i :: ks) σ As.flatten F H Q (match ρ'[i]? with
          | some (some d) => .ok (d :: ds, ρ')
          | _ => .no) := p
        split at p'
        · rename_i d hd
          exact p' (v :: vs) F1 H1 As1 S1 ⟨d, ds, v, vs, rfl, rfl, hσ, hd, ar⟩ g1
        · exact p'.elim
      | exc c => rw [hg] at p; exact p
      | no => rw [hg] at p; exact p
    · exact p.elim⟩
end

/-! ### the promise of a def that changes its arguments -/
/-- the values of the arguments that are changed -/
def ioV {α : Type} : List Bool → List α → List α
  | true :: ib, v :: vs => v :: ioV ib vs
  | false :: ib, _ :: vs => ioV ib vs
  | _, _ => []
def oOf (b : Bool) : O := if b then .own .fz else .fz
def PstC (mg : Str → Option Value) (E : XK) (K : PySem.W.Frag) (o : O) (vio : List V) (A : List Addr) (F H : Hp) (Q : VK) : R (D × List D) → Prop
  | .ok (d, ds') => ∀ v F' H' B A', RepO K F' H' o d v B → B.Nodup → (∀ x ∈ B, x ∉ A') → AllO (RepO K F' H' (.own .fz)) ds' vio A' → A'.Nodup → GrowA A F H F' H' (B ++ A') → Q v H'
  | .exc c => ∀ H', (∀ x o, H x = some o → x ∉ A → H' x = some o) → E (clsOf mg c) none H'
  | .no => False
def spX (K : PySem.W.Frag) (mg : Str → Option Value) (ib : List Bool) (g : List D → R (D × List D)) (o : O) : Sp := fun vs H Q E => ∃ ds F A, Same F H ∧ RepT K F H (ib.map oOf) ds vs A ∧ A.Nodup ∧ PstC mg E K o (ioV ib vs) A F H Q (g ds)
structure XFn (P : Program) (w : World) (K : PySem.W.Frag) (mg : Str → Option Value) (base : Heap) (CX : CXT) (k : Nat) (x : Str) (ib : List Bool) (g : List D → R (D × List D)) (o : O) : Prop where
  ex : ∃ f fd ps, mg x = some (.ref f) ∧ PySem.W.keepIn K (.ref f) = true ∧ Binds K fd ps [] ∧ FnOk P w K mg base CX k f fd ps (spX K mg ib g o)
/-- names take new data -/
def putL (ρ : Env) : List Nat → List D → Env
  | i :: is, d :: ds => putL (ρ.set i (some d)) is ds
  | _, _ => ρ
def xCall (g : List D → R (D × List D)) (I : List Nat) (fas : Env → R (List D × Env)) (ρ : Env) : R (D × Env) := fas ρ >>= fun p => g p.1 >>= fun q => if q.2.length = I.length then .ok (q.1, putL p.2 I q.2) else .no
def slotsOf : List (Option Nat) → List Nat
  | [] => []
  | none :: ks => slotsOf ks
  | some i :: ks => i :: slotsOf ks
section
variable {K : PySem.W.Frag} {F F' H H' F1 H1 F2 H2 : Hp} {ω ω' : List O} {σ : L2.St}
/-- the arguments, as the callee has them -/
theorem args_in {ρ : Env} {As : List (List Addr)} (S : Stt K ω ρ σ F H As) : ∀ {ks : List (Option Nat)} {ds : List D} {vs : List V}, ArgR K F ρ σ ks ds vs → (∀ i ∈ slotsOf ks, ω[i]? = some (.own .fz)) →
    ∃ A, RepT K F H (ks.map fun k => oOf k.isSome) ds vs A ∧ (∀ x ∈ A, OfM As (slotsOf ks) x) ∧ ((slotsOf ks).Nodup → A.Nodup)
  | [], ds, vs, r, h => by
    obtain ⟨rfl, rfl⟩ := r
    exact ⟨[], ⟨rfl, rfl, rfl⟩, by simp, fun _ => List.nodup_nil⟩
  | none :: ks, ds, vs, r, h => by
    obtain ⟨d, dr, v, vr, rfl, rfl, h3, h4⟩ := r
    obtain ⟨A, h5, h6, h7⟩ := args_in S h4 h
    exact ⟨A, ⟨d, dr, v, vr, [], A, rfl, rfl, rfl, ⟨h3, rfl⟩, h5⟩, h6, h7⟩
  | some i :: ks, ds, vs, r, h => by
    obtain ⟨d, dr, v, vr, rfl, rfl, h3, h4, h5⟩ := r
    obtain ⟨A, h6, h7, h8⟩ := args_in S h5 fun j hj => h j (List.mem_cons_of_mem _ hj)
    obtain ⟨v', B, q1, q2, q3⟩ := S.sl.get (h i List.mem_cons_self) h4
    rw [h3] at q1
    cases q1
    refine ⟨B ++ A, ⟨d, dr, v, vr, B, A, rfl, rfl, rfl, q3, h6⟩, fun x hx => ?_, fun n => ?_⟩
    · rcases List.mem_append.mp hx with hx | hx
      · exact ⟨i, List.mem_cons_self, B, q2, hx⟩
      · exact (h7 x hx).imp fun j hj => List.mem_cons_of_mem _ hj
    · obtain ⟨n1, n2⟩ := List.nodup_cons.mp n
      refine List.nodup_append.mpr ⟨flat_part S.nd q2, h8 n2, fun x hx y hy e => ?_⟩
      subst e
      obtain ⟨j, hj, C, hC, xC⟩ := h7 x hy
      have := flat_apart S.nd q2 hC hx xC
      subst this
      exact n1 hj
theorem io_vals {ρ : Env} : ∀ {ks : List (Option Nat)} {ds : List D} {vs : List V}, ArgR K F ρ σ ks ds vs → ∀ (j : Nat) (i : Nat), (slotsOf ks)[j]? = some i → ∃ v, (ioV (ks.map (·.isSome)) vs)[j]? = some v ∧ σ[i]? = some (some v)
  | [], ds, vs, r, j, i, h => by simp [slotsOf] at h
  | none :: ks, ds, vs, r, j, i, h => by
    obtain ⟨d, dr, v, vr, rfl, rfl, h3, h4⟩ := r
    exact io_vals h4 j i h
  | some i' :: ks, ds, vs, r, j, i, h => by
    obtain ⟨d, dr, v, vr, rfl, rfl, h3, h4, h5⟩ := r
    cases j with
    | zero =>
      simp [slotsOf] at h
      subst h
      exact ⟨v, rfl, h3⟩
    | succ j => exact io_vals h5 j i (by simpa [slotsOf] using h)
/-- names that own nothing take what is owned anew -/
theorem puts_back : ∀ {I : List Nat} {ds : List D} {vs : List V} {A : List Addr} {ρ : Env} {As : List (List Addr)}, Stt K ω ρ σ F H As → AllO (RepO K F H (.own .fz)) ds vs A → ds.length = I.length → A.Nodup → (∀ x ∈ A, x ∉ As.flatten) → (∀ i ∈ I, ω[i]? = some (.own .fz)) → (∀ (j : Nat) (i : Nat), I[j]? = some i → ∃ v, vs[j]? = some v ∧ σ[i]? = some (some v)) →
    ∃ As', Stt K ω (putL ρ I ds) σ F H As' ∧ ∀ x ∈ As'.flatten, x ∈ As.flatten ∨ x ∈ A
  | [], [], vs, A, ρ, As, S, r, hl, nA, ap, hω, hσ => ⟨As, S, fun x h => .inl h⟩
  | i :: I, d :: ds, vs, A, ρ, As, S, r, hl, nA, ap, hω, hσ => by
    obtain ⟨v, vr, B1, B2, rfl, rfl, r1, r2⟩ := r
    obtain ⟨n1, n2, n3⟩ := List.nodup_append.mp nA
    obtain ⟨v', h1, h2⟩ := hσ 0 i rfl
    simp at h1
    subst h1
    have hi := hω i List.mem_cons_self
    have S1 := S.sl.put (i := i) r1
    rw [list_set_self hi, list_set_self h2] at S1
    have S2 : Stt K ω (ρ.set i (some d)) σ F H (As.set i B1) := ⟨S.ex, S1, flat_set_nd S.nd n1 fun x hx j C _ h4 h5 => ap x (List.mem_append_left _ hx) (List.mem_flatten.mpr ⟨C, List.mem_of_getElem? h4, h5⟩)⟩
    obtain ⟨As', S3, h3⟩ := puts_back (I := I) S2 r2 (Nat.succ.inj hl) n2 (fun x hx hf => by
      rcases flat_set hf with q | ⟨j, C, _, h4, h5⟩
      · exact n3 x q x hx rfl
      · exact ap x (List.mem_append_right _ hx) (List.mem_flatten.mpr ⟨C, List.mem_of_getElem? h4, h5⟩)) (fun j hj => hω j (List.mem_cons_of_mem _ hj)) fun j i' h => by
        obtain ⟨w, q1, q2⟩ := hσ (j + 1) i' (by simpa using h)
        exact ⟨w, by simpa using q1, q2⟩
    refine ⟨As', S3, fun x hx => ?_⟩
    rcases h3 x hx with q | q
    · rcases flat_set q with q | ⟨j, C, _, h4, h5⟩
      · exact .inr (List.mem_append_left _ q)
      · exact .inl (List.mem_flatten.mpr ⟨C, List.mem_of_getElem? h4, h5⟩)
    · exact .inr (List.mem_append_right _ q)
  | [], d :: ds, _, _, _, _, _, _, hl, _, _, _, _ => by cases hl
  | i :: I, [], _, _, _, _, _, _, hl, _, _, _, _ => by cases hl
theorem hideE_get : ∀ {M : List Nat} {ρ : Env} {I : List Nat} {ds : List D}, (∀ i ∈ M, i ∈ I) → ds.length = I.length → (∀ i ∈ I, i < ρ.length) → putL (hideE ρ M) I ds = putL ρ I ds := by
  have main : ∀ (I : List Nat) (ds : List D) (ρ1 ρ2 : Env), ds.length = I.length → ρ1.length = ρ2.length → (∀ j, j ∉ I → ρ1[j]? = ρ2[j]?) → putL ρ1 I ds = putL ρ2 I ds := by
    intro I
    induction I with
    | nil =>
      intro ds ρ1 ρ2 hl hn h
      cases ds with
      | nil => exact List.ext_getElem? fun j => h j (by simp)
      | cons d ds => cases hl
    | cons i I ih =>
      intro ds ρ1 ρ2 hl hn h
      cases ds with
      | nil => cases hl
      | cons d ds =>
        refine ih ds _ _ (Nat.succ.inj hl) (by simp [hn]) fun j hj => ?_
        by_cases e : i = j
        · subst e
          rw [List.getElem?_set, List.getElem?_set, hn, if_pos rfl, if_pos rfl]
        · rw [List.getElem?_set_ne e, List.getElem?_set_ne e]
          exact h j (by simp [Ne.symm e, hj])
  intro M ρ I ds hM hl _
  refine main I ds _ _ hl ?_ fun j hj => ?_
  · clear hM
    induction M with
    | nil => rfl
    | cons m M ih => simp [hideE, ih]
  · induction M with
    | nil => rfl
    | cons m M ih =>
      have hm : m ≠ j := fun e => hj (by rw [← e]; exact hM m List.mem_cons_self)
      show ((hideE ρ M).set m none)[j]? = _
      rw [List.getElem?_set_ne hm]
      exact ih fun i hi => hM i (List.mem_cons_of_mem _ hi)
end
section
variable {X : Cx} {E : XK} {c : Cfg} {ω ω1 ω' : List O} {st : Stmt} {sts : List Stmt} {e a b : Expr} {es : List Expr} {t u : TS} {te ta tb : TE} {tas : TA} {f g : Env → R (D × Env)} {fe fa fb : Env → R D} {fas : Env → R (List D × Env)} {o or : O} {M : List Nat} {ks : List (Option Nat)} {pos cpos apos npos : Pos} {x : Str}
theorem ioOk_get {I : List Nat} {ω : List O} (h : ioOk I ω = true) : ∀ i ∈ I, ω[i]? = some (.own .fz) := fun i hi => by
  have q := List.all_eq_true.mp h i hi
  split at q
  · rename_i o ho
    rw [ho]
    cases o with
    | own o =>
      cases o with
      | fz => rfl
      | _ => exact absurd q (by simp [O.isOwn])
    | _ => exact absurd q (by simp [O.isOwn])
  · exact absurd q (by simp)
theorem sx_call {mg : Str → Option Value} {K : PySem.W.Frag} {gx : List D → R (D × List D)} {ib : List Bool} {I : List Nat} (h : SemXA mg E K ω tas fas ks) (hI : slotsOf ks = I) (hib : ks.map (·.isSome) = ib) (hω : ioOk I ω = true) (hn : I.Nodup) : SemX mg E K ω (tCall (spX K mg ib gx o) [] E tas) (xCall gx I fas) o := fun σ ρ F H As Q S p => by
  refine h σ ρ F H As _ S ?_
  unfold xCall at p
  cases hf : fas ρ with
  | exc c => rw [hf] at p; exact p
  | no => rw [hf] at p; exact p
  | ok q =>
    obtain ⟨ds, ρ1⟩ := q
    rw [hf] at p
    intro vs F1 H1 As1 S1 ar g1
    subst hI
    subst hib
    have hω' := ioOk_get hω
    obtain ⟨A, h5, h6, h7⟩ := args_in S1 ar hω'
    refine ⟨ds, F1, A, S1.ex, ?_, h7 hn, ?_⟩
    · rw [List.append_nil, List.map_map]
      exact h5
    rw [List.append_nil]
    have p1 : PstX mg E K ω o σ As.flatten F H Q (gx ds >>= fun q => if q.2.length = (slotsOf ks).length then .ok (q.1, putL ρ1 (slotsOf ks) q.2) else .no) := p
    have p2 := PstX.grow g1 p1
    have sub : ∀ x ∈ A, x ∈ As1.flatten := fun x hx => (h6 x hx).flat
    cases hg : gx ds with
    | no => rw [hg] at p2; exact p2
    | exc c =>
      rw [hg] at p2
      exact fun H' q => p2 H' fun x o h1 h2 => q x o h1 fun h3 => h2 (sub x h3)
    | ok q =>
      obtain ⟨d, ds'⟩ := q
      rw [hg, ok_bind] at p2
      by_cases hlen : ds'.length = (slotsOf ks).length
      · rw [if_pos hlen] at p2
        intro v F2 H2 B A' r nB apB rA nA g2
        -- the names that own none of it
        have E1 : Stt K ω (hideE ρ1 (slotsOf ks)) σ F2 H2 (emptied As1 (slotsOf ks)) := by
          refine ⟨g2.fh, (S1.sl.hides (slotsOf ks)).keep g2.ff fun x hx => ?_, emptied_nd S1.nd _⟩
          have xin := emptied_sub hx
          have nA : x ∉ A := fun hA => emptied_apart S1 (M := slotsOf ks) (B := A) (fun y hy => .inr (h6 y hy)) x hA hx
          have q := S1.sl.mem xin
          refine ⟨g2.sep x q.1 q.2 nA, ?_⟩
          cases hh : H1 x with
          | none => exact absurd hh q.2
          | some u => exact g2.keep x u hh nA
        have ap : ∀ x ∈ B ++ A', x ∉ (emptied As1 (slotsOf ks)).flatten := fun x hx hf => by
          rcases g2.new x hx with q | q
          · exact emptied_apart S1 (M := slotsOf ks) (B := A) (fun y hy => .inr (h6 y hy)) x q hf
          · exact (S1.sl.mem (emptied_sub hf)).2 q
        obtain ⟨As', S3, h3⟩ := puts_back (I := slotsOf ks) E1 rA hlen nA (fun x hx => ap x (List.mem_append_right _ hx)) hω' fun j i hj => by
          obtain ⟨w, q1, q2⟩ := io_vals ar j i hj
          exact ⟨w, q1, q2⟩
        rw [hideE_get (fun i h => h) hlen (fun i hi => by rw [S1.sl.lens.1]; exact (List.getElem?_eq_some_iff.mp (hω' i hi)).1)] at S3
        refine p2 v F2 H2 As' B S3 r nB (fun x hx hf => ?_) ⟨g2.ff, g2.fh, fun x u hx hn => g2.keep x u hx fun hA => hn (sub x hA), g2.th, fun x q1 q2 q3 => g2.sep x q1 q2 fun hA => q3 (sub x hA), fun x hx => ?_⟩
        · rcases h3 x hf with q | q
          · exact ap x (List.mem_append_left _ hx) q
          · exact apB x hx q
        · rcases List.mem_append.mp hx with hx | hx
          · exact (g2.new x (List.mem_append_left _ hx)).imp (sub x) id
          · rcases h3 x hx with q | q
            · exact .inl (emptied_sub q)
            · exact (g2.new x (List.mem_append_right _ q)).imp (sub x) id
      · rw [if_neg hlen] at p2
        exact p2.elim
theorem dx_call {CX : CXT} {k : Nat} {p : Pos} {gx : List D → R (D × List D)} {ib : List Bool} (C : XFn X.prog X.w X.K X.mg X.base CX k x ib gx o) (hr : Room k X.A) (hx : Passes CX X E) (ha : DXA X E ω (e :: es) tas fas ks) (I : List Nat) (hI : slotsOf ks = I := by rfl) (hib : ks.map (·.isSome) = ib := by rfl) (hω : ioOk I ω = true := by rfl) (hn : I.Nodup := by decide)
    (hg : Gl X x := by rfl) (hdb : (x == ("__debug__" : Str)) = false := by decide) (he : starEach (e :: es) X.env = (false, eval e X.env) :: starEach es X.env := by rfl) (hpl : (backTo pos (starEach es X.env)).any (·.1) = false := by rfl) :
    DX X E ω (.Call (.Name x p) (e :: es) [] pos) (tCall (spX X.K X.mg ib gx o) [] E tas) (xCall gx I fas) o := by
  obtain ⟨f, fd, ps, h1, h2, h3, h4⟩ := C.ex
  exact ⟨pe_call h4 hr hg h1 h2 h3 .nil hx ha.pa hdb he hpl, sx_call ha.sem hI hib hω hn⟩

/-! ### statements of such -/
def sAsgX (i : Nat) (f : Env → R (D × Env)) (ρ : Env) : R Fl := f ρ >>= fun q => .ok (.nx (q.2.set i (some q.1)))
def sRetX (f : Env → R (D × Env)) (ρ : Env) : R Fl := f ρ >>= fun q => .ok (.rt q.1 q.2)
theorem sem_asgX {mg : Str → Option Value} {K : PySem.W.Frag} {i : Nat} (hW : c.W.contains i = true) (h : SemX mg E K ω te f o) : SemS mg E K c ω (tAsg te (gName i)) (sAsgX i f) (ω.set i o) or := fun σ ρ F H As Dd S p => by
  refine h σ ρ F H As _ S ?_
  unfold sAsgX at p
  cases hf : f ρ with
  | ok q =>
    obtain ⟨d, ρ'⟩ := q
    rw [hf] at p
    intro v F1 H1 As1 B S1 r n ap g
    have S2 : Stt K (ω.set i o) (ρ'.set i (some d)) (σ.set i (some v)) F1 H1 (As1.set i B) := ⟨S1.ex, S1.sl.put r, flat_set_nd S1.nd n fun x hx j C _ h2 h3 => ap x hx (List.mem_flatten.mpr ⟨C, List.mem_of_getElem? h2, h3⟩)⟩
    refine p _ F1 H1 _ S2 ⟨g.sub fun x hx => ?_, set_off hW⟩
    rcases flat_set hx with q | ⟨j, C, _, h2, h3⟩
    · exact List.mem_append_left _ q
    · exact List.mem_append_right _ (List.mem_flatten.mpr ⟨C, List.mem_of_getElem? h2, h3⟩)
  | exc e => rw [hf] at p; exact p
  | no => rw [hf] at p; exact p
theorem ds_setX {i : Nat} {pos' : Pos} (hN : X.N.Nodup) (he : DX X E ω e te f o) (hx : Loc X.env.scope x := by first | exact Or.inl rfl | exact Or.inr rfl) (hi : X.N[i]? = some x := by rfl) (hs : swapsWith e (some (.Name x pos')) pos.line X.env = pure false := by rfl)
    (hf : X.fn x = true ∨ X.env.scope.names.lookup x = some .local := by first | exact .inl rfl | exact .inr rfl | assumption) (hW : c.W.contains i = true := by rfl) : DS X E c ω (.Assign [.Name x pos'] e pos) (tAsg te (gName i)) (sAsgX i f) (ω.set i o) or :=
  ⟨ps_set hN hi hx he.pe hs hf, sem_asgX hW he.sem⟩
theorem ds_retX (he : DX X E ω e te f or) (hio : ioOk c.io ω = true := by rfl) : DS X E c ω (.Return (some e) pos) (tRet te) (sRetX f) ω' or :=
  ⟨ps_ret he.pe, fun σ ρ F H As Dd S p => by
    refine he.sem σ ρ F H As _ S ?_
    unfold sRetX at p
    cases hf : f ρ with
    | ok q =>
      obtain ⟨d, ρ'⟩ := q
      rw [hf] at p
      exact fun v F1 H1 As1 B S1 r n ap g => p v σ F1 H1 B As1 ω r n ap S1 hio (.same g)
    | exc e => rw [hf] at p; exact p
    | no => rw [hf] at p; exact p⟩
end

/-! ### the rule for such a def -/
def outs (ρ : Env) : List Nat → Option (List D)
  | [] => some []
  | i :: is => match ρ[i]?, outs ρ is with
    | some (some d), some ds => some (d :: ds)
    | _, _ => none
def leaveX (I : List Nat) : R Fl → R (D × List D)
  | .ok (.rt d ρ) => match outs ρ I with
    | some ds => .ok (d, ds)
    | none => .no
  | _ => .no
def fnX (n : Nat) (I : List Nat) (f : Env → R Fl) (ds : List D) : R (D × List D) := leaveX I (f (enter n ds))
/-- the places of the arguments that are changed -/
def ioI : Nat → List Bool → List Nat
  | _, [] => []
  | n, true :: ib => n :: ioI (n + 1) ib
  | n, false :: ib => ioI (n + 1) ib
section
variable {K : PySem.W.Frag} {F F' H H' F1 H1 F2 H2 : Hp} {ω ω' : List O} {σ : L2.St}
theorem repT_split : ∀ {os : List O} {ds : List D} {vs : List V} {A : List Addr}, RepT K F H os ds vs A → ∃ Bs, Sl K F H os (ds.map some) (vs.map some) Bs ∧ Bs.flatten = A
  | [], ds, vs, A, r => by
    obtain ⟨rfl, rfl, rfl⟩ := r
    exact ⟨[], .nil, rfl⟩
  | o :: os, ds, vs, A, r => by
    obtain ⟨d, dr, v, vr, B1, B2, rfl, rfl, rfl, r1, r2⟩ := r
    obtain ⟨Bs, h1, h2⟩ := repT_split r2
    exact ⟨B1 :: Bs, .some r1 h1, by rw [List.flatten_cons, h2]⟩
theorem sl_more : ∀ {os : List O} {ρ : Env} {σ : L2.St} {Bs : List (List Addr)}, Sl K F H os ρ σ Bs → ∀ ωl : List O, Sl K F H (os ++ ωl) (ρ ++ List.replicate ωl.length none) (σ ++ List.replicate ωl.length none) (Bs ++ List.replicate ωl.length [])
  | _, _, _, _, .nil, ωl => by
    induction ωl with
    | nil => exact .nil
    | cons o ωl ih => simpa [List.replicate_succ] using Sl.none (o := o) (x := none) ih
  | _, _, _, _, .none S, ωl => .none (sl_more S ωl)
  | _, _, _, _, .some r S, ωl => .some r (sl_more S ωl)
theorem ioI_vals : ∀ {ib : List Bool} {vs : List V} {n : Nat}, vs.length = ib.length → ∀ (j i : Nat), (ioI n ib)[j]? = some i → n ≤ i ∧ ∃ v, (ioV ib vs)[j]? = some v ∧ vs[i - n]? = some v
  | [], vs, n, hl, j, i, h => by simp [ioI] at h
  | true :: ib, v :: vs, n, hl, j, i, h => by
    cases j with
    | zero =>
      simp [ioI] at h
      subst h
      exact ⟨Nat.le_refl _, v, rfl, by simp⟩
    | succ j =>
      obtain ⟨h1, w, h2, h3⟩ := ioI_vals (vs := vs) (n := n + 1) (Nat.succ.inj hl) j i (by simpa [ioI] using h)
      refine ⟨by omega, w, h2, ?_⟩
      have e : i - n = (i - (n + 1)) + 1 := by omega
      rw [e]
      exact h3
  | false :: ib, v :: vs, n, hl, j, i, h => by
    obtain ⟨h1, w, h2, h3⟩ := ioI_vals (vs := vs) (n := n + 1) (Nat.succ.inj hl) j i (by simpa [ioI] using h)
    refine ⟨by omega, w, h2, ?_⟩
    have e : i - n = (i - (n + 1)) + 1 := by omega
    rw [e]
    exact h3
  | _ :: ib, [], n, hl, j, i, h => by cases hl
theorem ioI_len {α : Type} : ∀ {ib : List Bool} {vs : List α} {n : Nat}, vs.length = ib.length → (ioV ib vs).length = (ioI n ib).length
  | [], vs, n, hl => by cases vs <;> rfl
  | true :: ib, v :: vs, n, hl => congrArg Nat.succ (ioI_len (n := n + 1) (Nat.succ.inj hl))
  | false :: ib, v :: vs, n, hl => ioI_len (n := n + 1) (Nat.succ.inj hl)
  | _ :: ib, [], n, hl => by cases hl
theorem ioI_lt : ∀ {ib : List Bool} {n i : Nat}, i ∈ ioI n ib → n ≤ i ∧ i < n + ib.length
  | [], n, i, h => by simp [ioI] at h
  | true :: ib, n, i, h => by
    rcases List.mem_cons.mp h with rfl | h
    · exact ⟨Nat.le_refl _, by simp⟩
    · obtain ⟨h1, h2⟩ := ioI_lt h
      exact ⟨by omega, by simp only [List.length_cons]; omega⟩
  | false :: ib, n, i, h => by
    obtain ⟨h1, h2⟩ := ioI_lt (ib := ib) (n := n + 1) h
    exact ⟨by omega, by simp only [List.length_cons]; omega⟩
theorem ioI_nd : ∀ {ib : List Bool} {n : Nat}, (ioI n ib).Nodup
  | [], n => List.nodup_nil
  | true :: ib, n => List.nodup_cons.mpr ⟨fun h => by have := (ioI_lt h).1; omega, ioI_nd⟩
  | false :: ib, n => ioI_nd (ib := ib) (n := n + 1)
/-- what the names hold at the end -/
theorem outs_rep {ρ : Env} {As : List (List Addr)} (S : Stt K ω ρ σ F H As) : ∀ {I : List Nat} {ds : List D} {vs : List V}, outs ρ I = some ds → vs.length = I.length → I.Nodup → (∀ i ∈ I, ω[i]? = some (.own .fz)) → (∀ (j i : Nat), I[j]? = some i → ∃ v, vs[j]? = some v ∧ σ[i]? = some (some v)) →
    ∃ A, AllO (RepO K F H (.own .fz)) ds vs A ∧ A.Nodup ∧ ∀ x ∈ A, OfM As I x
  | [], ds, vs, h, hl, n, hω, hσ => by
    cases h
    have : vs = [] := List.eq_nil_of_length_eq_zero hl
    subst this
    exact ⟨[], ⟨rfl, rfl⟩, List.nodup_nil, by simp⟩
  | i :: I, ds, vs, h, hl, n, hω, hσ => by
    unfold outs at h
    split at h
    · rename_i d ds' h1 h2
      cases h
      cases vs with
      | nil => cases hl
      | cons v vr =>
        obtain ⟨n1, n2⟩ := List.nodup_cons.mp n
        obtain ⟨v', q1, q2⟩ := hσ 0 i rfl
        simp at q1
        subst q1
        obtain ⟨v', B, q3, q4, q5⟩ := S.sl.get (hω i List.mem_cons_self) h1
        rw [q2] at q3
        cases q3
        obtain ⟨A, r1, r2, r3⟩ := outs_rep S (I := I) h2 (Nat.succ.inj hl) n2 (fun j hj => hω j (List.mem_cons_of_mem _ hj)) fun j i' hj => by
          obtain ⟨w, z1, z2⟩ := hσ (j + 1) i' (by simpa using hj)
          exact ⟨w, by simpa using z1, z2⟩
        refine ⟨B ++ A, ⟨v, vr, B, A, rfl, rfl, q5, r1⟩, List.nodup_append.mpr ⟨flat_part S.nd q4, r2, fun x hx y hy e => ?_⟩, fun x hx => ?_⟩
        · subst e
          obtain ⟨k, hk, C, hC, xC⟩ := r3 x hy
          have := flat_apart S.nd q4 hC hx xC
          subst this
          exact n1 hk
        · rcases List.mem_append.mp hx with hx | hx
          · exact ⟨i, List.mem_cons_self, B, q4, hx⟩
          · exact (r3 x hx).imp fun j hj => List.mem_cons_of_mem _ hj
    · cases h
end
theorem fn_okX {P : Program} {w : World} {K : PySem.W.Frag} {mg : Str → Option Value} {base : Heap} {x qual : Str} {st : Stmt} {f : Addr} {fd : FuncData} {N ps : List Str} {k : Nat} {fb : Env → R Fl} {ωl : List O} {o : O} {W : List Nat} {ib : List Bool} (Fn : Fun K x qual st f fd) (S : FnScope N ps (defScope st))
    (hp : ib.length = ps.length) (hl : ib.length + ωl.length = N.length) (hW : ((ioI 0 ib).all fun i => !W.contains i) = true)
    (hbody : ∀ (cdv : Value) (A : Around) (outer : List PySem.Env) (s : Shared) (H : Hp) (E : XK), Room k (A.deeper (envOfC qual (defScope st) s.heap.objs.size f cdv)) →
      ∃ t ω', DSs (cxOf CX0 P w K mg base N qual (defScope st) f cdv A outer s H E).nox E0 ⟨W, ioI 0 ib⟩ (ib.map oOf ++ ωl) (defBody st) t fb ω' o) : FnOk P w K mg base CX0 (k + 1) f fd ps (spX K mg ib (fnX N.length (ioI 0 ib) fb) o) := by
  refine Fn.ok S (fun vs H Q E h => ?_) (fun cdv A outer s H vs Q E hr h => ?_)
  · obtain ⟨ds, F, A, _, r, _⟩ := h
    rw [(repT_len r).1, List.length_map, hp]
  · obtain ⟨ds, F, A0, e, r, nA, p⟩ := h
    obtain ⟨t, ω', B⟩ := hbody cdv A outer s H E hr
    refine ⟨t, B.pss, ?_⟩
    have hlen : ds.length = ib.length := by rw [(repT_len r).2, List.length_map]
    have hlenv : vs.length = ib.length := by rw [(repT_len r).1, List.length_map]
    have e1 : enter N.length ds = ds.map some ++ List.replicate ωl.length none := by
      unfold enter
      rw [hlen, ← hl, Nat.add_sub_cancel_left]
    have e2 : L2.start N vs = vs.map some ++ List.replicate ωl.length none := by
      unfold L2.start
      rw [hlenv, ← hl, Nat.add_sub_cancel_left]
    obtain ⟨Bs, hB1, hB2⟩ := repT_split r
    have fl : (Bs ++ List.replicate ωl.length ([] : List Addr)).flatten = A0 := by
      rw [List.flatten_append, flat_nils, List.append_nil, hB2]
    have S0 : Stt K (ib.map oOf ++ ωl) (enter N.length ds) (L2.start N vs) F H (Bs ++ List.replicate ωl.length []) := by
      refine ⟨e, ?_, by rw [fl]; exact nA⟩
      rw [e1, e2]
      exact sl_more hB1 ωl
    refine B.sem _ _ F H _ _ S0 ?_
    rw [fl]
    unfold fnX at p
    cases hf : fb (enter N.length ds) with
    | ok fl =>
      rw [hf] at p
      cases fl with
      | nx ρ' => exact (show False from p).elim
      | rt d ρ' =>
        intro v σ' F' H' B As' w' rB nB ap S' io g
        have p' : PstC mg E K o (ioV ib vs) A0 F H Q (match outs ρ' (ioI 0 ib) with
          | some ds => .ok (d, ds)
          | none => .no) := p
        split at p'
        · rename_i ds' ho
          obtain ⟨A', h1, h2, h3⟩ := outs_rep S' (vs := ioV ib vs) ho (ioI_len hlenv) ioI_nd (ioOk_get io) fun j i hj => by
            obtain ⟨_, w0, q1, q2⟩ := ioI_vals hlenv j i hj
            refine ⟨w0, q1, ?_⟩
            have hi : i ∈ ioI 0 ib := List.mem_of_getElem? hj
            have nW : i ∉ W := fun h => by
              have z := List.all_eq_true.mp hW i hi
              rw [List.contains_iff_mem.mpr h] at z
              cases z
            rw [g.ag i nW, e2]
            rw [Nat.sub_zero] at q2
            rw [List.getElem?_append_left (by rw [List.length_map]; exact (List.getElem?_eq_some_iff.mp q2).1), List.getElem?_map, q2]
            rfl
          exact p' v F' H' B A' rB nB (fun x hx hA => ap x hx (h3 x hA).flat) h1 h2 (g.g.sub fun x hx => by
            rcases List.mem_append.mp hx with hx | hx
            · exact List.mem_append_left _ hx
            · exact List.mem_append_right _ (h3 x hx).flat)
        · exact p'.elim
    | exc c => rw [hf] at p; exact (show False from p).elim
    | no => rw [hf] at p; exact (show False from p).elim
end Dn

/-! What the printed walks lean on. -/
namespace Dn
open PySem L2 PyProof.Rows
theorem XFn.mono {P : Program} {w : World} {K : PySem.W.Frag} {mg : Str → Option Value} {base : Heap} {CX : CXT} {j k : Nat} {x : Str} {ib : List Bool} {g : List D → R (D × List D)} {o : O} (C : XFn P w K mg base CX j x ib g o) (h : j ≤ k) : XFn P w K mg base CX k x ib g o := by
  obtain ⟨f, fd, ps, h1, h2, h3, h4⟩ := C.ex
  exact ⟨⟨f, fd, ps, h1, h2, h3, h4.mono h⟩⟩
/-- a def of which nothing is said -/
theorem fn_no {P : Program} {w : World} {K : PySem.W.Frag} {mg : Str → Option Value} {base : Heap} {x qual : Str} {st : Stmt} {f : Addr} {fd : FuncData} {N ps : List Str} {k n : Nat} {o : O} (Fn : Fun K x qual st f fd) (S : FnScope N ps (defScope st)) :
    FnOk P w K mg base CX0 (k + 1) f fd ps (spD K mg n (fun _ => .no) o) := by
  refine Fn.ok S (fun vs H Q E h => ?_) (fun cdv A outer s H vs Q E hr h => ?_)
  · obtain ⟨ds, F, _, r, hn, p⟩ := h
    exact p.elim
  · obtain ⟨ds, F, _, r, hn, p⟩ := h
    exact p.elim
section
variable {P : Program} {w : World} {K : PySem.W.Frag} {mg : Str → Option Value} {base : Heap} {x : Str} {st : Stmt} {N ps : List Str} {k kk n nN : Nat} {fb : Env → R Fl} {g : List D → R D} {ωp ωl : List O} {o : O} {W : List Nat}
/-- what the top has written: a def -/
def Has (K : PySem.W.Frag) (mg : Str → Option Value) (x : Str) (st : Stmt) (ps : List Str) : Prop := ∃ f fd, mg x = some (.ref f) ∧ PySem.W.keepIn K (.ref f) = true ∧ Binds K fd ps [] ∧ Fun K x x st f fd
theorem dfn_ok (h : Has K mg x st ps) (S : FnScope N ps (defScope st)) (hg : g = fnD N.length fb) (hk : kk = k + 1) (hn : n = ps.length) (hp : ωp.length = ps.length) (hz : ωp.all O.isFz = true) (hl : ωp.length + ωl.length = N.length)
    (hbody : ∀ (f : Addr) (cdv : Value) (A : Around) (outer : List PySem.Env) (s : Shared) (H : Hp) (E : XK), Room k (A.deeper (envOfC x (defScope st) s.heap.objs.size f cdv)) →
      ∃ t ω', DSs (cxOf CX0 P w K mg base N x (defScope st) f cdv A outer s H E).nox E0 ⟨W, []⟩ (ωp ++ ωl) (defBody st) t fb ω' o) : DFn P w K mg base CX0 kk x n g o := by
  obtain ⟨f, fd, h1, h2, h3, h4⟩ := h
  subst hg hk hn
  exact ⟨⟨f, fd, ps, h1, h2, h3, fn_ok (W := W) h4 S hp hz hl (hbody f)⟩⟩
theorem dfn_no (h : Has K mg x st ps) (S : FnScope N ps (defScope st)) (hk : kk = k + 1) : DFn P w K mg base CX0 kk x n (fun _ => .no) o := by
  obtain ⟨f, fd, h1, h2, h3, h4⟩ := h
  subst hk
  exact ⟨⟨f, fd, ps, h1, h2, h3, fn_no h4 S⟩⟩
theorem xfn_ok {ib : List Bool} {g : List D → R (D × List D)} (h : Has K mg x st ps) (S : FnScope N ps (defScope st)) (hg : g = fnX N.length (ioI 0 ib) fb) (hk : kk = k + 1) (hp : ib.length = ps.length) (hl : ib.length + ωl.length = N.length) (hW : ((ioI 0 ib).all fun i => !W.contains i) = true)
    (hbody : ∀ (f : Addr) (cdv : Value) (A : Around) (outer : List PySem.Env) (s : Shared) (H : Hp) (E : XK), Room k (A.deeper (envOfC x (defScope st) s.heap.objs.size f cdv)) →
      ∃ t ω', DSs (cxOf CX0 P w K mg base N x (defScope st) f cdv A outer s H E).nox E0 ⟨W, ioI 0 ib⟩ (ib.map oOf ++ ωl) (defBody st) t fb ω' o) : XFn P w K mg base CX0 kk x ib g o := by
  obtain ⟨f, fd, h1, h2, h3, h4⟩ := h
  subst hg hk
  exact ⟨⟨f, fd, ps, h1, h2, h3, fn_okX (W := W) h4 S hp hl hW (hbody f)⟩⟩
end
/-! ### comprehensions, what is asked of the block told anew for each block -/
section
variable {X : Cx} {E : XK} {c : Cfg} {ω : List O} {o or : O} {elt tg iter : Expr} {ifs : List Expr} {scope : Scope} {own : List (Str × Nat)} {pos : Pos} {wi : TI} {fi : Env → R (List D)} {fc : Env → R Bool} {fe : Env → R D} {i : Nat}
theorem wipe_one (x : Str) (i : Nat) : ∀ (σ : L2.St) (v : V), L2.wipe ((L2.wipe σ ([(x, i)].map (·.2))).set i (some v)) ([(x, i)].map (·.2)) = L2.wipe σ ([(x, i)].map (·.2)) := fun σ v => by
  show ((σ.set i none).set i (some v)).set i none = σ.set i none
  rw [List.set_set, List.set_set]
abbrev ForBlk (X : Cx) (scope : Scope) (p : Cx → Prop) : Prop := ∀ (s : Shared) (H : Hp) (C : Addr) (cl : List (Str × Addr)) (fp : List Addr), p (X.blk s H scope (compEnvC scope cl C X.env) fp)
def teAll (X : Cx) (scope : Scope) (e : Expr) : TE := fun σ H Q => ForBlk X scope fun Y => ∃ te, PE Y e te ∧ te σ H Q
def ttAll (X : Cx) (scope : Scope) (ifs : List Expr) : TT := fun σ H Q => ForBlk X scope fun Y => ∃ tt, PTs Y ifs tt ∧ tt σ H Q
theorem de_all (h : ForBlk X scope fun Y => ∃ te, DE Y E ω elt te fe .fz []) : ForBlk X scope fun Y => DE Y E ω elt (teAll X scope elt) fe .fz [] := fun s H C cl fp =>
  ⟨⟨fun pins s' σ H' Q I q => by
    obtain ⟨te, h1, h2⟩ := q s H C cl fp
    exact h1.run pins s' σ H' Q I h2⟩, fun σ ρ F H As Q S p s' H' C' cl' fp' => by
    obtain ⟨te, h1⟩ := h s' H' C' cl' fp'
    exact ⟨te, h1.pe, h1.sem σ ρ F H As Q S p⟩⟩
theorem dts_all (h : ForBlk X scope fun Y => ∃ tt, DTs Y E ω ifs tt fc) : ForBlk X scope fun Y => DTs Y E ω ifs (ttAll X scope ifs) fc := fun s H C cl fp =>
  ⟨⟨fun pins s' σ H' Q I q => by
    obtain ⟨te, h1, h2⟩ := q s H C cl fp
    exact h1.run pins s' σ H' Q I h2⟩, fun σ ρ F H As Q S p s' H' C' cl' fp' => by
    obtain ⟨te, h1⟩ := h s' H' C' cl' fp'
    exact ⟨te, h1.pts, h1.sem σ ρ F H As Q S p⟩⟩
theorem de_lcE (hc : X.calm = true) (hN : X.N.Nodup) (hi : ω[i]? = some .fz) (hvs : (own.map (·.2)).contains i = true) (hw : ∀ (σ : L2.St) x, L2.wipe ((L2.wipe σ (own.map (·.2))).set i (some x)) (own.map (·.2)) = L2.wipe σ (own.map (·.2))) (ti : DI X E ω tg iter wi fi) (ok : BlkOk X.N X.env.scope scope own)
    (hg : ForBlk X scope fun Y => PG Y tg (gName i)) (ht : ForBlk X scope fun Y => ∃ tt, DTs Y E ω ifs tt fc) (he : ForBlk X scope fun Y => ∃ te, DE Y E ω elt te fe .fz []) (hs : ∀ x, foldedSetIterable iter X.env x = pure x := by intro _; rfl) :
    DE X E ω (.ListComp elt [⟨tg, iter, ifs, 0⟩] scope pos) (tLc wi (gName i) (ttAll X scope ifs) (teAll X scope elt) (own.map (·.2))) (eLc fi (own.map (·.2)) (setN i) fc fe) (.own .fz) [] :=
  de_lc hc hN hi hvs hw ti ok hg (dts_all ht) (de_all he) hs
theorem ds_setLcE {j : Nat} {y : Str} {py spos : Pos} (hc : X.calm = true) (hN : X.N.Nodup) (hi : ω[i]? = some .fz)
    (hvs : (own.map (·.2)).contains i = true) (hw : ∀ (σ : L2.St) x, L2.wipe ((L2.wipe σ (own.map (·.2))).set i (some x)) (own.map (·.2)) = L2.wipe σ (own.map (·.2))) (ti : DI X E ω tg iter wi fi) (ok : BlkOk X.N X.env.scope scope own)
    (hg : ForBlk X scope fun Y => PG Y tg (gName i)) (ht : ForBlk X scope fun Y => ∃ tt, DTs Y E ω ifs tt fc) (he : ForBlk X scope fun Y => ∃ te, DE Y E ω elt te fe .fz []) (hy : X.N[j]? = some y := by rfl) (hyl : X.env.scope.names.lookup y = some .local := by rfl)
    (hsw : swapsWith (.ListComp elt [⟨tg, iter, ifs, 0⟩] scope pos) (some (.Name y py)) spos.line X.env = pure true := by exact sw_true rfl rfl rfl (by decide +kernel)) (hs : ∀ x, foldedSetIterable iter X.env x = pure x := by intro _; rfl) (hW : c.W.contains j = true := by rfl) :
    DS X E c ω (.Assign [.Name y py] (.ListComp elt [⟨tg, iter, ifs, 0⟩] scope pos) spos) (tAsg (tLc wi (gName i) (ttAll X scope ifs) (teAll X scope elt) (own.map (·.2))) (gName j)) (sAsg j [] (eLc fi (own.map (·.2)) (setN i) fc fe)) (ω.set j (.own .fz)) or :=
  ds_setLc hc hN hi hvs hw ti ok hg (dts_all ht) (de_all he) hy hyl hsw hs hW
theorem ds_setLcFE {j : Nat} {y : Str} {py spos : Pos} (hc : X.calm = true) (hN : X.N.Nodup) (hi : ω[i]? = some .fz)
    (hvs : (own.map (·.2)).contains i = true) (hw : ∀ (σ : L2.St) x, L2.wipe ((L2.wipe σ (own.map (·.2))).set i (some x)) (own.map (·.2)) = L2.wipe σ (own.map (·.2))) (ti : DI X E ω tg iter wi fi) (ok : BlkOk X.N X.env.scope scope own)
    (hg : ForBlk X scope fun Y => PG Y tg (gName i)) (ht : ForBlk X scope fun Y => ∃ tt, DTs Y E ω ifs tt fc) (he : ForBlk X scope fun Y => ∃ te, DE Y E ω elt te fe .fz []) (hy : X.N[j]? = some y := by rfl) (hyl : X.env.scope.names.lookup y = some .local := by rfl)
    (hsw : swapsWith (.ListComp elt [⟨tg, iter, ifs, 0⟩] scope pos) (some (.Name y py)) spos.line X.env = pure true := by exact sw_true rfl rfl rfl (by decide +kernel)) (hs : ∀ x, foldedSetIterable iter X.env x = pure x := by intro _; rfl) (hW : c.W.contains j = true := by rfl) :
    DS X E c ω (.Assign [.Name y py] (.ListComp elt [⟨tg, iter, ifs, 0⟩] scope pos) spos) (tAsg (tLc wi (gName i) (ttAll X scope ifs) (teAll X scope elt) (own.map (·.2))) (gName j)) (sAsg j [] (eLc fi (own.map (·.2)) (setN i) fc fe)) (ω.set j .fz) or :=
  ds_setLcF hc hN hi hvs hw ti ok hg (dts_all ht) (de_all he) hy hyl hsw hs hW
end
end Dn

/-! Changing what is owned within a tuple: x[0][1].append(e), x[0][2][b] = e. -/
namespace Dn
open PySem L2 PyProof.Rows

/-! ### a place within tuples -/
def atP : O → D → List Nat → Option (O × D)
  | o, d, [] => some (o, d)
  | .tup os, .tup ds, j :: π => match os[j]?, ds[j]? with
    | some o, some d => atP o d π
    | _, _ => none
  | _, _, _ :: _ => none
def setP : D → List Nat → D → D
  | _, [], e => e
  | .tup ds, j :: π, e => match ds[j]? with
    | some d => .tup (ds.set j (setP d π e))
    | none => .tup ds
  | d, _ :: _, _ => d
def valP (F : Hp) : V → List Nat → V → Prop
  | v, [], w => w = v
  | v, j :: π, w => ∃ a vs u, v = .ref a ∧ F a = some (.tup vs) ∧ vs[j]? = some u ∧ valP F u π w
section
variable {K : PySem.W.Frag} {F H : Hp}
theorem repT_keepA {a : Addr} {u : HO} {os : List O} {ds : List D} {vs : List V} {B : List Addr} (r : RepT K F H os ds vs B) (h : a ∉ B) : RepT K F (upd H a u) os ds vs B :=
  RepT.keep os ds vs B (Same.refl F) (fun x hx => ⟨(RepT.mem os ds vs B r hx).1, upd_ne fun e => h (by rw [← e]; exact hx)⟩) r
theorem repO_keepA {a : Addr} {u : HO} {o : O} {d : D} {v : V} {B : List Addr} (r : RepO K F H o d v B) (h : a ∉ B) : RepO K F (upd H a u) o d v B :=
  RepO.keep o d v B (Same.refl F) (fun x hx => ⟨(RepO.mem o d v B r hx).1, upd_ne fun e => h (by rw [← e]; exact hx)⟩) r
theorem repT_at : ∀ {os : List O} {ds : List D} {vs : List V} {B : List Addr} {j : Nat} {o : O} {d : D}, RepT K F H os ds vs B → os[j]? = some o → ds[j]? = some d →
    ∃ v Bj, vs[j]? = some v ∧ RepO K F H o d v Bj ∧ (∀ x ∈ Bj, x ∈ B) ∧ (B.Nodup → Bj.Nodup) ∧ ∀ a u d2, a ∈ Bj → B.Nodup → RepO K F (upd H a u) o d2 v Bj → RepT K F (upd H a u) os (ds.set j d2) vs B
  | [], ds, vs, B, j, o, d, r, ho, hd => by simp at ho
  | o :: os, ds, vs, B, 0, o', d', r, ho, hd => by
    obtain ⟨d, dr, v, vr, B1, B2, rfl, rfl, rfl, h4, h5⟩ := r
    simp at ho hd
    subst ho hd
    exact ⟨v, B1, rfl, h4, fun x hx => List.mem_append_left _ hx, fun n => (List.nodup_append.mp n).1, fun a u d2 ha n r2 =>
      ⟨d2, dr, v, vr, B1, B2, rfl, rfl, rfl, r2, repT_keepA h5 fun h => (List.nodup_append.mp n).2.2 a ha a h rfl⟩⟩
  | o :: os, ds, vs, B, j + 1, o', d', r, ho, hd => by
    obtain ⟨d, dr, v, vr, B1, B2, rfl, rfl, rfl, h4, h5⟩ := r
    obtain ⟨w, Bj, q1, q2, q3, q4, q5⟩ := repT_at (j := j) h5 (by simpa using ho) (by simpa using hd)
    exact ⟨w, Bj, by simpa using q1, q2, fun x hx => List.mem_append_right _ (q3 x hx), fun n => q4 (List.nodup_append.mp n).2.1, fun a u d2 ha n r2 =>
      ⟨d, dr.set j d2, v, vr, B1, B2, rfl, rfl, rfl, repO_keepA h4 fun h => (List.nodup_append.mp n).2.2 a h a (q3 a ha) rfl, q5 a u d2 ha (List.nodup_append.mp n).2.1 r2⟩⟩
theorem repO_at : ∀ (π : List Nat) {o : O} {d : D} {v : V} {B : List Addr} {o' : O} {d' : D}, RepO K F H o d v B → atP o d π = some (o', d') →
    ∃ w B', valP F v π w ∧ RepO K F H o' d' w B' ∧ (∀ x ∈ B', x ∈ B) ∧ ∀ a u d2, a ∈ B' → B.Nodup → RepO K F (upd H a u) o' d2 w B' → RepO K F (upd H a u) o (setP d π d2) v B
  | [], o, d, v, B, o', d', r, h => by
    have e : (o, d) = (o', d') := Option.some.inj (by rw [← h]; cases o <;> cases d <;> rfl)
    cases e
    exact ⟨v, B, rfl, r, fun x h => h, fun a u d2 _ _ r2 => by
      have e : setP d [] d2 = d2 := by cases d <;> rfl
      rw [e]; exact r2⟩
  | j :: π, .tup os, d, v, B, o', d', r, h => by
    obtain ⟨ds, a, vs, rfl, rfl, hF, r⟩ := r
    have h' : (match os[j]?, ds[j]? with
      | some o, some d => atP o d π
      | _, _ => none) = some (o', d') := h
    split at h'
    · rename_i o1 d1 h1 h2
      obtain ⟨u, Bj, q1, q2, q3, q4, q5⟩ := repT_at r h1 h2
      obtain ⟨w, B', p1, p2, p3, p4⟩ := repO_at π q2 h'
      refine ⟨w, B', ⟨a, vs, u, rfl, hF, q1, p1⟩, p2, fun x hx => q3 x (p3 x hx), fun b z d2 hb n r2 => ?_⟩
      have n' : Bj.Nodup := q4 n
      have e : setP (.tup ds) (j :: π) d2 = .tup (ds.set j (setP d1 π d2)) := by
        show (match ds[j]? with
          | some d => D.tup (ds.set j (setP d π d2))
          | none => .tup ds) = _
        rw [h2]
      rw [e]
      exact ⟨_, a, vs, rfl, rfl, hF, q5 b z _ (p3 b hb) n (p4 b z d2 hb n' r2)⟩
    · cases h'
  | j :: π, .fz, d, v, B, o', d', r, h => by cases d <;> cases h
  | j :: π, .own _, d, v, B, o', d', r, h => by cases d <;> cases h
end

/-! ### an expression that leads to a place -/
structure DPl (X : Cx) (e : Expr) (te : TE) (i : Nat) (π : List Nat) : Prop where
  pe : PE X e te
  sem : ∀ (σ : L2.St) (F H : Hp) (v w : V) (Q : VK), Same F H → σ[i]? = some (some v) → valP F v π w → Q w H → te σ H Q
section
variable {X : Cx} {E : XK} {c : Cfg} {ω ω' : List O} {e b a : Expr} {te ta tb : TE} {fe fb : Env → R D} {o or : O} {i : Nat} {π : List Nat} {pos cpos apos npos : Pos} {x : Str}
theorem dpl_name (i : Nat) (hN : X.N[i]? = some x := by rfl) (hv : Vis X.env.scope x := by first | exact Or.inl rfl | exact Or.inr (Or.inl rfl) | exact Or.inr (Or.inr rfl)) (hd : (x == ("__debug__" : Str)) = false := by decide)
    (hcd : (x == ("__classdict__" : Str)) = false := by decide) : DPl X (.Name x npos) (tVar i) i [] := ⟨pe_var hN hv hd hcd, fun σ F H v w Q _ h1 h2 q => ⟨v, h1, by rw [← show w = v from h2]; exact q⟩⟩
theorem valP_snoc {F : Hp} {j : Nat} {a : Addr} {vs : List V} {u : V} : ∀ {π : List Nat} {v : V}, valP F v (π ++ [j]) u → ∃ a vs, valP F v π (.ref a) ∧ F a = some (.tup vs) ∧ vs[j]? = some u
  | [], v, h => by
    obtain ⟨a, vs, w, rfl, h1, h2, h3⟩ := h
    exact ⟨a, vs, rfl, h1, by rw [h2, show u = w from h3]⟩
  | k :: π, v, h => by
    obtain ⟨a, vs, w, rfl, h1, h2, h3⟩ := h
    obtain ⟨b, ws, q1, q2, q3⟩ := valP_snoc (a := a) (vs := vs) h3
    exact ⟨b, ws, ⟨a, vs, w, rfl, h1, h2, q1⟩, q2, q3⟩
theorem dpl_ix {k j : Nat} {p2 : Pos} {jj} (hr : Room k X.A) (h : DPl X e te i π) (hs : PlainIx (.Constant (.int (j : Int)) jj p2) := by intro _ _; rfl) :
    DPl X (.Subscript e (.Constant (.int (j : Int)) jj p2) pos) (tOp (rIxA X.K) te (tC (.int (j : Int)))) i (π ++ [j]) :=
  ⟨pe_ix (ix_any hr) h.pe pe_int hs, fun σ F H v w Q s h1 h2 q => by
    obtain ⟨a, vs, q1, q2, q3⟩ := valP_snoc (a := 0) (vs := []) h2
    refine h.sem σ F H v _ _ s h1 q1 ?_
    refine .inl (.inr (.inl ⟨a, vs, _, w, rfl, rfl, .of (s _ _ q2), ?_, q⟩))
    have hj : j < vs.length := (List.getElem?_eq_some_iff.mp q3).1
    unfold atI ixN
    rw [if_pos (Int.natCast_nonneg j), if_pos (by omega)]
    exact q3⟩
def sAtP (i : Nat) (o : O) (π : List Nat) (g : D → R D) (ρ : Env) : R Fl := match ρ[i]? with
  | some (some d) => (match atP o d π with
    | some (.own .fz, e) => g e >>= fun e' => .ok (.nx (ρ.set i (some (setP d π e'))))
    | _ => .no)
  | _ => .no
def noExc {α : Type} : R α → R α
  | .ok a => .ok a
  | _ => .no
def sAppP (i : Nat) (o : O) (π : List Nat) (fe : Env → R D) (ρ : Env) : R Fl := noExc (fe ρ) >>= fun y => sAtP i o π (appD y) ρ
def storeK (k y : D) : D → R D
  | .dic es => match keyD k with
    | some k => if es.length < most then .ok (.dic (putD es k y)) else .no
    | none => .no
  | _ => .no
def sPutP (i : Nat) (o : O) (π : List Nat) (fk fe : Env → R D) (ρ : Env) : R Fl := noExc (fe ρ) >>= fun y => noExc (fk ρ) >>= fun k => sAtP i o π (storeK k y) ρ
theorem valP_mono {F F' : Hp} (e : Same F F') : ∀ {π : List Nat} {v w : V}, valP F v π w → valP F' v π w
  | [], v, w, h => h
  | j :: π, v, w, h => by
    obtain ⟨a, vs, u, h1, h2, h3, h4⟩ := h
    exact ⟨a, vs, u, h1, e _ _ h2, h3, valP_mono e h4⟩
theorem valP_fun {F : Hp} : ∀ {π : List Nat} {v w w' : V}, valP F v π w → valP F v π w' → w = w'
  | [], v, w, w', h, h' => Eq.trans h (Eq.symm h')
  | j :: π, v, w, w', h, h' => by
    obtain ⟨a, vs, u, rfl, h2, h3, h4⟩ := h
    obtain ⟨b, ws, u', q1, q2, q3, q4⟩ := h'
    cases q1
    rw [h2] at q2
    cases q2
    rw [h3] at q3
    cases q3
    exact valP_fun h4 q4
/-- the change itself -/
theorem place_own {K : PySem.W.Frag} {F H : Hp} {ρ : Env} {σ : L2.St} {As : List (List Addr)} {d e : D} (hi : ω[i]? = some o) (S : Stt K ω ρ σ F H As) (hρ : ρ[i]? = some (some d)) (h : atP o d π = some (.own .fz, e)) :
    ∃ v w B', σ[i]? = some (some v) ∧ valP F v π w ∧ RepO K F H (.own .fz) e w B' ∧ ∀ a u d2, B' = [a] → RepO K F (upd H a u) (.own .fz) d2 w [a] →
      ∃ As', Stt K ω (ρ.set i (some (setP d π d2))) σ F (upd H a u) As' ∧ GrowA As.flatten F H F (upd H a u) As'.flatten := by
  obtain ⟨v, B, hσ, hA, r⟩ := S.sl.get hi hρ
  obtain ⟨w, B', h1, h2, h3, h4⟩ := repO_at π r h
  refine ⟨v, w, B', hσ, h1, h2, fun a u d2 hB r2 => ?_⟩
  subst hB
  have n := flat_part S.nd hA
  obtain ⟨q1, q2⟩ := S.change hi hσ hA (a := a) (h3 a (by simp)) (h4 a u d2 (by simp) n r2) (fun x h => h) n
  exact ⟨_, q1, q2⟩
/-- x[j1]..[jn].append(e) -/
theorem ds_appP (hp : DPl X a ta i π) (he : DE X E ω e te fe .fz []) (hi : ω[i]? = some o := by rfl) (hbase : attributeBase a "append" X.env (eval a X.env) = eval a X.env := by rfl)
    (hfew : ((backTo cpos (starEach [e] X.env)).all (fun x => !x.1) && (backToKw cpos (keywordEach [] X.env)).all (fun x => x.1.isSome) && decide ([e].length + ([] : List Keyword).length + (if ([] : List Keyword).isEmpty then 0 else 1) < 30)) = true := by rfl) (hline : (apos.endLine == cpos.line) = true := by rfl)
    (hst : starEach (e :: []) X.env = (false, eval e X.env) :: starEach [] X.env := by rfl) (hpl : (backTo cpos (starEach [] X.env)).any (·.1) = false := by rfl) (hs : swapsWith (.Call (.Attribute a "append" apos) [e] [] cpos) none pos.line X.env = pure false := by rfl) :
    DS X E c ω (.Expr (.Call (.Attribute a "append" apos) [e] [] cpos) pos) (tDrop (tBM X.K "list" rAppend ta (tCons te tNil))) (sAppP i o π fe) ω or :=
  ⟨ps_expr (pe_bm PySem.F.plainAttrs_list PySem.F.slot_list_append PySem.F.type_list_append mt_append hp.pe (pa_cons he.pe pa_nil hst) hbase hfew hline hst hpl) hs, fun σ ρ F H As Dd S p => by
    unfold sAppP at p
    -- what must be there already
    have key : ∀ y, PstS X.mg E X.K c ω or σ As.flatten F H Dd (sAtP i o π (appD y) ρ) → ∃ d ds, ρ[i]? = some (some d) ∧ atP o d π = some (.own .fz, .lst ds) ∧ ds.length < most ∧ PstS X.mg E X.K c ω or σ As.flatten F H Dd (.ok (.nx (ρ.set i (some (setP d π (.lst (ds ++ [y]))))))) := fun y p => by
      unfold sAtP at p
      split at p
      · rename_i d hd
        split at p
        · rename_i e0 h0
          cases e0 with
          | lst ds =>
            by_cases hl : ds.length < most
            · have e1 : appD y (.lst ds) = .ok (.lst (ds ++ [y])) := if_pos hl
              rw [e1, ok_bind] at p
              exact ⟨d, ds, hd, h0, hl, p⟩
            · have e1 : appD y (.lst ds) = .no := if_neg hl
              rw [e1] at p
              exact (show False from p).elim
          | _ => exact (show False from p).elim
        · exact (show False from p).elim
      · exact (show False from p).elim
    cases hf : fe ρ with
    | ok y =>
      rw [hf] at p
      obtain ⟨d, ds, hd, h0, hl, p⟩ := key y p
      obtain ⟨v, w, B', hσ, hv, hr, _⟩ := place_own hi S hd h0
      obtain ⟨a0, vs, rfl, Fa, Ha, rfl, rs⟩ := list_at hr
      refine hp.sem σ F H v _ _ S.ex hσ hv ?_
      refine ⟨.inl ⟨rfl, vs, .of Ha⟩, ?_⟩
      refine he.sem σ ρ F H As _ S ?_
      rw [hf]
      intro wy F1 H1 B1 g1 r1 b1 n1
      have S1 := S.grow g1
      obtain ⟨v1, w1, B1', hσ1, hv1, hr1, hc⟩ := place_own hi S1 hd h0
      rw [hσ] at hσ1
      cases hσ1
      have ew := valP_fun (valP_mono g1.ff hv) hv1
      subst ew
      obtain ⟨a1, vs1, e1, Fa1, Ha1, rfl, rs1⟩ := list_at hr1
      cases e1
      refine ⟨a0, vs1, wy, rfl, rfl, Ha1, by rw [rs1.length, ← most_eq]; exact hl, ?_⟩
      obtain ⟨As', S2, g2⟩ := hc a0 (.lst (vs1 ++ [wy])) (.lst (ds ++ [y])) rfl (own_lst Fa1 upd_same (rs1.snoc r1.1))
      exact p σ F1 _ _ S2 (.same ((GrowA.of g1 fun x h => .inl h).trans g2))
    | exc c => rw [hf] at p; exact (show False from p).elim
    | no => rw [hf] at p; exact (show False from p).elim⟩
/-- x[j1]..[jn][b] = e, of a dict -/
theorem ds_putP {k : Nat} {spos : Pos} (hr : Room k X.A) (hp : DPl X a ta i π) (hk : DE X E ω b tb fb .fz []) (he : DE X E ω e te fe .fz []) (hi : ω[i]? = some o := by rfl) (ha : ∀ v, assign (.Subscript a b spos) X.env v = (do
      let ov ← holding [v] (eval a X.env)
      let iv ← holding [v, ov] (eval b X.env)
      standAt spos
      holding [v, ov, iv] (setItem ov iv v)
      release [v, ov, iv] []) := by intro _; rfl) (hs : swapsWithSole [.Subscript a b spos] e pos.line X.env = pure false := by rfl) (hw : swappedStores [.Subscript a b spos] e X.env = pure none := by rfl)
    (h1 : (assignEach [.Subscript a b spos] X.env).map (·.2) = [assign (.Subscript a b spos) X.env] := by rfl) :
    DS X E c ω (.Assign [.Subscript a b spos] e pos) (tAsg te (gSub ta tb rSetA)) (sPutP i o π fb fe) ω or :=
  ⟨ps_asg he.pe (pg_sub hp.pe hk.pe (set_any hr) ha) hs hw h1, fun σ ρ F H As Dd S p => by
    unfold sPutP at p
    have key : ∀ y k, PstS X.mg E X.K c ω or σ As.flatten F H Dd (sAtP i o π (storeK k y) ρ) → ∃ d es k', ρ[i]? = some (some d) ∧ atP o d π = some (.own .fz, .dic es) ∧ keyD k = some k' ∧ es.length < most ∧ PstS X.mg E X.K c ω or σ As.flatten F H Dd (.ok (.nx (ρ.set i (some (setP d π (.dic (putD es k' y))))))) := fun y k p => by
      unfold sAtP at p
      split at p
      · rename_i d hd
        split at p
        · rename_i e0 h0
          cases e0 with
          | dic es =>
            have p2 : PstS X.mg E X.K c ω or σ As.flatten F H Dd ((match keyD k with
              | some k => if es.length < most then R.ok (.dic (putD es k y)) else .no
              | none => .no) >>= fun e' => .ok (.nx (ρ.set i (some (setP d π e'))))) := p
            split at p2
            · rename_i k' hk'
              split at p2
              · rename_i hl
                exact ⟨d, es, k', hd, h0, hk', hl, p2⟩
              · exact (show False from p2).elim
            · exact (show False from p2).elim
          | _ => exact (show False from p).elim
        · exact (show False from p).elim
      · exact (show False from p).elim
    refine he.sem σ ρ F H As _ S ?_
    cases hf : fe ρ with
    | ok y =>
      rw [hf] at p
      cases hfk : fb ρ with
      | ok kd =>
        rw [hfk] at p
        obtain ⟨d, es, k', hd, h0, hk', hl, p⟩ := key y kd p
        intro wy F1 H1 B1 g1 r1 b1 n1
        have S1 := S.grow g1
        obtain ⟨v, w, B', hσ, hv, hr1, _⟩ := place_own hi S1 hd h0
        obtain ⟨a0, vs, rfl, Fa, Ha, rfl, rs⟩ := dict_at hr1
        refine hp.sem σ F1 H1 v _ _ S1.ex hσ hv ?_
        refine hk.sem σ ρ F1 H1 As _ S1 ?_
        rw [hfk]
        intro wk F2 H2 B2 g2 r2 b2 n2
        have S2 := S1.grow g2
        obtain ⟨v1, w1, B1', hσ1, hv1, hr2, hc⟩ := place_own hi S2 hd h0
        rw [hσ] at hσ1
        cases hσ1
        have ew := valP_fun (valP_mono g2.ff hv) hv1
        subst ew
        obtain ⟨a1, vs1, e1, Fa1, Ha1, rfl, rs1⟩ := dict_at hr2
        cases e1
        refine .inr ⟨a0, upd H2 a0 (.dK (putK vs1 k' wy)), rfl, ?_, ?_⟩
        · rw [key_rep hk' r2.1]
          exact DPut.k Ha1 (by rw [repK_len rs1, ← most_eq]; exact hl)
        · obtain ⟨As', S3, g3⟩ := hc a0 (.dK (putK vs1 k' wy)) (.dic (putD es k' y)) rfl (own_dic Fa1 upd_same (repK_put (k := k') (Rep.mono g2.ff y wy r1.1) rs1))
          exact p σ F2 _ _ S3 (.same ((GrowA.of (g1.trans g2) fun x h => .inl h).trans g3))
      | exc c => rw [hfk] at p; exact (show False from p).elim
      | no => rw [hfk] at p; exact (show False from p).elim
    | exc c => rw [hf] at p; exact (show False from p).elim
    | no => rw [hf] at p; exact (show False from p).elim⟩
end
end Dn

/-! Methods as values: index. -/
namespace Dn
open PySem L2 PyProof.Rows
def isStr : D → Bool
  | .str _ => true
  | _ => false
def isTxt (s : Str) : D → Bool
  | .str t => t == s
  | _ => false
def indexD (d y : D) : R D := match d, y with
  | .lst ds, .str s => match ds.findIdx? (isTxt s) with
    | some j => if ds.all isStr = true then .ok (.int (j : Nat)) else .no
    | none => .no
  | _, _ => .no
def eIndex (fa fe : Env → R D) (ρ : Env) : R D := fa ρ >>= fun d => match d with
  | .lst ds => fe ρ >>= indexD (.lst ds)
  | _ => .no
theorem reps_strs {K : PySem.W.Frag} {F : Hp} : ∀ {ds : List D} {vs : List V}, Reps K F ds vs → ds.all isStr = true → vs.all flatV = true
  | [], vs, r, _ => by rw [show vs = [] from r]; rfl
  | d :: ds, vs, r, h => by
    obtain ⟨v, vr, rfl, h2, h3⟩ := r
    rw [List.all_cons, Bool.and_eq_true] at h
    rw [List.all_cons, reps_strs h3 h.2, Bool.and_true]
    cases d <;> first | (rw [show v = _ from h2]; rfl) | exact absurd h.1 (by simp [isStr])
theorem eqV_txt {K : PySem.W.Frag} {F : Hp} {d : D} {v : V} {s : Str} (r : Rep K F d v) (h : isStr d = true) : eqV v (.str s) = isTxt s d := by
  cases d <;> first | (rw [show v = _ from r]; rfl) | exact absurd h (by simp [isStr])
section
variable {X : Cx} {E : XK} {ω : List O} {e a : Expr} {te ta : TE} {fe fa : Env → R D} {cpos apos : Pos}
theorem de_index (ha : DE X E ω a ta fa (.own .fz) []) (he : DE X E ω e te fe .fz []) (hbase : attributeBase a "index" X.env (eval a X.env) = eval a X.env := by rfl)
    (hfew : ((backTo cpos (starEach [e] X.env)).all (fun x => !x.1) && (backToKw cpos (keywordEach [] X.env)).all (fun x => x.1.isSome) && decide ([e].length + ([] : List Keyword).length + (if ([] : List Keyword).isEmpty then 0 else 1) < 30)) = true := by rfl) (hline : (apos.endLine == cpos.line) = true := by rfl)
    (hst : starEach (e :: []) X.env = (false, eval e X.env) :: starEach [] X.env := by rfl) (hpl : (backTo cpos (starEach [] X.env)).any (·.1) = false := by rfl) :
    DE X E ω (.Call (.Attribute a "index" apos) [e] [] cpos) (tBM X.K "list" (rIndex X.K) ta (tCons te tNil)) (eIndex fa fe) .fz [] :=
  ⟨pe_bm PySem.F.plainAttrs_list PySem.F.slot_list_index PySem.F.type_list_index mt_index ha.pe (pa_cons he.pe pa_nil hst) hbase hfew hline hst hpl, fun σ ρ F H As Q S p => by
    refine (de_frz ha).sem.then S p fun d v F1 H1 B g S1 r _ _ p1 => ?_
    have ty : ∀ ds, d = .lst ds → tyV X.K "list" v H1 := fun ds e => by
      subst e
      obtain ⟨a, vs, rfl, h1, _⟩ := r.1
      exact .inl ⟨rfl, vs, .of (S1.ex _ _ h1)⟩
    by_cases hd : ∃ ds, d = .lst ds
    · obtain ⟨ds, rfl⟩ := hd
      refine ⟨ty ds rfl, ?_⟩
      refine he.sem.then S1 p1 fun y w F2 H2 B2 g2 S2 r2 _ _ p2 => ?_
      obtain ⟨a, vs, rfl, h1, h2⟩ := r.1
      cases y with
      | str s =>
        have p3 : Pst X.mg E X.K .fz As [] F2 H2 Q (match ds.findIdx? (isTxt s) with
          | some j => if ds.all isStr = true then .ok (.int (j : Nat)) else .no
          | none => .no) := p2
        split at p3
        · rename_i j hj
          split at p3
          · rename_i hall
            obtain ⟨hj1, hj2, hj3⟩ := List.findIdx?_eq_some_iff_getElem.mp hj
            have rs := Reps.mono g2.ff ds vs h2
            obtain ⟨z, hz, rz⟩ := rs.get (List.getElem?_eq_getElem hj1)
            refine ⟨a, vs, .str s, j, z, rfl, by rw [show w = .str s from r2.1], .of (S2.ex _ _ (g2.ff _ _ h1)), rfl, reps_strs rs hall, hz, ?_, ?_, p3.fin S2.ex rfl⟩
            · rw [eqV_txt rz (List.all_eq_true.mp hall _ (List.getElem_mem hj1))]
              exact hj2
            · intro m z' hm hz'
              obtain ⟨d', q1, q2⟩ := rs.get' hz'
              have hm' := List.getElem?_eq_some_iff.mp q1
              obtain ⟨hm1, hm2⟩ := hm'
              rw [eqV_txt q2 (List.all_eq_true.mp hall _ (by rw [← hm2]; exact List.getElem_mem hm1))]
              have := hj3 m hm
              rw [hm2] at this
              simpa using this
          · exact p3.elim
        · exact p3.elim
      | _ => exact (show False from p2).elim
    · cases d <;> first | exact (hd ⟨_, rfl⟩).elim | exact (show False from p1).elim⟩
end
end Dn

/-! The ends of a law. -/
namespace Dn
open PySem L2 PyProof.Rows
section
variable {P : Program} {w : World} {K : PySem.W.Frag} {mg : Str → Option Value} {base : Heap} {x : Str} {st : Stmt} {N ps : List Str} {k kk n nN : Nat} {fb : Env → R Fl} {g : List D → R D} {ωp ωl : List O} {o : O} {W : List Nat}
theorem fnok {f : Addr} {fd : FuncData} (h : Fun K x x st f fd) (S : FnScope N ps (defScope st)) (hg : g = fnD N.length fb) (hk : kk = k + 1) (hn : n = ps.length) (hp : ωp.length = ps.length) (hz : ωp.all O.isFz = true) (hl : ωp.length + ωl.length = N.length)
    (hbody : ∀ (f : Addr) (cdv : Value) (A : Around) (outer : List PySem.Env) (s : Shared) (H : Hp) (E : XK), Room k (A.deeper (envOfC x (defScope st) s.heap.objs.size f cdv)) →
      ∃ t ω', DSs (cxOf CX0 P w K mg base N x (defScope st) f cdv A outer s H E).nox E0 ⟨W, []⟩ (ωp ++ ωl) (defBody st) t fb ω' o) : FnOk P w K mg base CX0 kk f fd ps (spD K mg n g o) := by
  subst hg hk hn
  exact fn_ok (W := W) h S hp hz hl (hbody f)
abbrev fragOf {K : PySem.W.Frag} {h : Heap} (_ : K.In h) : PySem.W.Frag := K
theorem has_mk {h : Heap} {f : Addr} {oc : Value} {od an : Option Addr} {osl : Array (Option Value)} {kV doc pm cdv ct : Value} (X : K.In h) (G : h.Ns mainGlobals mg) (a : PySem.W.nsIn K mainGlobals x = some (some (.ref f)))
    (l : K.lookup f = some ⟨oc, od, .func (PySem.W.fnOf x x (defArgs st) (defBody st) (defScope st) .none kV doc pm an cdv ct), osl⟩) (c : PySem.W.codeIn K cdv x = true) (kp : PySem.W.keepIn K (.ref f) = true)
    (b : ∀ (kV doc pm : Value) (an : Option Addr) (cdv ct : Value) (us : List Value), us.length = ps.length → bindArgs (PySem.W.fnOf x x (defArgs st) (defBody st) (defScope st) .none kV doc pm an cdv ct) ⟨us, []⟩ = pure (ps.zip us)) : Has K mg x st ps :=
  ⟨f, _, PySem.W.mg_of X G a, kp, (fun_mk l c kp).binds b, fun_mk l c kp⟩
end
/-- the goal that the head leaves, from the law's data function; what is known of loose names is handed on -/
theorem walk_d {l : PySem.W.OpenLaw} {k : Nat} {q : Program} {loose : List Str} {XP : (Str → Option Value) → Heap → Prop} {YP : World → Heap → Prop} {d : DefRec} {K : Params → PySem.W.Frag} {g : List D → R D} {x : Str}
    (hn : l.most = some 63) (hdf : d.params.defaults = []) (hr : Room k callerA) (hY : ∀ (w : World) (h : Heap), YP w h → (K w.params).In h)
    (F : ∀ (w : World) (mg : Str → Option Value) (fa : Addr) (h : Heap), (K w.params).In h → h.Ns mainGlobals mg → XP mg h → mg d.name = some (.ref fa) →
      ∃ fd : FuncData, (∀ (s : Shared) (u : Value), BindsTo s fd ⟨[u], []⟩ [(x, u)]) ∧ ∀ base : Heap, (K w.params).In base → base.Ns mainGlobals mg → FnOk l.prog w (K w.params) mg base CX0 k fa fd [x] (spD (K w.params) mg 1 g .fz))
    (law : ∀ ns : List Int, ns.length ≤ 63 → g [.scr ns] = .ok (.bl true)) : PySem.W.WalkO q loose XP YP l.row.toRowW d [] (fun f vs => PySem.call f vs) := by
  refine Att.attach_call hn hdf fun w s₀ s₁ mg mb fa o pm cd doc a vs ns G Y ho hd hcd hmg hobj hints hlen hg => ?_
  have KX := hY w _ Y
  obtain ⟨fd, hb, hF⟩ := F w mg fa _ KX G.T.g G.X hmg
  refine law_call KX G.T.g G.T.b G.T.builtins G.T.nolimit hg hobj hints (Nat.le_trans hlen (by decide)) hr hF hb (fun H hO hS => ?_) fun H e s' h => h.elim
  refine ⟨[.scr ns], H, Same.refl H, ⟨_, [], rfl, ⟨a, rfl, hS⟩, rfl⟩, rfl, ?_⟩
  rw [law ns hlen]
  intro v F' H' B _ r _ _
  exact r.1
theorem loose_int {p : Program} {lv : List (Str × PySem.W.WData)} {mg : Str → Option Value} {h : Heap} {x : Str} {i : Int} (X : PySem.W.XL p lv mg h) (m : (x, PySem.W.WData.int i) ∈ lv) : ∃ t, mg x = some (.int i t) := by
  obtain ⟨v, h1, h2⟩ := X.2.val _ m
  cases h2
  exact ⟨_, h1⟩
theorem law_mk {P : Program} {w : World} {K : PySem.W.Frag} {mg : Str → Option Value} {h : Heap} {st : Stmt} {f fa : Addr} {oc : Value} {od an : Option Addr} {osl : Array (Option Value)} {kV doc pm cdv ct : Value} {x y : Str} {k : Nat} {sp : Sp} (X : K.In h) (G : h.Ns mainGlobals mg) (hfa : mg x = some (.ref fa)) (a : PySem.W.nsIn K mainGlobals x = some (some (.ref f)))
    (l : K.lookup f = some ⟨oc, od, .func (PySem.W.fnOf x x (defArgs st) (defBody st) (defScope st) .none kV doc pm an cdv ct), osl⟩) (c : PySem.W.codeIn K cdv x = true) (kp : PySem.W.keepIn K (.ref f) = true)
    (b : ∀ (s : Shared) (v : Value), BindsTo s (PySem.W.fnOf x x (defArgs st) (defBody st) (defScope st) .none kV doc pm an cdv ct) ⟨[v], []⟩ [(y, v)]) (F : ∀ (base : Heap) (fd : FuncData), Fun K x x st fa fd → FnOk P w K mg base CX0 k fa fd [y] sp) :
    ∃ fd : FuncData, (∀ (s : Shared) (u : Value), BindsTo s fd ⟨[u], []⟩ [(y, u)]) ∧ ∀ base : Heap, K.In base → base.Ns mainGlobals mg → FnOk P w K mg base CX0 k fa fd [y] sp := by
  have e := hfa.symm.trans (PySem.W.mg_of X G a)
  cases e
  exact ⟨_, b, fun base _ _ => F base _ (fun_mk l c kp)⟩
end Dn

/-! Defs that change nothing, called with arguments that change owned names while they are reckoned. -/
namespace Dn
open PySem L2 PyProof.Rows
section
variable {K : PySem.W.Frag} {F H : Hp} {σ : L2.St} {ρ : Env}
theorem argR_none : ∀ {ks : List (Option Nat)} {ds : List D} {vs : List V}, ArgR K F ρ σ ks ds vs → ks.all (·.isNone) = true → Reps K F ds vs ∧ ds.length = ks.length
  | [], ds, vs, r, _ => by
    rw [r.1, r.2]
    exact ⟨rfl, rfl⟩
  | none :: ks, ds, vs, r, h => by
    obtain ⟨d, dr, v, vr, rfl, rfl, h1, h2⟩ := r
    rw [List.all_cons, Bool.and_eq_true] at h
    obtain ⟨q1, q2⟩ := argR_none h2 h.2
    exact ⟨⟨v, vr, rfl, h1, q1⟩, by rw [List.length_cons, List.length_cons, q2]⟩
  | some i :: ks, ds, vs, r, h => by
    rw [List.all_cons, Bool.and_eq_true] at h
    exact absurd h.1 (by simp)
end
def xCallD (g : List D → R D) (fas : Env → R (List D × Env)) (ρ : Env) : R (D × Env) := fas ρ >>= fun p => g p.1 >>= fun d => .ok (d, p.2)
section
variable {X : Cx} {E : XK} {ω : List O} {e : Expr} {es : List Expr} {tas : TA} {fas : Env → R (List D × Env)} {o : O} {ks : List (Option Nat)} {pos : Pos} {x : Str}
theorem sx_callD {mg : Str → Option Value} {K : PySem.W.Frag} {g : List D → R D} {n : Nat} (h : SemXA mg E K ω tas fas ks) (hk : ks.all (·.isNone) = true) (hn : ks.length = n) : SemX mg E K ω (tCall (spD K mg n g o) [] E tas) (xCallD g fas) o := fun σ ρ F H As Q S p => by
  refine h σ ρ F H As _ S ?_
  unfold xCallD at p
  cases hf : fas ρ with
  | exc c => rw [hf] at p; exact p
  | no => rw [hf] at p; exact p
  | ok q =>
    obtain ⟨ds, ρ1⟩ := q
    rw [hf] at p
    intro vs F1 H1 As1 S1 ar g1
    obtain ⟨r1, r2⟩ := argR_none ar hk
    have p1 : PstX mg E K ω o σ As.flatten F H Q (g ds >>= fun d => .ok (d, ρ1)) := p
    have p2 := PstX.grow g1 p1
    refine ⟨ds, F1, S1.ex, by rw [List.append_nil]; exact r1, by rw [r2, hn], ?_⟩
    cases hg : g ds with
    | no => rw [hg] at p2; exact p2
    | exc c =>
      rw [hg] at p2
      exact fun H' q => p2 H' fun x o h1 _ => q x o h1
    | ok d =>
      rw [hg, ok_bind] at p2
      intro v F2 H2 B g2 r b nB
      have S2 := S1.grow g2
      have fresh : ∀ x ∈ B, H1 x = none := fun x hx => (b x hx).resolve_right fun z => z.nil.elim
      refine p2 v F2 H2 As1 B S2 r nB (fun x hx hf => ?_) (GrowA.of g2 fun x hx => ?_)
      · exact (S1.sl.mem hf).2 (fresh x hx)
      · rcases List.mem_append.mp hx with hx | hx
        · exact .inr (fresh x hx)
        · exact .inl hx
theorem dx_callD {CX : CXT} {k n : Nat} {p : Pos} {g : List D → R D} (C : DFn X.prog X.w X.K X.mg X.base CX k x n g o) (hr : Room k X.A) (hx : Passes CX X E) (ha : DXA X E ω (e :: es) tas fas ks) (hk : ks.all (·.isNone) = true := by rfl) (hn : ks.length = n := by rfl)
    (hg : Gl X x := by rfl) (hdb : (x == ("__debug__" : Str)) = false := by decide) (he : starEach (e :: es) X.env = (false, eval e X.env) :: starEach es X.env := by rfl) (hpl : (backTo pos (starEach es X.env)).any (·.1) = false := by rfl) :
    DX X E ω (.Call (.Name x p) (e :: es) [] pos) (tCall (spD X.K X.mg n g o) [] E tas) (xCallD g fas) o := by
  obtain ⟨f, fd, ps, h1, h2, h3, h4⟩ := C.ex
  exact ⟨pe_call h4 hr hg h1 h2 h3 .nil hx ha.pa hdb he hpl, sx_callD ha.sem hk hn⟩
end
end Dn

/-! max(xs, default=d) over ints. -/
namespace Dn
open PySem L2 PyProof.Rows
def maxZ (ns : List Int) (d : Int) : Int := match ns with
  | [] => d
  | n :: ns => ns.foldl (fun a y => if a < y then y else a) n
def rMaxDf (K : PySem.W.Frag) : List V → List V → Hp → VK → Prop := fun vs zs H Q => ∃ (a : Addr) (ns : List Int) (d : Int), vs = [.ref a] ∧ zs = [.int d] ∧ SqL K H a (ns.map V.int) ∧ Q (.int (maxZ ns d)) H
theorem reads_of_ints {h : Heap} : ∀ {ns : List Int} {vs : List Value}, IntsAre vs ns → ReadsAll h vs (ns.map PyData.int) []
  | [], vs, r => by cases r; exact .nil
  | n :: ns, vs, r => by
    cases r with
    | cons t rest q => exact .cons (.int _ _) (reads_of_ints q)
theorem maxD_ints (n : Int) (ns : List Int) : PySem.W.maxD (.int n) (ns.map PyData.int) = .int (ns.foldl (fun a y => if a < y then y else a) n) := by
  unfold PySem.W.maxD
  induction ns generalizing n with
  | nil => rfl
  | cons m ns ih =>
    rw [List.map_cons, List.foldl_cons, List.foldl_cons]
    have e : (if PySem.W.dataLt (.int n) (.int m) = true then PyData.int m else .int n) = .int (if n < m then m else n) := by
      rw [PySem.W.dataLt_int]
      by_cases h : n < m <;> simp [h]
    rw [e, ih]
theorem depth_ints : ∀ ns : List Int, PyData.depthAll (ns.map PyData.int) = 0
  | [] => rfl
  | n :: ns => by
    show max 0 (PyData.depthAll (ns.map PyData.int)) = 0
    rw [depth_ints ns]
    rfl
theorem alike_ints (ns : List Int) : PySem.W.AlikeAll (ns.map PyData.int) := by
  refine ⟨fun x hx y hy => ?_, fun x hx => ?_⟩
  · obtain ⟨n, _, rfl⟩ := List.mem_map.mp hx
    obtain ⟨m, _, rfl⟩ := List.mem_map.mp hy
    rfl
  · obtain ⟨n, _, rfl⟩ := List.mem_map.mp hx
    intro h
    cases h
theorem cr_maxDf {X : Cx} {k : Nat} (hc : X.calm = true) (hr : Room k X.A) : CallRK X (.builtin "max") [Str.ofString "default"] (rMaxDf X.K) := by
  intro pins s σ H vs zs us ws Q I r rz h
  obtain ⟨a, ns, d, rfl, rfl, hs, q⟩ := h
  obtain ⟨its, rv, hl, hz⟩ := I.list hs
  rw [Vals.ref1 r]
  obtain ⟨u, hu, rfl⟩ : ∃ u, RelV (.int d) u ∧ ws = [u] := by
    cases rz with
    | cons a b => cases b; exact ⟨_, a, rfl⟩
  refine PySem.W.max_list_default (I.ok.hd hc) hl.isList (reads_of_ints rv.ints) (alike_ints ns) (by rw [depth_ints]; exact hu_of hr) (fun he h' tk hk => ?_) fun y ys i v h' tk bs he hv rd hk => ?_
  · have : ns = [] := List.map_eq_nil_iff.mp he
    subst this
    exact ⟨.int d, H, I.kept hk, hu, q⟩
  · cases ns with
    | nil => cases he
    | cons n ns =>
      rw [List.map_cons] at he
      cases he
      rw [maxD_ints] at rd
      cases rd
      exact ⟨.int _, H, I.kept hk, ⟨_, rfl⟩, q⟩
/-! ### max(list(xs), default=d) -/
def intsD : List D → Option (List Int)
  | [] => some []
  | .int n :: r => (intsD r).map (n :: ·)
  | _ => none
theorem ints_rep {K : PySem.W.Frag} {F : Hp} : ∀ {ds : List D} {ns : List Int} {vs : List V}, intsD ds = some ns → Reps K F ds vs → vs = ns.map V.int
  | [], ns, vs, h, r => by
    cases h
    exact r
  | d :: ds, ns, vs, h, r => by
    obtain ⟨v, vr, rfl, h2, h3⟩ := r
    cases d with
    | int n =>
      have h' : (intsD ds).map (n :: ·) = some ns := h
      cases hq : intsD ds with
      | none => rw [hq] at h'; cases h'
      | some q =>
        rw [hq] at h'
        cases h'
        rw [show v = .int n from h2, ints_rep hq h3]
        rfl
    | _ => cases h
def maxDf (d e : D) : R D := match d, e with
  | .lst xs, .int i => match intsD xs with
    | some ns => .ok (.int (maxZ ns i))
    | none => .no
  | _, _ => .no
section
variable {X : Cx} {E : XK} {ω : List O} {a b : Expr} {ta tb : TE} {fa fb : Env → R D} {p pos kpos : Pos}
theorem de_maxDf {k : Nat} (hc : X.calm = true) (hr : Room k X.A) (hm : X.mg "max" = none) (ha : DE X E ω a ta fa .fz []) (hb : DE X E ω b tb fb .fz []) (hg : Gl X "max" := by rfl)
    (he : backTo pos (starEach [a] X.env) = (false, eval a X.env) :: backTo pos (starEach [] X.env) := by rfl) (hs : starEach [a] X.env = (false, eval a X.env) :: starEach [] X.env := by rfl) (hpl : (backTo pos (starEach [a] X.env)).any (·.1) = false := by rfl)
    (hall : (backToKw pos (keywordEach [⟨some "default", b, kpos⟩] X.env)).all (·.1.isSome) = true := by rfl) (hnone : (backToKw pos (keywordEach [⟨some "default", b, kpos⟩] X.env)).any (·.1.isNone) = false := by rfl) (hks : (backToKw pos (keywordEach [⟨some "default", b, kpos⟩] X.env)).filterMap (·.1) = [Str.ofString "default"] := by rfl) :
    DE X E ω (.Call (.Name "max" p) [a] [⟨some "default", b, kpos⟩] pos) (tCKw (rMaxDf X.K) (tCons ta tNil) (tCons tb tNil)) (eOp maxDf fa fb) .fz [] :=
  ⟨pe_callBK (cr_maxDf hc hr) hg hm PyProof.Rows.boot_max (pa_cons ha.pe pa_nil hs) (pk_cons hb.pe pk_nil) (by decide) (by decide) he hpl hall hnone hks, fun σ ρ F H As Q S q => by
    refine ha.sem.then S q fun d v F1 H1 B g S1 r _ _ q1 => ?_
    refine hb.sem.then S1 q1 fun e w F2 H2 B2 g2 S2 r2 _ _ q2 => ?_
    cases d with
    | lst xs =>
      cases e with
      | int i =>
        have q3 : Pst X.mg E X.K .fz As [] F2 H2 Q (match intsD xs with
          | some ns => .ok (.int (maxZ ns i))
          | none => .no) := q2
        split at q3
        · rename_i ns hns
          obtain ⟨a0, vs, rfl, h1, h2⟩ := r.1
          have hv := ints_rep hns h2
          subst hv
          exact ⟨a0, ns, i, rfl, by rw [show w = .int i from r2.1], .of (S2.ex _ _ (g2.ff _ _ h1)), q3.fin S2.ex rfl⟩
        · exact q3.elim
      | _ => exact (show False from q2).elim
    | _ => exact (show False from q2).elim⟩
end
end Dn

/-! index of any flat item. -/
namespace Dn
open PySem L2 PyProof.Rows
def indexF (d y : D) : R D := match d with
  | .lst ds => if (flatD y && ds.all flatD) = true then (match ds.findIdx? (fun d => eqV (toV d) (toV y)) with
    | some j => .ok (.int (j : Nat))
    | none => .no) else .no
  | _ => .no
def eIndexF (fa fe : Env → R D) (ρ : Env) : R D := fa ρ >>= fun d => match d with
  | .lst ds => fe ρ >>= indexF (.lst ds)
  | _ => .no
section
variable {X : Cx} {E : XK} {ω : List O} {e a : Expr} {te ta : TE} {fe fa : Env → R D} {cpos apos : Pos}
theorem de_indexF (ha : DE X E ω a ta fa .fz []) (he : DE X E ω e te fe .fz []) (hbase : attributeBase a "index" X.env (eval a X.env) = eval a X.env := by rfl)
    (hfew : ((backTo cpos (starEach [e] X.env)).all (fun x => !x.1) && (backToKw cpos (keywordEach [] X.env)).all (fun x => x.1.isSome) && decide ([e].length + ([] : List Keyword).length + (if ([] : List Keyword).isEmpty then 0 else 1) < 30)) = true := by rfl) (hline : (apos.endLine == cpos.line) = true := by rfl)
    (hst : starEach (e :: []) X.env = (false, eval e X.env) :: starEach [] X.env := by rfl) (hpl : (backTo cpos (starEach [] X.env)).any (·.1) = false := by rfl) :
    DE X E ω (.Call (.Attribute a "index" apos) [e] [] cpos) (tBM X.K "list" (rIndex X.K) ta (tCons te tNil)) (eIndexF fa fe) .fz [] :=
  ⟨pe_bm PySem.F.plainAttrs_list PySem.F.slot_list_index PySem.F.type_list_index mt_index ha.pe (pa_cons he.pe pa_nil hst) hbase hfew hline hst hpl, fun σ ρ F H As Q S p => by
    refine ha.sem.then S p fun d v F1 H1 B g S1 r _ _ p1 => ?_
    have ty : ∀ ds, d = .lst ds → tyV X.K "list" v H1 := fun ds e => by
      subst e
      obtain ⟨a, vs, rfl, h1, _⟩ := r.1
      exact .inl ⟨rfl, vs, .of (S1.ex _ _ h1)⟩
    by_cases hd : ∃ ds, d = .lst ds
    · obtain ⟨ds, rfl⟩ := hd
      refine ⟨ty ds rfl, ?_⟩
      refine he.sem.then S1 p1 fun y w F2 H2 B2 g2 S2 r2 _ _ p2 => ?_
      obtain ⟨a, vs, rfl, h1, h2⟩ := r.1
      have p3 : Pst X.mg E X.K .fz As [] F2 H2 Q (if (flatD y && ds.all flatD) = true then (match ds.findIdx? (fun d => eqV (toV d) (toV y)) with
        | some j => .ok (.int (j : Nat))
        | none => .no) else .no) := p2
      by_cases hf : (flatD y && ds.all flatD) = true
      · rw [if_pos hf] at p3
        rw [Bool.and_eq_true] at hf
        obtain ⟨e1, e2⟩ := rep_flat hf.1 r2.1
        obtain ⟨e3, e4⟩ := reps_flat hf.2 (Reps.mono g2.ff ds vs h2)
        split at p3
        · rename_i j hj
          obtain ⟨hj1, hj2, hj3⟩ := List.findIdx?_eq_some_iff_getElem.mp hj
          refine ⟨a, vs, w, j, toV ds[j], rfl, rfl, .of (S2.ex _ _ (g2.ff _ _ h1)), e2, e4, by rw [e3, List.getElem?_map, List.getElem?_eq_getElem hj1]; rfl, by rw [e1]; exact hj2, fun m z' hm hz' => ?_, p3.fin S2.ex rfl⟩
          rw [e3, List.getElem?_map, List.getElem?_eq_getElem (by omega)] at hz'
          cases hz'
          rw [e1]
          have := hj3 m hm
          simpa using this
        · exact p3.elim
      · rw [if_neg hf] at p3
        exact p3.elim
    · cases d <;> first | exact (hd ⟨_, rfl⟩).elim | exact (show False from p1).elim⟩
end
end Dn

/-! A loop over a dict's keys: the dict is locked meanwhile. -/
namespace Dn
open PySem L2 PyProof.Rows
/-- all is as it was, but that dicts may be locked, or no more -/
def LeD (F F' : Hp) : Prop := ∀ x o, F x = some o → F' x = some o ∨ ∃ kvs, (o = .dK kvs ∨ ∃ ob, o = .frz ob (.dK kvs)) ∧ Rd F' x (.dK kvs)
section
variable {K : PySem.W.Frag} {F F' H H' : Hp}
theorem LeD.of (e : Same F F') : LeD F F' := fun x o h => .inl (e x o h)
theorem LeD.tup (e : LeD F F') {a : Addr} {vs : List V} (h : F a = some (.tup vs)) : F' a = some (.tup vs) := by
  rcases e _ _ h with q | ⟨kvs, q, _⟩
  · exact q
  · rcases q with q | ⟨ob, q⟩ <;> cases q
theorem LeD.lst (e : LeD F F') {a : Addr} {vs : List V} (h : F a = some (.lst vs)) : F' a = some (.lst vs) := by
  rcases e _ _ h with q | ⟨kvs, q, _⟩
  · exact q
  · rcases q with q | ⟨ob, q⟩ <;> cases q
theorem LeD.rd (e : LeD F F') {a : Addr} {kvs : List (L2.Key × V)} (h : Rd F a (.dK kvs)) : Rd F' a (.dK kvs) := by
  rcases h with h | ⟨o, h⟩
  · rcases e _ _ h with q | ⟨kvs', q, r⟩
    · exact .inl q
    · rcases q with q | ⟨ob, q⟩
      · cases q; exact r
      · cases q
  · rcases e _ _ h with q | ⟨kvs', q, r⟩
    · exact .inr ⟨o, q⟩
    · rcases q with q | ⟨ob, q⟩
      · cases q
      · cases q; exact r
theorem LeD.seq (e : LeD F F') {a : Addr} {vs : List V} (h : SqL K F a vs) : SqL K F' a vs := by
  rcases h with (h | ⟨o, h⟩) | h
  · exact .inl (.inl (e.lst h))
  · rcases e _ _ h with q | ⟨kvs', q, r⟩
    · exact .inl (.inr ⟨o, q⟩)
    · rcases q with q | ⟨ob, q⟩ <;> cases q
  · exact .inr h
mutual
theorem Rep.monoD (e : LeD F F') : ∀ (d : D) (v : V), Rep K F d v → Rep K F' d v
  | .non, v, h => h
  | .bl b, v, h => h
  | .int i, v, h => h
  | .str i, v, h => h
  | .scr ns, v, h => by
    obtain ⟨a, h1, h2⟩ := h
    exact ⟨a, h1, e.seq h2⟩
  | .tup ds, v, h => by
    obtain ⟨a, vs, h1, h2, h3⟩ := h
    exact ⟨a, vs, h1, e.tup h2, Reps.monoD e ds vs h3⟩
  | .lst ds, v, h => by
    obtain ⟨a, vs, h1, h2, h3⟩ := h
    exact ⟨a, vs, h1, e.lst h2, Reps.monoD e ds vs h3⟩
  | .dic ds, v, h => by
    obtain ⟨a, vs, h1, h2, h3⟩ := h
    exact ⟨a, vs, h1, e.rd h2, RepK.monoD e ds vs h3⟩
theorem Reps.monoD (e : LeD F F') : ∀ (ds : List D) (vs : List V), Reps K F ds vs → Reps K F' ds vs
  | [], vs, h => h
  | d :: ds, vs, h => by
    obtain ⟨v, vr, h1, h2, h3⟩ := h
    exact ⟨v, vr, h1, Rep.monoD e d v h2, Reps.monoD e ds vr h3⟩
theorem RepK.monoD (e : LeD F F') : ∀ (ds : List (L2.Key × D)) (vs : List (L2.Key × V)), RepK K F ds vs → RepK K F' ds vs
  | [], vs, h => h
  | (k, d) :: ds, vs, h => by
    obtain ⟨v, vr, h1, h2, h3⟩ := h
    exact ⟨v, vr, h1, Rep.monoD e d v h2, RepK.monoD e ds vr h3⟩
end
mutual
theorem RepO.keepD : ∀ (o : O) (d : D) (v : V) (B : List Addr), LeD F F' → (∀ x ∈ B, F' x = none ∧ H' x = H x) → RepO K F H o d v B → RepO K F' H' o d v B
  | .fz, d, v, B, e, hB, h => ⟨Rep.monoD e d v h.1, h.2⟩
  | .own o, d, v, B, e, hB, h => by
    rcases h with ⟨ds, a, vs, B', h1, h2, h3, h4, h5, h6⟩ | ⟨es, a, kvs, h1, h2, h3, h4, h5, h6⟩ | ⟨h1, h2, h3⟩
    · subst h5
      refine .inl ⟨ds, a, vs, B', h1, h2, (hB a (by simp)).1, by rw [(hB a (by simp)).2]; exact h4, rfl, h6.impB fun d v B1 hb q => RepO.keepD o d v B1 e (fun x hx => hB x (List.mem_cons_of_mem _ (hb x hx))) q⟩
    · subst h6
      exact .inr (.inl ⟨es, a, kvs, h1, h2, (hB a (by simp)).1, by rw [(hB a (by simp)).2]; exact h4, RepK.monoD e es kvs h5, rfl⟩)
    · exact .inr (.inr ⟨h1, Rep.monoD e d v h2, h3⟩)
  | .tup os, d, v, B, e, hB, h => by
    obtain ⟨ds, a, vs, h1, h2, h3, h4⟩ := h
    exact ⟨ds, a, vs, h1, h2, e.tup h3, RepT.keepD os ds vs B e hB h4⟩
theorem RepT.keepD : ∀ (os : List O) (ds : List D) (vs : List V) (B : List Addr), LeD F F' → (∀ x ∈ B, F' x = none ∧ H' x = H x) → RepT K F H os ds vs B → RepT K F' H' os ds vs B
  | [], ds, vs, B, e, hB, h => h
  | o :: os, ds, vs, B, e, hB, h => by
    obtain ⟨d, dr, v, vr, B1, B2, h1, h2, h3, h4, h5⟩ := h
    subst h3
    exact ⟨d, dr, v, vr, B1, B2, h1, h2, rfl, RepO.keepD o d v B1 e (fun x hx => hB x (List.mem_append_left _ hx)) h4, RepT.keepD os dr vr B2 e (fun x hx => hB x (List.mem_append_right _ hx)) h5⟩
end
theorem Sl.keepD {ω : List O} {ρ : Env} {σ : L2.St} {As : List (List Addr)} (h : Sl K F H ω ρ σ As) (e : LeD F F') (hB : ∀ x ∈ As.flatten, F' x = Option.none ∧ H' x = H x) : Sl K F' H' ω ρ σ As := by
  induction h with
  | nil => exact .nil
  | none _ ih => exact .none (ih fun x hx => hB x (by simpa using hx))
  | some r _ ih =>
    rw [List.flatten_cons] at hB
    exact .some (RepO.keepD _ _ _ _ e (fun x hx => hB x (List.mem_append_left _ hx)) r) (ih fun x hx => hB x (List.mem_append_right _ hx))
/-- one address told anew -/
theorem upd_le {a : Addr} {kvs : List (L2.Key × V)} {u : HO} (h : Rd F a (.dK kvs)) (hu : u = .dK kvs ∨ ∃ o, u = .frz o (.dK kvs)) : LeD F (upd F a u) := fun x o q => by
  by_cases e : x = a
  · subst e
    refine .inr ⟨kvs, ?_, ?_⟩
    · rcases h with h | ⟨o', h⟩
      · rw [q] at h; cases h; exact .inl rfl
      · rw [q] at h; cases h; exact .inr ⟨o', rfl⟩
    · rcases hu with rfl | ⟨o', rfl⟩
      · exact .inl upd_same
      · exact .inr ⟨o', upd_same⟩
  · exact .inl (by rw [upd_ne e]; exact q)
theorem Stt.told {ω : List O} {ρ : Env} {σ : L2.St} {As : List (List Addr)} {a : Addr} {kvs : List (L2.Key × V)} {u : HO} (S : Stt K ω ρ σ F H As) (h : Rd F a (.dK kvs)) (hu : u = .dK kvs ∨ ∃ o, u = .frz o (.dK kvs)) : Stt K ω ρ σ (upd F a u) (upd H a u) As := by
  have hne : F a ≠ none := by rcases h with h | ⟨o, h⟩ <;> rw [h] <;> simp
  refine ⟨fun x o q => ?_, S.sl.keepD (upd_le h hu) fun x hx => ?_, S.nd⟩
  · by_cases e : x = a
    · subst e; rw [upd_same] at q ⊢; exact q
    · rw [upd_ne e] at q ⊢; exact S.ex _ _ q
  · have e : x ≠ a := fun e => hne (by rw [← e]; exact (S.sl.mem hx).1)
    rw [upd_ne e, upd_ne e]
    exact ⟨(S.sl.mem hx).1, rfl⟩
end
/-- growth from a locked heap, seen from the unlocked one -/
theorem GrowA.unlock {F H F1 H1 : Hp} {A A1 : List Addr} {a : Addr} {u l : HO} (hF : F a = some u) (hA : a ∉ A) (g : GrowA A (upd F a l) (upd H a l) F1 H1 A1) (hH : H a = some u) : GrowA A F H (upd F1 a u) (upd H1 a u) A1 := by
  refine ⟨fun x o q => ?_, fun x o q => ?_, fun x o q hx => ?_, fun x q => ?_, fun x q1 q2 q3 => ?_, fun x q => ?_⟩
  · by_cases e : x = a
    · subst e; rw [upd_same]; rw [hF] at q; exact q
    · rw [upd_ne e]; exact g.ff _ _ (by rw [upd_ne e]; exact q)
  · by_cases e : x = a
    · subst e; rw [upd_same] at q ⊢; exact q
    · rw [upd_ne e] at q ⊢; exact g.fh _ _ q
  · by_cases e : x = a
    · subst e; rw [upd_same]; rw [hH] at q; exact q
    · rw [upd_ne e]; exact g.keep _ _ (by rw [upd_ne e]; exact q) hx
  · by_cases e : x = a
    · subst e; rw [upd_same]; simp
    · rw [upd_ne e]; exact g.th x (by rw [upd_ne e]; exact q)
  · have e : x ≠ a := fun e => by rw [e, hF] at q1; cases q1
    rw [upd_ne e]
    exact g.sep x (by rw [upd_ne e]; exact q1) (by rw [upd_ne e]; exact q2) q3
  · rcases g.new x q with h | h
    · exact .inl h
    · have e : x ≠ a := fun e => by rw [e, upd_same] at h; cases h
      rw [upd_ne e] at h
      exact .inr h
def tFrz (t : TS) : TS := fun D σ H => tLock t D σ H ∨ t D σ H
theorem ps_frz {X : Cx} {st : Stmt} {t : TS} (h : PS X st t) : PS X st (tFrz t) := ⟨fun pins s σ H D I hw => by
  rcases hw with hw | hw
  · exact (ps_lock h).run pins s σ H D I hw
  · exact h.run pins s σ H D I hw⟩
def noExcF : R Fl → R Fl
  | .ok fl => .ok fl
  | _ => .no
/-- for x in y[n], which is a dict: over its keys -/
def sForK (i : Nat) (n : Int) (set : D → Env → R Env) (body : Env → R Fl) (ρ : Env) : R Fl := match ρ[i]? with
  | some (some (.tup ds)) => (match atI ds n with
    | some (.dic es) => noExcF (forD set body (es.map fun kv => dKey kv.1) ρ)
    | _ => .no)
  | _ => .no
section
variable {X : Cx} {E : XK} {c : Cfg} {ω : List O} {body : List Stmt} {t : TS} {f : Env → R Fl} {or : O} {pos : Pos} {tg : Expr} {gt : TG} {set : D → Env → R Env}
theorem keys_loop {te : TE} {g : DG X E c.W ω tg gt set} (hb : DSs X E c ω body t f ω or) {σ : L2.St} {ρ : Env} {F H : Hp} {As : List (List Addr)} {Dd : Ends} {d : Addr} {o : Obj} {kvs : List (L2.Key × V)} {es : List (L2.Key × D)} (S : Stt X.K ω ρ σ F H As) (hd : F d = some (.frz o (.dK kvs))) (hr : RepK X.K F es kvs)
    (p : PstS X.mg E X.K c ω or σ As.flatten F H Dd (forD set f (es.map fun kv => dKey kv.1) ρ)) (ht : ∀ Q : VK, Q (.ref d) H → te σ H Q) : tFor (iKeys te) gt t Dd σ H := by
  refine ht _ ⟨d, o, rfl, .inl ⟨kvs, S.ex _ _ hd, ?_⟩⟩
  have hk : Reps X.K F (es.map fun kv => dKey kv.1) (kvs.map fun kv => kV kv.1) := reps_keys hr
  have hn := hk.length
  rw [List.length_map] at hn
  obtain ⟨xs, hxs⟩ : ∃ xs, xs = es.map fun kv => dKey kv.1 := ⟨_, rfl⟩
  rw [← hxs] at p hk hn
  refine ⟨fun i m σ' H' => m = xs.length - i ∧ i ≤ xs.length ∧ ∃ ρ' F' As', Stt X.K ω ρ' σ' F' H' As' ∧ Same F F' ∧ PstS X.mg E X.K c ω or σ' As'.flatten F' H' Dd (forD set f (xs.drop i) ρ'), ⟨xs.length, rfl, Nat.zero_le _, ρ, F, As, S, Same.refl _, by simpa using p⟩, ?_⟩
  rintro j m σ' H' ⟨rfl, hj, ρ', F', As', S', e1, p'⟩
  have exH : H' d = some (.frz o (.dK kvs)) := S'.ex _ _ (e1 _ _ hd)
  by_cases hlt : j < xs.length
  · refine .inr ⟨⟨exH, by omega⟩, fun σ2 H2 => ∃ ρ2 F2 As2, Stt X.K ω ρ2 σ2 F2 H2 As2 ∧ Same F F2 ∧ PstS X.mg E X.K c ω or σ2 As2.flatten F2 H2 Dd (forD set f (xs.drop (j + 1)) ρ2), fun σ2 H2 q => ⟨_, Nat.sub_lt_sub_left hlt (Nat.lt_succ_self j), rfl, hlt, q⟩, fun v H2 y => ?_⟩
    obtain ⟨rfl, k, w, hkw, rfl⟩ := y
    have hx : (kvs.map fun kv => kV kv.1)[j]? = some (kV k) := by rw [List.getElem?_map, hkw]; rfl
    obtain ⟨d', hd', rd⟩ := hk.get' hx
    have hdrop : xs.drop j = d' :: xs.drop (j + 1) := by
      rw [List.drop_eq_getElem_cons hlt]
      congr 1
      rw [List.getElem?_eq_getElem hlt] at hd'
      exact Option.some.inj hd'
    rw [hdrop] at p'
    have p2 : PstS X.mg E X.K c ω or σ' As'.flatten F' H2 Dd (set d' ρ' >>= fun ρ' => f ρ' >>= fun fl => match fl with
      | .nx ρ'' => forD set f (xs.drop (j + 1)) ρ''
      | .rt d ρ3 => .ok (.rt d ρ3)) := p'
    refine g.sem σ' ρ' F' H2 As' d' _ _ S' (Rep.mono e1 d' _ rd) ?_
    cases hset : set d' ρ' with
    | exc c => exact absurd hset (g.nex d' ρ' c)
    | no => rw [hset] at p2; exact p2.elim
    | ok ρ2 =>
      rw [hset, ok_bind] at p2
      intro σ2 S2 ag
      have p2 := PstS.grow (σ1 := σ2) (F1 := F') (H1 := H2) ⟨GrowA.refl S'.ex, ag⟩ p2
      refine hb.sem σ2 ρ2 F' H2 As' _ S2 ?_
      cases hf : f ρ2 with
      | exc c => rw [hf] at p2; exact p2
      | no => rw [hf] at p2; exact p2
      | ok fl =>
        rw [hf, ok_bind] at p2
        cases fl with
        | nx ρ3 => exact fun σ3 F3 H3 As3 S3 g3 => ⟨ρ3, F3, As3, S3, e1.trans g3.g.ff, PstS.grow g3 p2⟩
        | rt d ρ3 => exact p2
  · have ej : j = xs.length := by omega
    subst ej
    refine .inl ⟨⟨exH, by omega⟩, ?_⟩
    rw [List.drop_length] at p'
    exact p' σ' F' H' As' S' (.same (GrowA.refl S'.ex))
theorem ds_forKeys {i k : Nat} {n : Int} {jj} {x : Str} {npos cpos spos : Pos} (hp : PassesOwn (model X.prog X.w) X.A X.env X.xe) (hc : X.calm = true) (hr : Room k X.A) (g : DG X E c.W ω tg gt set) (hb : DSs X E c ω body t f ω or) (hω : ω[i]? = some .fz := by rfl) (hN : X.N[i]? = some x := by rfl)
    (hv : Vis X.env.scope x := by first | exact Or.inl rfl | exact Or.inr (Or.inl rfl) | exact Or.inr (Or.inr rfl)) (hdb : (x == ("__debug__" : Str)) = false := by decide) (hcd : (x == ("__classdict__" : Str)) = false := by decide)
    (hs : ∀ y, foldedSetIterable (.Subscript (.Name x npos) (.Constant (.int n) jj cpos) spos) X.env y = pure y := by intro _; rfl) :
    DS X E c ω (.For tg (.Subscript (.Name x npos) (.Constant (.int n) jj cpos) spos) body [] pos) (tFrz (tFor (iKeys (tOp (rIxA X.K) (tVar i) (tC (.int n)))) gt t)) (sForK i n set f) ω or :=
  ⟨ps_frz (ps_for hp hc (pi_keys (pe_ix (ix_any hr) (pe_var hN hv hdb hcd) pe_int (by intro _ _; rfl))) g.pg hb.pss hs), fun σ ρ F H As Dd S p => by
    unfold sForK at p
    split at p
    · rename_i ds hρ
      split at p
      · rename_i es hes
        obtain ⟨v, B, hσ, hA, r⟩ := S.sl.get hω hρ
        obtain ⟨⟨a0, vs, rfl, Fa, rs⟩, _⟩ := r
        obtain ⟨w, h3, h4⟩ := atI_reps rs hes
        obtain ⟨d, kvs, rfl, hd, hk⟩ := h4
        have run : ∀ H1 : Hp, H1 a0 = some (.tup vs) → ∀ Q : VK, Q (.ref d) H1 → tOp (rIxA X.K) (tVar i) (tC (.int n)) σ H1 Q := fun H1 h1 Q q => ⟨.ref a0, hσ, .inl (.inr (.inl ⟨a0, vs, n, .ref d, rfl, rfl, .of h1, h3, q⟩))⟩
        rcases hd with hd | ⟨o, hd⟩
        · refine .inl ⟨d, .dK kvs, S.ex _ _ hd, trivial, fun od => ?_⟩
          have hne : a0 ≠ d := fun e => by rw [e, hd] at Fa; cases Fa
          have S1 := S.told (u := .frz od (.dK kvs)) (.inl hd) (.inr ⟨od, rfl⟩)
          have dA : d ∉ As.flatten := fun q => by have := (S.sl.mem q).1; rw [hd] at this; cases this
          refine keys_loop (g := g) hb S1 upd_same (RepK.monoD (upd_le (.inl hd) (.inr ⟨od, rfl⟩)) _ _ hk) ?_ (run _ (by rw [upd_ne hne]; exact S.ex _ _ Fa))
          cases hf : forD set f (es.map fun kv => dKey kv.1) ρ with
          | exc c => rw [hf] at p; exact (show False from p).elim
          | no => rw [hf] at p; exact p
          | ok fl =>
            rw [hf] at p
            cases fl with
            | nx ρ1 =>
              intro σ1 F1 H1 As1 S2 g1
              have e1 : F1 d = some (.frz od (.dK kvs)) := g1.g.ff _ _ upd_same
              exact ⟨S2.ex _ _ e1, p σ1 _ _ As1 (S2.told (u := .dK kvs) (.inr ⟨od, e1⟩) (.inl rfl)) ⟨g1.g.unlock hd dA (S.ex _ _ hd), g1.ag⟩⟩
            | rt e ρ1 =>
              intro v σ1 F1 H1 B1 As1 ω1 r1 nB ap S2 io g1
              have e1 : F1 d = some (.frz od (.dK kvs)) := g1.g.ff _ _ upd_same
              refine ⟨S2.ex _ _ e1, p v σ1 _ _ B1 As1 ω1 (RepO.keepD _ _ _ _ (upd_le (.inr ⟨od, e1⟩) (.inl rfl)) (fun y hy => ?_) r1) nB ap (S2.told (u := .dK kvs) (.inr ⟨od, e1⟩) (.inl rfl)) io ⟨g1.g.unlock hd dA (S.ex _ _ hd), g1.ag⟩⟩
              have z := (RepO.mem _ _ _ _ r1 hy).1
              have ne : y ≠ d := fun q => by rw [q, e1] at z; cases z
              rw [upd_ne ne, upd_ne ne]
              exact ⟨z, rfl⟩
        · refine .inr (keys_loop (g := g) hb S hd hk ?_ (run _ (S.ex _ _ Fa)))
          cases hf : forD set f (es.map fun kv => dKey kv.1) ρ with
          | exc c => rw [hf] at p; exact (show False from p).elim
          | no => rw [hf] at p; exact p
          | ok fl => rw [hf] at p; exact p
      · exact p.elim
    · exact p.elim⟩
end
end Dn

/-! pop; tuples, appends, stores and ranges of expressions that change what names own. -/
namespace Dn
open PySem L2 PyProof.Rows
section
variable {X : Cx} {E : XK} {c : Cfg} {ω : List O} {e b : Expr} {es : List Expr} {t : TS} {te tb : TE} {tas : TA} {f g : Env → R (D × Env)} {fb : Env → R D} {fas : Env → R (List D × Env)} {o or : O} {ks : List (Option Nat)} {pos cpos apos npos : Pos} {x : Str}
/-- x.pop() -/
def xPop (i : Nat) (ρ : Env) : R (D × Env) := match ρ[i]? with
  | some (some (.lst ds)) => (match ds.getLast? with
    | some d => .ok (d, ρ.set i (some (.lst ds.dropLast)))
    | none => .no)
  | _ => .no
theorem dx_pop {i : Nat} (hi : ω[i]? = some (.own .fz) := by rfl) (hN : X.N[i]? = some x := by rfl) (hv : Vis X.env.scope x := by first | exact Or.inl rfl | exact Or.inr (Or.inl rfl) | exact Or.inr (Or.inr rfl)) (hd : (x == ("__debug__" : Str)) = false := by decide)
    (hcd : (x == ("__classdict__" : Str)) = false := by decide) (hbase : attributeBase (.Name x npos) "pop" X.env (eval (.Name x npos) X.env) = eval (.Name x npos) X.env := by rfl)
    (hline : (apos.endLine == cpos.line) = true := by rfl) :
    DX X E ω (.Call (.Attribute (.Name x npos) "pop" apos) [] [] cpos) (tBM0 X.K "list" rPop (tVar i)) (xPop i) .fz :=
  ⟨pe_bm0 PySem.F.plainAttrs_list PySem.F.slot_list_pop PySem.F.type_list_pop mt_pop (pe_var hN hv hd hcd) hbase hline, fun σ ρ F H As Q S p => by
    unfold xPop at p
    split at p
    · rename_i ds hρ
      split at p
      · rename_i d hl
        obtain ⟨v, B, hσ, hA, r⟩ := S.sl.get hi hρ
        obtain ⟨a, vs, rfl, Fa, Ha, rfl, rs⟩ := list_at r
        have hlast : ds[ds.length - 1]? = some d := by rw [← List.getLast?_eq_getElem?]; exact hl
        obtain ⟨w, hw, rw'⟩ := rs.get hlast
        refine ⟨.ref a, hσ, .inl ⟨rfl, vs, .of Ha⟩, a, vs, w, rfl, rfl, Ha, by rw [rs.length]; exact hw, ?_⟩
        obtain ⟨S2, g2⟩ := S.change hi hσ hA (a := a) (by simp) (own_lst Fa upd_same rs.dropLast) (fun x h => h) (by simp)
        exact p w F _ _ [] S2 ⟨rw', rfl⟩ List.nodup_nil (by simp) g2
      · exact p.elim
    · exact p.elim⟩
/-- a tuple -/
def xTup (fas : Env → R (List D × Env)) (ρ : Env) : R (D × Env) := fas ρ >>= fun q => .ok (.tup q.1, q.2)
theorem argR_reps {K : PySem.W.Frag} {F : Hp} {ρ : Env} {σ : L2.St} : ∀ {ks : List (Option Nat)} {ds : List D} {vs : List V}, (ks.all fun k => k.isNone) = true → ArgR K F ρ σ ks ds vs → Reps K F ds vs ∧ vs.length = ks.length
  | [], ds, vs, _, r => by obtain ⟨rfl, rfl⟩ := r; exact ⟨rfl, rfl⟩
  | none :: ks, ds, vs, h, r => by
    obtain ⟨d, dr, v, vr, rfl, rfl, h3, h4⟩ := r
    obtain ⟨h5, h6⟩ := argR_reps (ks := ks) (by simpa using h) h4
    exact ⟨⟨v, vr, rfl, h3, h5⟩, by simp [h6]⟩
  | some i :: ks, ds, vs, h, r => by simp at h
theorem dx_tup {k} (h : DXA X E ω es tas fas ks) (hk : (ks.all fun k => k.isNone) = true := by rfl) (hl : ks.length ≤ 1000 := by decide) : DX X E ω (.Tuple es k pos) (tTup tas) (xTup fas) .fz :=
  ⟨pe_tup h.pa, fun σ ρ F H As Q S p => by
    refine h.sem σ ρ F H As _ S ?_
    unfold xTup at p
    cases hf : fas ρ with
    | ok q =>
      obtain ⟨ds, ρ'⟩ := q
      rw [hf] at p
      intro vs F1 H1 As1 S1 ar g1
      obtain ⟨rs, ln⟩ := argR_reps hk ar
      refine ⟨by rw [ln, ← most_eq]; exact Nat.le_trans hl (by decide), fun l hl => ?_⟩
      have g2 := Grow.new (u := .tup vs) S1.ex hl
      exact p (.ref l) _ _ As1 [] (S1.grow g2) ⟨⟨l, vs, rfl, upd_same, Reps.mono g2.ff ds vs rs⟩, rfl⟩ List.nodup_nil (by simp) (g1.trans (.of g2 fun x h => .inl h))
    | exc c => rw [hf] at p; exact p
    | no => rw [hf] at p; exact p⟩
/-- x.append(e) -/
def sAppX (i : Nat) (fe : Env → R (D × Env)) (ρ : Env) : R Fl := match ρ[i]? with
  | some (some (.lst _)) => fe ρ >>= fun q => (match q.2[i]? with
    | some (some (.lst ds)) => putE q.2 i (appD q.1 (.lst ds))
    | _ => .no)
  | _ => .no
theorem ds_appX {i : Nat} (he : DX X E ω e te f .fz) (hi : ω[i]? = some (.own .fz) := by rfl) (hN : X.N[i]? = some x := by rfl) (hv : Vis X.env.scope x := by first | exact Or.inl rfl | exact Or.inr (Or.inl rfl) | exact Or.inr (Or.inr rfl)) (hd : (x == ("__debug__" : Str)) = false := by decide)
    (hcd : (x == ("__classdict__" : Str)) = false := by decide) (hbase : attributeBase (.Name x npos) "append" X.env (eval (.Name x npos) X.env) = eval (.Name x npos) X.env := by rfl)
    (hfew : ((backTo cpos (starEach [e] X.env)).all (fun x => !x.1) && (backToKw cpos (keywordEach [] X.env)).all (fun x => x.1.isSome) && decide ([e].length + ([] : List Keyword).length + (if ([] : List Keyword).isEmpty then 0 else 1) < 30)) = true := by rfl) (hline : (apos.endLine == cpos.line) = true := by rfl)
    (hst : starEach (e :: []) X.env = (false, eval e X.env) :: starEach [] X.env := by rfl) (hpl : (backTo cpos (starEach [] X.env)).any (·.1) = false := by rfl) (hs : swapsWith (.Call (.Attribute (.Name x npos) "append" apos) [e] [] cpos) none pos.line X.env = pure false := by rfl) :
    DS X E c ω (.Expr (.Call (.Attribute (.Name x npos) "append" apos) [e] [] cpos) pos) (tDrop (tBM X.K "list" rAppend (tVar i) (tCons te tNil))) (sAppX i f) ω or :=
  ⟨ps_expr (pe_bm PySem.F.plainAttrs_list PySem.F.slot_list_append PySem.F.type_list_append mt_append (pe_var hN hv hd hcd) (pa_cons he.pe pa_nil hst) hbase hfew hline hst hpl) hs, fun σ ρ F H As Dd S p => by
    unfold sAppX at p
    split at p
    · rename_i ds0 hρ
      obtain ⟨v, B, hσ, hA, r⟩ := S.sl.get hi hρ
      obtain ⟨a, vs, rfl, Fa, Ha, rfl, rs⟩ := list_at r
      refine ⟨.ref a, hσ, .inl ⟨rfl, vs, .of Ha⟩, ?_⟩
      refine he.sem σ ρ F H As _ S ?_
      cases hf : f ρ with
      | ok q =>
        obtain ⟨y, ρ1⟩ := q
        rw [hf, ok_bind] at p
        intro w F1 H1 As1 B1 S1 r1 n1 ap1 g1
        obtain ⟨r1, rfl⟩ := r1
        dsimp only at p
        split at p
        · rename_i ds hρ1
          obtain ⟨v1, B2, hσ1, hA1, r2⟩ := S1.sl.get hi hρ1
          rw [hσ] at hσ1
          cases hσ1
          obtain ⟨a1, vs1, ea, Fa1, Ha1, rfl, rs1⟩ := list_at r2
          cases ea
          by_cases hl : ds.length < most
          · have e : appD y (.lst ds) = .ok (.lst (ds ++ [y])) := if_pos hl
            rw [e] at p
            refine ⟨a, vs1, w, rfl, rfl, Ha1, by rw [rs1.length, ← most_eq]; exact hl, ?_⟩
            obtain ⟨S2, g2⟩ := S1.change hi hσ hA1 (a := a) (by simp) (own_lst Fa1 upd_same (rs1.snoc r1)) (fun x h => h) (by simp)
            exact p σ F1 _ _ S2 (.same (GrowA.trans g1 g2))
          · have e : appD y (.lst ds) = .no := if_neg hl
            rw [e] at p
            exact p.elim
        · exact p.elim
      | exc c => rw [hf] at p; exact p
      | no => rw [hf] at p; exact p
    · exact p.elim⟩
/-- x[k] = e -/
def sPutX (i : Nat) (fk : Env → R D) (fe : Env → R (D × Env)) (ρ : Env) : R Fl := fe ρ >>= fun q => match q.2[i]? with
  | some (some d) => noExc (fk q.2) >>= fun k => putE q.2 i (storeD d k q.1)
  | _ => .no
theorem ds_putX {i k : Nat} {spos : Pos} (hr : Room k X.A) (hk : DE X E ω b tb fb .fz []) (he : DX X E ω e te f .fz) (hi : ω[i]? = some (.own .fz) := by rfl) (hN : X.N[i]? = some x := by rfl) (hv : Vis X.env.scope x := by first | exact Or.inl rfl | exact Or.inr (Or.inl rfl) | exact Or.inr (Or.inr rfl)) (hd : (x == ("__debug__" : Str)) = false := by decide)
    (hcd : (x == ("__classdict__" : Str)) = false := by decide) (ha : ∀ v, assign (.Subscript (.Name x npos) b spos) X.env v = (do
      let ov ← holding [v] (eval (.Name x npos) X.env)
      let iv ← holding [v, ov] (eval b X.env)
      standAt spos
      holding [v, ov, iv] (setItem ov iv v)
      release [v, ov, iv] []) := by intro _; rfl) (hs : swapsWithSole [.Subscript (.Name x npos) b spos] e pos.line X.env = pure false := by rfl) (hw : swappedStores [.Subscript (.Name x npos) b spos] e X.env = pure none := by rfl)
    (h1 : (assignEach [.Subscript (.Name x npos) b spos] X.env).map (·.2) = [assign (.Subscript (.Name x npos) b spos) X.env] := by rfl) :
    DS X E c ω (.Assign [.Subscript (.Name x npos) b spos] e pos) (tAsg te (gSub (tVar i) tb rSetA)) (sPutX i fb f) ω or :=
  ⟨ps_asg he.pe (pg_sub (pe_var hN hv hd hcd) hk.pe (set_any hr) ha) hs hw h1, fun σ ρ F H As Dd S p => by
    refine he.sem σ ρ F H As _ S ?_
    unfold sPutX at p
    cases hf : f ρ with
    | ok q =>
      obtain ⟨y, ρ1⟩ := q
      rw [hf, ok_bind] at p
      intro w F1 H1 As1 B1 S1 r1 n1 ap1 gx
      have gx' : GrowA As.flatten F H F1 H1 As1.flatten := by
        obtain ⟨_, rfl⟩ := r1
        exact gx
      dsimp only at p
      split at p
      · rename_i d hρ
        obtain ⟨v, B, hσ, hA, r⟩ := S1.sl.get hi hρ
        refine ⟨v, hσ, ?_⟩
        refine hk.sem σ ρ1 F1 H1 As1 _ S1 ?_
        cases hfk : fb ρ1 with
        | ok k =>
          rw [hfk] at p
          have p : PstS X.mg E X.K c ω or σ As.flatten F H Dd (putE ρ1 i (storeD d k y)) := p
          intro wk F2 H2 B2 g2 r2 b2 n2
          have S2 := S1.grow g2
          have r' := r.grow g2
          have rw' := Rep.mono g2.ff y w r1.1
          have gA : GrowA As.flatten F H F2 H2 As1.flatten := gx'.trans (GrowA.of g2 fun x h => .inl h)
          cases d with
          | dic es =>
            obtain ⟨a, kvs, rfl, Fa, Ha, rfl, rs⟩ := dict_at r'
            have p' : PstS X.mg E X.K c ω or σ As.flatten F H Dd (putE ρ1 i (match keyD k with
              | some k => if es.length < most then .ok (.dic (putD es k y)) else .no
              | none => .no)) := p
            split at p'
            · rename_i k' hk'
              split at p'
              · rename_i hl
                refine .inr ⟨a, upd H2 a (.dK (putK kvs k' w)), rfl, ?_, ?_⟩
                · rw [key_rep hk' r2.1]
                  exact DPut.k Ha (by rw [repK_len rs, ← most_eq]; exact hl)
                · obtain ⟨S3, g3⟩ := S2.change hi hσ hA (a := a) (by simp) (own_dic Fa upd_same (repK_put (k := k') rw' rs)) (fun x h => h) (by simp)
                  exact p' σ F2 _ _ S3 (.same (gA.trans g3))
              · exact p'.elim
            · exact p'.elim
          | lst ds =>
            obtain ⟨a, vs, rfl, Fa, Ha, rfl, rs⟩ := list_at r'
            cases k with
            | int k =>
              have p' : PstS X.mg E X.K c ω or σ As.flatten F H Dd (putE ρ1 i (match ixN ds.length k with
                | some j => .ok (.lst (ds.set j y))
                | none => .no)) := p
              split at p'
              · rename_i j hj
                refine .inl ⟨a, vs, k, j, rfl, r2.1, Ha, by rw [rs.length]; exact hj, ?_⟩
                obtain ⟨S3, g3⟩ := S2.change hi hσ hA (a := a) (by simp) (own_lst Fa upd_same (rs.set j rw')) (fun x h => h) (by simp)
                exact p' σ F2 _ _ S3 (.same (gA.trans g3))
              · exact p'.elim
            | _ => exact (show False from p).elim
          | _ => exact (show False from p).elim
        | exc c => rw [hfk] at p; exact (show False from p).elim
        | no => rw [hfk] at p; exact p.elim
      · exact p.elim
    | exc c => rw [hf] at p; exact p
    | no => rw [hf] at p; exact p⟩
/-- for x in range(e) -/
def sForX (fe : Env → R (D × Env)) (set : D → Env → R Env) (body : Env → R Fl) (ρ : Env) : R Fl := fe ρ >>= fun q => rng1 q.1 >>= fun xs => forD set body xs q.2
theorem ds_forRX {tg : Expr} {p2 : Pos} {gt : TG} {set : D → Env → R Env} {fB : Env → R Fl} {body : List Stmt} (hp : PassesOwn (model X.prog X.w) X.A X.env X.xe) (hc : X.calm = true) (hm : X.mg "range" = none) (he : DX X E ω e te f .fz) (hg : DG X E c.W ω tg gt set) (hb : DSs X E c ω body t fB ω or)
    (hgl : Gl X "range" := by rfl) (hse : starEach [e] X.env = [(false, eval e X.env)] := by rfl) (hs : ∀ x, foldedSetIterable (.Call (.Name "range" p2) [e] [] cpos) X.env x = pure x := by intro _; rfl) :
    DS X E c ω (.For tg (.Call (.Name "range" p2) [e] [] cpos) body [] pos) (tFor (iRng1 (tCons te tNil)) gt t) (sForX f set fB) ω or :=
  ⟨ps_for hp hc (pi_range1 hgl hm (pa_cons he.pe pa_nil hse) hse) hg.pg hb.pss hs, fun σ ρ F H As Dd S p => by
    refine he.sem σ ρ F H As _ S ?_
    unfold sForX at p
    cases hf : f ρ with
    | exc c => rw [hf] at p; exact p
    | no => rw [hf] at p; exact p
    | ok q =>
      obtain ⟨d, ρ1⟩ := q
      rw [hf, ok_bind] at p
      intro v F1 H1 As1 B1 S1 r1 n1 ap1 gx
      have gx' : GrowA As.flatten F H F1 H1 As1.flatten := by
        obtain ⟨_, rfl⟩ := r1
        exact gx
      dsimp only at p
      cases d with
      | int n =>
        by_cases hn : -4611686018427387904 ≤ n ∧ n < 4611686018427387904
        · have e0 : rng1 (.int n) = .ok (rangeD 0 n.toNat) := if_pos hn
          rw [e0, ok_bind] at p
          refine ⟨n, by rw [show v = .int n from r1.1], by omega, by omega, ?_⟩
          have p := PstS.grow (GS.same gx' : GS c.W σ As.flatten F H σ F1 H1 As1.flatten) p
          obtain ⟨vs, hr, hgo, hst⟩ := itOk_r (K := X.K) (F := F1) 0 n.toNat
          generalize rangeD 0 n.toNat = xs at p hr hgo hst
          have hn := hr.length
          refine ⟨fun i m σ' H' => m = xs.length - i ∧ i ≤ xs.length ∧ ∃ ρ' F' As', Stt X.K ω ρ' σ' F' H' As' ∧ Same F1 F' ∧ PstS X.mg E X.K c ω or σ' As'.flatten F' H' Dd (forD set fB (xs.drop i) ρ'), ⟨xs.length, rfl, Nat.zero_le _, ρ1, F1, As1, S1, Same.refl _, by simpa using p⟩, ?_⟩
          rintro j m σ' H' ⟨rfl, hj, ρ', F', As', S', e1, p'⟩
          have exH : Same F1 H' := e1.trans S'.ex
          by_cases hlt : j < xs.length
          · refine .inr ⟨(hgo j H' exH (by rw [hn]; exact hlt)).1, fun σ2 H2 => ∃ ρ2 F2 As2, Stt X.K ω ρ2 σ2 F2 H2 As2 ∧ Same F1 F2 ∧ PstS X.mg E X.K c ω or σ2 As2.flatten F2 H2 Dd (forD set fB (xs.drop (j + 1)) ρ2), fun σ2 H2 q => ⟨_, Nat.sub_lt_sub_left hlt (Nat.lt_succ_self j), rfl, hlt, q⟩, fun v H2 y => ?_⟩
            obtain ⟨rfl, hx⟩ := (hgo j H' exH (by rw [hn]; exact hlt)).2 v H2 y
            obtain ⟨d, hd, rd⟩ := hr.get' hx
            have hdrop : xs.drop j = d :: xs.drop (j + 1) := by
              rw [List.drop_eq_getElem_cons hlt]
              congr 1
              rw [List.getElem?_eq_getElem hlt] at hd
              exact Option.some.inj hd
            rw [hdrop] at p'
            have p2 : PstS X.mg E X.K c ω or σ' As'.flatten F' H2 Dd (set d ρ' >>= fun ρ' => fB ρ' >>= fun fl => match fl with
              | .nx ρ'' => forD set fB (xs.drop (j + 1)) ρ''
              | .rt d ρ3 => .ok (.rt d ρ3)) := p'
            refine hg.sem σ' ρ' F' H2 As' d v _ S' (Rep.mono e1 d v rd) ?_
            cases hset : set d ρ' with
            | exc c => exact absurd hset (hg.nex d ρ' c)
            | no => rw [hset] at p2; exact p2.elim
            | ok ρ2 =>
              rw [hset, ok_bind] at p2
              intro σ2 S2 ag
              have p2 := PstS.grow (σ1 := σ2) (F1 := F') (H1 := H2) ⟨GrowA.refl S'.ex, ag⟩ p2
              refine hb.sem σ2 ρ2 F' H2 As' _ S2 ?_
              cases hfB : fB ρ2 with
              | exc c => rw [hfB] at p2; exact p2
              | no => rw [hfB] at p2; exact p2
              | ok fl =>
                rw [hfB, ok_bind] at p2
                cases fl with
                | nx ρ3 => exact fun σ3 F3 H3 As3 S3 g3 => ⟨ρ3, F3, As3, S3, e1.trans g3.g.ff, PstS.grow g3 p2⟩
                | rt d ρ3 => exact p2
          · have ej : j = xs.length := by omega
            subst ej
            refine .inl ⟨hst _ H' exH (by rw [hn]; exact Nat.le_refl _), ?_⟩
            rw [List.drop_length] at p'
            exact p' σ' F' H' As' S' (.same (GrowA.refl S'.ex))
        · have e0 : rng1 (.int n) = .no := if_neg hn
          rw [e0] at p
          exact (show False from p).elim
      | _ => exact (show False from p).elim⟩
end
/-! ### a def under another name of the top -/
section
variable {P : Program} {w : World} {K : PySem.W.Frag} {mg : Str → Option Value} {base : Heap} {x y : Str} {st : Stmt} {N ps : List Str} {k kk n : Nat} {fb : Env → R Fl} {g : List D → R D} {ωp ωl : List O} {o : O} {W : List Nat}
/-- the name x of the top is the def y -/
def HasA (K : PySem.W.Frag) (mg : Str → Option Value) (x y : Str) (st : Stmt) (ps : List Str) : Prop := ∃ f fd, mg x = some (.ref f) ∧ PySem.W.keepIn K (.ref f) = true ∧ Binds K fd ps [] ∧ Fun K y y st f fd
theorem dfn_okA (h : HasA K mg x y st ps) (S : FnScope N ps (defScope st)) (hg : g = fnD N.length fb) (hk : kk = k + 1) (hn : n = ps.length) (hp : ωp.length = ps.length) (hz : ωp.all O.isFz = true) (hl : ωp.length + ωl.length = N.length)
    (hbody : ∀ (f : Addr) (cdv : Value) (A : Around) (outer : List PySem.Env) (s : Shared) (H : Hp) (E : XK), Room k (A.deeper (envOfC y (defScope st) s.heap.objs.size f cdv)) →
      ∃ t ω', DSs (cxOf CX0 P w K mg base N y (defScope st) f cdv A outer s H E).nox E0 ⟨W, []⟩ (ωp ++ ωl) (defBody st) t fb ω' o) : DFn P w K mg base CX0 kk x n g o := by
  obtain ⟨f, fd, h1, h2, h3, h4⟩ := h
  subst hg hk hn
  exact ⟨⟨f, fd, ps, h1, h2, h3, fn_ok (W := W) h4 S hp hz hl (hbody f)⟩⟩
theorem xfn_okA {ib : List Bool} {g : List D → R (D × List D)} (h : HasA K mg x y st ps) (S : FnScope N ps (defScope st)) (hg : g = fnX N.length (ioI 0 ib) fb) (hk : kk = k + 1) (hp : ib.length = ps.length) (hl : ib.length + ωl.length = N.length) (hW : ((ioI 0 ib).all fun i => !W.contains i) = true)
    (hbody : ∀ (f : Addr) (cdv : Value) (A : Around) (outer : List PySem.Env) (s : Shared) (H : Hp) (E : XK), Room k (A.deeper (envOfC y (defScope st) s.heap.objs.size f cdv)) →
      ∃ t ω', DSs (cxOf CX0 P w K mg base N y (defScope st) f cdv A outer s H E).nox E0 ⟨W, ioI 0 ib⟩ (ib.map oOf ++ ωl) (defBody st) t fb ω' o) : XFn P w K mg base CX0 kk x ib g o := by
  obtain ⟨f, fd, h1, h2, h3, h4⟩ := h
  subst hg hk
  exact ⟨⟨f, fd, ps, h1, h2, h3, fn_okX (W := W) h4 S hp hl hW (hbody f)⟩⟩
theorem hasA_mk {h : Heap} {f : Addr} {oc : Value} {od an : Option Addr} {osl : Array (Option Value)} {kV doc pm cdv ct : Value} (X : K.In h) (G : h.Ns mainGlobals mg) (a : PySem.W.nsIn K mainGlobals x = some (some (.ref f)))
    (l : K.lookup f = some ⟨oc, od, .func (PySem.W.fnOf y y (defArgs st) (defBody st) (defScope st) .none kV doc pm an cdv ct), osl⟩) (c : PySem.W.codeIn K cdv y = true) (kp : PySem.W.keepIn K (.ref f) = true)
    (b : ∀ (kV doc pm : Value) (an : Option Addr) (cdv ct : Value) (us : List Value), us.length = ps.length → bindArgs (PySem.W.fnOf y y (defArgs st) (defBody st) (defScope st) .none kV doc pm an cdv ct) ⟨us, []⟩ = pure (ps.zip us)) : HasA K mg x y st ps :=
  ⟨f, _, PySem.W.mg_of X G a, kp, (fun_mk l c kp).binds b, fun_mk l c kp⟩
end
end Dn

/-! list(d.values()), sorted(xs), len(set(xs)), d.clear(). -/
namespace Dn
open PySem L2 PyProof.Rows
/-- list(d.values()) -/
def tListVals (td : TE) : TE := fun σ H Q => td σ H fun x H1 => ∃ (a : Addr) (kvs : List (L2.Key × V)), x = V.ref a ∧ Rd H1 a (.dK kvs) ∧ ∀ l, H1 l = none → Q (.ref l) (upd H1 l (.lst (kvs.map (·.2))))
theorem kv_vals : ∀ {kvs : List (L2.Key × V)} {vs : List (L2.Key × Value)}, KV kvs vs → Vals (kvs.map (·.2)) (vs.map (·.2))
  | _, _, .nil => .nil
  | _, _, .cons r t => .cons r.2 (kv_vals t)
section
variable {X : Cx} {o : Expr} {p pos apos mpos : Pos} {td : TE}
theorem pe_listVals (hc : X.calm = true) (hg : Gl X "list") (hm : X.mg "list" = none) (hd : PE X o td) (hbase : attributeBase o "values" X.env (eval o X.env) = eval o X.env := by rfl) (hline : (apos.endLine == mpos.line) = true := by rfl)
    (hse : starEach [Expr.Call (.Attribute o "values" apos) [] [] mpos] X.env = [(false, eval (Expr.Call (.Attribute o "values" apos) [] [] mpos) X.env)] := by rfl) :
    PE X (.Call (.Name "list" p) [.Call (.Attribute o "values" apos) [] [] mpos] [] pos) (tListVals td) := by
  refine ⟨fun pins s σ H Q I h => ?_⟩
  refine wpAny_Call_Name_kw (ld_blt I hg hm (u := .type "list") (by first | rfl | decide +kernel) ?_ (by first | decide +kernel | decide) (by first | decide +kernel | decide))
  rw [hse]
  refine PySem.callWith_type1 (wpAny_Call_method0_late hbase hline (thn (hd.run pins s σ H _ I h) fun v s1 ⟨x, H1, I1, r1, a, kvs, ex, ha, q⟩ => ?_))
  subst ex
  obtain rfl : v = Value.ref a := r1
  obtain ⟨z, hsys, vs, rel, dof⟩ := dk_rd I1.hok ha
  obtain ⟨ep, dat⟩ := dof.dictAt
  have dat' := dat
  obtain ⟨ob, es, ho, ex, hdat, hko, hpr, hnd⟩ := dat'
  refine ⟨"dict", "dict.values", F.plainAttrs_dict, F.slot_dict_values, F.type_dict_values, ⟨ob, ho, ex.1⟩, fun b e => ?_, Calls.callWith_builtin rfl (PySem.evalArgs_none ?_)⟩
  · cases e
    exact ⟨ob, ho, ex.2.1⟩
  refine call_meetsIn F.slot_dict_values ⟨ob, ho, ex.1⟩ F.entry_dict_values (F.args_dict_values_1 _) (meets_dict_values (mixKind X.prog X.w) a hsys) ⟨⟨vs, dof⟩, ?_⟩
  have k1 : ∀ b u, s1.heap.get? b = some u → (s1.heap.push { cls := .type "dict_values", data := .fields #[.ref a] }).get? b = some u := fun b u e => Heap.get?_push_of_some _ e
  have dat1 : (s1.heap.push { cls := .type "dict_values", data := .fields #[.ref a] }).DictAt (mixKind X.prog X.w) a vs ep := dat.keep k1
  have hlv : kvs.length = vs.length := rel.length
  have hsz : (s1.heap.push { cls := .type "dict_values", data := .fields #[.ref a] }).objs.size = s1.heap.objs.size + 1 := Heap.size_push _ _
  refine PySem.W.kdl_call (PySem.W.kdl_values (knd := mixKind X.prog X.w) (r := s1.heap.objs.size) (d := a) (kvs := vs) (ep := ep)) (I1.ok.hd hc) ⟨⟨_, Heap.get?_push_size _ rfl, rfl, rfl⟩, dat1⟩ (by rw [← hlv]; exact z) fun h' tk acc c' hk hD hacc => ?_
  have e1 : acc.toList = vs.map (·.2) := PySem.W.kdl_vals_eq _ (by rw [Array.length_toList]; exact hacc.1) fun j v e => hacc.2 j v (by rw [← Array.getElem?_toList]; exact e)
  have hv : Vals (kvs.map (·.2)) acc.toList := by rw [e1]; exact kv_vals rel
  rw [hsz] at hD ⊢
  exact ⟨.ref (s1.heap.objs.size + 1), upd H1 (s1.heap.objs.size + 1) (.lst (kvs.map (·.2))), I1.laid (t' := tk) (fun b u e => hk b u (k1 b u e)) (Nat.le_succ _)
    (show ObjOk X.prog X.w _ _ _ (.lst (kvs.map (·.2))) from ⟨by rw [List.length_map]; exact z, acc.toList, c', hv, by rw [Array.toArray_toList]; exact hD⟩), rfl, q _ (I1.hok.fresh (Nat.le_succ _))⟩
end
def valsD : D → R D
  | .dic es => .ok (.lst (es.map (·.2)))
  | _ => .no
theorem reps_vals {K : PySem.W.Frag} {F : Hp} : ∀ {es : List (L2.Key × D)} {kvs : List (L2.Key × V)}, RepK K F es kvs → Reps K F (es.map (·.2)) (kvs.map (·.2))
  | [], kvs, r => by rw [show kvs = [] from r]; exact rfl
  | (k, d) :: es, kvs, r => by
    obtain ⟨v, vr, rfl, h2, h3⟩ := r
    exact ⟨v, _, rfl, h2, reps_vals h3⟩
section
variable {X : Cx} {E : XK} {ω : List O} {e : Expr} {te : TE} {fe : Env → R D} {p pos apos mpos p2 q : Pos}
theorem de_listVals (hc : X.calm = true) (hm : X.mg "list" = none) (he : DE X E ω e te fe .fz []) (hg : Gl X "list" := by rfl) (hbase : attributeBase e "values" X.env (eval e X.env) = eval e X.env := by rfl) (hline : (apos.endLine == mpos.line) = true := by rfl)
    (hse : starEach [Expr.Call (.Attribute e "values" apos) [] [] mpos] X.env = [(false, eval (Expr.Call (.Attribute e "values" apos) [] [] mpos) X.env)] := by rfl) :
    DE X E ω (.Call (.Name "list" p) [.Call (.Attribute e "values" apos) [] [] mpos] [] pos) (tListVals te) (eUn valsD fe) (.own .fz) [] :=
  ⟨pe_listVals hc hg hm he.pe hbase hline hse, fun σ ρ F H As Q S p => he.sem.then S p fun x v F1 H1 B1 g1 S1 r1 _ _ p1 => by
    cases x <;> first
      | exact (show False from p1).elim
      | (obtain ⟨⟨a, kvs, rfl, h1, h2⟩, _⟩ := r1
         exact ⟨a, kvs, rfl, rd_mono S1.ex h1, fun l hl => p1.newL S1.ex hl (reps_vals h2)⟩)⟩
end
/-! ### sorted(xs), ints -/
def insZ (a : Int) : List Int → List Int
  | [] => [a]
  | b :: r => if a ≤ b then a :: b :: r else b :: insZ a r
def sortZ : List Int → List Int
  | [] => []
  | a :: r => insZ a (sortZ r)
theorem insZ_perm (a : Int) : ∀ xs, (insZ a xs).Perm (a :: xs)
  | [] => .refl _
  | b :: r => by
    unfold insZ
    split
    · exact .refl _
    · exact ((insZ_perm a r).cons b).trans (.swap a b r)
theorem sortZ_perm : ∀ xs, (sortZ xs).Perm xs
  | [] => .refl _
  | a :: r => (insZ_perm a _).trans ((sortZ_perm r).cons a)
theorem insZ_pw (a : Int) : ∀ xs, xs.Pairwise (· ≤ ·) → (insZ a xs).Pairwise (· ≤ ·)
  | [], _ => by simp [insZ]
  | b :: r, h => by
    unfold insZ
    split
    · rename_i hab
      refine List.pairwise_cons.mpr ⟨fun x hx => ?_, h⟩
      rcases List.mem_cons.mp hx with rfl | hx
      · exact hab
      · exact Int.le_trans hab ((List.pairwise_cons.mp h).1 x hx)
    · rename_i hab
      refine List.pairwise_cons.mpr ⟨fun x hx => ?_, insZ_pw a r (List.pairwise_cons.mp h).2⟩
      rcases List.mem_cons.mp ((insZ_perm a r).mem_iff.mp hx) with rfl | hx
      · omega
      · exact (List.pairwise_cons.mp h).1 x hx
theorem sortZ_pw : ∀ xs, (sortZ xs).Pairwise (· ≤ ·)
  | [] => .nil
  | a :: r => insZ_pw a _ (sortZ_pw r)
theorem sortZ_eq {xs ys : List Int} (h1 : ys.Perm xs) (h2 : ys.Pairwise (· ≤ ·)) : ys = sortZ xs :=
  List.Perm.eq_of_pairwise (le := (· ≤ ·)) (fun a b _ _ h h' => Int.le_antisymm h h') h2 (sortZ_pw xs) (h1.trans (sortZ_perm xs).symm)
def sortedD : List D → R D
  | [.lst xs] => match intsD xs with
    | some ns => .ok (.lst ((sortZ ns).map .int))
    | none => .no
  | _ => .no
section
variable {mg : Str → Option Value} {E : XK} {K : PySem.W.Frag}
theorem cd_sorted : CallD mg E K (rSortedI K) sortedD (.own .fz) := fun F H As vs ds Q e r p => by
  unfold sortedD at p
  split at p
  · rename_i xs
    obtain ⟨v, rfl, r1⟩ := reps1 r
    obtain ⟨a, ws, rfl, h1, h2⟩ := r1
    split at p
    · rename_i ns hns
      have hv := ints_rep hns h2
      subst hv
      refine ⟨a, ns, rfl, .of (e _ _ h1), fun ns' l hp hs hl => ?_⟩
      rw [sortZ_eq hp hs]
      exact p.newL e hl (reps_ints _)
    · exact (show False from p).elim
  · exact (show False from p).elim
end
/-! ### len(set(xs)), ints -/
def metZ (ns : List Int) : List Int := PyProof.Rows.firstMet (fun i => ns.getD i 0) ns.length
def lenSetD : D → R D
  | .lst xs => match intsD xs with
    | some ns => if ns.length ≤ 4000 then .ok (.int ((metZ ns).length : Nat)) else .no
    | none => .no
  | _ => .no
def tLenSetA (K : PySem.W.Frag) (ta : TE) : TE := fun σ H Q => ta σ H fun x H1 => ∃ (l : Addr) (ns : List Int), x = .ref l ∧ SqL K H1 l (ns.map V.int) ∧ ns.length ≤ 4000 ∧ Q (.int ((metZ ns).length : Nat)) H1
theorem pe_lenSetA {X : Cx} {a : Expr} {ta : TE} {p p2 q pos : Pos} (hg : Gl X "len") (hm : X.mg "len" = none) (hg2 : Gl X "set") (hm2 : X.mg "set" = none) (ha : PE X a ta) (hc : X.calm = true := by rfl)
    (na : starEach [a] X.env = (false, eval a X.env) :: starEach [] X.env := by rfl) : PE X (.Call (.Name "len" p) [.Call (.Name "set" p2) [a] [] q] [] pos) (tLenSetA X.K ta) := by
  refine ⟨fun pins s σ H Q I h => ?_⟩
  refine Call_ (ld_blt I hg hm boot_len ?_)
  refine PyProof.Rows.callWith_builtin1 (PyProof.Rows.args_cons ?_ rfl) rfl rfl
  refine Call_ (ld_blt I hg2 hm2 boot_set ?_)
  refine PyProof.Rows.callWith_type1 (PyProof.Rows.args_cons (thn (ha.run pins s σ H _ I h) fun v s1 ⟨x, H1, I1, r1, q1⟩ => PyProof.Rows.args_nil ?_) na) na rfl
  obtain ⟨l, ns, rfl, hq, hl, q1⟩ := q1
  cases r1
  obtain ⟨its, r, pl, hz⟩ := I1.list hq
  have hlen : its.toArray.size = ns.length := by rw [List.size_toArray, ← r.length, List.length_map]
  refine call_set_list (I1.ok.hd hc) pl.isList (by simpa using RZ.intsAre_vals r) (by rw [hlen]; unfold scanBound; omega) fun h' tk hS hk => ?_
  refine PyProof.Rows.args_nil ?_
  rw [hlen] at hS
  obtain ⟨o, es, ep, t, ho, hex, hd, _, _, _, hf, hn⟩ := hS
  have I2 : Inv X pins σ H1 { s1 with heap := h', toks := tk } := I1.kept fun b o e => hk b o (Heap.lt_size e) e
  have hm : (metZ ns).length ≤ ns.length := PyProof.Rows.firstMet_length_le _ _
  refine call_len_set ho hex hd hf (by rw [hn]; have hm' := hm; unfold metZ at hm'; omega) ⟨.int ((metZ ns).length : Nat), H1, I2.tok _, ⟨_, by rw [hn]; rfl⟩, q1⟩
section
variable {X : Cx} {E : XK} {ω : List O} {e : Expr} {te : TE} {fe : Env → R D} {p pos p2 q : Pos}
theorem de_lenSet (hm : X.mg "len" = none) (hm2 : X.mg "set" = none) (he : DE X E ω e te fe .fz []) (hg : Gl X "len" := by rfl) (hg2 : Gl X "set" := by rfl) (hc : X.calm = true := by rfl)
    (na : starEach [e] X.env = (false, eval e X.env) :: starEach [] X.env := by rfl) : DE X E ω (.Call (.Name "len" p) [.Call (.Name "set" p2) [e] [] q] [] pos) (tLenSetA X.K te) (eUn lenSetD fe) .fz [] :=
  ⟨pe_lenSetA hg hm hg2 hm2 he.pe hc na, fun σ ρ F H As Q S p => he.sem.then S p fun x v F1 H1 B1 g1 S1 r1 _ _ p1 => by
    cases x with
    | lst xs =>
      have p2 : Pst X.mg E X.K .fz As [] F1 H1 Q (match intsD xs with
        | some ns => if ns.length ≤ 4000 then .ok (.int ((metZ ns).length : Nat)) else .no
        | none => .no) := p1
      split at p2
      · rename_i ns hns
        split at p2
        · rename_i hl
          obtain ⟨⟨a, ws, rfl, h1, h2⟩, _⟩ := r1
          have hv := ints_rep hns h2
          subst hv
          exact ⟨a, ns, rfl, .of (S1.ex _ _ h1), hl, p2.fin S1.ex rfl⟩
        · exact p2.elim
      · exact p2.elim
    | _ => exact (show False from p1).elim⟩
end
/-! ### d.clear() -/
def sClr (i : Nat) (ρ : Env) : R Fl := match ρ[i]? with
  | some (some (.dic _)) => .ok (.nx (ρ.set i (some (.dic []))))
  | _ => .no
section
variable {X : Cx} {E : XK} {c : Cfg} {ω : List O} {or : O} {pos cpos apos npos : Pos} {x : Str}
theorem ds_clr {i : Nat} (hi : ω[i]? = some (.own .fz) := by rfl) (hN : X.N[i]? = some x := by rfl) (hv : Vis X.env.scope x := by first | exact Or.inl rfl | exact Or.inr (Or.inl rfl) | exact Or.inr (Or.inr rfl)) (hd : (x == ("__debug__" : Str)) = false := by decide)
    (hcd : (x == ("__classdict__" : Str)) = false := by decide) (hbase : attributeBase (.Name x npos) "clear" X.env (eval (.Name x npos) X.env) = eval (.Name x npos) X.env := by rfl)
    (hline : (apos.endLine == cpos.line) = true := by rfl) (hs : swapsWith (.Call (.Attribute (.Name x npos) "clear" apos) [] [] cpos) none pos.line X.env = pure false := by rfl) :
    DS X E c ω (.Expr (.Call (.Attribute (.Name x npos) "clear" apos) [] [] cpos) pos) (tDrop (tBM0 X.K "dict" rDClear (tVar i))) (sClr i) ω or :=
  ⟨ps_expr (pe_dclear (pe_var hN hv hd hcd) hbase hline) hs, fun σ ρ F H As Dd S p => by
    unfold sClr at p
    split at p
    · rename_i es hρ
      obtain ⟨v, B, hσ, hA, r⟩ := S.sl.get hi hρ
      obtain ⟨a, kvs, rfl, Fa, Ha, rfl, rk⟩ := dict_at r
      refine ⟨.ref a, hσ, .inr (.inr (.inl ⟨rfl, .inl ⟨kvs, Ha⟩⟩)), a, kvs, rfl, rfl, Ha, ?_⟩
      obtain ⟨S2, g2⟩ := S.change hi hσ hA (a := a) (by simp) (own_dic (ds := []) (vs := []) Fa upd_same (by exact rfl)) (fun x h => h) (by simp)
      exact p σ F _ _ S2 (.same g2)
    · exact p.elim⟩
end
/-! ### is True -/
theorem bool_beq (a b : Bool) : (Value.bool a == Value.bool b) = (a == b) := by
  cases a <;> cases b <;> first | exact beq_self_eq_true _ | exact beq_eq_false_iff_ne.mpr (by simp)
theorem op_isBl {X : Cx} : OpR X (compareOp .Is) (fun x y H Q => ∃ a b, x = .bl a ∧ y = .bl b ∧ Q (.bl (a == b)) H) := by
  intro pins s σ H x y v u Q I rx ry h
  obtain ⟨a, b, rfl, rfl, q⟩ := h
  cases (show v = Value.bool a from rx)
  cases (show u = Value.bool b from ry)
  exact wpAny_is_plain rfl (fin_bl I q (bool_beq a b).symm)
theorem op_notBl {X : Cx} : OpR X (compareOp .IsNot) (fun x y H Q => ∃ a b, x = .bl a ∧ y = .bl b ∧ Q (.bl (!(a == b))) H) := by
  intro pins s σ H x y v u Q I rx ry h
  obtain ⟨a, b, rfl, rfl, q⟩ := h
  cases (show v = Value.bool a from rx)
  cases (show u = Value.bool b from ry)
  exact wpAny_isNot_plain rfl (fin_bl I q (congrArg not (bool_beq a b).symm))
def isBl : D → D → R D
  | .bl a, .bl b => .ok (.bl (a == b))
  | _, _ => .no
def isNotBl : D → D → R D
  | .bl a, .bl b => .ok (.bl (!(a == b)))
  | _, _ => .no
section
variable {mg : Str → Option Value} {E : XK} {K : PySem.W.Frag}
theorem od_isBl : OpD mg E K (fun x y H Q => ∃ a b, x = .bl a ∧ y = .bl b ∧ Q (.bl (a == b)) H) isBl .fz := fun F H As x y dx dy Q e rx ry p => by
  unfold isBl at p
  split at p
  · exact ⟨_, _, rx, ry, p.fin e rfl⟩
  · exact (show False from p).elim
theorem od_isNotBl : OpD mg E K (fun x y H Q => ∃ a b, x = .bl a ∧ y = .bl b ∧ Q (.bl (!(a == b))) H) isNotBl .fz := fun F H As x y dx dy Q e rx ry p => by
  unfold isNotBl at p
  split at p
  · exact ⟨_, _, rx, ry, p.fin e rfl⟩
  · exact (show False from p).elim
end
/-! ### None for an owned result -/
theorem de_nonO {X : Cx} {E : XK} {ω : List O} {pos : Pos} {j} {o : O} : DE X E ω (.Constant .none j pos) (tC .non) (eC .non) (.own o) [] :=
  ⟨pe_non, fun σ ρ F H As Q S p => by
    refine p .non F H [] (Grow.refl S.ex) (.inr (.inr ⟨by rfl, rfl, rfl⟩)) (fun x hx => nomatch hx) List.nodup_nil⟩
/-! ### a, b = x, y -/
def sPar (i j : Nat) (fas : Env → R (List D)) (ρ : Env) : R Fl := fas ρ >>= fun ds => match ds with
  | [a, b] => .ok (.nx ((ρ.set i (some a)).set j (some b)))
  | _ => .no
section
variable {X : Cx} {E : XK} {c : Cfg} {ω : List O} {or : O} {pos px py pt pt2 : Pos} {x y : Str} {a b : Expr} {tas : TA} {fas : Env → R (List D)} {os : List O} {kt k2 : Nat}
theorem ds_par {i j : Nat} (hc : X.calm = true) (hN : X.N.Nodup) (ha : DA X E ω [a, b] tas fas os []) (hf : os.all O.isFz = true := by rfl) (hij : i ≠ j := by decide) (hi : X.N[i]? = some x := by rfl) (hj : X.N[j]? = some y := by rfl)
    (hx : X.env.scope.names.lookup x = some .local := by rfl) (hy : X.env.scope.names.lookup y = some .local := by rfl) (oi : ω[i]? = some .fz := by rfl) (oj : ω[j]? = some .fz := by rfl)
    (hw : swappedStores [.Tuple [.Name x px, .Name y py] kt pt] (.Tuple [a, b] k2 pt2) X.env = pure (some [x, y]) := by rfl)
    (hs : swapsWithSole [.Tuple [.Name x px, .Name y py] kt pt] (.Tuple [a, b] k2 pt2) pos.line X.env = pure false := by rfl) (hWi : c.W.contains i = true := by rfl) (hWj : c.W.contains j = true := by rfl) :
    DS X E c ω (.Assign [.Tuple [.Name x px, .Name y py] kt pt] (.Tuple [a, b] k2 pt2) pos) (tPar i j tas) (sPar i j fas) ω or :=
  ⟨ps_par hc hN hi hj hij hx hy ha.pa hw hs, fun σ ρ F H As Dd S p => by
    unfold sPar at p
    refine ha.sem σ ρ F H As _ S ?_
    cases hq : fas ρ with
    | ok ds =>
      rw [hq, ok_bind] at p
      intro vs F1 H1 B g r b n
      obtain ⟨rs, rfl⟩ := repT_fz hf r
      split at p
      · obtain ⟨v, w, rfl, r1, r2⟩ := reps2 rs
        have S1 := ((S.grow g).setFz r1 oi).setFz (i := j) r2 oj
        exact ⟨v, w, rfl, p _ F1 H1 As S1 ⟨GrowA.of g fun x h => .inl h, fun k hk => by
          rw [set_off hWj k hk, set_off hWi k hk]⟩⟩
      · exact p.elim
    | exc c => rw [hq] at p; exact fun H' q => p H' fun x o h1 _ => q x o h1
    | no => rw [hq] at p; exact p⟩
end
end Dn

namespace Dn
open PySem L2 PyProof.Rows
def topS (i : Nat) : Stmt := PySem.Challenge.pw_sleepwalk_k11_matched.main.body.getD i (.Pass ⟨0, 0, 0, 0⟩)
def w_num : Str := "num"
def w_get : Str := "get"
def w_fun : Str := "fun"
def w_jump : Str := "jump"
def w_unless : Str := "unless"
def w_at : Str := "at"
def w_done : Str := "done"
def w_full : Str := "full"
def w_deep : Str := "deep"
def w_great : Str := "great"
def w_kind : Str := "kind"
def w_own : Str := "own"
def w_empty : Str := "empty"
def w_end : Str := "end"
def w_stuck : Str := "stuck"
def w_box : Str := "box"
def w_fill : Str := "fill"
def w_open : Str := "open"
def w_same : Str := "same"
def w_less : Str := "less"
def w_times : Str := "times"
def w_minus : Str := "minus"
def w_add : Str := "add"
def w_drop : Str := "drop"
def w_keep : Str := "keep"
def w_say : Str := "say"
def w_back : Str := "back"
def w_call : Str := "call"
def w__40_ : Str := "@"
def w_runs : Str := "runs"
@[simp] theorem ne_w_num_w_get : (w_num = w_get) = False := eq_false (by decide +kernel)
@[simp] theorem ne_w_num_w_fun : (w_num = w_fun) = False := eq_false (by decide +kernel)
@[simp] theorem ne_w_num_w_jump : (w_num = w_jump) = False := eq_false (by decide +kernel)
@[simp] theorem ne_w_num_w_unless : (w_num = w_unless) = False := eq_false (by decide +kernel)
@[simp] theorem ne_w_num_w_at : (w_num = w_at) = False := eq_false (by decide +kernel)
@[simp] theorem ne_w_num_w_done : (w_num = w_done) = False := eq_false (by decide +kernel)
@[simp] theorem ne_w_num_w_full : (w_num = w_full) = False := eq_false (by decide +kernel)
@[simp] theorem ne_w_num_w_deep : (w_num = w_deep) = False := eq_false (by decide +kernel)
@[simp] theorem ne_w_num_w_great : (w_num = w_great) = False := eq_false (by decide +kernel)
@[simp] theorem ne_w_num_w_kind : (w_num = w_kind) = False := eq_false (by decide +kernel)
@[simp] theorem ne_w_num_w_own : (w_num = w_own) = False := eq_false (by decide +kernel)
@[simp] theorem ne_w_num_w_empty : (w_num = w_empty) = False := eq_false (by decide +kernel)
@[simp] theorem ne_w_num_w_end : (w_num = w_end) = False := eq_false (by decide +kernel)
@[simp] theorem ne_w_num_w_stuck : (w_num = w_stuck) = False := eq_false (by decide +kernel)
@[simp] theorem ne_w_num_w_box : (w_num = w_box) = False := eq_false (by decide +kernel)
@[simp] theorem ne_w_num_w_fill : (w_num = w_fill) = False := eq_false (by decide +kernel)
@[simp] theorem ne_w_num_w_open : (w_num = w_open) = False := eq_false (by decide +kernel)
@[simp] theorem ne_w_num_w_same : (w_num = w_same) = False := eq_false (by decide +kernel)
@[simp] theorem ne_w_num_w_less : (w_num = w_less) = False := eq_false (by decide +kernel)
@[simp] theorem ne_w_num_w_times : (w_num = w_times) = False := eq_false (by decide +kernel)
@[simp] theorem ne_w_num_w_minus : (w_num = w_minus) = False := eq_false (by decide +kernel)
@[simp] theorem ne_w_num_w_add : (w_num = w_add) = False := eq_false (by decide +kernel)
@[simp] theorem ne_w_num_w_drop : (w_num = w_drop) = False := eq_false (by decide +kernel)
@[simp] theorem ne_w_num_w_keep : (w_num = w_keep) = False := eq_false (by decide +kernel)
@[simp] theorem ne_w_num_w_say : (w_num = w_say) = False := eq_false (by decide +kernel)
@[simp] theorem ne_w_num_w_back : (w_num = w_back) = False := eq_false (by decide +kernel)
@[simp] theorem ne_w_num_w_call : (w_num = w_call) = False := eq_false (by decide +kernel)
@[simp] theorem ne_w_num_w__40_ : (w_num = w__40_) = False := eq_false (by decide +kernel)
@[simp] theorem ne_w_num_w_runs : (w_num = w_runs) = False := eq_false (by decide +kernel)
@[simp] theorem ne_w_get_w_num : (w_get = w_num) = False := eq_false (by decide +kernel)
@[simp] theorem ne_w_get_w_fun : (w_get = w_fun) = False := eq_false (by decide +kernel)
@[simp] theorem ne_w_get_w_jump : (w_get = w_jump) = False := eq_false (by decide +kernel)
@[simp] theorem ne_w_get_w_unless : (w_get = w_unless) = False := eq_false (by decide +kernel)
@[simp] theorem ne_w_get_w_at : (w_get = w_at) = False := eq_false (by decide +kernel)
@[simp] theorem ne_w_get_w_done : (w_get = w_done) = False := eq_false (by decide +kernel)
@[simp] theorem ne_w_get_w_full : (w_get = w_full) = False := eq_false (by decide +kernel)
@[simp] theorem ne_w_get_w_deep : (w_get = w_deep) = False := eq_false (by decide +kernel)
@[simp] theorem ne_w_get_w_great : (w_get = w_great) = False := eq_false (by decide +kernel)
@[simp] theorem ne_w_get_w_kind : (w_get = w_kind) = False := eq_false (by decide +kernel)
@[simp] theorem ne_w_get_w_own : (w_get = w_own) = False := eq_false (by decide +kernel)
@[simp] theorem ne_w_get_w_empty : (w_get = w_empty) = False := eq_false (by decide +kernel)
@[simp] theorem ne_w_get_w_end : (w_get = w_end) = False := eq_false (by decide +kernel)
@[simp] theorem ne_w_get_w_stuck : (w_get = w_stuck) = False := eq_false (by decide +kernel)
@[simp] theorem ne_w_get_w_box : (w_get = w_box) = False := eq_false (by decide +kernel)
@[simp] theorem ne_w_get_w_fill : (w_get = w_fill) = False := eq_false (by decide +kernel)
@[simp] theorem ne_w_get_w_open : (w_get = w_open) = False := eq_false (by decide +kernel)
@[simp] theorem ne_w_get_w_same : (w_get = w_same) = False := eq_false (by decide +kernel)
@[simp] theorem ne_w_get_w_less : (w_get = w_less) = False := eq_false (by decide +kernel)
@[simp] theorem ne_w_get_w_times : (w_get = w_times) = False := eq_false (by decide +kernel)
@[simp] theorem ne_w_get_w_minus : (w_get = w_minus) = False := eq_false (by decide +kernel)
@[simp] theorem ne_w_get_w_add : (w_get = w_add) = False := eq_false (by decide +kernel)
@[simp] theorem ne_w_get_w_drop : (w_get = w_drop) = False := eq_false (by decide +kernel)
@[simp] theorem ne_w_get_w_keep : (w_get = w_keep) = False := eq_false (by decide +kernel)
@[simp] theorem ne_w_get_w_say : (w_get = w_say) = False := eq_false (by decide +kernel)
@[simp] theorem ne_w_get_w_back : (w_get = w_back) = False := eq_false (by decide +kernel)
@[simp] theorem ne_w_get_w_call : (w_get = w_call) = False := eq_false (by decide +kernel)
@[simp] theorem ne_w_get_w__40_ : (w_get = w__40_) = False := eq_false (by decide +kernel)
@[simp] theorem ne_w_get_w_runs : (w_get = w_runs) = False := eq_false (by decide +kernel)
@[simp] theorem ne_w_fun_w_num : (w_fun = w_num) = False := eq_false (by decide +kernel)
@[simp] theorem ne_w_fun_w_get : (w_fun = w_get) = False := eq_false (by decide +kernel)
@[simp] theorem ne_w_fun_w_jump : (w_fun = w_jump) = False := eq_false (by decide +kernel)
@[simp] theorem ne_w_fun_w_unless : (w_fun = w_unless) = False := eq_false (by decide +kernel)
@[simp] theorem ne_w_fun_w_at : (w_fun = w_at) = False := eq_false (by decide +kernel)
@[simp] theorem ne_w_fun_w_done : (w_fun = w_done) = False := eq_false (by decide +kernel)
@[simp] theorem ne_w_fun_w_full : (w_fun = w_full) = False := eq_false (by decide +kernel)
@[simp] theorem ne_w_fun_w_deep : (w_fun = w_deep) = False := eq_false (by decide +kernel)
@[simp] theorem ne_w_fun_w_great : (w_fun = w_great) = False := eq_false (by decide +kernel)
@[simp] theorem ne_w_fun_w_kind : (w_fun = w_kind) = False := eq_false (by decide +kernel)
@[simp] theorem ne_w_fun_w_own : (w_fun = w_own) = False := eq_false (by decide +kernel)
@[simp] theorem ne_w_fun_w_empty : (w_fun = w_empty) = False := eq_false (by decide +kernel)
@[simp] theorem ne_w_fun_w_end : (w_fun = w_end) = False := eq_false (by decide +kernel)
@[simp] theorem ne_w_fun_w_stuck : (w_fun = w_stuck) = False := eq_false (by decide +kernel)
@[simp] theorem ne_w_fun_w_box : (w_fun = w_box) = False := eq_false (by decide +kernel)
@[simp] theorem ne_w_fun_w_fill : (w_fun = w_fill) = False := eq_false (by decide +kernel)
@[simp] theorem ne_w_fun_w_open : (w_fun = w_open) = False := eq_false (by decide +kernel)
@[simp] theorem ne_w_fun_w_same : (w_fun = w_same) = False := eq_false (by decide +kernel)
@[simp] theorem ne_w_fun_w_less : (w_fun = w_less) = False := eq_false (by decide +kernel)
@[simp] theorem ne_w_fun_w_times : (w_fun = w_times) = False := eq_false (by decide +kernel)
@[simp] theorem ne_w_fun_w_minus : (w_fun = w_minus) = False := eq_false (by decide +kernel)
@[simp] theorem ne_w_fun_w_add : (w_fun = w_add) = False := eq_false (by decide +kernel)
@[simp] theorem ne_w_fun_w_drop : (w_fun = w_drop) = False := eq_false (by decide +kernel)
@[simp] theorem ne_w_fun_w_keep : (w_fun = w_keep) = False := eq_false (by decide +kernel)
@[simp] theorem ne_w_fun_w_say : (w_fun = w_say) = False := eq_false (by decide +kernel)
@[simp] theorem ne_w_fun_w_back : (w_fun = w_back) = False := eq_false (by decide +kernel)
@[simp] theorem ne_w_fun_w_call : (w_fun = w_call) = False := eq_false (by decide +kernel)
@[simp] theorem ne_w_fun_w__40_ : (w_fun = w__40_) = False := eq_false (by decide +kernel)
@[simp] theorem ne_w_fun_w_runs : (w_fun = w_runs) = False := eq_false (by decide +kernel)
@[simp] theorem ne_w_jump_w_num : (w_jump = w_num) = False := eq_false (by decide +kernel)
@[simp] theorem ne_w_jump_w_get : (w_jump = w_get) = False := eq_false (by decide +kernel)
@[simp] theorem ne_w_jump_w_fun : (w_jump = w_fun) = False := eq_false (by decide +kernel)
@[simp] theorem ne_w_jump_w_unless : (w_jump = w_unless) = False := eq_false (by decide +kernel)
@[simp] theorem ne_w_jump_w_at : (w_jump = w_at) = False := eq_false (by decide +kernel)
@[simp] theorem ne_w_jump_w_done : (w_jump = w_done) = False := eq_false (by decide +kernel)
@[simp] theorem ne_w_jump_w_full : (w_jump = w_full) = False := eq_false (by decide +kernel)
@[simp] theorem ne_w_jump_w_deep : (w_jump = w_deep) = False := eq_false (by decide +kernel)
@[simp] theorem ne_w_jump_w_great : (w_jump = w_great) = False := eq_false (by decide +kernel)
@[simp] theorem ne_w_jump_w_kind : (w_jump = w_kind) = False := eq_false (by decide +kernel)
@[simp] theorem ne_w_jump_w_own : (w_jump = w_own) = False := eq_false (by decide +kernel)
@[simp] theorem ne_w_jump_w_empty : (w_jump = w_empty) = False := eq_false (by decide +kernel)
@[simp] theorem ne_w_jump_w_end : (w_jump = w_end) = False := eq_false (by decide +kernel)
@[simp] theorem ne_w_jump_w_stuck : (w_jump = w_stuck) = False := eq_false (by decide +kernel)
@[simp] theorem ne_w_jump_w_box : (w_jump = w_box) = False := eq_false (by decide +kernel)
@[simp] theorem ne_w_jump_w_fill : (w_jump = w_fill) = False := eq_false (by decide +kernel)
@[simp] theorem ne_w_jump_w_open : (w_jump = w_open) = False := eq_false (by decide +kernel)
@[simp] theorem ne_w_jump_w_same : (w_jump = w_same) = False := eq_false (by decide +kernel)
@[simp] theorem ne_w_jump_w_less : (w_jump = w_less) = False := eq_false (by decide +kernel)
@[simp] theorem ne_w_jump_w_times : (w_jump = w_times) = False := eq_false (by decide +kernel)
@[simp] theorem ne_w_jump_w_minus : (w_jump = w_minus) = False := eq_false (by decide +kernel)
@[simp] theorem ne_w_jump_w_add : (w_jump = w_add) = False := eq_false (by decide +kernel)
@[simp] theorem ne_w_jump_w_drop : (w_jump = w_drop) = False := eq_false (by decide +kernel)
@[simp] theorem ne_w_jump_w_keep : (w_jump = w_keep) = False := eq_false (by decide +kernel)
@[simp] theorem ne_w_jump_w_say : (w_jump = w_say) = False := eq_false (by decide +kernel)
@[simp] theorem ne_w_jump_w_back : (w_jump = w_back) = False := eq_false (by decide +kernel)
@[simp] theorem ne_w_jump_w_call : (w_jump = w_call) = False := eq_false (by decide +kernel)
@[simp] theorem ne_w_jump_w__40_ : (w_jump = w__40_) = False := eq_false (by decide +kernel)
@[simp] theorem ne_w_jump_w_runs : (w_jump = w_runs) = False := eq_false (by decide +kernel)
@[simp] theorem ne_w_unless_w_num : (w_unless = w_num) = False := eq_false (by decide +kernel)
@[simp] theorem ne_w_unless_w_get : (w_unless = w_get) = False := eq_false (by decide +kernel)
@[simp] theorem ne_w_unless_w_fun : (w_unless = w_fun) = False := eq_false (by decide +kernel)
@[simp] theorem ne_w_unless_w_jump : (w_unless = w_jump) = False := eq_false (by decide +kernel)
@[simp] theorem ne_w_unless_w_at : (w_unless = w_at) = False := eq_false (by decide +kernel)
@[simp] theorem ne_w_unless_w_done : (w_unless = w_done) = False := eq_false (by decide +kernel)
@[simp] theorem ne_w_unless_w_full : (w_unless = w_full) = False := eq_false (by decide +kernel)
@[simp] theorem ne_w_unless_w_deep : (w_unless = w_deep) = False := eq_false (by decide +kernel)
@[simp] theorem ne_w_unless_w_great : (w_unless = w_great) = False := eq_false (by decide +kernel)
@[simp] theorem ne_w_unless_w_kind : (w_unless = w_kind) = False := eq_false (by decide +kernel)
@[simp] theorem ne_w_unless_w_own : (w_unless = w_own) = False := eq_false (by decide +kernel)
@[simp] theorem ne_w_unless_w_empty : (w_unless = w_empty) = False := eq_false (by decide +kernel)
@[simp] theorem ne_w_unless_w_end : (w_unless = w_end) = False := eq_false (by decide +kernel)
@[simp] theorem ne_w_unless_w_stuck : (w_unless = w_stuck) = False := eq_false (by decide +kernel)
@[simp] theorem ne_w_unless_w_box : (w_unless = w_box) = False := eq_false (by decide +kernel)
@[simp] theorem ne_w_unless_w_fill : (w_unless = w_fill) = False := eq_false (by decide +kernel)
@[simp] theorem ne_w_unless_w_open : (w_unless = w_open) = False := eq_false (by decide +kernel)
@[simp] theorem ne_w_unless_w_same : (w_unless = w_same) = False := eq_false (by decide +kernel)
@[simp] theorem ne_w_unless_w_less : (w_unless = w_less) = False := eq_false (by decide +kernel)
@[simp] theorem ne_w_unless_w_times : (w_unless = w_times) = False := eq_false (by decide +kernel)
@[simp] theorem ne_w_unless_w_minus : (w_unless = w_minus) = False := eq_false (by decide +kernel)
@[simp] theorem ne_w_unless_w_add : (w_unless = w_add) = False := eq_false (by decide +kernel)
@[simp] theorem ne_w_unless_w_drop : (w_unless = w_drop) = False := eq_false (by decide +kernel)
@[simp] theorem ne_w_unless_w_keep : (w_unless = w_keep) = False := eq_false (by decide +kernel)
@[simp] theorem ne_w_unless_w_say : (w_unless = w_say) = False := eq_false (by decide +kernel)
@[simp] theorem ne_w_unless_w_back : (w_unless = w_back) = False := eq_false (by decide +kernel)
@[simp] theorem ne_w_unless_w_call : (w_unless = w_call) = False := eq_false (by decide +kernel)
@[simp] theorem ne_w_unless_w__40_ : (w_unless = w__40_) = False := eq_false (by decide +kernel)
@[simp] theorem ne_w_unless_w_runs : (w_unless = w_runs) = False := eq_false (by decide +kernel)
@[simp] theorem ne_w_at_w_num : (w_at = w_num) = False := eq_false (by decide +kernel)
@[simp] theorem ne_w_at_w_get : (w_at = w_get) = False := eq_false (by decide +kernel)
@[simp] theorem ne_w_at_w_fun : (w_at = w_fun) = False := eq_false (by decide +kernel)
@[simp] theorem ne_w_at_w_jump : (w_at = w_jump) = False := eq_false (by decide +kernel)
@[simp] theorem ne_w_at_w_unless : (w_at = w_unless) = False := eq_false (by decide +kernel)
@[simp] theorem ne_w_at_w_done : (w_at = w_done) = False := eq_false (by decide +kernel)
@[simp] theorem ne_w_at_w_full : (w_at = w_full) = False := eq_false (by decide +kernel)
@[simp] theorem ne_w_at_w_deep : (w_at = w_deep) = False := eq_false (by decide +kernel)
@[simp] theorem ne_w_at_w_great : (w_at = w_great) = False := eq_false (by decide +kernel)
@[simp] theorem ne_w_at_w_kind : (w_at = w_kind) = False := eq_false (by decide +kernel)
@[simp] theorem ne_w_at_w_own : (w_at = w_own) = False := eq_false (by decide +kernel)
@[simp] theorem ne_w_at_w_empty : (w_at = w_empty) = False := eq_false (by decide +kernel)
@[simp] theorem ne_w_at_w_end : (w_at = w_end) = False := eq_false (by decide +kernel)
@[simp] theorem ne_w_at_w_stuck : (w_at = w_stuck) = False := eq_false (by decide +kernel)
@[simp] theorem ne_w_at_w_box : (w_at = w_box) = False := eq_false (by decide +kernel)
@[simp] theorem ne_w_at_w_fill : (w_at = w_fill) = False := eq_false (by decide +kernel)
@[simp] theorem ne_w_at_w_open : (w_at = w_open) = False := eq_false (by decide +kernel)
@[simp] theorem ne_w_at_w_same : (w_at = w_same) = False := eq_false (by decide +kernel)
@[simp] theorem ne_w_at_w_less : (w_at = w_less) = False := eq_false (by decide +kernel)
@[simp] theorem ne_w_at_w_times : (w_at = w_times) = False := eq_false (by decide +kernel)
@[simp] theorem ne_w_at_w_minus : (w_at = w_minus) = False := eq_false (by decide +kernel)
@[simp] theorem ne_w_at_w_add : (w_at = w_add) = False := eq_false (by decide +kernel)
@[simp] theorem ne_w_at_w_drop : (w_at = w_drop) = False := eq_false (by decide +kernel)
@[simp] theorem ne_w_at_w_keep : (w_at = w_keep) = False := eq_false (by decide +kernel)
@[simp] theorem ne_w_at_w_say : (w_at = w_say) = False := eq_false (by decide +kernel)
@[simp] theorem ne_w_at_w_back : (w_at = w_back) = False := eq_false (by decide +kernel)
@[simp] theorem ne_w_at_w_call : (w_at = w_call) = False := eq_false (by decide +kernel)
@[simp] theorem ne_w_at_w__40_ : (w_at = w__40_) = False := eq_false (by decide +kernel)
@[simp] theorem ne_w_at_w_runs : (w_at = w_runs) = False := eq_false (by decide +kernel)
@[simp] theorem ne_w_done_w_num : (w_done = w_num) = False := eq_false (by decide +kernel)
@[simp] theorem ne_w_done_w_get : (w_done = w_get) = False := eq_false (by decide +kernel)
@[simp] theorem ne_w_done_w_fun : (w_done = w_fun) = False := eq_false (by decide +kernel)
@[simp] theorem ne_w_done_w_jump : (w_done = w_jump) = False := eq_false (by decide +kernel)
@[simp] theorem ne_w_done_w_unless : (w_done = w_unless) = False := eq_false (by decide +kernel)
@[simp] theorem ne_w_done_w_at : (w_done = w_at) = False := eq_false (by decide +kernel)
@[simp] theorem ne_w_done_w_full : (w_done = w_full) = False := eq_false (by decide +kernel)
@[simp] theorem ne_w_done_w_deep : (w_done = w_deep) = False := eq_false (by decide +kernel)
@[simp] theorem ne_w_done_w_great : (w_done = w_great) = False := eq_false (by decide +kernel)
@[simp] theorem ne_w_done_w_kind : (w_done = w_kind) = False := eq_false (by decide +kernel)
@[simp] theorem ne_w_done_w_own : (w_done = w_own) = False := eq_false (by decide +kernel)
@[simp] theorem ne_w_done_w_empty : (w_done = w_empty) = False := eq_false (by decide +kernel)
@[simp] theorem ne_w_done_w_end : (w_done = w_end) = False := eq_false (by decide +kernel)
@[simp] theorem ne_w_done_w_stuck : (w_done = w_stuck) = False := eq_false (by decide +kernel)
@[simp] theorem ne_w_done_w_box : (w_done = w_box) = False := eq_false (by decide +kernel)
@[simp] theorem ne_w_done_w_fill : (w_done = w_fill) = False := eq_false (by decide +kernel)
@[simp] theorem ne_w_done_w_open : (w_done = w_open) = False := eq_false (by decide +kernel)
@[simp] theorem ne_w_done_w_same : (w_done = w_same) = False := eq_false (by decide +kernel)
@[simp] theorem ne_w_done_w_less : (w_done = w_less) = False := eq_false (by decide +kernel)
@[simp] theorem ne_w_done_w_times : (w_done = w_times) = False := eq_false (by decide +kernel)
@[simp] theorem ne_w_done_w_minus : (w_done = w_minus) = False := eq_false (by decide +kernel)
@[simp] theorem ne_w_done_w_add : (w_done = w_add) = False := eq_false (by decide +kernel)
@[simp] theorem ne_w_done_w_drop : (w_done = w_drop) = False := eq_false (by decide +kernel)
@[simp] theorem ne_w_done_w_keep : (w_done = w_keep) = False := eq_false (by decide +kernel)
@[simp] theorem ne_w_done_w_say : (w_done = w_say) = False := eq_false (by decide +kernel)
@[simp] theorem ne_w_done_w_back : (w_done = w_back) = False := eq_false (by decide +kernel)
@[simp] theorem ne_w_done_w_call : (w_done = w_call) = False := eq_false (by decide +kernel)
@[simp] theorem ne_w_done_w__40_ : (w_done = w__40_) = False := eq_false (by decide +kernel)
@[simp] theorem ne_w_done_w_runs : (w_done = w_runs) = False := eq_false (by decide +kernel)
@[simp] theorem ne_w_full_w_num : (w_full = w_num) = False := eq_false (by decide +kernel)
@[simp] theorem ne_w_full_w_get : (w_full = w_get) = False := eq_false (by decide +kernel)
@[simp] theorem ne_w_full_w_fun : (w_full = w_fun) = False := eq_false (by decide +kernel)
@[simp] theorem ne_w_full_w_jump : (w_full = w_jump) = False := eq_false (by decide +kernel)
@[simp] theorem ne_w_full_w_unless : (w_full = w_unless) = False := eq_false (by decide +kernel)
@[simp] theorem ne_w_full_w_at : (w_full = w_at) = False := eq_false (by decide +kernel)
@[simp] theorem ne_w_full_w_done : (w_full = w_done) = False := eq_false (by decide +kernel)
@[simp] theorem ne_w_full_w_deep : (w_full = w_deep) = False := eq_false (by decide +kernel)
@[simp] theorem ne_w_full_w_great : (w_full = w_great) = False := eq_false (by decide +kernel)
@[simp] theorem ne_w_full_w_kind : (w_full = w_kind) = False := eq_false (by decide +kernel)
@[simp] theorem ne_w_full_w_own : (w_full = w_own) = False := eq_false (by decide +kernel)
@[simp] theorem ne_w_full_w_empty : (w_full = w_empty) = False := eq_false (by decide +kernel)
@[simp] theorem ne_w_full_w_end : (w_full = w_end) = False := eq_false (by decide +kernel)
@[simp] theorem ne_w_full_w_stuck : (w_full = w_stuck) = False := eq_false (by decide +kernel)
@[simp] theorem ne_w_full_w_box : (w_full = w_box) = False := eq_false (by decide +kernel)
@[simp] theorem ne_w_full_w_fill : (w_full = w_fill) = False := eq_false (by decide +kernel)
@[simp] theorem ne_w_full_w_open : (w_full = w_open) = False := eq_false (by decide +kernel)
@[simp] theorem ne_w_full_w_same : (w_full = w_same) = False := eq_false (by decide +kernel)
@[simp] theorem ne_w_full_w_less : (w_full = w_less) = False := eq_false (by decide +kernel)
@[simp] theorem ne_w_full_w_times : (w_full = w_times) = False := eq_false (by decide +kernel)
@[simp] theorem ne_w_full_w_minus : (w_full = w_minus) = False := eq_false (by decide +kernel)
@[simp] theorem ne_w_full_w_add : (w_full = w_add) = False := eq_false (by decide +kernel)
@[simp] theorem ne_w_full_w_drop : (w_full = w_drop) = False := eq_false (by decide +kernel)
@[simp] theorem ne_w_full_w_keep : (w_full = w_keep) = False := eq_false (by decide +kernel)
@[simp] theorem ne_w_full_w_say : (w_full = w_say) = False := eq_false (by decide +kernel)
@[simp] theorem ne_w_full_w_back : (w_full = w_back) = False := eq_false (by decide +kernel)
@[simp] theorem ne_w_full_w_call : (w_full = w_call) = False := eq_false (by decide +kernel)
@[simp] theorem ne_w_full_w__40_ : (w_full = w__40_) = False := eq_false (by decide +kernel)
@[simp] theorem ne_w_full_w_runs : (w_full = w_runs) = False := eq_false (by decide +kernel)
@[simp] theorem ne_w_deep_w_num : (w_deep = w_num) = False := eq_false (by decide +kernel)
@[simp] theorem ne_w_deep_w_get : (w_deep = w_get) = False := eq_false (by decide +kernel)
@[simp] theorem ne_w_deep_w_fun : (w_deep = w_fun) = False := eq_false (by decide +kernel)
@[simp] theorem ne_w_deep_w_jump : (w_deep = w_jump) = False := eq_false (by decide +kernel)
@[simp] theorem ne_w_deep_w_unless : (w_deep = w_unless) = False := eq_false (by decide +kernel)
@[simp] theorem ne_w_deep_w_at : (w_deep = w_at) = False := eq_false (by decide +kernel)
@[simp] theorem ne_w_deep_w_done : (w_deep = w_done) = False := eq_false (by decide +kernel)
@[simp] theorem ne_w_deep_w_full : (w_deep = w_full) = False := eq_false (by decide +kernel)
@[simp] theorem ne_w_deep_w_great : (w_deep = w_great) = False := eq_false (by decide +kernel)
@[simp] theorem ne_w_deep_w_kind : (w_deep = w_kind) = False := eq_false (by decide +kernel)
@[simp] theorem ne_w_deep_w_own : (w_deep = w_own) = False := eq_false (by decide +kernel)
@[simp] theorem ne_w_deep_w_empty : (w_deep = w_empty) = False := eq_false (by decide +kernel)
@[simp] theorem ne_w_deep_w_end : (w_deep = w_end) = False := eq_false (by decide +kernel)
@[simp] theorem ne_w_deep_w_stuck : (w_deep = w_stuck) = False := eq_false (by decide +kernel)
@[simp] theorem ne_w_deep_w_box : (w_deep = w_box) = False := eq_false (by decide +kernel)
@[simp] theorem ne_w_deep_w_fill : (w_deep = w_fill) = False := eq_false (by decide +kernel)
@[simp] theorem ne_w_deep_w_open : (w_deep = w_open) = False := eq_false (by decide +kernel)
@[simp] theorem ne_w_deep_w_same : (w_deep = w_same) = False := eq_false (by decide +kernel)
@[simp] theorem ne_w_deep_w_less : (w_deep = w_less) = False := eq_false (by decide +kernel)
@[simp] theorem ne_w_deep_w_times : (w_deep = w_times) = False := eq_false (by decide +kernel)
@[simp] theorem ne_w_deep_w_minus : (w_deep = w_minus) = False := eq_false (by decide +kernel)
@[simp] theorem ne_w_deep_w_add : (w_deep = w_add) = False := eq_false (by decide +kernel)
@[simp] theorem ne_w_deep_w_drop : (w_deep = w_drop) = False := eq_false (by decide +kernel)
@[simp] theorem ne_w_deep_w_keep : (w_deep = w_keep) = False := eq_false (by decide +kernel)
@[simp] theorem ne_w_deep_w_say : (w_deep = w_say) = False := eq_false (by decide +kernel)
@[simp] theorem ne_w_deep_w_back : (w_deep = w_back) = False := eq_false (by decide +kernel)
@[simp] theorem ne_w_deep_w_call : (w_deep = w_call) = False := eq_false (by decide +kernel)
@[simp] theorem ne_w_deep_w__40_ : (w_deep = w__40_) = False := eq_false (by decide +kernel)
@[simp] theorem ne_w_deep_w_runs : (w_deep = w_runs) = False := eq_false (by decide +kernel)
@[simp] theorem ne_w_great_w_num : (w_great = w_num) = False := eq_false (by decide +kernel)
@[simp] theorem ne_w_great_w_get : (w_great = w_get) = False := eq_false (by decide +kernel)
@[simp] theorem ne_w_great_w_fun : (w_great = w_fun) = False := eq_false (by decide +kernel)
@[simp] theorem ne_w_great_w_jump : (w_great = w_jump) = False := eq_false (by decide +kernel)
@[simp] theorem ne_w_great_w_unless : (w_great = w_unless) = False := eq_false (by decide +kernel)
@[simp] theorem ne_w_great_w_at : (w_great = w_at) = False := eq_false (by decide +kernel)
@[simp] theorem ne_w_great_w_done : (w_great = w_done) = False := eq_false (by decide +kernel)
@[simp] theorem ne_w_great_w_full : (w_great = w_full) = False := eq_false (by decide +kernel)
@[simp] theorem ne_w_great_w_deep : (w_great = w_deep) = False := eq_false (by decide +kernel)
@[simp] theorem ne_w_great_w_kind : (w_great = w_kind) = False := eq_false (by decide +kernel)
@[simp] theorem ne_w_great_w_own : (w_great = w_own) = False := eq_false (by decide +kernel)
@[simp] theorem ne_w_great_w_empty : (w_great = w_empty) = False := eq_false (by decide +kernel)
@[simp] theorem ne_w_great_w_end : (w_great = w_end) = False := eq_false (by decide +kernel)
@[simp] theorem ne_w_great_w_stuck : (w_great = w_stuck) = False := eq_false (by decide +kernel)
@[simp] theorem ne_w_great_w_box : (w_great = w_box) = False := eq_false (by decide +kernel)
@[simp] theorem ne_w_great_w_fill : (w_great = w_fill) = False := eq_false (by decide +kernel)
@[simp] theorem ne_w_great_w_open : (w_great = w_open) = False := eq_false (by decide +kernel)
@[simp] theorem ne_w_great_w_same : (w_great = w_same) = False := eq_false (by decide +kernel)
@[simp] theorem ne_w_great_w_less : (w_great = w_less) = False := eq_false (by decide +kernel)
@[simp] theorem ne_w_great_w_times : (w_great = w_times) = False := eq_false (by decide +kernel)
@[simp] theorem ne_w_great_w_minus : (w_great = w_minus) = False := eq_false (by decide +kernel)
@[simp] theorem ne_w_great_w_add : (w_great = w_add) = False := eq_false (by decide +kernel)
@[simp] theorem ne_w_great_w_drop : (w_great = w_drop) = False := eq_false (by decide +kernel)
@[simp] theorem ne_w_great_w_keep : (w_great = w_keep) = False := eq_false (by decide +kernel)
@[simp] theorem ne_w_great_w_say : (w_great = w_say) = False := eq_false (by decide +kernel)
@[simp] theorem ne_w_great_w_back : (w_great = w_back) = False := eq_false (by decide +kernel)
@[simp] theorem ne_w_great_w_call : (w_great = w_call) = False := eq_false (by decide +kernel)
@[simp] theorem ne_w_great_w__40_ : (w_great = w__40_) = False := eq_false (by decide +kernel)
@[simp] theorem ne_w_great_w_runs : (w_great = w_runs) = False := eq_false (by decide +kernel)
@[simp] theorem ne_w_kind_w_num : (w_kind = w_num) = False := eq_false (by decide +kernel)
@[simp] theorem ne_w_kind_w_get : (w_kind = w_get) = False := eq_false (by decide +kernel)
@[simp] theorem ne_w_kind_w_fun : (w_kind = w_fun) = False := eq_false (by decide +kernel)
@[simp] theorem ne_w_kind_w_jump : (w_kind = w_jump) = False := eq_false (by decide +kernel)
@[simp] theorem ne_w_kind_w_unless : (w_kind = w_unless) = False := eq_false (by decide +kernel)
@[simp] theorem ne_w_kind_w_at : (w_kind = w_at) = False := eq_false (by decide +kernel)
@[simp] theorem ne_w_kind_w_done : (w_kind = w_done) = False := eq_false (by decide +kernel)
@[simp] theorem ne_w_kind_w_full : (w_kind = w_full) = False := eq_false (by decide +kernel)
@[simp] theorem ne_w_kind_w_deep : (w_kind = w_deep) = False := eq_false (by decide +kernel)
@[simp] theorem ne_w_kind_w_great : (w_kind = w_great) = False := eq_false (by decide +kernel)
@[simp] theorem ne_w_kind_w_own : (w_kind = w_own) = False := eq_false (by decide +kernel)
@[simp] theorem ne_w_kind_w_empty : (w_kind = w_empty) = False := eq_false (by decide +kernel)
@[simp] theorem ne_w_kind_w_end : (w_kind = w_end) = False := eq_false (by decide +kernel)
@[simp] theorem ne_w_kind_w_stuck : (w_kind = w_stuck) = False := eq_false (by decide +kernel)
@[simp] theorem ne_w_kind_w_box : (w_kind = w_box) = False := eq_false (by decide +kernel)
@[simp] theorem ne_w_kind_w_fill : (w_kind = w_fill) = False := eq_false (by decide +kernel)
@[simp] theorem ne_w_kind_w_open : (w_kind = w_open) = False := eq_false (by decide +kernel)
@[simp] theorem ne_w_kind_w_same : (w_kind = w_same) = False := eq_false (by decide +kernel)
@[simp] theorem ne_w_kind_w_less : (w_kind = w_less) = False := eq_false (by decide +kernel)
@[simp] theorem ne_w_kind_w_times : (w_kind = w_times) = False := eq_false (by decide +kernel)
@[simp] theorem ne_w_kind_w_minus : (w_kind = w_minus) = False := eq_false (by decide +kernel)
@[simp] theorem ne_w_kind_w_add : (w_kind = w_add) = False := eq_false (by decide +kernel)
@[simp] theorem ne_w_kind_w_drop : (w_kind = w_drop) = False := eq_false (by decide +kernel)
@[simp] theorem ne_w_kind_w_keep : (w_kind = w_keep) = False := eq_false (by decide +kernel)
@[simp] theorem ne_w_kind_w_say : (w_kind = w_say) = False := eq_false (by decide +kernel)
@[simp] theorem ne_w_kind_w_back : (w_kind = w_back) = False := eq_false (by decide +kernel)
@[simp] theorem ne_w_kind_w_call : (w_kind = w_call) = False := eq_false (by decide +kernel)
@[simp] theorem ne_w_kind_w__40_ : (w_kind = w__40_) = False := eq_false (by decide +kernel)
@[simp] theorem ne_w_kind_w_runs : (w_kind = w_runs) = False := eq_false (by decide +kernel)
@[simp] theorem ne_w_own_w_num : (w_own = w_num) = False := eq_false (by decide +kernel)
@[simp] theorem ne_w_own_w_get : (w_own = w_get) = False := eq_false (by decide +kernel)
@[simp] theorem ne_w_own_w_fun : (w_own = w_fun) = False := eq_false (by decide +kernel)
@[simp] theorem ne_w_own_w_jump : (w_own = w_jump) = False := eq_false (by decide +kernel)
@[simp] theorem ne_w_own_w_unless : (w_own = w_unless) = False := eq_false (by decide +kernel)
@[simp] theorem ne_w_own_w_at : (w_own = w_at) = False := eq_false (by decide +kernel)
@[simp] theorem ne_w_own_w_done : (w_own = w_done) = False := eq_false (by decide +kernel)
@[simp] theorem ne_w_own_w_full : (w_own = w_full) = False := eq_false (by decide +kernel)
@[simp] theorem ne_w_own_w_deep : (w_own = w_deep) = False := eq_false (by decide +kernel)
@[simp] theorem ne_w_own_w_great : (w_own = w_great) = False := eq_false (by decide +kernel)
@[simp] theorem ne_w_own_w_kind : (w_own = w_kind) = False := eq_false (by decide +kernel)
@[simp] theorem ne_w_own_w_empty : (w_own = w_empty) = False := eq_false (by decide +kernel)
@[simp] theorem ne_w_own_w_end : (w_own = w_end) = False := eq_false (by decide +kernel)
@[simp] theorem ne_w_own_w_stuck : (w_own = w_stuck) = False := eq_false (by decide +kernel)
@[simp] theorem ne_w_own_w_box : (w_own = w_box) = False := eq_false (by decide +kernel)
@[simp] theorem ne_w_own_w_fill : (w_own = w_fill) = False := eq_false (by decide +kernel)
@[simp] theorem ne_w_own_w_open : (w_own = w_open) = False := eq_false (by decide +kernel)
@[simp] theorem ne_w_own_w_same : (w_own = w_same) = False := eq_false (by decide +kernel)
@[simp] theorem ne_w_own_w_less : (w_own = w_less) = False := eq_false (by decide +kernel)
@[simp] theorem ne_w_own_w_times : (w_own = w_times) = False := eq_false (by decide +kernel)
@[simp] theorem ne_w_own_w_minus : (w_own = w_minus) = False := eq_false (by decide +kernel)
@[simp] theorem ne_w_own_w_add : (w_own = w_add) = False := eq_false (by decide +kernel)
@[simp] theorem ne_w_own_w_drop : (w_own = w_drop) = False := eq_false (by decide +kernel)
@[simp] theorem ne_w_own_w_keep : (w_own = w_keep) = False := eq_false (by decide +kernel)
@[simp] theorem ne_w_own_w_say : (w_own = w_say) = False := eq_false (by decide +kernel)
@[simp] theorem ne_w_own_w_back : (w_own = w_back) = False := eq_false (by decide +kernel)
@[simp] theorem ne_w_own_w_call : (w_own = w_call) = False := eq_false (by decide +kernel)
@[simp] theorem ne_w_own_w__40_ : (w_own = w__40_) = False := eq_false (by decide +kernel)
@[simp] theorem ne_w_own_w_runs : (w_own = w_runs) = False := eq_false (by decide +kernel)
@[simp] theorem ne_w_empty_w_num : (w_empty = w_num) = False := eq_false (by decide +kernel)
@[simp] theorem ne_w_empty_w_get : (w_empty = w_get) = False := eq_false (by decide +kernel)
@[simp] theorem ne_w_empty_w_fun : (w_empty = w_fun) = False := eq_false (by decide +kernel)
@[simp] theorem ne_w_empty_w_jump : (w_empty = w_jump) = False := eq_false (by decide +kernel)
@[simp] theorem ne_w_empty_w_unless : (w_empty = w_unless) = False := eq_false (by decide +kernel)
@[simp] theorem ne_w_empty_w_at : (w_empty = w_at) = False := eq_false (by decide +kernel)
@[simp] theorem ne_w_empty_w_done : (w_empty = w_done) = False := eq_false (by decide +kernel)
@[simp] theorem ne_w_empty_w_full : (w_empty = w_full) = False := eq_false (by decide +kernel)
@[simp] theorem ne_w_empty_w_deep : (w_empty = w_deep) = False := eq_false (by decide +kernel)
@[simp] theorem ne_w_empty_w_great : (w_empty = w_great) = False := eq_false (by decide +kernel)
@[simp] theorem ne_w_empty_w_kind : (w_empty = w_kind) = False := eq_false (by decide +kernel)
@[simp] theorem ne_w_empty_w_own : (w_empty = w_own) = False := eq_false (by decide +kernel)
@[simp] theorem ne_w_empty_w_end : (w_empty = w_end) = False := eq_false (by decide +kernel)
@[simp] theorem ne_w_empty_w_stuck : (w_empty = w_stuck) = False := eq_false (by decide +kernel)
@[simp] theorem ne_w_empty_w_box : (w_empty = w_box) = False := eq_false (by decide +kernel)
@[simp] theorem ne_w_empty_w_fill : (w_empty = w_fill) = False := eq_false (by decide +kernel)
@[simp] theorem ne_w_empty_w_open : (w_empty = w_open) = False := eq_false (by decide +kernel)
@[simp] theorem ne_w_empty_w_same : (w_empty = w_same) = False := eq_false (by decide +kernel)
@[simp] theorem ne_w_empty_w_less : (w_empty = w_less) = False := eq_false (by decide +kernel)
@[simp] theorem ne_w_empty_w_times : (w_empty = w_times) = False := eq_false (by decide +kernel)
@[simp] theorem ne_w_empty_w_minus : (w_empty = w_minus) = False := eq_false (by decide +kernel)
@[simp] theorem ne_w_empty_w_add : (w_empty = w_add) = False := eq_false (by decide +kernel)
@[simp] theorem ne_w_empty_w_drop : (w_empty = w_drop) = False := eq_false (by decide +kernel)
@[simp] theorem ne_w_empty_w_keep : (w_empty = w_keep) = False := eq_false (by decide +kernel)
@[simp] theorem ne_w_empty_w_say : (w_empty = w_say) = False := eq_false (by decide +kernel)
@[simp] theorem ne_w_empty_w_back : (w_empty = w_back) = False := eq_false (by decide +kernel)
@[simp] theorem ne_w_empty_w_call : (w_empty = w_call) = False := eq_false (by decide +kernel)
@[simp] theorem ne_w_empty_w__40_ : (w_empty = w__40_) = False := eq_false (by decide +kernel)
@[simp] theorem ne_w_empty_w_runs : (w_empty = w_runs) = False := eq_false (by decide +kernel)
@[simp] theorem ne_w_end_w_num : (w_end = w_num) = False := eq_false (by decide +kernel)
@[simp] theorem ne_w_end_w_get : (w_end = w_get) = False := eq_false (by decide +kernel)
@[simp] theorem ne_w_end_w_fun : (w_end = w_fun) = False := eq_false (by decide +kernel)
@[simp] theorem ne_w_end_w_jump : (w_end = w_jump) = False := eq_false (by decide +kernel)
@[simp] theorem ne_w_end_w_unless : (w_end = w_unless) = False := eq_false (by decide +kernel)
@[simp] theorem ne_w_end_w_at : (w_end = w_at) = False := eq_false (by decide +kernel)
@[simp] theorem ne_w_end_w_done : (w_end = w_done) = False := eq_false (by decide +kernel)
@[simp] theorem ne_w_end_w_full : (w_end = w_full) = False := eq_false (by decide +kernel)
@[simp] theorem ne_w_end_w_deep : (w_end = w_deep) = False := eq_false (by decide +kernel)
@[simp] theorem ne_w_end_w_great : (w_end = w_great) = False := eq_false (by decide +kernel)
@[simp] theorem ne_w_end_w_kind : (w_end = w_kind) = False := eq_false (by decide +kernel)
@[simp] theorem ne_w_end_w_own : (w_end = w_own) = False := eq_false (by decide +kernel)
@[simp] theorem ne_w_end_w_empty : (w_end = w_empty) = False := eq_false (by decide +kernel)
@[simp] theorem ne_w_end_w_stuck : (w_end = w_stuck) = False := eq_false (by decide +kernel)
@[simp] theorem ne_w_end_w_box : (w_end = w_box) = False := eq_false (by decide +kernel)
@[simp] theorem ne_w_end_w_fill : (w_end = w_fill) = False := eq_false (by decide +kernel)
@[simp] theorem ne_w_end_w_open : (w_end = w_open) = False := eq_false (by decide +kernel)
@[simp] theorem ne_w_end_w_same : (w_end = w_same) = False := eq_false (by decide +kernel)
@[simp] theorem ne_w_end_w_less : (w_end = w_less) = False := eq_false (by decide +kernel)
@[simp] theorem ne_w_end_w_times : (w_end = w_times) = False := eq_false (by decide +kernel)
@[simp] theorem ne_w_end_w_minus : (w_end = w_minus) = False := eq_false (by decide +kernel)
@[simp] theorem ne_w_end_w_add : (w_end = w_add) = False := eq_false (by decide +kernel)
@[simp] theorem ne_w_end_w_drop : (w_end = w_drop) = False := eq_false (by decide +kernel)
@[simp] theorem ne_w_end_w_keep : (w_end = w_keep) = False := eq_false (by decide +kernel)
@[simp] theorem ne_w_end_w_say : (w_end = w_say) = False := eq_false (by decide +kernel)
@[simp] theorem ne_w_end_w_back : (w_end = w_back) = False := eq_false (by decide +kernel)
@[simp] theorem ne_w_end_w_call : (w_end = w_call) = False := eq_false (by decide +kernel)
@[simp] theorem ne_w_end_w__40_ : (w_end = w__40_) = False := eq_false (by decide +kernel)
@[simp] theorem ne_w_end_w_runs : (w_end = w_runs) = False := eq_false (by decide +kernel)
@[simp] theorem ne_w_stuck_w_num : (w_stuck = w_num) = False := eq_false (by decide +kernel)
@[simp] theorem ne_w_stuck_w_get : (w_stuck = w_get) = False := eq_false (by decide +kernel)
@[simp] theorem ne_w_stuck_w_fun : (w_stuck = w_fun) = False := eq_false (by decide +kernel)
@[simp] theorem ne_w_stuck_w_jump : (w_stuck = w_jump) = False := eq_false (by decide +kernel)
@[simp] theorem ne_w_stuck_w_unless : (w_stuck = w_unless) = False := eq_false (by decide +kernel)
@[simp] theorem ne_w_stuck_w_at : (w_stuck = w_at) = False := eq_false (by decide +kernel)
@[simp] theorem ne_w_stuck_w_done : (w_stuck = w_done) = False := eq_false (by decide +kernel)
@[simp] theorem ne_w_stuck_w_full : (w_stuck = w_full) = False := eq_false (by decide +kernel)
@[simp] theorem ne_w_stuck_w_deep : (w_stuck = w_deep) = False := eq_false (by decide +kernel)
@[simp] theorem ne_w_stuck_w_great : (w_stuck = w_great) = False := eq_false (by decide +kernel)
@[simp] theorem ne_w_stuck_w_kind : (w_stuck = w_kind) = False := eq_false (by decide +kernel)
@[simp] theorem ne_w_stuck_w_own : (w_stuck = w_own) = False := eq_false (by decide +kernel)
@[simp] theorem ne_w_stuck_w_empty : (w_stuck = w_empty) = False := eq_false (by decide +kernel)
@[simp] theorem ne_w_stuck_w_end : (w_stuck = w_end) = False := eq_false (by decide +kernel)
@[simp] theorem ne_w_stuck_w_box : (w_stuck = w_box) = False := eq_false (by decide +kernel)
@[simp] theorem ne_w_stuck_w_fill : (w_stuck = w_fill) = False := eq_false (by decide +kernel)
@[simp] theorem ne_w_stuck_w_open : (w_stuck = w_open) = False := eq_false (by decide +kernel)
@[simp] theorem ne_w_stuck_w_same : (w_stuck = w_same) = False := eq_false (by decide +kernel)
@[simp] theorem ne_w_stuck_w_less : (w_stuck = w_less) = False := eq_false (by decide +kernel)
@[simp] theorem ne_w_stuck_w_times : (w_stuck = w_times) = False := eq_false (by decide +kernel)
@[simp] theorem ne_w_stuck_w_minus : (w_stuck = w_minus) = False := eq_false (by decide +kernel)
@[simp] theorem ne_w_stuck_w_add : (w_stuck = w_add) = False := eq_false (by decide +kernel)
@[simp] theorem ne_w_stuck_w_drop : (w_stuck = w_drop) = False := eq_false (by decide +kernel)
@[simp] theorem ne_w_stuck_w_keep : (w_stuck = w_keep) = False := eq_false (by decide +kernel)
@[simp] theorem ne_w_stuck_w_say : (w_stuck = w_say) = False := eq_false (by decide +kernel)
@[simp] theorem ne_w_stuck_w_back : (w_stuck = w_back) = False := eq_false (by decide +kernel)
@[simp] theorem ne_w_stuck_w_call : (w_stuck = w_call) = False := eq_false (by decide +kernel)
@[simp] theorem ne_w_stuck_w__40_ : (w_stuck = w__40_) = False := eq_false (by decide +kernel)
@[simp] theorem ne_w_stuck_w_runs : (w_stuck = w_runs) = False := eq_false (by decide +kernel)
@[simp] theorem ne_w_box_w_num : (w_box = w_num) = False := eq_false (by decide +kernel)
@[simp] theorem ne_w_box_w_get : (w_box = w_get) = False := eq_false (by decide +kernel)
@[simp] theorem ne_w_box_w_fun : (w_box = w_fun) = False := eq_false (by decide +kernel)
@[simp] theorem ne_w_box_w_jump : (w_box = w_jump) = False := eq_false (by decide +kernel)
@[simp] theorem ne_w_box_w_unless : (w_box = w_unless) = False := eq_false (by decide +kernel)
@[simp] theorem ne_w_box_w_at : (w_box = w_at) = False := eq_false (by decide +kernel)
@[simp] theorem ne_w_box_w_done : (w_box = w_done) = False := eq_false (by decide +kernel)
@[simp] theorem ne_w_box_w_full : (w_box = w_full) = False := eq_false (by decide +kernel)
@[simp] theorem ne_w_box_w_deep : (w_box = w_deep) = False := eq_false (by decide +kernel)
@[simp] theorem ne_w_box_w_great : (w_box = w_great) = False := eq_false (by decide +kernel)
@[simp] theorem ne_w_box_w_kind : (w_box = w_kind) = False := eq_false (by decide +kernel)
@[simp] theorem ne_w_box_w_own : (w_box = w_own) = False := eq_false (by decide +kernel)
@[simp] theorem ne_w_box_w_empty : (w_box = w_empty) = False := eq_false (by decide +kernel)
@[simp] theorem ne_w_box_w_end : (w_box = w_end) = False := eq_false (by decide +kernel)
@[simp] theorem ne_w_box_w_stuck : (w_box = w_stuck) = False := eq_false (by decide +kernel)
@[simp] theorem ne_w_box_w_fill : (w_box = w_fill) = False := eq_false (by decide +kernel)
@[simp] theorem ne_w_box_w_open : (w_box = w_open) = False := eq_false (by decide +kernel)
@[simp] theorem ne_w_box_w_same : (w_box = w_same) = False := eq_false (by decide +kernel)
@[simp] theorem ne_w_box_w_less : (w_box = w_less) = False := eq_false (by decide +kernel)
@[simp] theorem ne_w_box_w_times : (w_box = w_times) = False := eq_false (by decide +kernel)
@[simp] theorem ne_w_box_w_minus : (w_box = w_minus) = False := eq_false (by decide +kernel)
@[simp] theorem ne_w_box_w_add : (w_box = w_add) = False := eq_false (by decide +kernel)
@[simp] theorem ne_w_box_w_drop : (w_box = w_drop) = False := eq_false (by decide +kernel)
@[simp] theorem ne_w_box_w_keep : (w_box = w_keep) = False := eq_false (by decide +kernel)
@[simp] theorem ne_w_box_w_say : (w_box = w_say) = False := eq_false (by decide +kernel)
@[simp] theorem ne_w_box_w_back : (w_box = w_back) = False := eq_false (by decide +kernel)
@[simp] theorem ne_w_box_w_call : (w_box = w_call) = False := eq_false (by decide +kernel)
@[simp] theorem ne_w_box_w__40_ : (w_box = w__40_) = False := eq_false (by decide +kernel)
@[simp] theorem ne_w_box_w_runs : (w_box = w_runs) = False := eq_false (by decide +kernel)
@[simp] theorem ne_w_fill_w_num : (w_fill = w_num) = False := eq_false (by decide +kernel)
@[simp] theorem ne_w_fill_w_get : (w_fill = w_get) = False := eq_false (by decide +kernel)
@[simp] theorem ne_w_fill_w_fun : (w_fill = w_fun) = False := eq_false (by decide +kernel)
@[simp] theorem ne_w_fill_w_jump : (w_fill = w_jump) = False := eq_false (by decide +kernel)
@[simp] theorem ne_w_fill_w_unless : (w_fill = w_unless) = False := eq_false (by decide +kernel)
@[simp] theorem ne_w_fill_w_at : (w_fill = w_at) = False := eq_false (by decide +kernel)
@[simp] theorem ne_w_fill_w_done : (w_fill = w_done) = False := eq_false (by decide +kernel)
@[simp] theorem ne_w_fill_w_full : (w_fill = w_full) = False := eq_false (by decide +kernel)
@[simp] theorem ne_w_fill_w_deep : (w_fill = w_deep) = False := eq_false (by decide +kernel)
@[simp] theorem ne_w_fill_w_great : (w_fill = w_great) = False := eq_false (by decide +kernel)
@[simp] theorem ne_w_fill_w_kind : (w_fill = w_kind) = False := eq_false (by decide +kernel)
@[simp] theorem ne_w_fill_w_own : (w_fill = w_own) = False := eq_false (by decide +kernel)
@[simp] theorem ne_w_fill_w_empty : (w_fill = w_empty) = False := eq_false (by decide +kernel)
@[simp] theorem ne_w_fill_w_end : (w_fill = w_end) = False := eq_false (by decide +kernel)
@[simp] theorem ne_w_fill_w_stuck : (w_fill = w_stuck) = False := eq_false (by decide +kernel)
@[simp] theorem ne_w_fill_w_box : (w_fill = w_box) = False := eq_false (by decide +kernel)
@[simp] theorem ne_w_fill_w_open : (w_fill = w_open) = False := eq_false (by decide +kernel)
@[simp] theorem ne_w_fill_w_same : (w_fill = w_same) = False := eq_false (by decide +kernel)
@[simp] theorem ne_w_fill_w_less : (w_fill = w_less) = False := eq_false (by decide +kernel)
@[simp] theorem ne_w_fill_w_times : (w_fill = w_times) = False := eq_false (by decide +kernel)
@[simp] theorem ne_w_fill_w_minus : (w_fill = w_minus) = False := eq_false (by decide +kernel)
@[simp] theorem ne_w_fill_w_add : (w_fill = w_add) = False := eq_false (by decide +kernel)
@[simp] theorem ne_w_fill_w_drop : (w_fill = w_drop) = False := eq_false (by decide +kernel)
@[simp] theorem ne_w_fill_w_keep : (w_fill = w_keep) = False := eq_false (by decide +kernel)
@[simp] theorem ne_w_fill_w_say : (w_fill = w_say) = False := eq_false (by decide +kernel)
@[simp] theorem ne_w_fill_w_back : (w_fill = w_back) = False := eq_false (by decide +kernel)
@[simp] theorem ne_w_fill_w_call : (w_fill = w_call) = False := eq_false (by decide +kernel)
@[simp] theorem ne_w_fill_w__40_ : (w_fill = w__40_) = False := eq_false (by decide +kernel)
@[simp] theorem ne_w_fill_w_runs : (w_fill = w_runs) = False := eq_false (by decide +kernel)
@[simp] theorem ne_w_open_w_num : (w_open = w_num) = False := eq_false (by decide +kernel)
@[simp] theorem ne_w_open_w_get : (w_open = w_get) = False := eq_false (by decide +kernel)
@[simp] theorem ne_w_open_w_fun : (w_open = w_fun) = False := eq_false (by decide +kernel)
@[simp] theorem ne_w_open_w_jump : (w_open = w_jump) = False := eq_false (by decide +kernel)
@[simp] theorem ne_w_open_w_unless : (w_open = w_unless) = False := eq_false (by decide +kernel)
@[simp] theorem ne_w_open_w_at : (w_open = w_at) = False := eq_false (by decide +kernel)
@[simp] theorem ne_w_open_w_done : (w_open = w_done) = False := eq_false (by decide +kernel)
@[simp] theorem ne_w_open_w_full : (w_open = w_full) = False := eq_false (by decide +kernel)
@[simp] theorem ne_w_open_w_deep : (w_open = w_deep) = False := eq_false (by decide +kernel)
@[simp] theorem ne_w_open_w_great : (w_open = w_great) = False := eq_false (by decide +kernel)
@[simp] theorem ne_w_open_w_kind : (w_open = w_kind) = False := eq_false (by decide +kernel)
@[simp] theorem ne_w_open_w_own : (w_open = w_own) = False := eq_false (by decide +kernel)
@[simp] theorem ne_w_open_w_empty : (w_open = w_empty) = False := eq_false (by decide +kernel)
@[simp] theorem ne_w_open_w_end : (w_open = w_end) = False := eq_false (by decide +kernel)
@[simp] theorem ne_w_open_w_stuck : (w_open = w_stuck) = False := eq_false (by decide +kernel)
@[simp] theorem ne_w_open_w_box : (w_open = w_box) = False := eq_false (by decide +kernel)
@[simp] theorem ne_w_open_w_fill : (w_open = w_fill) = False := eq_false (by decide +kernel)
@[simp] theorem ne_w_open_w_same : (w_open = w_same) = False := eq_false (by decide +kernel)
@[simp] theorem ne_w_open_w_less : (w_open = w_less) = False := eq_false (by decide +kernel)
@[simp] theorem ne_w_open_w_times : (w_open = w_times) = False := eq_false (by decide +kernel)
@[simp] theorem ne_w_open_w_minus : (w_open = w_minus) = False := eq_false (by decide +kernel)
@[simp] theorem ne_w_open_w_add : (w_open = w_add) = False := eq_false (by decide +kernel)
@[simp] theorem ne_w_open_w_drop : (w_open = w_drop) = False := eq_false (by decide +kernel)
@[simp] theorem ne_w_open_w_keep : (w_open = w_keep) = False := eq_false (by decide +kernel)
@[simp] theorem ne_w_open_w_say : (w_open = w_say) = False := eq_false (by decide +kernel)
@[simp] theorem ne_w_open_w_back : (w_open = w_back) = False := eq_false (by decide +kernel)
@[simp] theorem ne_w_open_w_call : (w_open = w_call) = False := eq_false (by decide +kernel)
@[simp] theorem ne_w_open_w__40_ : (w_open = w__40_) = False := eq_false (by decide +kernel)
@[simp] theorem ne_w_open_w_runs : (w_open = w_runs) = False := eq_false (by decide +kernel)
@[simp] theorem ne_w_same_w_num : (w_same = w_num) = False := eq_false (by decide +kernel)
@[simp] theorem ne_w_same_w_get : (w_same = w_get) = False := eq_false (by decide +kernel)
@[simp] theorem ne_w_same_w_fun : (w_same = w_fun) = False := eq_false (by decide +kernel)
@[simp] theorem ne_w_same_w_jump : (w_same = w_jump) = False := eq_false (by decide +kernel)
@[simp] theorem ne_w_same_w_unless : (w_same = w_unless) = False := eq_false (by decide +kernel)
@[simp] theorem ne_w_same_w_at : (w_same = w_at) = False := eq_false (by decide +kernel)
@[simp] theorem ne_w_same_w_done : (w_same = w_done) = False := eq_false (by decide +kernel)
@[simp] theorem ne_w_same_w_full : (w_same = w_full) = False := eq_false (by decide +kernel)
@[simp] theorem ne_w_same_w_deep : (w_same = w_deep) = False := eq_false (by decide +kernel)
@[simp] theorem ne_w_same_w_great : (w_same = w_great) = False := eq_false (by decide +kernel)
@[simp] theorem ne_w_same_w_kind : (w_same = w_kind) = False := eq_false (by decide +kernel)
@[simp] theorem ne_w_same_w_own : (w_same = w_own) = False := eq_false (by decide +kernel)
@[simp] theorem ne_w_same_w_empty : (w_same = w_empty) = False := eq_false (by decide +kernel)
@[simp] theorem ne_w_same_w_end : (w_same = w_end) = False := eq_false (by decide +kernel)
@[simp] theorem ne_w_same_w_stuck : (w_same = w_stuck) = False := eq_false (by decide +kernel)
@[simp] theorem ne_w_same_w_box : (w_same = w_box) = False := eq_false (by decide +kernel)
@[simp] theorem ne_w_same_w_fill : (w_same = w_fill) = False := eq_false (by decide +kernel)
@[simp] theorem ne_w_same_w_open : (w_same = w_open) = False := eq_false (by decide +kernel)
@[simp] theorem ne_w_same_w_less : (w_same = w_less) = False := eq_false (by decide +kernel)
@[simp] theorem ne_w_same_w_times : (w_same = w_times) = False := eq_false (by decide +kernel)
@[simp] theorem ne_w_same_w_minus : (w_same = w_minus) = False := eq_false (by decide +kernel)
@[simp] theorem ne_w_same_w_add : (w_same = w_add) = False := eq_false (by decide +kernel)
@[simp] theorem ne_w_same_w_drop : (w_same = w_drop) = False := eq_false (by decide +kernel)
@[simp] theorem ne_w_same_w_keep : (w_same = w_keep) = False := eq_false (by decide +kernel)
@[simp] theorem ne_w_same_w_say : (w_same = w_say) = False := eq_false (by decide +kernel)
@[simp] theorem ne_w_same_w_back : (w_same = w_back) = False := eq_false (by decide +kernel)
@[simp] theorem ne_w_same_w_call : (w_same = w_call) = False := eq_false (by decide +kernel)
@[simp] theorem ne_w_same_w__40_ : (w_same = w__40_) = False := eq_false (by decide +kernel)
@[simp] theorem ne_w_same_w_runs : (w_same = w_runs) = False := eq_false (by decide +kernel)
@[simp] theorem ne_w_less_w_num : (w_less = w_num) = False := eq_false (by decide +kernel)
@[simp] theorem ne_w_less_w_get : (w_less = w_get) = False := eq_false (by decide +kernel)
@[simp] theorem ne_w_less_w_fun : (w_less = w_fun) = False := eq_false (by decide +kernel)
@[simp] theorem ne_w_less_w_jump : (w_less = w_jump) = False := eq_false (by decide +kernel)
@[simp] theorem ne_w_less_w_unless : (w_less = w_unless) = False := eq_false (by decide +kernel)
@[simp] theorem ne_w_less_w_at : (w_less = w_at) = False := eq_false (by decide +kernel)
@[simp] theorem ne_w_less_w_done : (w_less = w_done) = False := eq_false (by decide +kernel)
@[simp] theorem ne_w_less_w_full : (w_less = w_full) = False := eq_false (by decide +kernel)
@[simp] theorem ne_w_less_w_deep : (w_less = w_deep) = False := eq_false (by decide +kernel)
@[simp] theorem ne_w_less_w_great : (w_less = w_great) = False := eq_false (by decide +kernel)
@[simp] theorem ne_w_less_w_kind : (w_less = w_kind) = False := eq_false (by decide +kernel)
@[simp] theorem ne_w_less_w_own : (w_less = w_own) = False := eq_false (by decide +kernel)
@[simp] theorem ne_w_less_w_empty : (w_less = w_empty) = False := eq_false (by decide +kernel)
@[simp] theorem ne_w_less_w_end : (w_less = w_end) = False := eq_false (by decide +kernel)
@[simp] theorem ne_w_less_w_stuck : (w_less = w_stuck) = False := eq_false (by decide +kernel)
@[simp] theorem ne_w_less_w_box : (w_less = w_box) = False := eq_false (by decide +kernel)
@[simp] theorem ne_w_less_w_fill : (w_less = w_fill) = False := eq_false (by decide +kernel)
@[simp] theorem ne_w_less_w_open : (w_less = w_open) = False := eq_false (by decide +kernel)
@[simp] theorem ne_w_less_w_same : (w_less = w_same) = False := eq_false (by decide +kernel)
@[simp] theorem ne_w_less_w_times : (w_less = w_times) = False := eq_false (by decide +kernel)
@[simp] theorem ne_w_less_w_minus : (w_less = w_minus) = False := eq_false (by decide +kernel)
@[simp] theorem ne_w_less_w_add : (w_less = w_add) = False := eq_false (by decide +kernel)
@[simp] theorem ne_w_less_w_drop : (w_less = w_drop) = False := eq_false (by decide +kernel)
@[simp] theorem ne_w_less_w_keep : (w_less = w_keep) = False := eq_false (by decide +kernel)
@[simp] theorem ne_w_less_w_say : (w_less = w_say) = False := eq_false (by decide +kernel)
@[simp] theorem ne_w_less_w_back : (w_less = w_back) = False := eq_false (by decide +kernel)
@[simp] theorem ne_w_less_w_call : (w_less = w_call) = False := eq_false (by decide +kernel)
@[simp] theorem ne_w_less_w__40_ : (w_less = w__40_) = False := eq_false (by decide +kernel)
@[simp] theorem ne_w_less_w_runs : (w_less = w_runs) = False := eq_false (by decide +kernel)
@[simp] theorem ne_w_times_w_num : (w_times = w_num) = False := eq_false (by decide +kernel)
@[simp] theorem ne_w_times_w_get : (w_times = w_get) = False := eq_false (by decide +kernel)
@[simp] theorem ne_w_times_w_fun : (w_times = w_fun) = False := eq_false (by decide +kernel)
@[simp] theorem ne_w_times_w_jump : (w_times = w_jump) = False := eq_false (by decide +kernel)
@[simp] theorem ne_w_times_w_unless : (w_times = w_unless) = False := eq_false (by decide +kernel)
@[simp] theorem ne_w_times_w_at : (w_times = w_at) = False := eq_false (by decide +kernel)
@[simp] theorem ne_w_times_w_done : (w_times = w_done) = False := eq_false (by decide +kernel)
@[simp] theorem ne_w_times_w_full : (w_times = w_full) = False := eq_false (by decide +kernel)
@[simp] theorem ne_w_times_w_deep : (w_times = w_deep) = False := eq_false (by decide +kernel)
@[simp] theorem ne_w_times_w_great : (w_times = w_great) = False := eq_false (by decide +kernel)
@[simp] theorem ne_w_times_w_kind : (w_times = w_kind) = False := eq_false (by decide +kernel)
@[simp] theorem ne_w_times_w_own : (w_times = w_own) = False := eq_false (by decide +kernel)
@[simp] theorem ne_w_times_w_empty : (w_times = w_empty) = False := eq_false (by decide +kernel)
@[simp] theorem ne_w_times_w_end : (w_times = w_end) = False := eq_false (by decide +kernel)
@[simp] theorem ne_w_times_w_stuck : (w_times = w_stuck) = False := eq_false (by decide +kernel)
@[simp] theorem ne_w_times_w_box : (w_times = w_box) = False := eq_false (by decide +kernel)
@[simp] theorem ne_w_times_w_fill : (w_times = w_fill) = False := eq_false (by decide +kernel)
@[simp] theorem ne_w_times_w_open : (w_times = w_open) = False := eq_false (by decide +kernel)
@[simp] theorem ne_w_times_w_same : (w_times = w_same) = False := eq_false (by decide +kernel)
@[simp] theorem ne_w_times_w_less : (w_times = w_less) = False := eq_false (by decide +kernel)
@[simp] theorem ne_w_times_w_minus : (w_times = w_minus) = False := eq_false (by decide +kernel)
@[simp] theorem ne_w_times_w_add : (w_times = w_add) = False := eq_false (by decide +kernel)
@[simp] theorem ne_w_times_w_drop : (w_times = w_drop) = False := eq_false (by decide +kernel)
@[simp] theorem ne_w_times_w_keep : (w_times = w_keep) = False := eq_false (by decide +kernel)
@[simp] theorem ne_w_times_w_say : (w_times = w_say) = False := eq_false (by decide +kernel)
@[simp] theorem ne_w_times_w_back : (w_times = w_back) = False := eq_false (by decide +kernel)
@[simp] theorem ne_w_times_w_call : (w_times = w_call) = False := eq_false (by decide +kernel)
@[simp] theorem ne_w_times_w__40_ : (w_times = w__40_) = False := eq_false (by decide +kernel)
@[simp] theorem ne_w_times_w_runs : (w_times = w_runs) = False := eq_false (by decide +kernel)
@[simp] theorem ne_w_minus_w_num : (w_minus = w_num) = False := eq_false (by decide +kernel)
@[simp] theorem ne_w_minus_w_get : (w_minus = w_get) = False := eq_false (by decide +kernel)
@[simp] theorem ne_w_minus_w_fun : (w_minus = w_fun) = False := eq_false (by decide +kernel)
@[simp] theorem ne_w_minus_w_jump : (w_minus = w_jump) = False := eq_false (by decide +kernel)
@[simp] theorem ne_w_minus_w_unless : (w_minus = w_unless) = False := eq_false (by decide +kernel)
@[simp] theorem ne_w_minus_w_at : (w_minus = w_at) = False := eq_false (by decide +kernel)
@[simp] theorem ne_w_minus_w_done : (w_minus = w_done) = False := eq_false (by decide +kernel)
@[simp] theorem ne_w_minus_w_full : (w_minus = w_full) = False := eq_false (by decide +kernel)
@[simp] theorem ne_w_minus_w_deep : (w_minus = w_deep) = False := eq_false (by decide +kernel)
@[simp] theorem ne_w_minus_w_great : (w_minus = w_great) = False := eq_false (by decide +kernel)
@[simp] theorem ne_w_minus_w_kind : (w_minus = w_kind) = False := eq_false (by decide +kernel)
@[simp] theorem ne_w_minus_w_own : (w_minus = w_own) = False := eq_false (by decide +kernel)
@[simp] theorem ne_w_minus_w_empty : (w_minus = w_empty) = False := eq_false (by decide +kernel)
@[simp] theorem ne_w_minus_w_end : (w_minus = w_end) = False := eq_false (by decide +kernel)
@[simp] theorem ne_w_minus_w_stuck : (w_minus = w_stuck) = False := eq_false (by decide +kernel)
@[simp] theorem ne_w_minus_w_box : (w_minus = w_box) = False := eq_false (by decide +kernel)
@[simp] theorem ne_w_minus_w_fill : (w_minus = w_fill) = False := eq_false (by decide +kernel)
@[simp] theorem ne_w_minus_w_open : (w_minus = w_open) = False := eq_false (by decide +kernel)
@[simp] theorem ne_w_minus_w_same : (w_minus = w_same) = False := eq_false (by decide +kernel)
@[simp] theorem ne_w_minus_w_less : (w_minus = w_less) = False := eq_false (by decide +kernel)
@[simp] theorem ne_w_minus_w_times : (w_minus = w_times) = False := eq_false (by decide +kernel)
@[simp] theorem ne_w_minus_w_add : (w_minus = w_add) = False := eq_false (by decide +kernel)
@[simp] theorem ne_w_minus_w_drop : (w_minus = w_drop) = False := eq_false (by decide +kernel)
@[simp] theorem ne_w_minus_w_keep : (w_minus = w_keep) = False := eq_false (by decide +kernel)
@[simp] theorem ne_w_minus_w_say : (w_minus = w_say) = False := eq_false (by decide +kernel)
@[simp] theorem ne_w_minus_w_back : (w_minus = w_back) = False := eq_false (by decide +kernel)
@[simp] theorem ne_w_minus_w_call : (w_minus = w_call) = False := eq_false (by decide +kernel)
@[simp] theorem ne_w_minus_w__40_ : (w_minus = w__40_) = False := eq_false (by decide +kernel)
@[simp] theorem ne_w_minus_w_runs : (w_minus = w_runs) = False := eq_false (by decide +kernel)
@[simp] theorem ne_w_add_w_num : (w_add = w_num) = False := eq_false (by decide +kernel)
@[simp] theorem ne_w_add_w_get : (w_add = w_get) = False := eq_false (by decide +kernel)
@[simp] theorem ne_w_add_w_fun : (w_add = w_fun) = False := eq_false (by decide +kernel)
@[simp] theorem ne_w_add_w_jump : (w_add = w_jump) = False := eq_false (by decide +kernel)
@[simp] theorem ne_w_add_w_unless : (w_add = w_unless) = False := eq_false (by decide +kernel)
@[simp] theorem ne_w_add_w_at : (w_add = w_at) = False := eq_false (by decide +kernel)
@[simp] theorem ne_w_add_w_done : (w_add = w_done) = False := eq_false (by decide +kernel)
@[simp] theorem ne_w_add_w_full : (w_add = w_full) = False := eq_false (by decide +kernel)
@[simp] theorem ne_w_add_w_deep : (w_add = w_deep) = False := eq_false (by decide +kernel)
@[simp] theorem ne_w_add_w_great : (w_add = w_great) = False := eq_false (by decide +kernel)
@[simp] theorem ne_w_add_w_kind : (w_add = w_kind) = False := eq_false (by decide +kernel)
@[simp] theorem ne_w_add_w_own : (w_add = w_own) = False := eq_false (by decide +kernel)
@[simp] theorem ne_w_add_w_empty : (w_add = w_empty) = False := eq_false (by decide +kernel)
@[simp] theorem ne_w_add_w_end : (w_add = w_end) = False := eq_false (by decide +kernel)
@[simp] theorem ne_w_add_w_stuck : (w_add = w_stuck) = False := eq_false (by decide +kernel)
@[simp] theorem ne_w_add_w_box : (w_add = w_box) = False := eq_false (by decide +kernel)
@[simp] theorem ne_w_add_w_fill : (w_add = w_fill) = False := eq_false (by decide +kernel)
@[simp] theorem ne_w_add_w_open : (w_add = w_open) = False := eq_false (by decide +kernel)
@[simp] theorem ne_w_add_w_same : (w_add = w_same) = False := eq_false (by decide +kernel)
@[simp] theorem ne_w_add_w_less : (w_add = w_less) = False := eq_false (by decide +kernel)
@[simp] theorem ne_w_add_w_times : (w_add = w_times) = False := eq_false (by decide +kernel)
@[simp] theorem ne_w_add_w_minus : (w_add = w_minus) = False := eq_false (by decide +kernel)
@[simp] theorem ne_w_add_w_drop : (w_add = w_drop) = False := eq_false (by decide +kernel)
@[simp] theorem ne_w_add_w_keep : (w_add = w_keep) = False := eq_false (by decide +kernel)
@[simp] theorem ne_w_add_w_say : (w_add = w_say) = False := eq_false (by decide +kernel)
@[simp] theorem ne_w_add_w_back : (w_add = w_back) = False := eq_false (by decide +kernel)
@[simp] theorem ne_w_add_w_call : (w_add = w_call) = False := eq_false (by decide +kernel)
@[simp] theorem ne_w_add_w__40_ : (w_add = w__40_) = False := eq_false (by decide +kernel)
@[simp] theorem ne_w_add_w_runs : (w_add = w_runs) = False := eq_false (by decide +kernel)
@[simp] theorem ne_w_drop_w_num : (w_drop = w_num) = False := eq_false (by decide +kernel)
@[simp] theorem ne_w_drop_w_get : (w_drop = w_get) = False := eq_false (by decide +kernel)
@[simp] theorem ne_w_drop_w_fun : (w_drop = w_fun) = False := eq_false (by decide +kernel)
@[simp] theorem ne_w_drop_w_jump : (w_drop = w_jump) = False := eq_false (by decide +kernel)
@[simp] theorem ne_w_drop_w_unless : (w_drop = w_unless) = False := eq_false (by decide +kernel)
@[simp] theorem ne_w_drop_w_at : (w_drop = w_at) = False := eq_false (by decide +kernel)
@[simp] theorem ne_w_drop_w_done : (w_drop = w_done) = False := eq_false (by decide +kernel)
@[simp] theorem ne_w_drop_w_full : (w_drop = w_full) = False := eq_false (by decide +kernel)
@[simp] theorem ne_w_drop_w_deep : (w_drop = w_deep) = False := eq_false (by decide +kernel)
@[simp] theorem ne_w_drop_w_great : (w_drop = w_great) = False := eq_false (by decide +kernel)
@[simp] theorem ne_w_drop_w_kind : (w_drop = w_kind) = False := eq_false (by decide +kernel)
@[simp] theorem ne_w_drop_w_own : (w_drop = w_own) = False := eq_false (by decide +kernel)
@[simp] theorem ne_w_drop_w_empty : (w_drop = w_empty) = False := eq_false (by decide +kernel)
@[simp] theorem ne_w_drop_w_end : (w_drop = w_end) = False := eq_false (by decide +kernel)
@[simp] theorem ne_w_drop_w_stuck : (w_drop = w_stuck) = False := eq_false (by decide +kernel)
@[simp] theorem ne_w_drop_w_box : (w_drop = w_box) = False := eq_false (by decide +kernel)
@[simp] theorem ne_w_drop_w_fill : (w_drop = w_fill) = False := eq_false (by decide +kernel)
@[simp] theorem ne_w_drop_w_open : (w_drop = w_open) = False := eq_false (by decide +kernel)
@[simp] theorem ne_w_drop_w_same : (w_drop = w_same) = False := eq_false (by decide +kernel)
@[simp] theorem ne_w_drop_w_less : (w_drop = w_less) = False := eq_false (by decide +kernel)
@[simp] theorem ne_w_drop_w_times : (w_drop = w_times) = False := eq_false (by decide +kernel)
@[simp] theorem ne_w_drop_w_minus : (w_drop = w_minus) = False := eq_false (by decide +kernel)
@[simp] theorem ne_w_drop_w_add : (w_drop = w_add) = False := eq_false (by decide +kernel)
@[simp] theorem ne_w_drop_w_keep : (w_drop = w_keep) = False := eq_false (by decide +kernel)
@[simp] theorem ne_w_drop_w_say : (w_drop = w_say) = False := eq_false (by decide +kernel)
@[simp] theorem ne_w_drop_w_back : (w_drop = w_back) = False := eq_false (by decide +kernel)
@[simp] theorem ne_w_drop_w_call : (w_drop = w_call) = False := eq_false (by decide +kernel)
@[simp] theorem ne_w_drop_w__40_ : (w_drop = w__40_) = False := eq_false (by decide +kernel)
@[simp] theorem ne_w_drop_w_runs : (w_drop = w_runs) = False := eq_false (by decide +kernel)
@[simp] theorem ne_w_keep_w_num : (w_keep = w_num) = False := eq_false (by decide +kernel)
@[simp] theorem ne_w_keep_w_get : (w_keep = w_get) = False := eq_false (by decide +kernel)
@[simp] theorem ne_w_keep_w_fun : (w_keep = w_fun) = False := eq_false (by decide +kernel)
@[simp] theorem ne_w_keep_w_jump : (w_keep = w_jump) = False := eq_false (by decide +kernel)
@[simp] theorem ne_w_keep_w_unless : (w_keep = w_unless) = False := eq_false (by decide +kernel)
@[simp] theorem ne_w_keep_w_at : (w_keep = w_at) = False := eq_false (by decide +kernel)
@[simp] theorem ne_w_keep_w_done : (w_keep = w_done) = False := eq_false (by decide +kernel)
@[simp] theorem ne_w_keep_w_full : (w_keep = w_full) = False := eq_false (by decide +kernel)
@[simp] theorem ne_w_keep_w_deep : (w_keep = w_deep) = False := eq_false (by decide +kernel)
@[simp] theorem ne_w_keep_w_great : (w_keep = w_great) = False := eq_false (by decide +kernel)
@[simp] theorem ne_w_keep_w_kind : (w_keep = w_kind) = False := eq_false (by decide +kernel)
@[simp] theorem ne_w_keep_w_own : (w_keep = w_own) = False := eq_false (by decide +kernel)
@[simp] theorem ne_w_keep_w_empty : (w_keep = w_empty) = False := eq_false (by decide +kernel)
@[simp] theorem ne_w_keep_w_end : (w_keep = w_end) = False := eq_false (by decide +kernel)
@[simp] theorem ne_w_keep_w_stuck : (w_keep = w_stuck) = False := eq_false (by decide +kernel)
@[simp] theorem ne_w_keep_w_box : (w_keep = w_box) = False := eq_false (by decide +kernel)
@[simp] theorem ne_w_keep_w_fill : (w_keep = w_fill) = False := eq_false (by decide +kernel)
@[simp] theorem ne_w_keep_w_open : (w_keep = w_open) = False := eq_false (by decide +kernel)
@[simp] theorem ne_w_keep_w_same : (w_keep = w_same) = False := eq_false (by decide +kernel)
@[simp] theorem ne_w_keep_w_less : (w_keep = w_less) = False := eq_false (by decide +kernel)
@[simp] theorem ne_w_keep_w_times : (w_keep = w_times) = False := eq_false (by decide +kernel)
@[simp] theorem ne_w_keep_w_minus : (w_keep = w_minus) = False := eq_false (by decide +kernel)
@[simp] theorem ne_w_keep_w_add : (w_keep = w_add) = False := eq_false (by decide +kernel)
@[simp] theorem ne_w_keep_w_drop : (w_keep = w_drop) = False := eq_false (by decide +kernel)
@[simp] theorem ne_w_keep_w_say : (w_keep = w_say) = False := eq_false (by decide +kernel)
@[simp] theorem ne_w_keep_w_back : (w_keep = w_back) = False := eq_false (by decide +kernel)
@[simp] theorem ne_w_keep_w_call : (w_keep = w_call) = False := eq_false (by decide +kernel)
@[simp] theorem ne_w_keep_w__40_ : (w_keep = w__40_) = False := eq_false (by decide +kernel)
@[simp] theorem ne_w_keep_w_runs : (w_keep = w_runs) = False := eq_false (by decide +kernel)
@[simp] theorem ne_w_say_w_num : (w_say = w_num) = False := eq_false (by decide +kernel)
@[simp] theorem ne_w_say_w_get : (w_say = w_get) = False := eq_false (by decide +kernel)
@[simp] theorem ne_w_say_w_fun : (w_say = w_fun) = False := eq_false (by decide +kernel)
@[simp] theorem ne_w_say_w_jump : (w_say = w_jump) = False := eq_false (by decide +kernel)
@[simp] theorem ne_w_say_w_unless : (w_say = w_unless) = False := eq_false (by decide +kernel)
@[simp] theorem ne_w_say_w_at : (w_say = w_at) = False := eq_false (by decide +kernel)
@[simp] theorem ne_w_say_w_done : (w_say = w_done) = False := eq_false (by decide +kernel)
@[simp] theorem ne_w_say_w_full : (w_say = w_full) = False := eq_false (by decide +kernel)
@[simp] theorem ne_w_say_w_deep : (w_say = w_deep) = False := eq_false (by decide +kernel)
@[simp] theorem ne_w_say_w_great : (w_say = w_great) = False := eq_false (by decide +kernel)
@[simp] theorem ne_w_say_w_kind : (w_say = w_kind) = False := eq_false (by decide +kernel)
@[simp] theorem ne_w_say_w_own : (w_say = w_own) = False := eq_false (by decide +kernel)
@[simp] theorem ne_w_say_w_empty : (w_say = w_empty) = False := eq_false (by decide +kernel)
@[simp] theorem ne_w_say_w_end : (w_say = w_end) = False := eq_false (by decide +kernel)
@[simp] theorem ne_w_say_w_stuck : (w_say = w_stuck) = False := eq_false (by decide +kernel)
@[simp] theorem ne_w_say_w_box : (w_say = w_box) = False := eq_false (by decide +kernel)
@[simp] theorem ne_w_say_w_fill : (w_say = w_fill) = False := eq_false (by decide +kernel)
@[simp] theorem ne_w_say_w_open : (w_say = w_open) = False := eq_false (by decide +kernel)
@[simp] theorem ne_w_say_w_same : (w_say = w_same) = False := eq_false (by decide +kernel)
@[simp] theorem ne_w_say_w_less : (w_say = w_less) = False := eq_false (by decide +kernel)
@[simp] theorem ne_w_say_w_times : (w_say = w_times) = False := eq_false (by decide +kernel)
@[simp] theorem ne_w_say_w_minus : (w_say = w_minus) = False := eq_false (by decide +kernel)
@[simp] theorem ne_w_say_w_add : (w_say = w_add) = False := eq_false (by decide +kernel)
@[simp] theorem ne_w_say_w_drop : (w_say = w_drop) = False := eq_false (by decide +kernel)
@[simp] theorem ne_w_say_w_keep : (w_say = w_keep) = False := eq_false (by decide +kernel)
@[simp] theorem ne_w_say_w_back : (w_say = w_back) = False := eq_false (by decide +kernel)
@[simp] theorem ne_w_say_w_call : (w_say = w_call) = False := eq_false (by decide +kernel)
@[simp] theorem ne_w_say_w__40_ : (w_say = w__40_) = False := eq_false (by decide +kernel)
@[simp] theorem ne_w_say_w_runs : (w_say = w_runs) = False := eq_false (by decide +kernel)
@[simp] theorem ne_w_back_w_num : (w_back = w_num) = False := eq_false (by decide +kernel)
@[simp] theorem ne_w_back_w_get : (w_back = w_get) = False := eq_false (by decide +kernel)
@[simp] theorem ne_w_back_w_fun : (w_back = w_fun) = False := eq_false (by decide +kernel)
@[simp] theorem ne_w_back_w_jump : (w_back = w_jump) = False := eq_false (by decide +kernel)
@[simp] theorem ne_w_back_w_unless : (w_back = w_unless) = False := eq_false (by decide +kernel)
@[simp] theorem ne_w_back_w_at : (w_back = w_at) = False := eq_false (by decide +kernel)
@[simp] theorem ne_w_back_w_done : (w_back = w_done) = False := eq_false (by decide +kernel)
@[simp] theorem ne_w_back_w_full : (w_back = w_full) = False := eq_false (by decide +kernel)
@[simp] theorem ne_w_back_w_deep : (w_back = w_deep) = False := eq_false (by decide +kernel)
@[simp] theorem ne_w_back_w_great : (w_back = w_great) = False := eq_false (by decide +kernel)
@[simp] theorem ne_w_back_w_kind : (w_back = w_kind) = False := eq_false (by decide +kernel)
@[simp] theorem ne_w_back_w_own : (w_back = w_own) = False := eq_false (by decide +kernel)
@[simp] theorem ne_w_back_w_empty : (w_back = w_empty) = False := eq_false (by decide +kernel)
@[simp] theorem ne_w_back_w_end : (w_back = w_end) = False := eq_false (by decide +kernel)
@[simp] theorem ne_w_back_w_stuck : (w_back = w_stuck) = False := eq_false (by decide +kernel)
@[simp] theorem ne_w_back_w_box : (w_back = w_box) = False := eq_false (by decide +kernel)
@[simp] theorem ne_w_back_w_fill : (w_back = w_fill) = False := eq_false (by decide +kernel)
@[simp] theorem ne_w_back_w_open : (w_back = w_open) = False := eq_false (by decide +kernel)
@[simp] theorem ne_w_back_w_same : (w_back = w_same) = False := eq_false (by decide +kernel)
@[simp] theorem ne_w_back_w_less : (w_back = w_less) = False := eq_false (by decide +kernel)
@[simp] theorem ne_w_back_w_times : (w_back = w_times) = False := eq_false (by decide +kernel)
@[simp] theorem ne_w_back_w_minus : (w_back = w_minus) = False := eq_false (by decide +kernel)
@[simp] theorem ne_w_back_w_add : (w_back = w_add) = False := eq_false (by decide +kernel)
@[simp] theorem ne_w_back_w_drop : (w_back = w_drop) = False := eq_false (by decide +kernel)
@[simp] theorem ne_w_back_w_keep : (w_back = w_keep) = False := eq_false (by decide +kernel)
@[simp] theorem ne_w_back_w_say : (w_back = w_say) = False := eq_false (by decide +kernel)
@[simp] theorem ne_w_back_w_call : (w_back = w_call) = False := eq_false (by decide +kernel)
@[simp] theorem ne_w_back_w__40_ : (w_back = w__40_) = False := eq_false (by decide +kernel)
@[simp] theorem ne_w_back_w_runs : (w_back = w_runs) = False := eq_false (by decide +kernel)
@[simp] theorem ne_w_call_w_num : (w_call = w_num) = False := eq_false (by decide +kernel)
@[simp] theorem ne_w_call_w_get : (w_call = w_get) = False := eq_false (by decide +kernel)
@[simp] theorem ne_w_call_w_fun : (w_call = w_fun) = False := eq_false (by decide +kernel)
@[simp] theorem ne_w_call_w_jump : (w_call = w_jump) = False := eq_false (by decide +kernel)
@[simp] theorem ne_w_call_w_unless : (w_call = w_unless) = False := eq_false (by decide +kernel)
@[simp] theorem ne_w_call_w_at : (w_call = w_at) = False := eq_false (by decide +kernel)
@[simp] theorem ne_w_call_w_done : (w_call = w_done) = False := eq_false (by decide +kernel)
@[simp] theorem ne_w_call_w_full : (w_call = w_full) = False := eq_false (by decide +kernel)
@[simp] theorem ne_w_call_w_deep : (w_call = w_deep) = False := eq_false (by decide +kernel)
@[simp] theorem ne_w_call_w_great : (w_call = w_great) = False := eq_false (by decide +kernel)
@[simp] theorem ne_w_call_w_kind : (w_call = w_kind) = False := eq_false (by decide +kernel)
@[simp] theorem ne_w_call_w_own : (w_call = w_own) = False := eq_false (by decide +kernel)
@[simp] theorem ne_w_call_w_empty : (w_call = w_empty) = False := eq_false (by decide +kernel)
@[simp] theorem ne_w_call_w_end : (w_call = w_end) = False := eq_false (by decide +kernel)
@[simp] theorem ne_w_call_w_stuck : (w_call = w_stuck) = False := eq_false (by decide +kernel)
@[simp] theorem ne_w_call_w_box : (w_call = w_box) = False := eq_false (by decide +kernel)
@[simp] theorem ne_w_call_w_fill : (w_call = w_fill) = False := eq_false (by decide +kernel)
@[simp] theorem ne_w_call_w_open : (w_call = w_open) = False := eq_false (by decide +kernel)
@[simp] theorem ne_w_call_w_same : (w_call = w_same) = False := eq_false (by decide +kernel)
@[simp] theorem ne_w_call_w_less : (w_call = w_less) = False := eq_false (by decide +kernel)
@[simp] theorem ne_w_call_w_times : (w_call = w_times) = False := eq_false (by decide +kernel)
@[simp] theorem ne_w_call_w_minus : (w_call = w_minus) = False := eq_false (by decide +kernel)
@[simp] theorem ne_w_call_w_add : (w_call = w_add) = False := eq_false (by decide +kernel)
@[simp] theorem ne_w_call_w_drop : (w_call = w_drop) = False := eq_false (by decide +kernel)
@[simp] theorem ne_w_call_w_keep : (w_call = w_keep) = False := eq_false (by decide +kernel)
@[simp] theorem ne_w_call_w_say : (w_call = w_say) = False := eq_false (by decide +kernel)
@[simp] theorem ne_w_call_w_back : (w_call = w_back) = False := eq_false (by decide +kernel)
@[simp] theorem ne_w_call_w__40_ : (w_call = w__40_) = False := eq_false (by decide +kernel)
@[simp] theorem ne_w_call_w_runs : (w_call = w_runs) = False := eq_false (by decide +kernel)
@[simp] theorem ne_w__40__w_num : (w__40_ = w_num) = False := eq_false (by decide +kernel)
@[simp] theorem ne_w__40__w_get : (w__40_ = w_get) = False := eq_false (by decide +kernel)
@[simp] theorem ne_w__40__w_fun : (w__40_ = w_fun) = False := eq_false (by decide +kernel)
@[simp] theorem ne_w__40__w_jump : (w__40_ = w_jump) = False := eq_false (by decide +kernel)
@[simp] theorem ne_w__40__w_unless : (w__40_ = w_unless) = False := eq_false (by decide +kernel)
@[simp] theorem ne_w__40__w_at : (w__40_ = w_at) = False := eq_false (by decide +kernel)
@[simp] theorem ne_w__40__w_done : (w__40_ = w_done) = False := eq_false (by decide +kernel)
@[simp] theorem ne_w__40__w_full : (w__40_ = w_full) = False := eq_false (by decide +kernel)
@[simp] theorem ne_w__40__w_deep : (w__40_ = w_deep) = False := eq_false (by decide +kernel)
@[simp] theorem ne_w__40__w_great : (w__40_ = w_great) = False := eq_false (by decide +kernel)
@[simp] theorem ne_w__40__w_kind : (w__40_ = w_kind) = False := eq_false (by decide +kernel)
@[simp] theorem ne_w__40__w_own : (w__40_ = w_own) = False := eq_false (by decide +kernel)
@[simp] theorem ne_w__40__w_empty : (w__40_ = w_empty) = False := eq_false (by decide +kernel)
@[simp] theorem ne_w__40__w_end : (w__40_ = w_end) = False := eq_false (by decide +kernel)
@[simp] theorem ne_w__40__w_stuck : (w__40_ = w_stuck) = False := eq_false (by decide +kernel)
@[simp] theorem ne_w__40__w_box : (w__40_ = w_box) = False := eq_false (by decide +kernel)
@[simp] theorem ne_w__40__w_fill : (w__40_ = w_fill) = False := eq_false (by decide +kernel)
@[simp] theorem ne_w__40__w_open : (w__40_ = w_open) = False := eq_false (by decide +kernel)
@[simp] theorem ne_w__40__w_same : (w__40_ = w_same) = False := eq_false (by decide +kernel)
@[simp] theorem ne_w__40__w_less : (w__40_ = w_less) = False := eq_false (by decide +kernel)
@[simp] theorem ne_w__40__w_times : (w__40_ = w_times) = False := eq_false (by decide +kernel)
@[simp] theorem ne_w__40__w_minus : (w__40_ = w_minus) = False := eq_false (by decide +kernel)
@[simp] theorem ne_w__40__w_add : (w__40_ = w_add) = False := eq_false (by decide +kernel)
@[simp] theorem ne_w__40__w_drop : (w__40_ = w_drop) = False := eq_false (by decide +kernel)
@[simp] theorem ne_w__40__w_keep : (w__40_ = w_keep) = False := eq_false (by decide +kernel)
@[simp] theorem ne_w__40__w_say : (w__40_ = w_say) = False := eq_false (by decide +kernel)
@[simp] theorem ne_w__40__w_back : (w__40_ = w_back) = False := eq_false (by decide +kernel)
@[simp] theorem ne_w__40__w_call : (w__40_ = w_call) = False := eq_false (by decide +kernel)
@[simp] theorem ne_w__40__w_runs : (w__40_ = w_runs) = False := eq_false (by decide +kernel)
@[simp] theorem ne_w_runs_w_num : (w_runs = w_num) = False := eq_false (by decide +kernel)
@[simp] theorem ne_w_runs_w_get : (w_runs = w_get) = False := eq_false (by decide +kernel)
@[simp] theorem ne_w_runs_w_fun : (w_runs = w_fun) = False := eq_false (by decide +kernel)
@[simp] theorem ne_w_runs_w_jump : (w_runs = w_jump) = False := eq_false (by decide +kernel)
@[simp] theorem ne_w_runs_w_unless : (w_runs = w_unless) = False := eq_false (by decide +kernel)
@[simp] theorem ne_w_runs_w_at : (w_runs = w_at) = False := eq_false (by decide +kernel)
@[simp] theorem ne_w_runs_w_done : (w_runs = w_done) = False := eq_false (by decide +kernel)
@[simp] theorem ne_w_runs_w_full : (w_runs = w_full) = False := eq_false (by decide +kernel)
@[simp] theorem ne_w_runs_w_deep : (w_runs = w_deep) = False := eq_false (by decide +kernel)
@[simp] theorem ne_w_runs_w_great : (w_runs = w_great) = False := eq_false (by decide +kernel)
@[simp] theorem ne_w_runs_w_kind : (w_runs = w_kind) = False := eq_false (by decide +kernel)
@[simp] theorem ne_w_runs_w_own : (w_runs = w_own) = False := eq_false (by decide +kernel)
@[simp] theorem ne_w_runs_w_empty : (w_runs = w_empty) = False := eq_false (by decide +kernel)
@[simp] theorem ne_w_runs_w_end : (w_runs = w_end) = False := eq_false (by decide +kernel)
@[simp] theorem ne_w_runs_w_stuck : (w_runs = w_stuck) = False := eq_false (by decide +kernel)
@[simp] theorem ne_w_runs_w_box : (w_runs = w_box) = False := eq_false (by decide +kernel)
@[simp] theorem ne_w_runs_w_fill : (w_runs = w_fill) = False := eq_false (by decide +kernel)
@[simp] theorem ne_w_runs_w_open : (w_runs = w_open) = False := eq_false (by decide +kernel)
@[simp] theorem ne_w_runs_w_same : (w_runs = w_same) = False := eq_false (by decide +kernel)
@[simp] theorem ne_w_runs_w_less : (w_runs = w_less) = False := eq_false (by decide +kernel)
@[simp] theorem ne_w_runs_w_times : (w_runs = w_times) = False := eq_false (by decide +kernel)
@[simp] theorem ne_w_runs_w_minus : (w_runs = w_minus) = False := eq_false (by decide +kernel)
@[simp] theorem ne_w_runs_w_add : (w_runs = w_add) = False := eq_false (by decide +kernel)
@[simp] theorem ne_w_runs_w_drop : (w_runs = w_drop) = False := eq_false (by decide +kernel)
@[simp] theorem ne_w_runs_w_keep : (w_runs = w_keep) = False := eq_false (by decide +kernel)
@[simp] theorem ne_w_runs_w_say : (w_runs = w_say) = False := eq_false (by decide +kernel)
@[simp] theorem ne_w_runs_w_back : (w_runs = w_back) = False := eq_false (by decide +kernel)
@[simp] theorem ne_w_runs_w_call : (w_runs = w_call) = False := eq_false (by decide +kernel)
@[simp] theorem ne_w_runs_w__40_ : (w_runs = w__40_) = False := eq_false (by decide +kernel)
abbrev s__law_cell : Stmt := topS 12
abbrev N__law_cell : List Str := ["_law_script", "_law_k", "_law_mixed", "_law_size"]
abbrev s__law_raw : Stmt := topS 13
abbrev N__law_raw : List Str := ["_law_script", "_law_k"]
abbrev s__law_row : Stmt := topS 22
abbrev N__law_row : List Str := ["_law_script", "_law_k", "_law_words_here", "_law_bodies", "_law_size", "_law_cell_here", "_law_word_here", "_law_more_here", "_law_far", "_law_kept", "_law_j"]
abbrev s__law_program : Stmt := topS 24
abbrev N__law_program : List Str := ["_law_script", "_law_words_here", "_law_cell_here", "_law_bodies", "_law_program_here", "_law_b", "_law_size", "_law_rows", "_law_j"]
abbrev s__law_number : Stmt := topS 15
abbrev N__law_number : List Str := ["_law_script", "_law_k", "_law_cell_here"]
abbrev s__law_value : Stmt := topS 16
abbrev N__law_value : List Str := ["_law_script", "_law_k", "_law_names_here", "_law_cell_here"]
abbrev s__law_ended : Stmt := topS 26
abbrev N__law_ended : List Str := ["_law_script", "_law_state_here", "_law_cell_here"]
abbrev s__law_changed : Stmt := topS 32
abbrev N__law_changed : List Str := ["_law_value_here", "_law_names_here"]
abbrev s__law_by_names : Stmt := topS 33
abbrev N__law_by_names : List Str := ["_law_state_here", "_law_names_here", "_law_end", "_law_frames_here", "_law_body", "_law_place", "_law_own", "_law_stack", "_law_things_here", "_law_number_here", "_law_thing", "_law_value_here"]
abbrev s__law_named : Stmt := topS 38
abbrev N__law_named : List Str := ["_law_script", "_law_state_here", "_law_cell_here", "_law_numbers", "_law_names_here", "_law_k", "_law_place", "_law_behind", "_law_things_here", "_law_order", "_law_number_here"]
abbrev s_numbers_in : Stmt := topS 3
abbrev N_numbers_in : List Str := ["values", "value"]
abbrev s_values_of : Stmt := topS 1
abbrev N_values_of : List Str := ["state", "found", "frame"]
abbrev s_inner : Stmt := topS 2
abbrev N_inner : List Str := ["thing"]
abbrev s_met : Stmt := topS 4
abbrev N_met : List Str := ["state", "seen", "number", "found", "k"]
abbrev s_renamed : Stmt := topS 5
abbrev N_renamed : List Str := ["value", "names"]
abbrev s_renamed_end : Stmt := topS 9
abbrev N_renamed_end : List Str := ["end", "names"]
abbrev s_renamed_all : Stmt := topS 6
abbrev N_renamed_all : List Str := ["values", "names", "value"]
abbrev s_renamed_frame : Stmt := topS 8
abbrev N_renamed_frame : List Str := ["frame", "names"]
abbrev s_renamed_thing : Stmt := topS 7
abbrev N_renamed_thing : List Str := ["thing", "names"]
abbrev s_matched : Stmt := topS 10
abbrev N_matched : List Str := ["one", "other", "first", "second", "names", "k", "number", "frame"]
abbrev s__law_words : Stmt := topS 23
abbrev N__law_words : List Str := ["_law_words_here"]
abbrev s__law_names : Stmt := topS 18
abbrev N__law_names : List Str := ["_law_script", "_law_cell_here", "_law_many", "_law_step", "_law_names_here", "_law_j"]
abbrev s__law_values : Stmt := topS 17
abbrev N__law_values : List Str := ["_law_script", "_law_k", "_law_many", "_law_names_here", "_law_j"]
abbrev s__law_frame : Stmt := topS 20
abbrev N__law_frame : List Str := ["_law_script", "_law_k", "_law_program_here", "_law_names_here", "_law_cell_here", "_law_body", "_law_own", "_law_stack"]
abbrev s__law_frames : Stmt := topS 21
abbrev N__law_frames : List Str := ["_law_script", "_law_program_here", "_law_names_here", "_law_cell_here", "_law_many", "_law_j"]
abbrev s__law_things : Stmt := topS 19
abbrev N__law_things : List Str := ["_law_script", "_law_names_here", "_law_bodies", "_law_things_here", "_law_j", "_law_cell_here", "_law_kept"]
abbrev s__law_state : Stmt := topS 25
abbrev N__law_state : List Str := ["_law_script", "_law_program_here", "_law_names_here"]
abbrev s__law_more : Stmt := topS 39
abbrev N__law_more : List Str := ["_law_script", "_law_state_here", "_law_cell_here", "_law_things_here", "_law_k", "_law_number_here"]
abbrev s__law_bent_frame : Stmt := topS 40
abbrev N__law_bent_frame : List Str := ["_law_frame_here", "_law_cell_here", "_law_value_here", "_law_body", "_law_place", "_law_own", "_law_stack", "_law_at"]
abbrev s__law_bent : Stmt := topS 41
abbrev N__law_bent : List Str := ["_law_script", "_law_state_here", "_law_cell_here", "_law_numbers", "_law_value_here", "_law_frames_here", "_law_things_here", "_law_end", "_law_k", "_law_number_here"]
abbrev s__law_copy : Stmt := topS 37
abbrev N__law_copy : List Str := ["_law_state_here"]
abbrev s__law_inner : Stmt := topS 27
abbrev N__law_inner : List Str := ["_law_thing"]
abbrev s__law_met : Stmt := topS 28
abbrev N__law_met : List Str := ["_law_state_here", "_law_waits", "_law_frame_here", "_law_found", "_law_value_here"]
abbrev s__law_word : Stmt := topS 29
abbrev N__law_word : List Str := ["_law_value_here", "_law_order"]
abbrev s__law_list : Stmt := topS 30
abbrev N__law_list : List Str := ["_law_values_here", "_law_order", "_law_value_here"]
abbrev s__law_told : Stmt := topS 31
abbrev N__law_told : List Str := ["_law_state_here", "_law_order", "_law_words_here", "_law_body", "_law_place", "_law_own", "_law_stack", "_law_number_here", "_law_thing"]
abbrev s__law_whole : Stmt := topS 14
abbrev N__law_whole : List Str := ["_law_found"]
abbrev s__law_alike : Stmt := topS 34
abbrev N__law_alike : List Str := ["_law_found", "_law_due", "_law_k"]
abbrev s__law_same_things : Stmt := topS 35
abbrev N__law_same_things : List Str := ["_law_found", "_law_due", "_law_number_here"]
abbrev s__law_same_state : Stmt := topS 36
abbrev N__law_same_state : List Str := ["_law_found", "_law_due"]
abbrev s_law : Stmt := topS 42
abbrev N_law : List Str := ["_law_script", "_law_program_here", "_law_state_here", "_law_other", "_law_handed", "_law_found", "_law_due", "_law_by", "_law_number_here"]
structure Txt (K : PySem.W.Frag) (mg : Str → Option Value) : Prop where
  n_all : mg "all" = none
  n_bool : mg "bool" = none
  n_dict : mg "dict" = none
  n_int : mg "int" = none
  n_isinstance : mg "isinstance" = none
  n_len : mg "len" = none
  n_list : mg "list" = none
  n_max : mg "max" = none
  n_range : mg "range" = none
  n_set : mg "set" = none
  n_sorted : mg "sorted" = none
  n_str : mg "str" = none
  n_tuple : mg "tuple" = none
  h__law_cell : Has K mg "_law_cell" s__law_cell ["_law_script", "_law_k"]
  h__law_raw : Has K mg "_law_raw" s__law_raw ["_law_script", "_law_k"]
  h__law_row : Has K mg "_law_row" s__law_row ["_law_script", "_law_k", "_law_words_here", "_law_bodies", "_law_size"]
  h__law_program : Has K mg "_law_program" s__law_program ["_law_script", "_law_words_here"]
  h__law_number : Has K mg "_law_number" s__law_number ["_law_script", "_law_k"]
  h__law_value : Has K mg "_law_value" s__law_value ["_law_script", "_law_k", "_law_names_here"]
  h__law_ended : Has K mg "_law_ended" s__law_ended ["_law_script", "_law_state_here"]
  h__law_changed : Has K mg "_law_changed" s__law_changed ["_law_value_here", "_law_names_here"]
  h__law_by_names : Has K mg "_law_by_names" s__law_by_names ["_law_state_here", "_law_names_here"]
  h__law_named : Has K mg "_law_named" s__law_named ["_law_script", "_law_state_here"]
  h_numbers_in : Has K mg "numbers_in" s_numbers_in ["values"]
  h_values_of : Has K mg "values_of" s_values_of ["state"]
  h_inner : Has K mg "inner" s_inner ["thing"]
  h_met : Has K mg "met" s_met ["state"]
  h_renamed : Has K mg "renamed" s_renamed ["value", "names"]
  h_renamed_end : Has K mg "renamed_end" s_renamed_end ["end", "names"]
  h_renamed_all : Has K mg "renamed_all" s_renamed_all ["values", "names"]
  h_renamed_frame : Has K mg "renamed_frame" s_renamed_frame ["frame", "names"]
  h_renamed_thing : Has K mg "renamed_thing" s_renamed_thing ["thing", "names"]
  h_matched : Has K mg "matched" s_matched ["one", "other"]
  h__law_words : Has K mg "_law_words" s__law_words []
  h__law_names : Has K mg "_law_names" s__law_names ["_law_script"]
  h__law_values : Has K mg "_law_values" s__law_values ["_law_script", "_law_k", "_law_many", "_law_names_here"]
  h__law_frame : Has K mg "_law_frame" s__law_frame ["_law_script", "_law_k", "_law_program_here", "_law_names_here"]
  h__law_frames : Has K mg "_law_frames" s__law_frames ["_law_script", "_law_program_here", "_law_names_here"]
  h__law_things : Has K mg "_law_things" s__law_things ["_law_script", "_law_names_here", "_law_bodies"]
  h__law_state : Has K mg "_law_state" s__law_state ["_law_script", "_law_program_here"]
  h__law_more : Has K mg "_law_more" s__law_more ["_law_script", "_law_state_here"]
  h__law_bent_frame : Has K mg "_law_bent_frame" s__law_bent_frame ["_law_frame_here", "_law_cell_here", "_law_value_here"]
  h__law_bent : Has K mg "_law_bent" s__law_bent ["_law_script", "_law_state_here"]
  h__law_copy : Has K mg "_law_copy" s__law_copy ["_law_state_here"]
  h__law_inner : Has K mg "_law_inner" s__law_inner ["_law_thing"]
  h__law_met : Has K mg "_law_met" s__law_met ["_law_state_here"]
  h__law_word : Has K mg "_law_word" s__law_word ["_law_value_here", "_law_order"]
  h__law_list : Has K mg "_law_list" s__law_list ["_law_values_here", "_law_order"]
  h__law_told : Has K mg "_law_told" s__law_told ["_law_state_here"]
  h__law_whole : Has K mg "_law_whole" s__law_whole ["_law_found"]
  h__law_alike : Has K mg "_law_alike" s__law_alike ["_law_found", "_law_due"]
  h__law_same_things : Has K mg "_law_same_things" s__law_same_things ["_law_found", "_law_due"]
  h__law_same_state : Has K mg "_law_same_state" s__law_same_state ["_law_found", "_law_due"]
section
variable {P : Program} {w : World} {K : PySem.W.Frag} {mg : Str → Option Value} {base : Heap}
theorem sc__law_cell : FnScope N__law_cell ["_law_script", "_law_k"] (defScope s__law_cell) := ⟨rfl, rfl, rfl, by decide +kernel, rfl, by decide +kernel, by decide +kernel⟩
def B__law_cell : Env → R Fl := (sSeq (sAsg 2 [] (eOp mulD (eVar 1) (eC (.int 7919)))) (sSeq (sAsg 3 [] (eCall lenD (aCons (eVar 0) aNil))) (sSeq (sIf (tB' (eOp gtD (eVar 3) (eC (.int 0)))) (sAsg 2 [] (eOp addD (eOp addD (eOp mulD (eOp ixD (eVar 0) (eOp modD (eVar 1) (eVar 3))) (eC (.int 48271))) (eVar 2)) (eOp mulD (eOp divD (eVar 1) (eVar 3)) (eC (.int 104729))))) sNext) (sSeq (sAsg 2 [] (eOp modD (eVar 2) (eC (.int 1000003)))) (sRet [] (eOp modD (eOp mulD (eVar 2) (eOp addD (eOp addD (eVar 2) (eOp mulD (eC (.int 2)) (eVar 1))) (eC (.int 17)))) (eC (.int 1000003))))))))
def F__law_cell : List D → R D := fnD 4 B__law_cell
theorem dfn__law_cell (T : Txt K mg) : DFn P w K mg base CX0 1 "_law_cell" 2 F__law_cell .fz :=
  have nd := sc__law_cell.nd
  dfn_ok (N := N__law_cell) (ps := ["_law_script", "_law_k"]) (k := 0) (fb := B__law_cell) (ωp := [.fz, .fz]) (ωl := [.fz, .fz]) (W := [2, 3]) T.h__law_cell sc__law_cell rfl rfl rfl rfl rfl rfl fun f cdv A outer s H E hr => ⟨_, [],
    (dss_cons (ds_set (i := 2) nd (de_frz (de_mul (de_var 1) de_int))) (dss_cons (ds_set (i := 3) nd (de_callB cr_len cd_len T.n_len PySem.boot_len (da_cons (de_var 0) da_nil))) (dss_cons (ds_if (dt_cmp op_gt od_gt (de_var 3) de_int (nomark _)) (dss_one (ds_set (i := 2) nd (de_frz (de_add (de_frz (de_add (de_frz (de_mul (de_ix hr (de_var 0) (de_mod (de_var 1) (de_var 3))) de_int)) (de_var 2))) (de_frz (de_mul (de_div (de_var 1) (de_var 3)) de_int)))))) dss_nil) (dss_cons (ds_set (i := 2) nd (de_mod (de_var 2) de_int)) (dss_one (ds_ret (de_mod (de_frz (de_mul (de_var 2) (de_frz (de_add (de_frz (de_add (de_var 2) (de_frz (de_mul de_int (de_var 1))))) de_int)))) de_int)))))))⟩
theorem sc__law_raw : FnScope N__law_raw ["_law_script", "_law_k"] (defScope s__law_raw) := ⟨rfl, rfl, rfl, by decide +kernel, rfl, by decide +kernel, by decide +kernel⟩
def B__law_raw : Env → R Fl := (sSeq (sIf (tB' (eOp eqD (eCall lenD (aCons (eVar 0) aNil)) (eC (.int 0)))) (sRet [] (eOp mulD (eVar 1) (eC (.int 7919)))) sNext) (sRet [] (eOp addD (eOp ixD (eVar 0) (eOp modD (eVar 1) (eCall lenD (aCons (eVar 0) aNil)))) (eOp mulD (eOp divD (eVar 1) (eCall lenD (aCons (eVar 0) aNil))) (eC (.int 104729))))))
def F__law_raw : List D → R D := fnD 2 B__law_raw
theorem dfn__law_raw (T : Txt K mg) : DFn P w K mg base CX0 1 "_law_raw" 2 F__law_raw .fz :=
  have nd := sc__law_raw.nd
  dfn_ok (N := N__law_raw) (ps := ["_law_script", "_law_k"]) (k := 0) (fb := B__law_raw) (ωp := [.fz, .fz]) (ωl := []) (W := []) T.h__law_raw sc__law_raw rfl rfl rfl rfl rfl rfl fun f cdv A outer s H E hr => ⟨_, [],
    (dss_cons (ds_if (dt_cmp (or_eq hr) od_eq (de_callB cr_len cd_len T.n_len PySem.boot_len (da_cons (de_var 0) da_nil)) de_int (nomark _)) (dss_one (ds_ret (de_frz (de_mul (de_var 1) de_int)))) dss_nil) (dss_one (ds_ret (de_frz (de_add (de_ix hr (de_var 0) (de_mod (de_var 1) (de_callB cr_len cd_len T.n_len PySem.boot_len (da_cons (de_var 0) da_nil)))) (de_frz (de_mul (de_div (de_var 1) (de_callB cr_len cd_len T.n_len PySem.boot_len (da_cons (de_var 0) da_nil))) de_int)))))))⟩
theorem sc__law_row : FnScope N__law_row ["_law_script", "_law_k", "_law_words_here", "_law_bodies", "_law_size"] (defScope s__law_row) := ⟨rfl, rfl, rfl, by decide +kernel, rfl, by decide +kernel, by decide +kernel⟩
def B__law_row : Env → R Fl := (sSeq (sAsg 5 [] (eCall (F__law_cell) (aCons (eVar 0) (aCons (eVar 1) aNil)))) (sSeq (sAsg 6 [] (eOp ixD (eVar 2) (eOp modD (eVar 5) (eCall lenD (aCons (eVar 2) aNil))))) (sSeq (sAsg 7 [] (eOp divD (eVar 5) (eCall lenD (aCons (eVar 2) aNil)))) (sSeq (sIf (tB' (eOp eqD (eVar 6) (eC (.str w_num)))) (sSeq (sAsg 8 [] (eOp subD (eOp modD (eCall (F__law_raw) (aCons (eVar 0) (aCons (eVar 1) aNil))) (eOp addD (eOp mulD (eC (.int 2)) (eOp powD (eC (.int 10)) (eC (.int 12)))) (eC (.int 1)))) (eOp powD (eC (.int 10)) (eC (.int 12))))) (sRet [] (eTup (aCons (eC (.str w_num)) (aCons (eOp ixD (eLst (aCons (eOp subD (eOp modD (eVar 7) (eC (.int 19))) (eC (.int 9))) (aCons (eVar 8) aNil))) (eOp modD (eOp divD (eVar 7) (eC (.int 19))) (eC (.int 2)))) aNil))))) sNext) (sSeq (sIf (tB' (eOp eqD (eVar 6) (eC (.str w_get)))) (sRet [] (eTup (aCons (eC (.str w_get)) (aCons (eOp ixD (eLst (aCons (eOp modD (eVar 7) (eC (.int 5))) (aCons (eOp modD (eOp divD (eVar 7) (eC (.int 5))) (eC (.int 60))) aNil))) (eCall intD (aCons (eOp eqD (eOp modD (eOp divD (eVar 7) (eC (.int 300))) (eC (.int 8))) (eC (.int 1))) aNil))) aNil)))) sNext) (sSeq (sIf (tB' (eOp eqD (eVar 6) (eC (.str w_fun)))) (sSeq (sAsg 8 [] (eOp ixD (eLst (aCons (eC (.int 5)) (aCons (eC (.int 60)) aNil))) (eCall intD (aCons (eOp eqD (eOp modD (eOp divD (eVar 7) (eC (.int 9))) (eC (.int 16))) (eC (.int 1))) aNil)))) (sSeq (sAsg 9 [] (eCall tupleD (aCons (eLc (iRange1 (eOp modD (eVar 7) (eC (.int 9)))) [10] (setN 10) cYes (eOp modD (eCall (F__law_cell) (aCons (eVar 0) (aCons (eOp addD (eOp addD (eVar 1) (eC (.int 17))) (eVar 10)) aNil))) (eVar 8))) aNil))) (sRet [] (eTup (aCons (eC (.str w_fun)) (aCons (eOp modD (eOp divD (eVar 7) (eC (.int 144))) (eVar 3)) (aCons (eVar 9) aNil))))))) sNext) (sSeq (sIf (eOrT (tB' (eOp eqD (eVar 6) (eC (.str w_jump)))) (tB' (eOp eqD (eVar 6) (eC (.str w_unless))))) (sRet [] (eTup (aCons (eVar 6) (aCons (eOp modD (eVar 7) (eOp addD (eVar 4) (eC (.int 1)))) aNil)))) sNext) (sRet [] (eTup (aCons (eVar 6) aNil))))))))))
def F__law_row : List D → R D := fnD 11 B__law_row
theorem dfn__law_row (T : Txt K mg) : DFn P w K mg base CX0 2 "_law_row" 5 F__law_row .fz :=
  have nd := sc__law_row.nd
  dfn_ok (N := N__law_row) (ps := ["_law_script", "_law_k", "_law_words_here", "_law_bodies", "_law_size"]) (k := 1) (fb := B__law_row) (ωp := [.fz, .fz, .fz, .fz, .fz]) (ωl := [.fz, .fz, .fz, .fz, .fz, .fz]) (W := [5, 6, 7, 8, 9]) T.h__law_row sc__law_row rfl rfl rfl rfl rfl rfl fun f cdv A outer s H E hr => ⟨_, [],
    (dss_cons (ds_set (i := 5) nd (de_call ((dfn__law_cell T).mono (by decide)) hr pass0 (da_cons (de_var 0) (da_cons (de_var 1) da_nil)))) (dss_cons (ds_set (i := 6) nd (de_ix hr (de_var 2) (de_mod (de_var 5) (de_callB cr_len cd_len T.n_len PySem.boot_len (da_cons (de_var 2) da_nil))))) (dss_cons (ds_set (i := 7) nd (de_div (de_var 5) (de_callB cr_len cd_len T.n_len PySem.boot_len (da_cons (de_var 2) da_nil)))) (dss_cons (ds_if (dt_cmp (or_eq hr) od_eq (de_var 6) de_str (nomark _)) (dss_cons (ds_set (i := 8) nd (de_sub (de_mod (de_call ((dfn__law_raw T).mono (by decide)) hr pass0 (da_cons (de_var 0) (da_cons (de_var 1) da_nil))) (de_frz (de_add (de_frz (de_mul de_int (de_pow de_int de_int))) de_int))) (de_pow de_int de_int))) (dss_one (ds_ret (de_tup (da_cons de_str (da_cons (de_ix hr (de_frz (de_lst (da_cons (de_sub (de_mod (de_var 7) de_int) de_int) (da_cons (de_var 8) da_nil)))) (de_mod (de_div (de_var 7) de_int) de_int)) da_nil)))))) dss_nil) (dss_cons (ds_if (dt_cmp (or_eq hr) od_eq (de_var 6) de_str (nomark _)) (dss_one (ds_ret (de_tup (da_cons de_str (da_cons (de_ix hr (de_frz (de_lst (da_cons (de_mod (de_var 7) de_int) (da_cons (de_mod (de_div (de_var 7) de_int) de_int) da_nil)))) (de_callTy cr_int cd_int T.n_int PyProof.Rows.boot_int (da_cons (de_cmp (or_eq hr) od_eq (de_mod (de_div (de_var 7) de_int) de_int) de_int (nomark _)) da_nil))) da_nil))))) dss_nil) (dss_cons (ds_if (dt_cmp (or_eq hr) od_eq (de_var 6) de_str (nomark _)) (dss_cons (ds_set (i := 8) nd (de_ix hr (de_frz (de_lst (da_cons de_int (da_cons de_int da_nil)))) (de_callTy cr_int cd_int T.n_int PyProof.Rows.boot_int (da_cons (de_cmp (or_eq hr) od_eq (de_mod (de_div (de_var 7) de_int) de_int) de_int (nomark _)) da_nil)))) (dss_cons (ds_set (i := 9) nd (de_callTy cr_tup cd_tup T.n_tuple PyProof.Rows.boot_tuple (da_cons (de_frz (de_lcE (own := [("_law_j", 10)]) (i := 10) rfl nd rfl rfl (wipe_one _ _) (di_range1 T.n_range (de_mod (de_var 7) de_int)) (blkOk_by (N := N__law_row) (sc := defScope s__law_row) (by decide +kernel)) (fun _ _ _ _ _ => pg_name (i := 10) nd rfl (Or.inl rfl)) (fun _ _ _ _ _ => ⟨_, dts_nil⟩) (fun _ _ _ _ _ => ⟨_, (de_mod (de_call ((dfn__law_cell T).mono (by decide)) hr pass0 (da_cons (de_var 0) (da_cons (de_frz (de_add (de_frz (de_add (de_var 1) de_int)) (de_var 10))) da_nil))) (de_var 8))⟩))) da_nil))) (dss_one (ds_ret (de_tup (da_cons de_str (da_cons (de_mod (de_div (de_var 7) de_int) (de_var 3)) (da_cons (de_var 9) da_nil)))))))) dss_nil) (dss_cons (ds_if (dt_of (dw_or (dt_cmp (or_eq hr) od_eq (de_var 6) de_str (nomark _)) (dw_or1 (dt_cmp (or_eq hr) od_eq (de_var 6) de_str (nomark _))))) (dss_one (ds_ret (de_tup (da_cons (de_var 6) (da_cons (de_mod (de_var 7) (de_frz (de_add (de_var 4) de_int))) da_nil))))) dss_nil) (dss_one (ds_ret (de_tup (da_cons (de_var 6) da_nil)))))))))))⟩
theorem sc__law_program : FnScope N__law_program ["_law_script", "_law_words_here"] (defScope s__law_program) := ⟨rfl, rfl, rfl, by decide +kernel, rfl, by decide +kernel, by decide +kernel⟩
def B__law_program : Env → R Fl := (sSeq (sAsg 2 [] (eCall (F__law_cell) (aCons (eVar 0) (aCons (eC (.int 0)) aNil)))) (sSeq (sAsg 3 [] (eOp addD (eC (.int 1)) (eOp modD (eVar 2) (eC (.int 3))))) (sSeq (sIf (tB' (eOp eqD (eOp modD (eOp divD (eVar 2) (eC (.int 3))) (eC (.int 16))) (eC (.int 1)))) (sAsg 3 [] (eC (.int 20))) sNext) (sSeq (sAsg 4 [] (eLst aNil)) (sSeq (sFor (iRange1 (eVar 3)) (setN 5) (sSeq (sAsg 6 [] (eOp modD (eCall (F__law_cell) (aCons (eVar 0) (aCons (eOp addD (eC (.int 20)) (eVar 5)) aNil))) (eC (.int 7)))) (sSeq (sIf (tB' (eOp eqD (eOp modD (eOp divD (eCall (F__law_cell) (aCons (eVar 0) (aCons (eOp addD (eC (.int 20)) (eVar 5)) aNil))) (eC (.int 7))) (eC (.int 32))) (eC (.int 1)))) (sAsg 6 [] (eC (.int 60))) sNext) (sSeq (sAsg 7 [] (eLc (iRange1 (eVar 6)) [8] (setN 8) cYes (eCall (F__law_row) (aCons (eVar 0) (aCons (eOp addD (eOp addD (eC (.int 1000)) (eOp mulD (eC (.int 61)) (eVar 5))) (eVar 8)) (aCons (eVar 1) (aCons (eVar 3) (aCons (eVar 6) aNil)))))))) (sApp 4 (eVar 7)))))) (sRet [4] (eVar 4)))))))
def F__law_program : List D → R D := fnD 9 B__law_program
theorem dfn__law_program (T : Txt K mg) : DFn P w K mg base CX0 3 "_law_program" 2 F__law_program (.own .fz) :=
  have nd := sc__law_program.nd
  dfn_ok (N := N__law_program) (ps := ["_law_script", "_law_words_here"]) (k := 2) (fb := B__law_program) (ωp := [.fz, .fz]) (ωl := [.fz, .fz, (.own .fz), .fz, .fz, .fz, .fz]) (W := [2, 3, 4, 5, 6, 7]) T.h__law_program sc__law_program rfl rfl rfl rfl rfl rfl fun f cdv A outer s H E hr => ⟨_, [],
    (dss_cons (ds_set (i := 2) nd (de_call ((dfn__law_cell T).mono (by decide)) hr pass0 (da_cons (de_var 0) (da_cons de_int da_nil)))) (dss_cons (ds_set (i := 3) nd (de_frz (de_add de_int (de_mod (de_var 2) de_int)))) (dss_cons (ds_if (dt_cmp (or_eq hr) od_eq (de_mod (de_div (de_var 2) de_int) de_int) de_int (nomark _)) (dss_one (ds_set (i := 3) nd de_int)) dss_nil) (dss_cons (ds_set (i := 4) nd (de_lst da_nil)) (dss_cons (ds_for PassesOwn.never rfl (di_range1 T.n_range (de_var 3)) (dg_name (i := 5) nd) (dss_cons (ds_set (i := 6) nd (de_mod (de_call ((dfn__law_cell T).mono (by decide)) hr pass0 (da_cons (de_var 0) (da_cons (de_frz (de_add de_int (de_var 5))) da_nil))) de_int)) (dss_cons (ds_if (dt_cmp (or_eq hr) od_eq (de_mod (de_div (de_call ((dfn__law_cell T).mono (by decide)) hr pass0 (da_cons (de_var 0) (da_cons (de_frz (de_add de_int (de_var 5))) da_nil))) de_int) de_int) de_int (nomark _)) (dss_one (ds_set (i := 6) nd de_int)) dss_nil) (dss_cons (ds_setLcFE (j := 7) (own := [("_law_j", 8)]) (i := 8) rfl nd rfl rfl (wipe_one _ _) (di_range1 T.n_range (de_var 6)) (blkOk_by (N := N__law_program) (sc := defScope s__law_program) (by decide +kernel)) (fun _ _ _ _ _ => pg_name (i := 8) nd rfl (Or.inl rfl)) (fun _ _ _ _ _ => ⟨_, dts_nil⟩) (fun _ _ _ _ _ => ⟨_, (de_call ((dfn__law_row T).mono (by decide)) hr pass0 (da_cons (de_var 0) (da_cons (de_frz (de_add (de_frz (de_add de_int (de_frz (de_mul de_int (de_var 5))))) (de_var 8))) (da_cons (de_var 1) (da_cons (de_var 3) (da_cons (de_var 6) da_nil))))))⟩)) (dss_one (ds_app (i := 4) (de_var 7))))))) (dss_one (ds_ret (de_move 4))))))))⟩
theorem sc__law_number : FnScope N__law_number ["_law_script", "_law_k"] (defScope s__law_number) := ⟨rfl, rfl, rfl, by decide +kernel, rfl, by decide +kernel, by decide +kernel⟩
def B__law_number : Env → R Fl := (sSeq (sAsg 2 [] (eCall (F__law_cell) (aCons (eVar 0) (aCons (eVar 1) aNil)))) (sSeq (sIf (tB' (eOp eqD (eOp modD (eVar 2) (eC (.int 6))) (eC (.int 1)))) (sRet [] (eOp subD (eOp modD (eCall (F__law_raw) (aCons (eVar 0) (aCons (eVar 1) aNil))) (eOp addD (eOp mulD (eC (.int 2)) (eOp powD (eC (.int 10)) (eC (.int 30)))) (eC (.int 1)))) (eOp powD (eC (.int 10)) (eC (.int 30))))) sNext) (sSeq (sIf (tB' (eOp eqD (eOp modD (eVar 2) (eC (.int 6))) (eC (.int 2)))) (sRet [] (eOp ixD (eLst (aCons (eOp powD (eC (.int 10)) (eC (.int 30))) (aCons (eOp subD (eC (.int 0)) (eOp powD (eC (.int 10)) (eC (.int 30)))) (aCons (eOp subD (eOp powD (eC (.int 10)) (eC (.int 30))) (eC (.int 1))) (aCons (eC (.int 0)) (aCons (eOp powD (eC (.int 10)) (eC (.int 15))) (aCons (eOp subD (eOp subD (eC (.int 0)) (eOp powD (eC (.int 10)) (eC (.int 15)))) (eC (.int 1))) aNil))))))) (eOp modD (eOp divD (eVar 2) (eC (.int 6))) (eC (.int 6))))) sNext) (sRet [] (eOp subD (eOp modD (eOp divD (eVar 2) (eC (.int 6))) (eC (.int 7))) (eC (.int 3)))))))
def F__law_number : List D → R D := fnD 3 B__law_number
theorem dfn__law_number (T : Txt K mg) : DFn P w K mg base CX0 2 "_law_number" 2 F__law_number .fz :=
  have nd := sc__law_number.nd
  dfn_ok (N := N__law_number) (ps := ["_law_script", "_law_k"]) (k := 1) (fb := B__law_number) (ωp := [.fz, .fz]) (ωl := [.fz]) (W := [2]) T.h__law_number sc__law_number rfl rfl rfl rfl rfl rfl fun f cdv A outer s H E hr => ⟨_, [],
    (dss_cons (ds_set (i := 2) nd (de_call ((dfn__law_cell T).mono (by decide)) hr pass0 (da_cons (de_var 0) (da_cons (de_var 1) da_nil)))) (dss_cons (ds_if (dt_cmp (or_eq hr) od_eq (de_mod (de_var 2) de_int) de_int (nomark _)) (dss_one (ds_ret (de_sub (de_mod (de_call ((dfn__law_raw T).mono (by decide)) hr pass0 (da_cons (de_var 0) (da_cons (de_var 1) da_nil))) (de_frz (de_add (de_frz (de_mul de_int (de_pow de_int de_int))) de_int))) (de_pow de_int de_int)))) dss_nil) (dss_cons (ds_if (dt_cmp (or_eq hr) od_eq (de_mod (de_var 2) de_int) de_int (nomark _)) (dss_one (ds_ret (de_ix hr (de_frz (de_lst (da_cons (de_pow de_int de_int) (da_cons (de_sub de_int (de_pow de_int de_int)) (da_cons (de_sub (de_pow de_int de_int) de_int) (da_cons de_int (da_cons (de_pow de_int de_int) (da_cons (de_sub (de_sub de_int (de_pow de_int de_int)) de_int) da_nil)))))))) (de_mod (de_div (de_var 2) de_int) de_int)))) dss_nil) (dss_one (ds_ret (de_sub (de_mod (de_div (de_var 2) de_int) de_int) de_int))))))⟩
theorem sc__law_value : FnScope N__law_value ["_law_script", "_law_k", "_law_names_here"] (defScope s__law_value) := ⟨rfl, rfl, rfl, by decide +kernel, rfl, by decide +kernel, by decide +kernel⟩
def B__law_value : Env → R Fl := (sSeq (sAsg 3 [] (eCall (F__law_cell) (aCons (eVar 0) (aCons (eOp addD (eVar 1) (eC (.int 3))) aNil)))) (sSeq (sIf (eAndT (tB' (eOp neD (eVar 2) (eLst aNil))) (tB' (eOp ltD (eOp modD (eVar 3) (eC (.int 5))) (eC (.int 2))))) (sRet [] (eTup (aCons (eC (.str w_at)) (aCons (eOp ixD (eVar 2) (eOp modD (eOp divD (eVar 3) (eC (.int 5))) (eCall lenD (aCons (eVar 2) aNil)))) aNil)))) sNext) (sRet [] (eCall (F__law_number) (aCons (eVar 0) (aCons (eVar 1) aNil))))))
def F__law_value : List D → R D := fnD 4 B__law_value
theorem dfn__law_value (T : Txt K mg) : DFn P w K mg base CX0 3 "_law_value" 3 F__law_value .fz :=
  have nd := sc__law_value.nd
  dfn_ok (N := N__law_value) (ps := ["_law_script", "_law_k", "_law_names_here"]) (k := 2) (fb := B__law_value) (ωp := [.fz, .fz, .fz]) (ωl := [.fz]) (W := [3]) T.h__law_value sc__law_value rfl rfl rfl rfl rfl rfl fun f cdv A outer s H E hr => ⟨_, [],
    (dss_cons (ds_set (i := 3) nd (de_call ((dfn__law_cell T).mono (by decide)) hr pass0 (da_cons (de_var 0) (da_cons (de_frz (de_add (de_var 1) de_int)) da_nil)))) (dss_cons (ds_if (dt_of (dw_and (dt_cmp (or_ne hr) od_ne (de_var 2) (de_frz (de_lst da_nil)) (nomark _)) (dw_and1 (dt_cmp op_lt od_lt (de_mod (de_var 3) de_int) de_int (nomark _))))) (dss_one (ds_ret (de_tup (da_cons de_str (da_cons (de_ix hr (de_var 2) (de_mod (de_div (de_var 3) de_int) (de_callB cr_len cd_len T.n_len PySem.boot_len (da_cons (de_var 2) da_nil)))) da_nil))))) dss_nil) (dss_one (ds_ret (de_call ((dfn__law_number T).mono (by decide)) hr pass0 (da_cons (de_var 0) (da_cons (de_var 1) da_nil)))))))⟩
theorem sc__law_ended : FnScope N__law_ended ["_law_script", "_law_state_here"] (defScope s__law_ended) := ⟨rfl, rfl, rfl, by decide +kernel, rfl, by decide +kernel, by decide +kernel⟩
def B__law_ended : Env → R Fl := (sSeq (sAsg 2 [] (eCall (F__law_cell) (aCons (eVar 0) (aCons (eC (.int 12)) aNil)))) (sSeq (sIf (tB' (eOp eqD (eOp modD (eVar 2) (eC (.int 4))) (eC (.int 1)))) (sRet [] (eTup (aCons (eTup (aCons (eC (.str w_done)) (aCons (eCall (F__law_value) (aCons (eVar 0) (aCons (eC (.int 13)) (aCons (eCall listD (aCons (eOp ixD (eVar 1) (eC (.int 2))) aNil)) aNil)))) aNil))) (aCons (eLst aNil) (aCons (eOp ixD (eVar 1) (eC (.int 2))) aNil))))) sNext) (sSeq (sIf (tB' (eOp eqD (eOp modD (eVar 2) (eC (.int 4))) (eC (.int 2)))) (sRet [] (eTup (aCons (eTup (aCons (eC (.str w_stuck)) (aCons (eOp ixD (eLst (aCons (eC (.str w_end)) (aCons (eC (.str w_empty)) (aCons (eC (.str w_own)) (aCons (eC (.str w_kind)) (aCons (eC (.str w_great)) (aCons (eC (.str w_deep)) (aCons (eC (.str w_full)) aNil)))))))) (eOp modD (eOp divD (eVar 2) (eC (.int 4))) (eC (.int 7)))) aNil))) (aCons (eOp ixD (eVar 1) (eC (.int 1))) (aCons (eOp ixD (eVar 1) (eC (.int 2))) aNil))))) sNext) (sRet [] (eVar 1)))))
def F__law_ended : List D → R D := fnD 3 B__law_ended
theorem dfn__law_ended (T : Txt K mg) : DFn P w K mg base CX0 4 "_law_ended" 2 F__law_ended .fz :=
  have nd := sc__law_ended.nd
  dfn_ok (N := N__law_ended) (ps := ["_law_script", "_law_state_here"]) (k := 3) (fb := B__law_ended) (ωp := [.fz, .fz]) (ωl := [.fz]) (W := [2]) T.h__law_ended sc__law_ended rfl rfl rfl rfl rfl rfl fun f cdv A outer s H E hr => ⟨_, [],
    (dss_cons (ds_set (i := 2) nd (de_call ((dfn__law_cell T).mono (by decide)) hr pass0 (da_cons (de_var 0) (da_cons de_int da_nil)))) (dss_cons (ds_if (dt_cmp (or_eq hr) od_eq (de_mod (de_var 2) de_int) de_int (nomark _)) (dss_one (ds_ret (de_tup (da_cons (de_tup (da_cons de_str (da_cons (de_call ((dfn__law_value T).mono (by decide)) hr pass0 (da_cons (de_var 0) (da_cons de_int (da_cons (de_frz (de_callTy (cr_list rfl) cd_list T.n_list PyProof.Rows.boot_list (da_cons (de_ix hr (de_var 1) de_int) da_nil))) da_nil)))) da_nil))) (da_cons (de_frz (de_lst da_nil)) (da_cons (de_ix hr (de_var 1) de_int) da_nil)))))) dss_nil) (dss_cons (ds_if (dt_cmp (or_eq hr) od_eq (de_mod (de_var 2) de_int) de_int (nomark _)) (dss_one (ds_ret (de_tup (da_cons (de_tup (da_cons de_str (da_cons (de_ix hr (de_frz (de_lst (da_cons de_str (da_cons de_str (da_cons de_str (da_cons de_str (da_cons de_str (da_cons de_str (da_cons de_str da_nil))))))))) (de_mod (de_div (de_var 2) de_int) de_int)) da_nil))) (da_cons (de_ix hr (de_var 1) de_int) (da_cons (de_ix hr (de_var 1) de_int) da_nil)))))) dss_nil) (dss_one (ds_ret (de_var 1))))))⟩
theorem sc__law_changed : FnScope N__law_changed ["_law_value_here", "_law_names_here"] (defScope s__law_changed) := ⟨rfl, rfl, rfl, by decide +kernel, rfl, by decide +kernel, by decide +kernel⟩
def B__law_changed : Env → R Fl := (sSeq (sIf (tB' (eUn (isiD "tuple") (eVar 0))) (sRet [] (eTup (aCons (eC (.str w_at)) (aCons (eOp ixD (eVar 1) (eOp ixD (eVar 0) (eC (.int 1)))) aNil)))) sNext) (sRet [] (eVar 0)))
def F__law_changed : List D → R D := fnD 2 B__law_changed
theorem dfn__law_changed (T : Txt K mg) : DFn P w K mg base CX0 1 "_law_changed" 2 F__law_changed .fz :=
  have nd := sc__law_changed.nd
  dfn_ok (N := N__law_changed) (ps := ["_law_value_here", "_law_names_here"]) (k := 0) (fb := B__law_changed) (ωp := [.fz, .fz]) (ωl := []) (W := []) T.h__law_changed sc__law_changed rfl rfl rfl rfl rfl rfl fun f cdv A outer s H E hr => ⟨_, [],
    (dss_cons (ds_if (dt_val (de_isi kit_tuple T.n_isinstance T.n_tuple PyProof.Rows.boot_tuple (de_var 0))) (dss_one (ds_ret (de_tup (da_cons de_str (da_cons (de_ix hr (de_var 1) (de_ix hr (de_var 0) de_int)) da_nil))))) dss_nil) (dss_one (ds_ret (de_var 0))))⟩
theorem sc__law_by_names : FnScope N__law_by_names ["_law_state_here", "_law_names_here"] (defScope s__law_by_names) := ⟨rfl, rfl, rfl, by decide +kernel, rfl, by decide +kernel, by decide +kernel⟩
def B__law_by_names : Env → R Fl := (sSeq (sAsg 2 [] (eOp ixD (eVar 0) (eC (.int 0)))) (sSeq (sIf (eAndT (tB' (eOp isNotD (eVar 2) (eC .non))) (tB' (eOp eqD (eOp ixD (eVar 2) (eC (.int 0))) (eC (.str w_done))))) (sAsg 2 [] (eTup (aCons (eC (.str w_done)) (aCons (eCall (F__law_changed) (aCons (eOp ixD (eVar 2) (eC (.int 1))) (aCons (eVar 1) aNil))) aNil)))) sNext) (sSeq (sAsg 3 [] (eLst aNil)) (sSeq (sFor (iWalk (eOp ixD (eVar 0) (eC (.int 1)))) (setT [4, 5, 6, 7]) (sSeq (sAsg 6 [] (eCall tupleD (aCons (eLc (iWalk (eVar 6)) [11] (setN 11) cYes (eCall (F__law_changed) (aCons (eVar 11) (aCons (eVar 1) aNil)))) aNil))) (sApp 3 (eTup (aCons (eVar 4) (aCons (eVar 5) (aCons (eVar 6) (aCons (eCall tupleD (aCons (eLc (iWalk (eVar 7)) [11] (setN 11) cYes (eCall (F__law_changed) (aCons (eVar 11) (aCons (eVar 1) aNil)))) aNil)) aNil)))))))) (sSeq (sAsg 8 [] (eC (.dic []))) (sSeq (sFor (iWalk (eCall listD (aCons (eVar 1) aNil))) (setN 9) (sSeq (sAsg 10 [] (eOp ixD (eOp ixD (eVar 0) (eC (.int 2))) (eVar 9))) (sIf (tB' (eOp eqD (eOp ixD (eVar 10) (eC (.int 0))) (eC (.str w_box)))) (sPut 8 (eOp ixD (eVar 1) (eVar 9)) (eTup (aCons (eC (.str w_box)) (aCons (eCall (F__law_changed) (aCons (eOp ixD (eVar 10) (eC (.int 1))) (aCons (eVar 1) aNil))) aNil)))) (sPut 8 (eOp ixD (eVar 1) (eVar 9)) (eTup (aCons (eC (.str w_fun)) (aCons (eOp ixD (eVar 10) (eC (.int 1))) (aCons (eCall tupleD (aCons (eLc (iWalk (eOp ixD (eVar 10) (eC (.int 2)))) [11] (setN 11) cYes (eCall (F__law_changed) (aCons (eVar 11) (aCons (eVar 1) aNil)))) aNil)) aNil)))))))) (sRet [3, 8] (eTup (aCons (eVar 2) (aCons (eVar 3) (aCons (eVar 8) aNil)))))))))))
def F__law_by_names : List D → R D := fnD 12 B__law_by_names
theorem dfn__law_by_names (T : Txt K mg) : DFn P w K mg base CX0 2 "_law_by_names" 2 F__law_by_names (.tup [.fz, (.own .fz), (.own .fz)]) :=
  have nd := sc__law_by_names.nd
  dfn_ok (N := N__law_by_names) (ps := ["_law_state_here", "_law_names_here"]) (k := 1) (fb := B__law_by_names) (ωp := [.fz, .fz]) (ωl := [.fz, (.own .fz), .fz, .fz, .fz, .fz, (.own .fz), .fz, .fz, .fz]) (W := [2, 3, 4, 5, 6, 7, 8, 9, 10]) T.h__law_by_names sc__law_by_names rfl rfl rfl rfl rfl rfl fun f cdv A outer s H E hr => ⟨_, [],
    (dss_cons (ds_set (i := 2) nd (de_ix hr (de_var 0) de_int)) (dss_cons (ds_if (dt_of (dw_and (dt_cmp op_notN od_isNot (de_var 2) de_non (nomark _)) (dw_and1 (dt_cmp (or_eq hr) od_eq (de_ix hr (de_var 2) de_int) de_str (nomark _))))) (dss_one (ds_set (i := 2) nd (de_tup (da_cons de_str (da_cons (de_call ((dfn__law_changed T).mono (by decide)) hr pass0 (da_cons (de_ix hr (de_var 2) de_int) (da_cons (de_var 1) da_nil))) da_nil))))) dss_nil) (dss_cons (ds_set (i := 3) nd (de_lst da_nil)) (dss_cons (ds_for PassesOwn.never rfl (di_any (de_ix hr (de_var 0) de_int)) (dg_tup rfl (dgs_cons (i := 4) nd (dgs_cons (i := 5) nd (dgs_cons (i := 6) nd (dgs_cons (i := 7) nd dgs_nil))))) (dss_cons (ds_set (i := 6) nd (de_callTy cr_tup cd_tup T.n_tuple PyProof.Rows.boot_tuple (da_cons (de_frz (de_lcE (own := [("_law_value_here", 11)]) (i := 11) rfl nd rfl rfl (wipe_one _ _) (di_any (de_var 6)) (blkOk_by (N := N__law_by_names) (sc := defScope s__law_by_names) (by decide +kernel)) (fun _ _ _ _ _ => pg_name (i := 11) nd rfl (Or.inl rfl)) (fun _ _ _ _ _ => ⟨_, dts_nil⟩) (fun _ _ _ _ _ => ⟨_, (de_call ((dfn__law_changed T).mono (by decide)) hr pass0 (da_cons (de_var 11) (da_cons (de_var 1) da_nil)))⟩))) da_nil))) (dss_one (ds_app (i := 3) (de_tup (da_cons (de_var 4) (da_cons (de_var 5) (da_cons (de_var 6) (da_cons (de_callTy cr_tup cd_tup T.n_tuple PyProof.Rows.boot_tuple (da_cons (de_frz (de_lcE (own := [("_law_value_here", 11)]) (i := 11) rfl nd rfl rfl (wipe_one _ _) (di_any (de_var 7)) (blkOk_by (N := N__law_by_names) (sc := defScope s__law_by_names) (by decide +kernel)) (fun _ _ _ _ _ => pg_name (i := 11) nd rfl (Or.inl rfl)) (fun _ _ _ _ _ => ⟨_, dts_nil⟩) (fun _ _ _ _ _ => ⟨_, (de_call ((dfn__law_changed T).mono (by decide)) hr pass0 (da_cons (de_var 11) (da_cons (de_var 1) da_nil)))⟩))) da_nil)) da_nil))))))))) (dss_cons (ds_set (i := 8) nd de_dic0) (dss_cons (ds_for PassesOwn.never rfl (di_any (de_frz (de_callTy (cr_list rfl) cd_list T.n_list PyProof.Rows.boot_list (da_cons (de_var 1) da_nil)))) (dg_name (i := 9) nd) (dss_cons (ds_set (i := 10) nd (de_ix hr (de_ix hr (de_var 0) de_int) (de_var 9))) (dss_one (ds_if (dt_cmp (or_eq hr) od_eq (de_ix hr (de_var 10) de_int) de_str (nomark _)) (dss_one (ds_put (i := 8) hr (de_ix hr (de_var 1) (de_var 9)) (de_tup (da_cons de_str (da_cons (de_call ((dfn__law_changed T).mono (by decide)) hr pass0 (da_cons (de_ix hr (de_var 10) de_int) (da_cons (de_var 1) da_nil))) da_nil))))) (dss_one (ds_put (i := 8) hr (de_ix hr (de_var 1) (de_var 9)) (de_tup (da_cons de_str (da_cons (de_ix hr (de_var 10) de_int) (da_cons (de_callTy cr_tup cd_tup T.n_tuple PyProof.Rows.boot_tuple (da_cons (de_frz (de_lcE (own := [("_law_value_here", 11)]) (i := 11) rfl nd rfl rfl (wipe_one _ _) (di_any (de_ix hr (de_var 10) de_int)) (blkOk_by (N := N__law_by_names) (sc := defScope s__law_by_names) (by decide +kernel)) (fun _ _ _ _ _ => pg_name (i := 11) nd rfl (Or.inl rfl)) (fun _ _ _ _ _ => ⟨_, dts_nil⟩) (fun _ _ _ _ _ => ⟨_, (de_call ((dfn__law_changed T).mono (by decide)) hr pass0 (da_cons (de_var 11) (da_cons (de_var 1) da_nil)))⟩))) da_nil)) da_nil)))))))))) (dss_one (ds_ret (de_tupO (da_cons (de_var 2) (da_cons (de_move 3) (da_cons (de_move 8) da_nil))))))))))))⟩
theorem sc__law_named : FnScope N__law_named ["_law_script", "_law_state_here"] (defScope s__law_named) := ⟨rfl, rfl, rfl, by decide +kernel, rfl, by decide +kernel, by decide +kernel⟩
def B__law_named : Env → R Fl := (sSeq (sAsg 2 [] (eCall (F__law_cell) (aCons (eVar 0) (aCons (eC (.int 16)) aNil)))) (sSeq (sAsg 3 [] (eCall listD (aCons (eOp ixD (eVar 1) (eC (.int 2))) aNil))) (sSeq (sAsg 4 [] (eC (.dic []))) (sSeq (sFor (iRange1 (eCall lenD (aCons (eVar 3) aNil))) (setN 5) (sSeq (sAsg 6 [] (eOp modD (eOp addD (eOp mulD (eVar 5) (eOp ixD (eLst (aCons (eC (.int 1)) (aCons (eC (.int 5)) (aCons (eC (.int 11)) aNil)))) (eOp modD (eVar 2) (eC (.int 3))))) (eOp divD (eVar 2) (eC (.int 3)))) (eCall max2D (aCons (eC (.int 1)) (aCons (eCall lenD (aCons (eVar 3) aNil)) aNil))))) (sPut 4 (eOp ixD (eVar 3) (eVar 5)) (eOp addD (eOp modD (eOp divD (eVar 2) (eC (.int 300))) (eC (.int 7))) (eOp mulD (eVar 6) (eOp addD (eC (.int 1)) (eOp modD (eOp divD (eVar 2) (eC (.int 30))) (eC (.int 4))))))))) (sSeq (sIf (tB' (eOp ltD (eUn lenSetD (eUn valsD (eVar 4))) (eCall lenD (aCons (eVar 3) aNil)))) (sAsg 4 [] (eCall dictD (aCons (eLc (iRange1 (eCall lenD (aCons (eVar 3) aNil))) [5] (setN 5) cYes (eTup (aCons (eOp ixD (eVar 3) (eVar 5)) (aCons (eVar 5) aNil)))) aNil))) sNext) (sSeq (sAsg 7 [] (eCall (F__law_by_names) (aCons (eVar 1) (aCons (eVar 4) aNil)))) (sSeq (sAsg 8 [] (eC (.dic []))) (sSeq (sAsg 9 [] (eCall sortedD (aCons (eCall listD (aCons (eOp ixD (eVar 7) (eC (.int 2))) aNil)) aNil))) (sSeq (sIf (tB' (eOp eqD (eOp modD (eVar 2) (eC (.int 2))) (eC (.int 1)))) (sRev 9) sNext) (sSeq (sFor (iWalk (eVar 9)) (setN 10) (sPut 8 (eVar 10) (eOp ixD (eOp ixD (eVar 7) (eC (.int 2))) (eVar 10)))) (sRet [] (eTup (aCons (eOp ixD (eVar 7) (eC (.int 0))) (aCons (eOp ixD (eVar 7) (eC (.int 1))) (aCons (eVar 8) aNil)))))))))))))))
def F__law_named : List D → R D := fnD 11 B__law_named
theorem dfn__law_named (T : Txt K mg) : DFn P w K mg base CX0 3 "_law_named" 2 F__law_named .fz :=
  have nd := sc__law_named.nd
  dfn_ok (N := N__law_named) (ps := ["_law_script", "_law_state_here"]) (k := 2) (fb := B__law_named) (ωp := [.fz, .fz]) (ωl := [.fz, .fz, (.own .fz), .fz, .fz, .fz, (.own .fz), (.own .fz), .fz]) (W := [2, 3, 4, 5, 6, 7, 8, 9, 10]) T.h__law_named sc__law_named rfl rfl rfl rfl rfl rfl fun f cdv A outer s H E hr => ⟨_, [],
    (dss_cons (ds_set (i := 2) nd (de_call ((dfn__law_cell T).mono (by decide)) hr pass0 (da_cons (de_var 0) (da_cons de_int da_nil)))) (dss_cons (ds_set (i := 3) nd (de_frz (de_callTy (cr_list rfl) cd_list T.n_list PyProof.Rows.boot_list (da_cons (de_ix hr (de_var 1) de_int) da_nil)))) (dss_cons (ds_set (i := 4) nd de_dic0) (dss_cons (ds_for PassesOwn.never rfl (di_range1 T.n_range (de_callB cr_len cd_len T.n_len PySem.boot_len (da_cons (de_var 3) da_nil))) (dg_name (i := 5) nd) (dss_cons (ds_set (i := 6) nd (de_mod (de_frz (de_add (de_frz (de_mul (de_var 5) (de_ix hr (de_frz (de_lst (da_cons de_int (da_cons de_int (da_cons de_int da_nil))))) (de_mod (de_var 2) de_int)))) (de_div (de_var 2) de_int))) (de_callB (call_max2 rfl) cd_max2 T.n_max PyProof.Rows.boot_max (da_cons de_int (da_cons (de_callB cr_len cd_len T.n_len PySem.boot_len (da_cons (de_var 3) da_nil)) da_nil))))) (dss_one (ds_put (i := 4) hr (de_ix hr (de_var 3) (de_var 5)) (de_frz (de_add (de_mod (de_div (de_var 2) de_int) de_int) (de_frz (de_mul (de_var 6) (de_frz (de_add de_int (de_mod (de_div (de_var 2) de_int) de_int))))))))))) (dss_froze (.same (.same (.same (.same (.fz (.same (.same (.same (.same (.same (.same Froze.nil))))))))))) (dss_cons (ds_if (dt_cmp op_lt od_lt (de_lenSet T.n_len T.n_set (de_frz (de_listVals rfl T.n_list (de_var 4)))) (de_callB cr_len cd_len T.n_len PySem.boot_len (da_cons (de_var 3) da_nil)) (nomark _)) (dss_one (ds_set (i := 4) nd (de_frz (de_callTy (cr_dict rfl) cd_dict T.n_dict PyProof.Rows.boot_dict (da_cons (de_frz (de_lcE (own := [("_law_k", 5)]) (i := 5) rfl nd rfl rfl (wipe_one _ _) (di_range1 T.n_range (de_callB cr_len cd_len T.n_len PySem.boot_len (da_cons (de_var 3) da_nil))) (blkOk_by (N := N__law_named) (sc := defScope s__law_named) (by decide +kernel)) (fun _ _ _ _ _ => pg_name (i := 5) nd rfl (Or.inl rfl)) (fun _ _ _ _ _ => ⟨_, dts_nil⟩) (fun _ _ _ _ _ => ⟨_, (de_tup (da_cons (de_ix hr (de_var 3) (de_var 5)) (da_cons (de_var 5) da_nil)))⟩))) da_nil))))) dss_nil) (dss_cons (ds_set (i := 7) nd (de_frz (de_call ((dfn__law_by_names T).mono (by decide)) hr pass0 (da_cons (de_var 1) (da_cons (de_var 4) da_nil))))) (dss_cons (ds_set (i := 8) nd de_dic0) (dss_cons (ds_set (i := 9) nd (de_callB cr_sortedI cd_sorted T.n_sorted PyProof.Rows.boot_sorted (da_cons (de_frz (de_callTy (cr_list rfl) cd_list T.n_list PyProof.Rows.boot_list (da_cons (de_ix hr (de_var 7) de_int) da_nil))) da_nil))) (dss_cons (ds_if (dt_cmp (or_eq hr) od_eq (de_mod (de_var 2) de_int) de_int (nomark _)) (dss_one (ds_rev (i := 9))) dss_nil) (dss_froze (.same (.same (.same (.same (.same (.same (.same (.same (.same (.fz (.same Froze.nil))))))))))) (dss_cons (ds_for PassesOwn.never rfl (di_any (de_var 9)) (dg_name (i := 10) nd) (dss_one (ds_put (i := 8) hr (de_var 10) (de_ix hr (de_ix hr (de_var 7) de_int) (de_var 10))))) (dss_froze (.same (.same (.same (.same (.same (.same (.same (.same (.fz (.same (.same Froze.nil))))))))))) (dss_one (ds_ret (de_tup (da_cons (de_ix hr (de_var 7) de_int) (da_cons (de_ix hr (de_var 7) de_int) (da_cons (de_var 8) da_nil)))))))))))))))))))⟩
theorem sc_numbers_in : FnScope N_numbers_in ["values"] (defScope s_numbers_in) := ⟨rfl, rfl, rfl, by decide +kernel, rfl, by decide +kernel, by decide +kernel⟩
def B_numbers_in : Env → R Fl := (sRet [] (eLc (iWalk (eVar 0)) [1] (setN 1) (tB' (eUn (isiD "tuple") (eVar 1))) (eOp ixD (eVar 1) (eC (.int 1)))))
def F_numbers_in : List D → R D := fnD 2 B_numbers_in
theorem dfn_numbers_in (T : Txt K mg) : DFn P w K mg base CX0 1 "numbers_in" 1 F_numbers_in .fz :=
  have nd := sc_numbers_in.nd
  dfn_ok (N := N_numbers_in) (ps := ["values"]) (k := 0) (fb := B_numbers_in) (ωp := [.fz]) (ωl := [.fz]) (W := []) T.h_numbers_in sc_numbers_in rfl rfl rfl rfl rfl rfl fun f cdv A outer s H E hr => ⟨_, [],
    (dss_one (ds_ret (de_frz (de_lcE (own := [("value", 1)]) (i := 1) rfl nd rfl rfl (wipe_one _ _) (di_any (de_var 0)) (blkOk_by (N := N_numbers_in) (sc := defScope s_numbers_in) (by decide +kernel)) (fun _ _ _ _ _ => pg_name (i := 1) nd rfl (Or.inl rfl)) (fun _ _ _ _ _ => ⟨_, (dts_one (dt_val (de_isi kit_tuple T.n_isinstance T.n_tuple PyProof.Rows.boot_tuple (de_var 1))))⟩) (fun _ _ _ _ _ => ⟨_, (de_ix hr (de_var 1) de_int)⟩)))))⟩
theorem sc_values_of : FnScope N_values_of ["state"] (defScope s_values_of) := ⟨rfl, rfl, rfl, by decide +kernel, rfl, by decide +kernel, by decide +kernel⟩
def B_values_of : Env → R Fl := (sSeq (sAsg 1 [] (eLst aNil)) (sSeq (sIf (eAndT (tB' (eOp isNotD (eOp ixD (eVar 0) (eC (.int 0))) (eC .non))) (tB' (eOp eqD (eOp ixD (eOp ixD (eVar 0) (eC (.int 0))) (eC (.int 0))) (eC (.str w_done))))) (sApp 1 (eOp ixD (eOp ixD (eVar 0) (eC (.int 0))) (eC (.int 1)))) sNext) (sSeq (sFor (iWalk (eOp ixD (eVar 0) (eC (.int 1)))) (setN 2) (sAsg 1 [] (eOp addD (eOp addD (eVar 1) (eCall listD (aCons (eOp ixD (eVar 2) (eC (.int 2))) aNil))) (eCall listD (aCons (eOp ixD (eVar 2) (eC (.int 3))) aNil))))) (sRet [] (eVar 1)))))
def F_values_of : List D → R D := fnD 3 B_values_of
theorem dfn_values_of (T : Txt K mg) : DFn P w K mg base CX0 1 "values_of" 1 F_values_of .fz :=
  have nd := sc_values_of.nd
  dfn_ok (N := N_values_of) (ps := ["state"]) (k := 0) (fb := B_values_of) (ωp := [.fz]) (ωl := [(.own .fz), .fz]) (W := [1, 2]) T.h_values_of sc_values_of rfl rfl rfl rfl rfl rfl fun f cdv A outer s H E hr => ⟨_, [],
    (dss_cons (ds_set (i := 1) nd (de_lst da_nil)) (dss_cons (ds_if (dt_of (dw_and (dt_cmp op_notN od_isNot (de_ix hr (de_var 0) de_int) de_non (nomark _)) (dw_and1 (dt_cmp (or_eq hr) od_eq (de_ix hr (de_ix hr (de_var 0) de_int) de_int) de_str (nomark _))))) (dss_one (ds_app (i := 1) (de_ix hr (de_ix hr (de_var 0) de_int) de_int))) dss_nil) (dss_froze (.same (.fz (.same Froze.nil))) (dss_cons (ds_for PassesOwn.never rfl (di_any (de_ix hr (de_var 0) de_int)) (dg_name (i := 2) nd) (dss_one (ds_set (i := 1) nd (de_frz (de_add (de_frz (de_add (de_var 1) (de_frz (de_callTy (cr_list rfl) cd_list T.n_list PyProof.Rows.boot_list (da_cons (de_ix hr (de_var 2) de_int) da_nil))))) (de_frz (de_callTy (cr_list rfl) cd_list T.n_list PyProof.Rows.boot_list (da_cons (de_ix hr (de_var 2) de_int) da_nil)))))))) (dss_one (ds_ret (de_var 1)))))))⟩
theorem sc_inner : FnScope N_inner ["thing"] (defScope s_inner) := ⟨rfl, rfl, rfl, by decide +kernel, rfl, by decide +kernel, by decide +kernel⟩
def B_inner : Env → R Fl := (sSeq (sIf (tB' (eOp eqD (eOp ixD (eVar 0) (eC (.int 0))) (eC (.str w_box)))) (sRet [] (eLst (aCons (eOp ixD (eVar 0) (eC (.int 1))) aNil))) sNext) (sRet [] (eCall listD (aCons (eOp ixD (eVar 0) (eC (.int 2))) aNil))))
def F_inner : List D → R D := fnD 1 B_inner
theorem dfn_inner (T : Txt K mg) : DFn P w K mg base CX0 1 "inner" 1 F_inner .fz :=
  have nd := sc_inner.nd
  dfn_ok (N := N_inner) (ps := ["thing"]) (k := 0) (fb := B_inner) (ωp := [.fz]) (ωl := []) (W := []) T.h_inner sc_inner rfl rfl rfl rfl rfl rfl fun f cdv A outer s H E hr => ⟨_, [],
    (dss_cons (ds_if (dt_cmp (or_eq hr) od_eq (de_ix hr (de_var 0) de_int) de_str (nomark _)) (dss_one (ds_ret (de_frz (de_lst (da_cons (de_ix hr (de_var 0) de_int) da_nil))))) dss_nil) (dss_one (ds_ret (de_frz (de_callTy (cr_list rfl) cd_list T.n_list PyProof.Rows.boot_list (da_cons (de_ix hr (de_var 0) de_int) da_nil))))))⟩
theorem sc_met : FnScope N_met ["state"] (defScope s_met) := ⟨rfl, rfl, rfl, by decide +kernel, rfl, by decide +kernel, by decide +kernel⟩
def B_met : Env → R Fl := (sSeq (sAsg 1 [] (eC (.dic []))) (sSeq (sFor (iWalk (eCall (F_numbers_in) (aCons (eCall (F_values_of) (aCons (eVar 0) aNil)) aNil))) (setN 2) (sPut 1 (eVar 2) (eC (.bl true)))) (sSeq (sAsg 3 [] (eChk (.own .fz) (eCall listD (aCons (eVar 1) aNil)))) (sSeq (sAsg 4 [] (eC (.int 0))) (sSeq (sWhile 1000 (tB' (eOp ltD (eVar 4) (eCall lenD (aCons (eVar 3) aNil)))) (sSeq (sFor (iWalk (eCall (F_numbers_in) (aCons (eCall (F_inner) (aCons (eOp ixD (eOp ixD (eVar 0) (eC (.int 2))) (eIxV 3 (eVar 4))) aNil)) aNil))) (setN 2) (sIf (tB' (eOp notInD (eVar 2) (eVar 1))) (sSeq (sPut 1 (eVar 2) (eC (.bl true))) (sApp 3 (eVar 2))) sNext)) (sAsg 4 [] (eOp addD (eVar 4) (eC (.int 1)))))) (sRet [3] (eVar 3)))))))
def F_met : List D → R D := fnD 5 B_met
theorem dfn_met (T : Txt K mg) : DFn P w K mg base CX0 2 "met" 1 F_met (.own .fz) :=
  have nd := sc_met.nd
  dfn_ok (N := N_met) (ps := ["state"]) (k := 1) (fb := B_met) (ωp := [.fz]) (ωl := [(.own .fz), .fz, (.own .fz), .fz]) (W := [1, 2, 3, 4]) T.h_met sc_met rfl rfl rfl rfl rfl rfl fun f cdv A outer s H E hr => ⟨_, [],
    (dss_cons (ds_set (i := 1) nd de_dic0) (dss_cons (ds_for PassesOwn.never rfl (di_any (de_call ((dfn_numbers_in T).mono (by decide)) hr pass0 (da_cons (de_call ((dfn_values_of T).mono (by decide)) hr pass0 (da_cons (de_var 0) da_nil)) da_nil))) (dg_name (i := 2) nd) (dss_one (ds_put (i := 1) hr (de_var 2) de_bl))) (dss_cons (ds_set (i := 3) nd (de_chk (de_callTy (cr_list rfl) cd_list T.n_list PyProof.Rows.boot_list (da_cons (de_var 1) da_nil)))) (dss_cons (ds_set (i := 4) nd de_int) (dss_cons (ds_while 1000 PassesOwn.never (dt_look (dt_cmp op_lt od_lt (de_var 4) (de_callB cr_len cd_len T.n_len PySem.boot_len (da_cons (de_var 3) da_nil)) (nomark _))) (dss_cons (ds_for PassesOwn.never rfl (di_any (de_call ((dfn_numbers_in T).mono (by decide)) hr pass0 (da_cons (de_call ((dfn_inner T).mono (by decide)) hr pass0 (da_cons (de_ix hr (de_ix hr (de_var 0) de_int) (de_ixV (i := 3) hr (de_var 4))) da_nil)) da_nil))) (dg_name (i := 2) nd) (dss_one (ds_if (dt_look (dt_cmp (or_notIn hr) od_notIn (de_var 2) (de_var 1) rfl)) (dss_cons (ds_put (i := 1) hr (de_var 2) de_bl) (dss_one (ds_app (i := 3) (de_var 2)))) dss_nil))) (dss_one (ds_set (i := 4) nd (de_frz (de_add (de_var 4) de_int)))))) (dss_one (ds_ret (de_move 3))))))))⟩
theorem sc_renamed : FnScope N_renamed ["value", "names"] (defScope s_renamed) := ⟨rfl, rfl, rfl, by decide +kernel, rfl, by decide +kernel, by decide +kernel⟩
def B_renamed : Env → R Fl := (sSeq (sIf (tB' (eUn (isiD "tuple") (eVar 0))) (sRet [] (eTup (aCons (eC (.str w_at)) (aCons (eOp ixD (eVar 1) (eOp ixD (eVar 0) (eC (.int 1)))) aNil)))) sNext) (sRet [] (eVar 0)))
def F_renamed : List D → R D := fnD 2 B_renamed
theorem dfn_renamed (T : Txt K mg) : DFn P w K mg base CX0 1 "renamed" 2 F_renamed .fz :=
  have nd := sc_renamed.nd
  dfn_ok (N := N_renamed) (ps := ["value", "names"]) (k := 0) (fb := B_renamed) (ωp := [.fz, .fz]) (ωl := []) (W := []) T.h_renamed sc_renamed rfl rfl rfl rfl rfl rfl fun f cdv A outer s H E hr => ⟨_, [],
    (dss_cons (ds_if (dt_val (de_isi kit_tuple T.n_isinstance T.n_tuple PyProof.Rows.boot_tuple (de_var 0))) (dss_one (ds_ret (de_tup (da_cons de_str (da_cons (de_ix hr (de_var 1) (de_ix hr (de_var 0) de_int)) da_nil))))) dss_nil) (dss_one (ds_ret (de_var 0))))⟩
theorem sc_renamed_end : FnScope N_renamed_end ["end", "names"] (defScope s_renamed_end) := ⟨rfl, rfl, rfl, by decide +kernel, rfl, by decide +kernel, by decide +kernel⟩
def B_renamed_end : Env → R Fl := (sSeq (sIf (eAndT (tB' (eOp isNotD (eVar 0) (eC .non))) (tB' (eOp eqD (eOp ixD (eVar 0) (eC (.int 0))) (eC (.str w_done))))) (sRet [] (eTup (aCons (eC (.str w_done)) (aCons (eCall (F_renamed) (aCons (eOp ixD (eVar 0) (eC (.int 1))) (aCons (eVar 1) aNil))) aNil)))) sNext) (sRet [] (eVar 0)))
def F_renamed_end : List D → R D := fnD 2 B_renamed_end
theorem dfn_renamed_end (T : Txt K mg) : DFn P w K mg base CX0 2 "renamed_end" 2 F_renamed_end .fz :=
  have nd := sc_renamed_end.nd
  dfn_ok (N := N_renamed_end) (ps := ["end", "names"]) (k := 1) (fb := B_renamed_end) (ωp := [.fz, .fz]) (ωl := []) (W := []) T.h_renamed_end sc_renamed_end rfl rfl rfl rfl rfl rfl fun f cdv A outer s H E hr => ⟨_, [],
    (dss_cons (ds_if (dt_of (dw_and (dt_cmp op_notN od_isNot (de_var 0) de_non (nomark _)) (dw_and1 (dt_cmp (or_eq hr) od_eq (de_ix hr (de_var 0) de_int) de_str (nomark _))))) (dss_one (ds_ret (de_tup (da_cons de_str (da_cons (de_call ((dfn_renamed T).mono (by decide)) hr pass0 (da_cons (de_ix hr (de_var 0) de_int) (da_cons (de_var 1) da_nil))) da_nil))))) dss_nil) (dss_one (ds_ret (de_var 0))))⟩
theorem sc_renamed_all : FnScope N_renamed_all ["values", "names"] (defScope s_renamed_all) := ⟨rfl, rfl, rfl, by decide +kernel, rfl, by decide +kernel, by decide +kernel⟩
def B_renamed_all : Env → R Fl := (sRet [] (eCall tupleD (aCons (eLc (iWalk (eVar 0)) [2] (setN 2) cYes (eCall (F_renamed) (aCons (eVar 2) (aCons (eVar 1) aNil)))) aNil)))
def F_renamed_all : List D → R D := fnD 3 B_renamed_all
theorem dfn_renamed_all (T : Txt K mg) : DFn P w K mg base CX0 2 "renamed_all" 2 F_renamed_all .fz :=
  have nd := sc_renamed_all.nd
  dfn_ok (N := N_renamed_all) (ps := ["values", "names"]) (k := 1) (fb := B_renamed_all) (ωp := [.fz, .fz]) (ωl := [.fz]) (W := []) T.h_renamed_all sc_renamed_all rfl rfl rfl rfl rfl rfl fun f cdv A outer s H E hr => ⟨_, [],
    (dss_one (ds_ret (de_callTy cr_tup cd_tup T.n_tuple PyProof.Rows.boot_tuple (da_cons (de_frz (de_lcE (own := [("value", 2)]) (i := 2) rfl nd rfl rfl (wipe_one _ _) (di_any (de_var 0)) (blkOk_by (N := N_renamed_all) (sc := defScope s_renamed_all) (by decide +kernel)) (fun _ _ _ _ _ => pg_name (i := 2) nd rfl (Or.inl rfl)) (fun _ _ _ _ _ => ⟨_, dts_nil⟩) (fun _ _ _ _ _ => ⟨_, (de_call ((dfn_renamed T).mono (by decide)) hr pass0 (da_cons (de_var 2) (da_cons (de_var 1) da_nil)))⟩))) da_nil))))⟩
theorem sc_renamed_frame : FnScope N_renamed_frame ["frame", "names"] (defScope s_renamed_frame) := ⟨rfl, rfl, rfl, by decide +kernel, rfl, by decide +kernel, by decide +kernel⟩
def B_renamed_frame : Env → R Fl := (sRet [] (eTup (aCons (eOp ixD (eVar 0) (eC (.int 0))) (aCons (eOp ixD (eVar 0) (eC (.int 1))) (aCons (eCall (F_renamed_all) (aCons (eOp ixD (eVar 0) (eC (.int 2))) (aCons (eVar 1) aNil))) (aCons (eCall (F_renamed_all) (aCons (eOp ixD (eVar 0) (eC (.int 3))) (aCons (eVar 1) aNil))) aNil))))))
def F_renamed_frame : List D → R D := fnD 2 B_renamed_frame
theorem dfn_renamed_frame (T : Txt K mg) : DFn P w K mg base CX0 3 "renamed_frame" 2 F_renamed_frame .fz :=
  have nd := sc_renamed_frame.nd
  dfn_ok (N := N_renamed_frame) (ps := ["frame", "names"]) (k := 2) (fb := B_renamed_frame) (ωp := [.fz, .fz]) (ωl := []) (W := []) T.h_renamed_frame sc_renamed_frame rfl rfl rfl rfl rfl rfl fun f cdv A outer s H E hr => ⟨_, [],
    (dss_one (ds_ret (de_tup (da_cons (de_ix hr (de_var 0) de_int) (da_cons (de_ix hr (de_var 0) de_int) (da_cons (de_call ((dfn_renamed_all T).mono (by decide)) hr pass0 (da_cons (de_ix hr (de_var 0) de_int) (da_cons (de_var 1) da_nil))) (da_cons (de_call ((dfn_renamed_all T).mono (by decide)) hr pass0 (da_cons (de_ix hr (de_var 0) de_int) (da_cons (de_var 1) da_nil))) da_nil)))))))⟩
theorem sc_renamed_thing : FnScope N_renamed_thing ["thing", "names"] (defScope s_renamed_thing) := ⟨rfl, rfl, rfl, by decide +kernel, rfl, by decide +kernel, by decide +kernel⟩
def B_renamed_thing : Env → R Fl := (sSeq (sIf (tB' (eOp eqD (eOp ixD (eVar 0) (eC (.int 0))) (eC (.str w_box)))) (sRet [] (eTup (aCons (eC (.str w_box)) (aCons (eCall (F_renamed) (aCons (eOp ixD (eVar 0) (eC (.int 1))) (aCons (eVar 1) aNil))) aNil)))) sNext) (sRet [] (eTup (aCons (eC (.str w_fun)) (aCons (eOp ixD (eVar 0) (eC (.int 1))) (aCons (eCall (F_renamed_all) (aCons (eOp ixD (eVar 0) (eC (.int 2))) (aCons (eVar 1) aNil))) aNil))))))
def F_renamed_thing : List D → R D := fnD 2 B_renamed_thing
theorem dfn_renamed_thing (T : Txt K mg) : DFn P w K mg base CX0 3 "renamed_thing" 2 F_renamed_thing .fz :=
  have nd := sc_renamed_thing.nd
  dfn_ok (N := N_renamed_thing) (ps := ["thing", "names"]) (k := 2) (fb := B_renamed_thing) (ωp := [.fz, .fz]) (ωl := []) (W := []) T.h_renamed_thing sc_renamed_thing rfl rfl rfl rfl rfl rfl fun f cdv A outer s H E hr => ⟨_, [],
    (dss_cons (ds_if (dt_cmp (or_eq hr) od_eq (de_ix hr (de_var 0) de_int) de_str (nomark _)) (dss_one (ds_ret (de_tup (da_cons de_str (da_cons (de_call ((dfn_renamed T).mono (by decide)) hr pass0 (da_cons (de_ix hr (de_var 0) de_int) (da_cons (de_var 1) da_nil))) da_nil))))) dss_nil) (dss_one (ds_ret (de_tup (da_cons de_str (da_cons (de_ix hr (de_var 0) de_int) (da_cons (de_call ((dfn_renamed_all T).mono (by decide)) hr pass0 (da_cons (de_ix hr (de_var 0) de_int) (da_cons (de_var 1) da_nil))) da_nil)))))))⟩
theorem sc_matched : FnScope N_matched ["one", "other"] (defScope s_matched) := ⟨rfl, rfl, rfl, by decide +kernel, rfl, by decide +kernel, by decide +kernel⟩
def B_matched : Env → R Fl := (sSeq (sAsg 2 [] (eCall (F_met) (aCons (eVar 0) aNil))) (sSeq (sAsg 3 [] (eCall (F_met) (aCons (eVar 1) aNil))) (sSeq (sIf (tB' (eOp neD (eCall lenD (aCons (eVar 2) aNil)) (eCall lenD (aCons (eVar 3) aNil)))) (sRet [] (eC .non)) sNext) (sSeq (sAsg 4 [] (eC (.dic []))) (sSeq (sFor (iRange1 (eCall lenD (aCons (eVar 2) aNil))) (setN 5) (sPut 4 (eOp ixD (eVar 2) (eVar 5)) (eOp ixD (eVar 3) (eVar 5)))) (sSeq (sIf (tB' (eOp neD (eCall (F_renamed_end) (aCons (eOp ixD (eVar 0) (eC (.int 0))) (aCons (eVar 4) aNil))) (eOp ixD (eVar 1) (eC (.int 0))))) (sRet [] (eC .non)) sNext) (sSeq (sIf (tB' (eOp neD (eLc (iWalk (eOp ixD (eVar 0) (eC (.int 1)))) [7] (setN 7) cYes (eCall (F_renamed_frame) (aCons (eVar 7) (aCons (eVar 4) aNil)))) (eCall listD (aCons (eOp ixD (eVar 1) (eC (.int 1))) aNil)))) (sRet [] (eC .non)) sNext) (sSeq (sFor (iWalk (eVar 2)) (setN 6) (sIf (tB' (eOp neD (eCall (F_renamed_thing) (aCons (eOp ixD (eOp ixD (eVar 0) (eC (.int 2))) (eVar 6)) (aCons (eVar 4) aNil))) (eOp ixD (eOp ixD (eVar 1) (eC (.int 2))) (eOp ixD (eVar 4) (eVar 6))))) (sRet [] (eC .non)) sNext)) (sRet [4] (eVar 4))))))))))
def F_matched : List D → R D := fnD 8 B_matched
theorem dfn_matched (T : Txt K mg) : DFn P w K mg base CX0 4 "matched" 2 F_matched (.own .fz) :=
  have nd := sc_matched.nd
  dfn_ok (N := N_matched) (ps := ["one", "other"]) (k := 3) (fb := B_matched) (ωp := [.fz, .fz]) (ωl := [.fz, .fz, (.own .fz), .fz, .fz, .fz]) (W := [2, 3, 4, 5, 6]) T.h_matched sc_matched rfl rfl rfl rfl rfl rfl fun f cdv A outer s H E hr => ⟨_, [],
    (dss_cons (ds_set (i := 2) nd (de_frz (de_call ((dfn_met T).mono (by decide)) hr pass0 (da_cons (de_var 0) da_nil)))) (dss_cons (ds_set (i := 3) nd (de_frz (de_call ((dfn_met T).mono (by decide)) hr pass0 (da_cons (de_var 1) da_nil)))) (dss_cons (ds_if (dt_cmp (or_ne hr) od_ne (de_callB cr_len cd_len T.n_len PySem.boot_len (da_cons (de_var 2) da_nil)) (de_callB cr_len cd_len T.n_len PySem.boot_len (da_cons (de_var 3) da_nil)) (nomark _)) (dss_one (ds_ret de_nonO)) dss_nil) (dss_cons (ds_set (i := 4) nd de_dic0) (dss_cons (ds_for PassesOwn.never rfl (di_range1 T.n_range (de_callB cr_len cd_len T.n_len PySem.boot_len (da_cons (de_var 2) da_nil))) (dg_name (i := 5) nd) (dss_one (ds_put (i := 4) hr (de_ix hr (de_var 2) (de_var 5)) (de_ix hr (de_var 3) (de_var 5))))) (dss_cons (ds_if (dt_look (dt_cmp (or_ne hr) od_ne (de_call ((dfn_renamed_end T).mono (by decide)) hr pass0 (da_cons (de_ix hr (de_var 0) de_int) (da_cons (de_var 4) da_nil))) (de_ix hr (de_var 1) de_int) (nomark _))) (dss_one (ds_ret de_nonO)) dss_nil) (dss_cons (ds_if (dt_look (dt_cmp (or_ne hr) od_ne (de_frz (de_lcE (own := [("frame", 7)]) (i := 7) rfl nd rfl rfl (wipe_one _ _) (di_any (de_ix hr (de_var 0) de_int)) (blkOk_by (N := N_matched) (sc := defScope s_matched) (by decide +kernel)) (fun _ _ _ _ _ => pg_name (i := 7) nd rfl (Or.inl rfl)) (fun _ _ _ _ _ => ⟨_, dts_nil⟩) (fun _ _ _ _ _ => ⟨_, (de_call ((dfn_renamed_frame T).mono (by decide)) hr pass0 (da_cons (de_var 7) (da_cons (de_var 4) da_nil)))⟩))) (de_frz (de_callTy (cr_list rfl) cd_list T.n_list PyProof.Rows.boot_list (da_cons (de_ix hr (de_var 1) de_int) da_nil))) (nomark _))) (dss_one (ds_ret de_nonO)) dss_nil) (dss_cons (ds_for PassesOwn.never rfl (di_any (de_var 2)) (dg_name (i := 6) nd) (dss_one (ds_if (dt_look (dt_cmp (or_ne hr) od_ne (de_call ((dfn_renamed_thing T).mono (by decide)) hr pass0 (da_cons (de_ix hr (de_ix hr (de_var 0) de_int) (de_var 6)) (da_cons (de_var 4) da_nil))) (de_ix hr (de_ix hr (de_var 1) de_int) (de_ix hr (de_var 4) (de_var 6))) (nomark _))) (dss_one (ds_ret de_nonO)) dss_nil))) (dss_one (ds_ret (de_move 4)))))))))))⟩
theorem sc__law_words : FnScope N__law_words [] (defScope s__law_words) := ⟨rfl, rfl, rfl, by decide +kernel, rfl, by decide +kernel, by decide +kernel⟩
def B__law_words : Env → R Fl := (sSeq (sAsg 0 [] (eLst (aCons (eC (.str w_num)) (aCons (eC (.str w_get)) (aCons (eC (.str w_keep)) (aCons (eC (.str w_drop)) (aCons (eC (.str w_add)) (aCons (eC (.str w_minus)) (aCons (eC (.str w_times)) (aCons (eC (.str w_less)) (aCons (eC (.str w_same)) (aCons (eC (.str w_box)) (aCons (eC (.str w_open)) (aCons (eC (.str w_fill)) (aCons (eC (.str w_fun)) aNil))))))))))))))) (sRet [] (eOp addD (eVar 0) (eLst (aCons (eC (.str w_call)) (aCons (eC (.str w_back)) (aCons (eC (.str w_jump)) (aCons (eC (.str w_unless)) (aCons (eC (.str w_say)) aNil)))))))))
def F__law_words : List D → R D := fnD 1 B__law_words
theorem dfn__law_words (T : Txt K mg) : DFn P w K mg base CX0 1 "_law_words" 0 F__law_words .fz :=
  have nd := sc__law_words.nd
  dfn_ok (N := N__law_words) (ps := []) (k := 0) (fb := B__law_words) (ωp := []) (ωl := [.fz]) (W := [0]) T.h__law_words sc__law_words rfl rfl rfl rfl rfl rfl fun f cdv A outer s H E hr => ⟨_, [],
    (dss_cons (ds_set (i := 0) nd (de_frz (de_lst (da_cons de_str (da_cons de_str (da_cons de_str (da_cons de_str (da_cons de_str (da_cons de_str (da_cons de_str (da_cons de_str (da_cons de_str (da_cons de_str (da_cons de_str (da_cons de_str (da_cons de_str da_nil)))))))))))))))) (dss_one (ds_ret (de_frz (de_add (de_var 0) (de_frz (de_lst (da_cons de_str (da_cons de_str (da_cons de_str (da_cons de_str (da_cons de_str da_nil))))))))))))⟩
theorem sc__law_names : FnScope N__law_names ["_law_script"] (defScope s__law_names) := ⟨rfl, rfl, rfl, by decide +kernel, rfl, by decide +kernel, by decide +kernel⟩
def B__law_names : Env → R Fl := (sSeq (sAsg 1 [] (eCall (F__law_cell) (aCons (eVar 0) (aCons (eC (.int 1)) aNil)))) (sSeq (sAsg 2 [] (eOp modD (eVar 1) (eC (.int 7)))) (sSeq (sIf (tB' (eOp eqD (eOp modD (eOp divD (eVar 1) (eC (.int 7))) (eC (.int 16))) (eC (.int 1)))) (sAsg 2 [] (eOp ixD (eLst (aCons (eC (.int 40)) (aCons (eC (.int 40)) (aCons (eC (.int 40)) (aCons (eC (.int 130)) aNil))))) (eOp modD (eOp divD (eVar 1) (eC (.int 112))) (eC (.int 4))))) sNext) (sSeq (sAsg 3 [] (eOp addD (eC (.int 1)) (eOp modD (eOp divD (eVar 1) (eC (.int 112))) (eC (.int 5))))) (sSeq (sAsg 4 [] (eLc (iRange1 (eVar 2)) [5] (setN 5) cYes (eOp addD (eOp modD (eOp divD (eVar 1) (eC (.int 560))) (eC (.int 30))) (eOp mulD (eVar 3) (eVar 5))))) (sSeq (sIf (tB' (eOp eqD (eOp modD (eOp divD (eVar 1) (eC (.int 16800))) (eC (.int 2))) (eC (.int 1)))) (sRev 4) sNext) (sRet [] (eVar 4))))))))
def F__law_names : List D → R D := fnD 6 B__law_names
theorem dfn__law_names (T : Txt K mg) : DFn P w K mg base CX0 2 "_law_names" 1 F__law_names .fz :=
  have nd := sc__law_names.nd
  dfn_ok (N := N__law_names) (ps := ["_law_script"]) (k := 1) (fb := B__law_names) (ωp := [.fz]) (ωl := [.fz, .fz, .fz, (.own .fz), .fz]) (W := [1, 2, 3, 4]) T.h__law_names sc__law_names rfl rfl rfl rfl rfl rfl fun f cdv A outer s H E hr => ⟨_, [],
    (dss_cons (ds_set (i := 1) nd (de_call ((dfn__law_cell T).mono (by decide)) hr pass0 (da_cons (de_var 0) (da_cons de_int da_nil)))) (dss_cons (ds_set (i := 2) nd (de_mod (de_var 1) de_int)) (dss_cons (ds_if (dt_cmp (or_eq hr) od_eq (de_mod (de_div (de_var 1) de_int) de_int) de_int (nomark _)) (dss_one (ds_set (i := 2) nd (de_ix hr (de_frz (de_lst (da_cons de_int (da_cons de_int (da_cons de_int (da_cons de_int da_nil)))))) (de_mod (de_div (de_var 1) de_int) de_int)))) dss_nil) (dss_cons (ds_set (i := 3) nd (de_frz (de_add de_int (de_mod (de_div (de_var 1) de_int) de_int)))) (dss_cons (ds_setLcE (j := 4) (own := [("_law_j", 5)]) (i := 5) rfl nd rfl rfl (wipe_one _ _) (di_range1 T.n_range (de_var 2)) (blkOk_by (N := N__law_names) (sc := defScope s__law_names) (by decide +kernel)) (fun _ _ _ _ _ => pg_name (i := 5) nd rfl (Or.inl rfl)) (fun _ _ _ _ _ => ⟨_, dts_nil⟩) (fun _ _ _ _ _ => ⟨_, (de_frz (de_add (de_mod (de_div (de_var 1) de_int) de_int) (de_frz (de_mul (de_var 3) (de_var 5)))))⟩)) (dss_cons (ds_if (dt_cmp (or_eq hr) od_eq (de_mod (de_div (de_var 1) de_int) de_int) de_int (nomark _)) (dss_one (ds_rev (i := 4))) dss_nil) (dss_froze (.same (.same (.same (.same (.fz (.same Froze.nil)))))) (dss_one (ds_ret (de_var 4))))))))))⟩
theorem sc__law_values : FnScope N__law_values ["_law_script", "_law_k", "_law_many", "_law_names_here"] (defScope s__law_values) := ⟨rfl, rfl, rfl, by decide +kernel, rfl, by decide +kernel, by decide +kernel⟩
def B__law_values : Env → R Fl := (sRet [] (eCall tupleD (aCons (eLc (iRange1 (eVar 2)) [4] (setN 4) cYes (eCall (F__law_value) (aCons (eVar 0) (aCons (eOp addD (eVar 1) (eOp mulD (eC (.int 11)) (eVar 4))) (aCons (eVar 3) aNil))))) aNil)))
def F__law_values : List D → R D := fnD 5 B__law_values
theorem dfn__law_values (T : Txt K mg) : DFn P w K mg base CX0 4 "_law_values" 4 F__law_values .fz :=
  have nd := sc__law_values.nd
  dfn_ok (N := N__law_values) (ps := ["_law_script", "_law_k", "_law_many", "_law_names_here"]) (k := 3) (fb := B__law_values) (ωp := [.fz, .fz, .fz, .fz]) (ωl := [.fz]) (W := []) T.h__law_values sc__law_values rfl rfl rfl rfl rfl rfl fun f cdv A outer s H E hr => ⟨_, [],
    (dss_one (ds_ret (de_callTy cr_tup cd_tup T.n_tuple PyProof.Rows.boot_tuple (da_cons (de_frz (de_lcE (own := [("_law_j", 4)]) (i := 4) rfl nd rfl rfl (wipe_one _ _) (di_range1 T.n_range (de_var 2)) (blkOk_by (N := N__law_values) (sc := defScope s__law_values) (by decide +kernel)) (fun _ _ _ _ _ => pg_name (i := 4) nd rfl (Or.inl rfl)) (fun _ _ _ _ _ => ⟨_, dts_nil⟩) (fun _ _ _ _ _ => ⟨_, (de_call ((dfn__law_value T).mono (by decide)) hr pass0 (da_cons (de_var 0) (da_cons (de_frz (de_add (de_var 1) (de_frz (de_mul de_int (de_var 4))))) (da_cons (de_var 3) da_nil))))⟩))) da_nil))))⟩
theorem sc__law_frame : FnScope N__law_frame ["_law_script", "_law_k", "_law_program_here", "_law_names_here"] (defScope s__law_frame) := ⟨rfl, rfl, rfl, by decide +kernel, rfl, by decide +kernel, by decide +kernel⟩
def B__law_frame : Env → R Fl := (sSeq (sAsg 4 [] (eCall (F__law_cell) (aCons (eVar 0) (aCons (eVar 1) aNil)))) (sSeq (sAsg 5 [] (eOp modD (eVar 4) (eCall lenD (aCons (eVar 2) aNil)))) (sSeq (sAsg 6 [] (eCall (F__law_values) (aCons (eVar 0) (aCons (eOp addD (eVar 1) (eC (.int 1))) (aCons (eOp modD (eOp divD (eVar 4) (eC (.int 20))) (eC (.int 5))) (aCons (eVar 3) aNil)))))) (sSeq (sAsg 7 [] (eCall (F__law_values) (aCons (eVar 0) (aCons (eOp addD (eVar 1) (eC (.int 2))) (aCons (eOp modD (eOp divD (eVar 4) (eC (.int 100))) (eC (.int 5))) (aCons (eVar 3) aNil)))))) (sSeq (sIf (tB' (eOp eqD (eOp modD (eOp divD (eVar 4) (eC (.int 500))) (eC (.int 32))) (eC (.int 1)))) (sAsg 6 [] (eSl (eOp addD (eVar 6) (eCall (F__law_values) (aCons (eVar 0) (aCons (eOp addD (eVar 1) (eC (.int 5))) (aCons (eC (.int 60)) (aCons (eVar 3) aNil)))))) oNone (oSome (eC (.int 60))))) sNext) (sSeq (sIf (tB' (eOp eqD (eOp modD (eOp divD (eVar 4) (eC (.int 500))) (eC (.int 32))) (eC (.int 2)))) (sAsg 7 [] (eSl (eOp addD (eVar 7) (eCall (F__law_values) (aCons (eVar 0) (aCons (eOp addD (eVar 1) (eC (.int 5))) (aCons (eC (.int 60)) (aCons (eVar 3) aNil)))))) oNone (oSome (eC (.int 60))))) sNext) (sRet [] (eTup (aCons (eVar 5) (aCons (eOp modD (eOp divD (eVar 4) (eC (.int 16000))) (eOp addD (eCall lenD (aCons (eOp ixD (eVar 2) (eVar 5)) aNil)) (eC (.int 1)))) (aCons (eVar 6) (aCons (eVar 7) aNil))))))))))))
def F__law_frame : List D → R D := fnD 8 B__law_frame
theorem dfn__law_frame (T : Txt K mg) : DFn P w K mg base CX0 5 "_law_frame" 4 F__law_frame .fz :=
  have nd := sc__law_frame.nd
  dfn_ok (N := N__law_frame) (ps := ["_law_script", "_law_k", "_law_program_here", "_law_names_here"]) (k := 4) (fb := B__law_frame) (ωp := [.fz, .fz, .fz, .fz]) (ωl := [.fz, .fz, .fz, .fz]) (W := [4, 5, 6, 7]) T.h__law_frame sc__law_frame rfl rfl rfl rfl rfl rfl fun f cdv A outer s H E hr => ⟨_, [],
    (dss_cons (ds_set (i := 4) nd (de_call ((dfn__law_cell T).mono (by decide)) hr pass0 (da_cons (de_var 0) (da_cons (de_var 1) da_nil)))) (dss_cons (ds_set (i := 5) nd (de_mod (de_var 4) (de_callB cr_len cd_len T.n_len PySem.boot_len (da_cons (de_var 2) da_nil)))) (dss_cons (ds_set (i := 6) nd (de_call ((dfn__law_values T).mono (by decide)) hr pass0 (da_cons (de_var 0) (da_cons (de_frz (de_add (de_var 1) de_int)) (da_cons (de_mod (de_div (de_var 4) de_int) de_int) (da_cons (de_var 3) da_nil)))))) (dss_cons (ds_set (i := 7) nd (de_call ((dfn__law_values T).mono (by decide)) hr pass0 (da_cons (de_var 0) (da_cons (de_frz (de_add (de_var 1) de_int)) (da_cons (de_mod (de_div (de_var 4) de_int) de_int) (da_cons (de_var 3) da_nil)))))) (dss_cons (ds_if (dt_cmp (or_eq hr) od_eq (de_mod (de_div (de_var 4) de_int) de_int) de_int (nomark _)) (dss_one (ds_set (i := 6) nd (de_frz (de_slice (de_frz (de_add (de_var 6) (de_call ((dfn__law_values T).mono (by decide)) hr pass0 (da_cons (de_var 0) (da_cons (de_frz (de_add (de_var 1) de_int)) (da_cons de_int (da_cons (de_var 3) da_nil))))))) do_none (do_some de_int))))) dss_nil) (dss_cons (ds_if (dt_cmp (or_eq hr) od_eq (de_mod (de_div (de_var 4) de_int) de_int) de_int (nomark _)) (dss_one (ds_set (i := 7) nd (de_frz (de_slice (de_frz (de_add (de_var 7) (de_call ((dfn__law_values T).mono (by decide)) hr pass0 (da_cons (de_var 0) (da_cons (de_frz (de_add (de_var 1) de_int)) (da_cons de_int (da_cons (de_var 3) da_nil))))))) do_none (do_some de_int))))) dss_nil) (dss_one (ds_ret (de_tup (da_cons (de_var 5) (da_cons (de_mod (de_div (de_var 4) de_int) (de_frz (de_add (de_callB cr_len cd_len T.n_len PySem.boot_len (da_cons (de_ix hr (de_var 2) (de_var 5)) da_nil)) de_int))) (da_cons (de_var 6) (da_cons (de_var 7) da_nil)))))))))))))⟩
theorem sc__law_frames : FnScope N__law_frames ["_law_script", "_law_program_here", "_law_names_here"] (defScope s__law_frames) := ⟨rfl, rfl, rfl, by decide +kernel, rfl, by decide +kernel, by decide +kernel⟩
def B__law_frames : Env → R Fl := (sSeq (sAsg 3 [] (eCall (F__law_cell) (aCons (eVar 0) (aCons (eC (.int 2)) aNil)))) (sSeq (sAsg 4 [] (eOp addD (eC (.int 1)) (eOp modD (eVar 3) (eC (.int 3))))) (sSeq (sIf (tB' (eOp eqD (eOp modD (eOp divD (eVar 3) (eC (.int 3))) (eC (.int 16))) (eC (.int 1)))) (sAsg 4 [] (eOp addD (eC (.int 59)) (eOp modD (eOp divD (eVar 3) (eC (.int 48))) (eC (.int 2))))) sNext) (sRet [] (eLc (iRange1 (eVar 4)) [5] (setN 5) cYes (eCall (F__law_frame) (aCons (eVar 0) (aCons (eOp addD (eC (.int 500)) (eOp mulD (eC (.int 13)) (eVar 5))) (aCons (eVar 1) (aCons (eVar 2) aNil))))))))))
def F__law_frames : List D → R D := fnD 6 B__law_frames
theorem dfn__law_frames (T : Txt K mg) : DFn P w K mg base CX0 6 "_law_frames" 3 F__law_frames (.own .fz) :=
  have nd := sc__law_frames.nd
  dfn_ok (N := N__law_frames) (ps := ["_law_script", "_law_program_here", "_law_names_here"]) (k := 5) (fb := B__law_frames) (ωp := [.fz, .fz, .fz]) (ωl := [.fz, .fz, .fz]) (W := [3, 4]) T.h__law_frames sc__law_frames rfl rfl rfl rfl rfl rfl fun f cdv A outer s H E hr => ⟨_, [],
    (dss_cons (ds_set (i := 3) nd (de_call ((dfn__law_cell T).mono (by decide)) hr pass0 (da_cons (de_var 0) (da_cons de_int da_nil)))) (dss_cons (ds_set (i := 4) nd (de_frz (de_add de_int (de_mod (de_var 3) de_int)))) (dss_cons (ds_if (dt_cmp (or_eq hr) od_eq (de_mod (de_div (de_var 3) de_int) de_int) de_int (nomark _)) (dss_one (ds_set (i := 4) nd (de_frz (de_add de_int (de_mod (de_div (de_var 3) de_int) de_int))))) dss_nil) (dss_one (ds_ret (de_lcE (own := [("_law_j", 5)]) (i := 5) rfl nd rfl rfl (wipe_one _ _) (di_range1 T.n_range (de_var 4)) (blkOk_by (N := N__law_frames) (sc := defScope s__law_frames) (by decide +kernel)) (fun _ _ _ _ _ => pg_name (i := 5) nd rfl (Or.inl rfl)) (fun _ _ _ _ _ => ⟨_, dts_nil⟩) (fun _ _ _ _ _ => ⟨_, (de_call ((dfn__law_frame T).mono (by decide)) hr pass0 (da_cons (de_var 0) (da_cons (de_frz (de_add de_int (de_frz (de_mul de_int (de_var 5))))) (da_cons (de_var 1) (da_cons (de_var 2) da_nil)))))⟩)))))))⟩
theorem sc__law_things : FnScope N__law_things ["_law_script", "_law_names_here", "_law_bodies"] (defScope s__law_things) := ⟨rfl, rfl, rfl, by decide +kernel, rfl, by decide +kernel, by decide +kernel⟩
def B__law_things : Env → R Fl := (sSeq (sAsg 3 [] (eC (.dic []))) (sSeq (sFor (iRange1 (eCall lenD (aCons (eVar 1) aNil))) (setN 4) (sSeq (sAsg 5 [] (eCall (F__law_cell) (aCons (eVar 0) (aCons (eOp addD (eC (.int 100)) (eVar 4)) aNil)))) (sIf (tB' (eOp eqD (eOp modD (eVar 5) (eC (.int 2))) (eC (.int 0)))) (sPut 3 (eOp ixD (eVar 1) (eVar 4)) (eTup (aCons (eC (.str w_box)) (aCons (eCall (F__law_value) (aCons (eVar 0) (aCons (eOp addD (eC (.int 200)) (eVar 4)) (aCons (eVar 1) aNil)))) aNil)))) (sSeq (sAsg 6 [] (eCall (F__law_values) (aCons (eVar 0) (aCons (eOp addD (eC (.int 300)) (eOp mulD (eC (.int 5)) (eVar 4))) (aCons (eOp modD (eOp divD (eVar 5) (eC (.int 2))) (eC (.int 9))) (aCons (eVar 1) aNil)))))) (sPut 3 (eOp ixD (eVar 1) (eVar 4)) (eTup (aCons (eC (.str w_fun)) (aCons (eOp modD (eOp divD (eVar 5) (eC (.int 18))) (eVar 2)) (aCons (eVar 6) aNil))))))))) (sRet [3] (eVar 3))))
def F__law_things : List D → R D := fnD 7 B__law_things
theorem dfn__law_things (T : Txt K mg) : DFn P w K mg base CX0 5 "_law_things" 3 F__law_things (.own .fz) :=
  have nd := sc__law_things.nd
  dfn_ok (N := N__law_things) (ps := ["_law_script", "_law_names_here", "_law_bodies"]) (k := 4) (fb := B__law_things) (ωp := [.fz, .fz, .fz]) (ωl := [(.own .fz), .fz, .fz, .fz]) (W := [3, 4, 5, 6]) T.h__law_things sc__law_things rfl rfl rfl rfl rfl rfl fun f cdv A outer s H E hr => ⟨_, [],
    (dss_cons (ds_set (i := 3) nd de_dic0) (dss_cons (ds_for PassesOwn.never rfl (di_range1 T.n_range (de_callB cr_len cd_len T.n_len PySem.boot_len (da_cons (de_var 1) da_nil))) (dg_name (i := 4) nd) (dss_cons (ds_set (i := 5) nd (de_call ((dfn__law_cell T).mono (by decide)) hr pass0 (da_cons (de_var 0) (da_cons (de_frz (de_add de_int (de_var 4))) da_nil)))) (dss_one (ds_if (dt_cmp (or_eq hr) od_eq (de_mod (de_var 5) de_int) de_int (nomark _)) (dss_one (ds_put (i := 3) hr (de_ix hr (de_var 1) (de_var 4)) (de_tup (da_cons de_str (da_cons (de_call ((dfn__law_value T).mono (by decide)) hr pass0 (da_cons (de_var 0) (da_cons (de_frz (de_add de_int (de_var 4))) (da_cons (de_var 1) da_nil)))) da_nil))))) (dss_cons (ds_set (i := 6) nd (de_call ((dfn__law_values T).mono (by decide)) hr pass0 (da_cons (de_var 0) (da_cons (de_frz (de_add de_int (de_frz (de_mul de_int (de_var 4))))) (da_cons (de_mod (de_div (de_var 5) de_int) de_int) (da_cons (de_var 1) da_nil)))))) (dss_one (ds_put (i := 3) hr (de_ix hr (de_var 1) (de_var 4)) (de_tup (da_cons de_str (da_cons (de_mod (de_div (de_var 5) de_int) (de_var 2)) (da_cons (de_var 6) da_nil))))))))))) (dss_one (ds_ret (de_move 3)))))⟩
theorem sc__law_state : FnScope N__law_state ["_law_script", "_law_program_here"] (defScope s__law_state) := ⟨rfl, rfl, rfl, by decide +kernel, rfl, by decide +kernel, by decide +kernel⟩
def B__law_state : Env → R Fl := (sSeq (sAsg 2 [] (eCall (F__law_names) (aCons (eVar 0) aNil))) (sRet [] (eTup (aCons (eC .non) (aCons (eCall (F__law_frames) (aCons (eVar 0) (aCons (eVar 1) (aCons (eVar 2) aNil)))) (aCons (eCall (F__law_things) (aCons (eVar 0) (aCons (eVar 2) (aCons (eCall lenD (aCons (eVar 1) aNil)) aNil)))) aNil))))))
def F__law_state : List D → R D := fnD 3 B__law_state
theorem dfn__law_state (T : Txt K mg) : DFn P w K mg base CX0 7 "_law_state" 2 F__law_state (.tup [.fz, (.own .fz), (.own .fz)]) :=
  have nd := sc__law_state.nd
  dfn_ok (N := N__law_state) (ps := ["_law_script", "_law_program_here"]) (k := 6) (fb := B__law_state) (ωp := [.fz, .fz]) (ωl := [.fz]) (W := [2]) T.h__law_state sc__law_state rfl rfl rfl rfl rfl rfl fun f cdv A outer s H E hr => ⟨_, [],
    (dss_cons (ds_set (i := 2) nd (de_call ((dfn__law_names T).mono (by decide)) hr pass0 (da_cons (de_var 0) da_nil))) (dss_one (ds_ret (de_tupO (da_cons de_non (da_cons (de_call ((dfn__law_frames T).mono (by decide)) hr pass0 (da_cons (de_var 0) (da_cons (de_var 1) (da_cons (de_var 2) da_nil)))) (da_cons (de_call ((dfn__law_things T).mono (by decide)) hr pass0 (da_cons (de_var 0) (da_cons (de_var 2) (da_cons (de_callB cr_len cd_len T.n_len PySem.boot_len (da_cons (de_var 1) da_nil)) da_nil)))) da_nil)))))))⟩
theorem sc__law_more : FnScope N__law_more ["_law_script", "_law_state_here"] (defScope s__law_more) := ⟨rfl, rfl, rfl, by decide +kernel, rfl, by decide +kernel, by decide +kernel⟩
def B__law_more : Env → R Fl := (sSeq (sAsg 2 [] (eCall (F__law_cell) (aCons (eVar 0) (aCons (eC (.int 17)) aNil)))) (sSeq (sAsg 3 [] (eCall dictD (aCons (eOp ixD (eVar 1) (eC (.int 2))) aNil))) (sSeq (sFor (iRange1 (eOp addD (eC (.int 1)) (eOp modD (eOp divD (eVar 2) (eC (.int 2))) (eC (.int 3))))) (setN 4) (sSeq (sAsg 5 [] (eOp addD (eOp addD (eOp maxDf (eChk (.own .fz) (eCall listD (aCons (eVar 3) aNil))) (eUn negD (eC (.int 1)))) (eC (.int 1))) (eOp modD (eOp divD (eVar 2) (eC (.int 6))) (eC (.int 5))))) (sPut 3 (eVar 5) (eTup (aCons (eC (.str w_box)) (aCons (eCall (F__law_value) (aCons (eVar 0) (aCons (eOp addD (eC (.int 60)) (eVar 4)) (aCons (eChk (.own .fz) (eCall listD (aCons (eVar 3) aNil))) aNil)))) aNil)))))) (sRet [] (eTup (aCons (eOp ixD (eVar 1) (eC (.int 0))) (aCons (eOp ixD (eVar 1) (eC (.int 1))) (aCons (eVar 3) aNil))))))))
def F__law_more : List D → R D := fnD 6 B__law_more
theorem dfn__law_more (T : Txt K mg) : DFn P w K mg base CX0 4 "_law_more" 2 F__law_more .fz :=
  have nd := sc__law_more.nd
  dfn_ok (N := N__law_more) (ps := ["_law_script", "_law_state_here"]) (k := 3) (fb := B__law_more) (ωp := [.fz, .fz]) (ωl := [.fz, (.own .fz), .fz, .fz]) (W := [2, 3, 4, 5]) T.h__law_more sc__law_more rfl rfl rfl rfl rfl rfl fun f cdv A outer s H E hr => ⟨_, [],
    (dss_cons (ds_set (i := 2) nd (de_call ((dfn__law_cell T).mono (by decide)) hr pass0 (da_cons (de_var 0) (da_cons de_int da_nil)))) (dss_cons (ds_set (i := 3) nd (de_callTy (cr_dict rfl) cd_dict T.n_dict PyProof.Rows.boot_dict (da_cons (de_ix hr (de_var 1) de_int) da_nil))) (dss_cons (ds_for PassesOwn.never rfl (di_range1 T.n_range (de_frz (de_add de_int (de_mod (de_div (de_var 2) de_int) de_int)))) (dg_name (i := 4) nd) (dss_cons (ds_set (i := 5) nd (de_frz (de_add (de_frz (de_add (de_maxDf rfl hr T.n_max (de_frz (de_chk (de_callTy (cr_list rfl) cd_list T.n_list PyProof.Rows.boot_list (da_cons (de_var 3) da_nil)))) (de_neg de_int)) de_int)) (de_mod (de_div (de_var 2) de_int) de_int)))) (dss_one (ds_put (i := 3) hr (de_var 5) (de_tup (da_cons de_str (da_cons (de_call ((dfn__law_value T).mono (by decide)) hr pass0 (da_cons (de_var 0) (da_cons (de_frz (de_add de_int (de_var 4))) (da_cons (de_frz (de_chk (de_callTy (cr_list rfl) cd_list T.n_list PyProof.Rows.boot_list (da_cons (de_var 3) da_nil)))) da_nil)))) da_nil))))))) (dss_froze (.same (.same (.same (.fz (.same (.same Froze.nil)))))) (dss_one (ds_ret (de_tup (da_cons (de_ix hr (de_var 1) de_int) (da_cons (de_ix hr (de_var 1) de_int) (da_cons (de_var 3) da_nil))))))))))⟩
theorem sc__law_bent_frame : FnScope N__law_bent_frame ["_law_frame_here", "_law_cell_here", "_law_value_here"] (defScope s__law_bent_frame) := ⟨rfl, rfl, rfl, by decide +kernel, rfl, by decide +kernel, by decide +kernel⟩
def B__law_bent_frame : Env → R Fl := (sSeq (sAsgG (setT [3, 4, 5, 6]) (eVar 0)) (sSeq (sIf (eAndT (tB' (eOp eqD (eOp modD (eVar 1) (eC (.int 4))) (eC (.int 0)))) (tB' (eOp neD (eVar 5) (eTup aNil)))) (sSeq (sAsg 7 [] (eOp modD (eOp divD (eVar 1) (eC (.int 4))) (eCall lenD (aCons (eVar 5) aNil)))) (sAsg 5 [] (eOp addD (eOp addD (eSl (eVar 5) oNone (oSome (eVar 7))) (eTup (aCons (eVar 2) aNil))) (eSl (eVar 5) (oSome (eOp addD (eVar 7) (eC (.int 1)))) oNone)))) (sIf (eAndT (tB' (eOp eqD (eOp modD (eVar 1) (eC (.int 4))) (eC (.int 1)))) (tB' (eOp ltD (eCall lenD (aCons (eVar 6) aNil)) (eC (.int 60))))) (sAsg 6 [] (eOp addD (eVar 6) (eTup (aCons (eVar 2) aNil)))) (sIf (tB' (eOp eqD (eOp modD (eVar 1) (eC (.int 4))) (eC (.int 2)))) (sAsg 4 [] (eOp modD (eOp addD (eVar 4) (eC (.int 1))) (eC (.int 61)))) (sPar 5 6 (aCons (eVar 6) (aCons (eVar 5) aNil)))))) (sRet [] (eTup (aCons (eVar 3) (aCons (eVar 4) (aCons (eVar 5) (aCons (eVar 6) aNil))))))))
def F__law_bent_frame : List D → R D := fnD 8 B__law_bent_frame
theorem dfn__law_bent_frame (T : Txt K mg) : DFn P w K mg base CX0 1 "_law_bent_frame" 3 F__law_bent_frame .fz :=
  have nd := sc__law_bent_frame.nd
  dfn_ok (N := N__law_bent_frame) (ps := ["_law_frame_here", "_law_cell_here", "_law_value_here"]) (k := 0) (fb := B__law_bent_frame) (ωp := [.fz, .fz, .fz]) (ωl := [.fz, .fz, .fz, .fz, .fz]) (W := [3, 4, 5, 6, 7]) T.h__law_bent_frame sc__law_bent_frame rfl rfl rfl rfl rfl rfl fun f cdv A outer s H E hr => ⟨_, [],
    (dss_cons (ds_asgG (de_var 0) (dg_tup rfl (dgs_cons (i := 3) nd (dgs_cons (i := 4) nd (dgs_cons (i := 5) nd (dgs_cons (i := 6) nd dgs_nil)))))) (dss_cons (ds_if (dt_of (dw_and (dt_cmp (or_eq hr) od_eq (de_mod (de_var 1) de_int) de_int (nomark _)) (dw_and1 (dt_cmp (or_ne hr) od_ne (de_var 5) (de_tup da_nil) (nomark _))))) (dss_cons (ds_set (i := 7) nd (de_mod (de_div (de_var 1) de_int) (de_callB cr_len cd_len T.n_len PySem.boot_len (da_cons (de_var 5) da_nil)))) (dss_one (ds_set (i := 5) nd (de_frz (de_add (de_frz (de_add (de_frz (de_slice (de_var 5) do_none (do_some (de_var 7)))) (de_tup (da_cons (de_var 2) da_nil)))) (de_frz (de_slice (de_var 5) (do_some (de_frz (de_add (de_var 7) de_int))) do_none))))))) (dss_one (ds_if (dt_of (dw_and (dt_cmp (or_eq hr) od_eq (de_mod (de_var 1) de_int) de_int (nomark _)) (dw_and1 (dt_cmp op_lt od_lt (de_callB cr_len cd_len T.n_len PySem.boot_len (da_cons (de_var 6) da_nil)) de_int (nomark _))))) (dss_one (ds_set (i := 6) nd (de_frz (de_add (de_var 6) (de_tup (da_cons (de_var 2) da_nil)))))) (dss_one (ds_if (dt_cmp (or_eq hr) od_eq (de_mod (de_var 1) de_int) de_int (nomark _)) (dss_one (ds_set (i := 4) nd (de_mod (de_frz (de_add (de_var 4) de_int)) de_int))) (dss_one (ds_par (i := 5) (j := 6) rfl nd (da_cons (de_var 6) (da_cons (de_var 5) da_nil))))))))) (dss_one (ds_ret (de_tup (da_cons (de_var 3) (da_cons (de_var 4) (da_cons (de_var 5) (da_cons (de_var 6) da_nil)))))))))⟩
theorem sc__law_bent : FnScope N__law_bent ["_law_script", "_law_state_here"] (defScope s__law_bent) := ⟨rfl, rfl, rfl, by decide +kernel, rfl, by decide +kernel, by decide +kernel⟩
def B__law_bent : Env → R Fl := (sSeq (sAsg 2 [] (eCall (F__law_cell) (aCons (eVar 0) (aCons (eC (.int 18)) aNil)))) (sSeq (sAsg 3 [] (eCall listD (aCons (eOp ixD (eVar 1) (eC (.int 2))) aNil))) (sSeq (sAsg 4 [] (eCall (F__law_value) (aCons (eVar 0) (aCons (eC (.int 65)) (aCons (eVar 3) aNil))))) (sSeq (sAsg 5 [] (eCall listD (aCons (eOp ixD (eVar 1) (eC (.int 1))) aNil))) (sSeq (sAsg 6 [] (eCall dictD (aCons (eOp ixD (eVar 1) (eC (.int 2))) aNil))) (sSeq (sAsg 7 [] (eOp ixD (eVar 1) (eC (.int 0)))) (sSeq (sIf (eAndT (tB' (eOp eqD (eOp modD (eOp divD (eVar 2) (eC (.int 2))) (eC (.int 3))) (eC (.int 0)))) (tB' (eOp neD (eVar 5) (eLst aNil)))) (sSeq (sAsg 8 [] (eOp modD (eOp divD (eVar 2) (eC (.int 6))) (eLook (eCall lenD (aCons (eVar 5) aNil))))) (sPut 5 (eVar 8) (eCall (F__law_bent_frame) (aCons (eIxV 5 (eVar 8)) (aCons (eOp divD (eVar 2) (eC (.int 360))) (aCons (eVar 4) aNil)))))) (sIf (eAndT (tB' (eOp eqD (eOp modD (eOp divD (eVar 2) (eC (.int 2))) (eC (.int 3))) (eC (.int 1)))) (tB' (eOp neD (eVar 3) (eLst aNil)))) (sSeq (sAsg 9 [] (eOp ixD (eVar 3) (eOp modD (eOp divD (eVar 2) (eC (.int 6))) (eCall lenD (aCons (eVar 3) aNil))))) (sPut 6 (eVar 9) (eOp ixD (eLst (aCons (eTup (aCons (eC (.str w_box)) (aCons (eVar 4) aNil))) (aCons (eTup (aCons (eC (.str w_fun)) (aCons (eOp modD (eOp divD (eVar 2) (eC (.int 360))) (eC (.int 2))) (aCons (eTup (aCons (eVar 4) aNil)) aNil)))) aNil))) (eOp modD (eOp divD (eVar 2) (eC (.int 720))) (eC (.int 2)))))) (sIf (eAndT (tB' (eOp isNotD (eVar 7) (eC .non))) (tB' (eOp eqD (eOp ixD (eVar 7) (eC (.int 0))) (eC (.str w_done))))) (sAsg 7 [] (eTup (aCons (eC (.str w_done)) (aCons (eVar 4) aNil)))) (sIf (tB' (eOp isNotD (eVar 7) (eC .non))) (sAsg 7 [] (eTup (aCons (eC (.str w_stuck)) (aCons (eOp ixD (eLst (aCons (eC (.str w_end)) (aCons (eC (.str w_own)) aNil))) (eOp modD (eOp divD (eVar 2) (eC (.int 6))) (eC (.int 2)))) aNil)))) sNext)))) (sRet [] (eTup (aCons (eVar 7) (aCons (eVar 5) (aCons (eVar 6) aNil))))))))))))
def F__law_bent : List D → R D := fnD 10 B__law_bent
theorem dfn__law_bent (T : Txt K mg) : DFn P w K mg base CX0 4 "_law_bent" 2 F__law_bent .fz :=
  have nd := sc__law_bent.nd
  dfn_ok (N := N__law_bent) (ps := ["_law_script", "_law_state_here"]) (k := 3) (fb := B__law_bent) (ωp := [.fz, .fz]) (ωl := [.fz, .fz, .fz, (.own .fz), (.own .fz), .fz, .fz, .fz]) (W := [2, 3, 4, 5, 6, 7, 8, 9]) T.h__law_bent sc__law_bent rfl rfl rfl rfl rfl rfl fun f cdv A outer s H E hr => ⟨_, [],
    (dss_cons (ds_set (i := 2) nd (de_call ((dfn__law_cell T).mono (by decide)) hr pass0 (da_cons (de_var 0) (da_cons de_int da_nil)))) (dss_cons (ds_set (i := 3) nd (de_frz (de_callTy (cr_list rfl) cd_list T.n_list PyProof.Rows.boot_list (da_cons (de_ix hr (de_var 1) de_int) da_nil)))) (dss_cons (ds_set (i := 4) nd (de_call ((dfn__law_value T).mono (by decide)) hr pass0 (da_cons (de_var 0) (da_cons de_int (da_cons (de_var 3) da_nil))))) (dss_cons (ds_set (i := 5) nd (de_callTy (cr_list rfl) cd_list T.n_list PyProof.Rows.boot_list (da_cons (de_ix hr (de_var 1) de_int) da_nil))) (dss_cons (ds_set (i := 6) nd (de_callTy (cr_dict rfl) cd_dict T.n_dict PyProof.Rows.boot_dict (da_cons (de_ix hr (de_var 1) de_int) da_nil))) (dss_cons (ds_set (i := 7) nd (de_ix hr (de_var 1) de_int)) (dss_cons (ds_if (dt_look (dt_of (dw_and (dt_cmp (or_eq hr) od_eq (de_mod (de_div (de_var 2) de_int) de_int) de_int (nomark _)) (dw_and1 (dt_cmp (or_ne hr) od_ne (de_var 5) (de_frz (de_lst da_nil)) (nomark _)))))) (dss_cons (ds_set (i := 8) nd (de_mod (de_div (de_var 2) de_int) (de_look (de_callB cr_len cd_len T.n_len PySem.boot_len (da_cons (de_var 5) da_nil))))) (dss_one (ds_put (i := 5) hr (de_var 8) (de_call ((dfn__law_bent_frame T).mono (by decide)) hr pass0 (da_cons (de_ixV (i := 5) hr (de_var 8)) (da_cons (de_div (de_var 2) de_int) (da_cons (de_var 4) da_nil))))))) (dss_one (ds_if (dt_of (dw_and (dt_cmp (or_eq hr) od_eq (de_mod (de_div (de_var 2) de_int) de_int) de_int (nomark _)) (dw_and1 (dt_cmp (or_ne hr) od_ne (de_var 3) (de_frz (de_lst da_nil)) (nomark _))))) (dss_cons (ds_set (i := 9) nd (de_ix hr (de_var 3) (de_mod (de_div (de_var 2) de_int) (de_callB cr_len cd_len T.n_len PySem.boot_len (da_cons (de_var 3) da_nil))))) (dss_one (ds_put (i := 6) hr (de_var 9) (de_ix hr (de_frz (de_lst (da_cons (de_tup (da_cons de_str (da_cons (de_var 4) da_nil))) (da_cons (de_tup (da_cons de_str (da_cons (de_mod (de_div (de_var 2) de_int) de_int) (da_cons (de_tup (da_cons (de_var 4) da_nil)) da_nil)))) da_nil)))) (de_mod (de_div (de_var 2) de_int) de_int))))) (dss_one (ds_if (dt_of (dw_and (dt_cmp op_notN od_isNot (de_var 7) de_non (nomark _)) (dw_and1 (dt_cmp (or_eq hr) od_eq (de_ix hr (de_var 7) de_int) de_str (nomark _))))) (dss_one (ds_set (i := 7) nd (de_tup (da_cons de_str (da_cons (de_var 4) da_nil))))) (dss_one (ds_if (dt_cmp op_notN od_isNot (de_var 7) de_non (nomark _)) (dss_one (ds_set (i := 7) nd (de_tup (da_cons de_str (da_cons (de_ix hr (de_frz (de_lst (da_cons de_str (da_cons de_str da_nil)))) (de_mod (de_div (de_var 2) de_int) de_int)) da_nil))))) dss_nil))))))) (dss_froze (.same (.same (.same (.same (.same (.fz (.fz (.same (.same (.same Froze.nil)))))))))) (dss_one (ds_ret (de_tup (da_cons (de_var 7) (da_cons (de_var 5) (da_cons (de_var 6) da_nil))))))))))))))⟩
theorem sc__law_copy : FnScope N__law_copy ["_law_state_here"] (defScope s__law_copy) := ⟨rfl, rfl, rfl, by decide +kernel, rfl, by decide +kernel, by decide +kernel⟩
def B__law_copy : Env → R Fl := (sRet [] (eTup (aCons (eOp ixD (eVar 0) (eC (.int 0))) (aCons (eCall listD (aCons (eOp ixD (eVar 0) (eC (.int 1))) aNil)) (aCons (eCall dictD (aCons (eOp ixD (eVar 0) (eC (.int 2))) aNil)) aNil)))))
def F__law_copy : List D → R D := fnD 1 B__law_copy
theorem dfn__law_copy (T : Txt K mg) : DFn P w K mg base CX0 1 "_law_copy" 1 F__law_copy .fz :=
  have nd := sc__law_copy.nd
  dfn_ok (N := N__law_copy) (ps := ["_law_state_here"]) (k := 0) (fb := B__law_copy) (ωp := [.fz]) (ωl := []) (W := []) T.h__law_copy sc__law_copy rfl rfl rfl rfl rfl rfl fun f cdv A outer s H E hr => ⟨_, [],
    (dss_one (ds_ret (de_tup (da_cons (de_ix hr (de_var 0) de_int) (da_cons (de_frz (de_callTy (cr_list rfl) cd_list T.n_list PyProof.Rows.boot_list (da_cons (de_ix hr (de_var 0) de_int) da_nil))) (da_cons (de_frz (de_callTy (cr_dict rfl) cd_dict T.n_dict PyProof.Rows.boot_dict (da_cons (de_ix hr (de_var 0) de_int) da_nil))) da_nil))))))⟩
theorem sc__law_inner : FnScope N__law_inner ["_law_thing"] (defScope s__law_inner) := ⟨rfl, rfl, rfl, by decide +kernel, rfl, by decide +kernel, by decide +kernel⟩
def B__law_inner : Env → R Fl := (sSeq (sIf (tB' (eOp eqD (eOp ixD (eVar 0) (eC (.int 0))) (eC (.str w_box)))) (sRet [] (eLst (aCons (eOp ixD (eVar 0) (eC (.int 1))) aNil))) sNext) (sRet [] (eCall listD (aCons (eOp ixD (eVar 0) (eC (.int 2))) aNil))))
def F__law_inner : List D → R D := fnD 1 B__law_inner
theorem dfn__law_inner (T : Txt K mg) : DFn P w K mg base CX0 1 "_law_inner" 1 F__law_inner .fz :=
  have nd := sc__law_inner.nd
  dfn_ok (N := N__law_inner) (ps := ["_law_thing"]) (k := 0) (fb := B__law_inner) (ωp := [.fz]) (ωl := []) (W := []) T.h__law_inner sc__law_inner rfl rfl rfl rfl rfl rfl fun f cdv A outer s H E hr => ⟨_, [],
    (dss_cons (ds_if (dt_cmp (or_eq hr) od_eq (de_ix hr (de_var 0) de_int) de_str (nomark _)) (dss_one (ds_ret (de_frz (de_lst (da_cons (de_ix hr (de_var 0) de_int) da_nil))))) dss_nil) (dss_one (ds_ret (de_frz (de_callTy (cr_list rfl) cd_list T.n_list PyProof.Rows.boot_list (da_cons (de_ix hr (de_var 0) de_int) da_nil))))))⟩
theorem sc__law_met : FnScope N__law_met ["_law_state_here"] (defScope s__law_met) := ⟨rfl, rfl, rfl, by decide +kernel, rfl, by decide +kernel, by decide +kernel⟩
def B__law_met : Env → R Fl := (sSeq (sAsg 1 [] (eLst aNil)) (sSeq (sIf (eAndT (tB' (eOp isNotD (eOp ixD (eVar 0) (eC (.int 0))) (eC .non))) (tB' (eOp eqD (eOp ixD (eOp ixD (eVar 0) (eC (.int 0))) (eC (.int 0))) (eC (.str w_done))))) (sAsg 1 [] (eLst (aCons (eOp ixD (eOp ixD (eVar 0) (eC (.int 0))) (eC (.int 1))) aNil))) sNext) (sSeq (sFor (iWalk (eOp ixD (eVar 0) (eC (.int 1)))) (setN 2) (sAsg 1 [] (eOp addD (eOp addD (eVar 1) (eCall listD (aCons (eOp ixD (eVar 2) (eC (.int 2))) aNil))) (eCall listD (aCons (eOp ixD (eVar 2) (eC (.int 3))) aNil))))) (sSeq (sAsg 3 [] (eLst aNil)) (sSeq (sWhile 100000 (tB' (eOp neD (eVar 1) (eLst aNil))) (sSeq (sAsg 4 [] (eOp ixD (eVar 1) (eC (.int 0)))) (sSeq (sAsg 1 [] (eSl (eVar 1) (oSome (eC (.int 1))) oNone)) (sIf (eAndT (tB' (eUn (isiD "tuple") (eVar 4))) (tB' (eOp notInD (eOp ixD (eVar 4) (eC (.int 1))) (eVar 3)))) (sSeq (sApp 3 (eOp ixD (eVar 4) (eC (.int 1)))) (sAsg 1 [] (eOp addD (eVar 1) (eCall (F__law_inner) (aCons (eOp ixD (eOp ixD (eVar 0) (eC (.int 2))) (eOp ixD (eVar 4) (eC (.int 1)))) aNil))))) sNext)))) (sRet [] (eVar 3)))))))
def F__law_met : List D → R D := fnD 5 B__law_met
theorem dfn__law_met (T : Txt K mg) : DFn P w K mg base CX0 2 "_law_met" 1 F__law_met .fz :=
  have nd := sc__law_met.nd
  dfn_ok (N := N__law_met) (ps := ["_law_state_here"]) (k := 1) (fb := B__law_met) (ωp := [.fz]) (ωl := [.fz, .fz, (.own .fz), .fz]) (W := [1, 2, 3, 4]) T.h__law_met sc__law_met rfl rfl rfl rfl rfl rfl fun f cdv A outer s H E hr => ⟨_, [],
    (dss_cons (ds_set (i := 1) nd (de_frz (de_lst da_nil))) (dss_cons (ds_if (dt_of (dw_and (dt_cmp op_notN od_isNot (de_ix hr (de_var 0) de_int) de_non (nomark _)) (dw_and1 (dt_cmp (or_eq hr) od_eq (de_ix hr (de_ix hr (de_var 0) de_int) de_int) de_str (nomark _))))) (dss_one (ds_set (i := 1) nd (de_frz (de_lst (da_cons (de_ix hr (de_ix hr (de_var 0) de_int) de_int) da_nil))))) dss_nil) (dss_cons (ds_for PassesOwn.never rfl (di_any (de_ix hr (de_var 0) de_int)) (dg_name (i := 2) nd) (dss_one (ds_set (i := 1) nd (de_frz (de_add (de_frz (de_add (de_var 1) (de_frz (de_callTy (cr_list rfl) cd_list T.n_list PyProof.Rows.boot_list (da_cons (de_ix hr (de_var 2) de_int) da_nil))))) (de_frz (de_callTy (cr_list rfl) cd_list T.n_list PyProof.Rows.boot_list (da_cons (de_ix hr (de_var 2) de_int) da_nil)))))))) (dss_cons (ds_set (i := 3) nd (de_lst da_nil)) (dss_cons (ds_while 100000 PassesOwn.never (dt_cmp (or_ne hr) od_ne (de_var 1) (de_frz (de_lst da_nil)) (nomark _)) (dss_cons (ds_set (i := 4) nd (de_ix hr (de_var 1) de_int)) (dss_cons (ds_set (i := 1) nd (de_frz (de_slice (de_var 1) (do_some de_int) do_none))) (dss_one (ds_if (dt_look (dt_of (dw_and (dt_val (de_isi kit_tuple T.n_isinstance T.n_tuple PyProof.Rows.boot_tuple (de_var 4))) (dw_and1 (dt_cmp (or_notIn hr) od_notIn (de_ix hr (de_var 4) de_int) (de_var 3) rfl))))) (dss_cons (ds_app (i := 3) (de_ix hr (de_var 4) de_int)) (dss_one (ds_set (i := 1) nd (de_frz (de_add (de_var 1) (de_call ((dfn__law_inner T).mono (by decide)) hr pass0 (da_cons (de_ix hr (de_ix hr (de_var 0) de_int) (de_ix hr (de_var 4) de_int)) da_nil))))))) dss_nil))))) (dss_froze (.same (.same (.same (.fz (.same Froze.nil))))) (dss_one (ds_ret (de_var 3)))))))))⟩
theorem sc__law_word : FnScope N__law_word ["_law_value_here", "_law_order"] (defScope s__law_word) := ⟨rfl, rfl, rfl, by decide +kernel, rfl, by decide +kernel, by decide +kernel⟩
def B__law_word : Env → R Fl := (sSeq (sIf (tB' (eUn (isiD "tuple") (eVar 0))) (sRet [] (eOp addD (eC (.str w__40_)) (eCall strD (aCons (eIndexF (eVar 1) (eOp ixD (eVar 0) (eC (.int 1)))) aNil)))) sNext) (sRet [] (eCall strD (aCons (eVar 0) aNil))))
def F__law_word : List D → R D := fnD 2 B__law_word
theorem dfn__law_word (T : Txt K mg) : DFn P w K mg base CX0 1 "_law_word" 2 F__law_word .fz :=
  have nd := sc__law_word.nd
  dfn_ok (N := N__law_word) (ps := ["_law_value_here", "_law_order"]) (k := 0) (fb := B__law_word) (ωp := [.fz, .fz]) (ωl := []) (W := []) T.h__law_word sc__law_word rfl rfl rfl rfl rfl rfl fun f cdv A outer s H E hr => ⟨_, [],
    (dss_cons (ds_if (dt_val (de_isi kit_tuple T.n_isinstance T.n_tuple PyProof.Rows.boot_tuple (de_var 0))) (dss_one (ds_ret (de_frz (de_add de_str (de_callTy cr_str cd_str T.n_str PyProof.Rows.boot_str (da_cons (de_indexF (de_var 1) (de_ix hr (de_var 0) de_int)) da_nil)))))) dss_nil) (dss_one (ds_ret (de_callTy cr_str cd_str T.n_str PyProof.Rows.boot_str (da_cons (de_var 0) da_nil)))))⟩
theorem sc__law_list : FnScope N__law_list ["_law_values_here", "_law_order"] (defScope s__law_list) := ⟨rfl, rfl, rfl, by decide +kernel, rfl, by decide +kernel, by decide +kernel⟩
def B__law_list : Env → R Fl := (sRet [] (eOp addD (eLst (aCons (eCall strD (aCons (eCall lenD (aCons (eVar 0) aNil)) aNil)) aNil)) (eLc (iWalk (eVar 0)) [2] (setN 2) cYes (eCall (F__law_word) (aCons (eVar 2) (aCons (eVar 1) aNil))))))
def F__law_list : List D → R D := fnD 3 B__law_list
theorem dfn__law_list (T : Txt K mg) : DFn P w K mg base CX0 2 "_law_list" 2 F__law_list .fz :=
  have nd := sc__law_list.nd
  dfn_ok (N := N__law_list) (ps := ["_law_values_here", "_law_order"]) (k := 1) (fb := B__law_list) (ωp := [.fz, .fz]) (ωl := [.fz]) (W := []) T.h__law_list sc__law_list rfl rfl rfl rfl rfl rfl fun f cdv A outer s H E hr => ⟨_, [],
    (dss_one (ds_ret (de_frz (de_add (de_frz (de_lst (da_cons (de_callTy cr_str cd_str T.n_str PyProof.Rows.boot_str (da_cons (de_callB cr_len cd_len T.n_len PySem.boot_len (da_cons (de_var 0) da_nil)) da_nil)) da_nil))) (de_frz (de_lcE (own := [("_law_value_here", 2)]) (i := 2) rfl nd rfl rfl (wipe_one _ _) (di_any (de_var 0)) (blkOk_by (N := N__law_list) (sc := defScope s__law_list) (by decide +kernel)) (fun _ _ _ _ _ => pg_name (i := 2) nd rfl (Or.inl rfl)) (fun _ _ _ _ _ => ⟨_, dts_nil⟩) (fun _ _ _ _ _ => ⟨_, (de_call ((dfn__law_word T).mono (by decide)) hr pass0 (da_cons (de_var 2) (da_cons (de_var 1) da_nil)))⟩)))))))⟩
theorem sc__law_told : FnScope N__law_told ["_law_state_here"] (defScope s__law_told) := ⟨rfl, rfl, rfl, by decide +kernel, rfl, by decide +kernel, by decide +kernel⟩
def B__law_told : Env → R Fl := (sSeq (sAsg 1 [] (eCall (F__law_met) (aCons (eVar 0) aNil))) (sSeq (sAsg 2 [] (eLst (aCons (eC (.str w_runs)) aNil))) (sSeq (sIf (tB' (eOp isNotD (eOp ixD (eVar 0) (eC (.int 0))) (eC .non))) (sAsg 2 [] (eLst (aCons (eOp ixD (eOp ixD (eVar 0) (eC (.int 0))) (eC (.int 0))) (aCons (eOp ixD (eLst (aCons (eOp ixD (eOp ixD (eVar 0) (eC (.int 0))) (eC (.int 1))) (aCons (eCall (F__law_word) (aCons (eOp ixD (eOp ixD (eVar 0) (eC (.int 0))) (eC (.int 1))) (aCons (eVar 1) aNil))) aNil))) (eCall intD (aCons (eOp eqD (eOp ixD (eOp ixD (eVar 0) (eC (.int 0))) (eC (.int 0))) (eC (.str w_done))) aNil))) aNil)))) sNext) (sSeq (sApp 2 (eCall strD (aCons (eCall lenD (aCons (eOp ixD (eVar 0) (eC (.int 1))) aNil)) aNil))) (sSeq (sFor (iWalk (eOp ixD (eVar 0) (eC (.int 1)))) (setT [3, 4, 5, 6]) (sAsg 2 [] (eOp addD (eOp addD (eOp addD (eVar 2) (eLst (aCons (eCall strD (aCons (eVar 3) aNil)) (aCons (eCall strD (aCons (eVar 4) aNil)) aNil)))) (eCall (F__law_list) (aCons (eVar 5) (aCons (eVar 1) aNil)))) (eCall (F__law_list) (aCons (eVar 6) (aCons (eVar 1) aNil)))))) (sSeq (sFor (iWalk (eVar 1)) (setN 7) (sSeq (sAsg 8 [] (eOp ixD (eOp ixD (eVar 0) (eC (.int 2))) (eVar 7))) (sIf (tB' (eOp eqD (eOp ixD (eVar 8) (eC (.int 0))) (eC (.str w_box)))) (sAsg 2 [] (eOp addD (eVar 2) (eLst (aCons (eC (.str w_box)) (aCons (eCall (F__law_word) (aCons (eOp ixD (eVar 8) (eC (.int 1))) (aCons (eVar 1) aNil))) aNil))))) (sAsg 2 [] (eOp addD (eOp addD (eVar 2) (eLst (aCons (eC (.str w_fun)) (aCons (eCall strD (aCons (eOp ixD (eVar 8) (eC (.int 1))) aNil)) aNil)))) (eCall (F__law_list) (aCons (eOp ixD (eVar 8) (eC (.int 2))) (aCons (eVar 1) aNil)))))))) (sRet [] (eVar 2))))))))
def F__law_told : List D → R D := fnD 9 B__law_told
theorem dfn__law_told (T : Txt K mg) : DFn P w K mg base CX0 3 "_law_told" 1 F__law_told .fz :=
  have nd := sc__law_told.nd
  dfn_ok (N := N__law_told) (ps := ["_law_state_here"]) (k := 2) (fb := B__law_told) (ωp := [.fz]) (ωl := [.fz, (.own .fz), .fz, .fz, .fz, .fz, .fz, .fz]) (W := [1, 2, 3, 4, 5, 6, 7, 8]) T.h__law_told sc__law_told rfl rfl rfl rfl rfl rfl fun f cdv A outer s H E hr => ⟨_, [],
    (dss_cons (ds_set (i := 1) nd (de_call ((dfn__law_met T).mono (by decide)) hr pass0 (da_cons (de_var 0) da_nil))) (dss_cons (ds_set (i := 2) nd (de_lst (da_cons de_str da_nil))) (dss_cons (ds_if (dt_cmp op_notN od_isNot (de_ix hr (de_var 0) de_int) de_non (nomark _)) (dss_one (ds_set (i := 2) nd (de_lst (da_cons (de_ix hr (de_ix hr (de_var 0) de_int) de_int) (da_cons (de_ix hr (de_frz (de_lst (da_cons (de_ix hr (de_ix hr (de_var 0) de_int) de_int) (da_cons (de_call ((dfn__law_word T).mono (by decide)) hr pass0 (da_cons (de_ix hr (de_ix hr (de_var 0) de_int) de_int) (da_cons (de_var 1) da_nil))) da_nil)))) (de_callTy cr_int cd_int T.n_int PyProof.Rows.boot_int (da_cons (de_cmp (or_eq hr) od_eq (de_ix hr (de_ix hr (de_var 0) de_int) de_int) de_str (nomark _)) da_nil))) da_nil))))) dss_nil) (dss_cons (ds_app (i := 2) (de_callTy cr_str cd_str T.n_str PyProof.Rows.boot_str (da_cons (de_callB cr_len cd_len T.n_len PySem.boot_len (da_cons (de_ix hr (de_var 0) de_int) da_nil)) da_nil))) (dss_froze (.same (.same (.fz (.same (.same (.same (.same (.same (.same Froze.nil))))))))) (dss_cons (ds_for PassesOwn.never rfl (di_any (de_ix hr (de_var 0) de_int)) (dg_tup rfl (dgs_cons (i := 3) nd (dgs_cons (i := 4) nd (dgs_cons (i := 5) nd (dgs_cons (i := 6) nd dgs_nil))))) (dss_one (ds_set (i := 2) nd (de_frz (de_add (de_frz (de_add (de_frz (de_add (de_var 2) (de_frz (de_lst (da_cons (de_callTy cr_str cd_str T.n_str PyProof.Rows.boot_str (da_cons (de_var 3) da_nil)) (da_cons (de_callTy cr_str cd_str T.n_str PyProof.Rows.boot_str (da_cons (de_var 4) da_nil)) da_nil)))))) (de_call ((dfn__law_list T).mono (by decide)) hr pass0 (da_cons (de_var 5) (da_cons (de_var 1) da_nil))))) (de_call ((dfn__law_list T).mono (by decide)) hr pass0 (da_cons (de_var 6) (da_cons (de_var 1) da_nil)))))))) (dss_cons (ds_for PassesOwn.never rfl (di_any (de_var 1)) (dg_name (i := 7) nd) (dss_cons (ds_set (i := 8) nd (de_ix hr (de_ix hr (de_var 0) de_int) (de_var 7))) (dss_one (ds_if (dt_cmp (or_eq hr) od_eq (de_ix hr (de_var 8) de_int) de_str (nomark _)) (dss_one (ds_set (i := 2) nd (de_frz (de_add (de_var 2) (de_frz (de_lst (da_cons de_str (da_cons (de_call ((dfn__law_word T).mono (by decide)) hr pass0 (da_cons (de_ix hr (de_var 8) de_int) (da_cons (de_var 1) da_nil))) da_nil)))))))) (dss_one (ds_set (i := 2) nd (de_frz (de_add (de_frz (de_add (de_var 2) (de_frz (de_lst (da_cons de_str (da_cons (de_callTy cr_str cd_str T.n_str PyProof.Rows.boot_str (da_cons (de_ix hr (de_var 8) de_int) da_nil)) da_nil)))))) (de_call ((dfn__law_list T).mono (by decide)) hr pass0 (da_cons (de_ix hr (de_var 8) de_int) (da_cons (de_var 1) da_nil))))))))))) (dss_one (ds_ret (de_var 2))))))))))⟩
theorem sc__law_whole : FnScope N__law_whole ["_law_found"] (defScope s__law_whole) := ⟨rfl, rfl, rfl, by decide +kernel, rfl, by decide +kernel, by decide +kernel⟩
def B__law_whole : Env → R Fl := (sRet [] (eAndV (eUn (isiD "int") (eVar 0)) (eUn notD (eUn (isiD "bool") (eVar 0)))))
def F__law_whole : List D → R D := fnD 1 B__law_whole
theorem dfn__law_whole (T : Txt K mg) : DFn P w K mg base CX0 1 "_law_whole" 1 F__law_whole .fz :=
  have nd := sc__law_whole.nd
  dfn_ok (N := N__law_whole) (ps := ["_law_found"]) (k := 0) (fb := B__law_whole) (ωp := [.fz]) (ωl := []) (W := []) T.h__law_whole sc__law_whole rfl rfl rfl rfl rfl rfl fun f cdv A outer s H E hr => ⟨_, [],
    (dss_one (ds_ret (de_and (de_isi kit_int T.n_isinstance T.n_int PyProof.Rows.boot_int (de_var 0)) (de_one (de_not (de_isi kit_bool T.n_isinstance T.n_bool PyProof.Rows.boot_bool (de_var 0)))))))⟩
theorem sc__law_alike : FnScope N__law_alike ["_law_found", "_law_due"] (defScope s__law_alike) := ⟨rfl, rfl, rfl, by decide +kernel, rfl, by decide +kernel, by decide +kernel⟩
def B__law_alike (self : List D → R D) : Env → R Fl := (sSeq (sIf (tB' (eUn (isi2D "tuple" "list") (eVar 1))) (sSeq (sIf (tB' (eOp neD (eUn (isiD "tuple") (eVar 0)) (eUn (isiD "tuple") (eVar 1)))) (sRet [] (eC (.bl false))) sNext) (sSeq (sIf (eOrT (eNotT (tB' (eUn (isi2D "tuple" "list") (eVar 0)))) (tB' (eOp neD (eCall lenD (aCons (eVar 0) aNil)) (eCall lenD (aCons (eVar 1) aNil))))) (sRet [] (eC (.bl false))) sNext) (sRet [] (eCall allD (aCons (eLc (iRange1 (eCall lenD (aCons (eVar 1) aNil))) [2] (setN 2) cYes (eCall self (aCons (eOp ixD (eVar 0) (eVar 2)) (aCons (eOp ixD (eVar 1) (eVar 2)) aNil)))) aNil))))) sNext) (sSeq (sIf (tB' (eUn (isiD "str") (eVar 1))) (sRet [] (eAndV (eUn (isiD "str") (eVar 0)) (eOp eqD (eVar 0) (eVar 1)))) sNext) (sSeq (sIf (tB' (eOp isD (eVar 1) (eC .non))) (sRet [] (eOp isD (eVar 0) (eC .non))) sNext) (sRet [] (eAndV (eCall (F__law_whole) (aCons (eVar 0) aNil)) (eOp eqD (eVar 0) (eVar 1)))))))
def F__law_alike : Nat → List D → R D
  | 0 => fun _ => .no
  | n + 1 => fnD 3 (B__law_alike (F__law_alike n))
theorem dfn__law_alike (T : Txt K mg) : ∀ n, DFn P w K mg base CX0 (n + 2) "_law_alike" 2 (F__law_alike n) .fz
  | 0 => dfn_no (ps := ["_law_found", "_law_due"]) (k := 1) T.h__law_alike sc__law_alike rfl
  | n + 1 =>
    have C := dfn__law_alike T n
    have nd := sc__law_alike.nd
    dfn_ok (N := N__law_alike) (ps := ["_law_found", "_law_due"]) (k := n + 2) (fb := B__law_alike (F__law_alike n)) (ωp := [.fz, .fz]) (ωl := [.fz]) (W := []) T.h__law_alike sc__law_alike rfl (Nat.add_right_comm n 1 2) rfl rfl rfl rfl fun f cdv A outer s H E hr => ⟨_, [],
      (dss_cons (ds_if (dt_val (de_isi2 kit_tuple kit_list T.n_isinstance T.n_tuple T.n_list PyProof.Rows.boot_tuple PyProof.Rows.boot_list (de_var 1))) (dss_cons (ds_if (dt_cmp (or_ne hr) od_ne (de_isi kit_tuple T.n_isinstance T.n_tuple PyProof.Rows.boot_tuple (de_var 0)) (de_isi kit_tuple T.n_isinstance T.n_tuple PyProof.Rows.boot_tuple (de_var 1)) (nomark _)) (dss_one (ds_ret de_bl)) dss_nil) (dss_cons (ds_if (dt_of (dw_or (dt_not (dt_val (de_isi2 kit_tuple kit_list T.n_isinstance T.n_tuple T.n_list PyProof.Rows.boot_tuple PyProof.Rows.boot_list (de_var 0)))) (dw_or1 (dt_cmp (or_ne hr) od_ne (de_callB cr_len cd_len T.n_len PySem.boot_len (da_cons (de_var 0) da_nil)) (de_callB cr_len cd_len T.n_len PySem.boot_len (da_cons (de_var 1) da_nil)) (nomark _))))) (dss_one (ds_ret de_bl)) dss_nil) (dss_one (ds_ret (de_callB (cr_all rfl) cd_all T.n_all PyProof.Rows.boot_all (da_cons (de_frz (de_lcE (own := [("_law_k", 2)]) (i := 2) rfl nd rfl rfl (wipe_one _ _) (di_range1 T.n_range (de_callB cr_len cd_len T.n_len PySem.boot_len (da_cons (de_var 1) da_nil))) (blkOk_by (N := N__law_alike) (sc := defScope s__law_alike) (by decide +kernel)) (fun _ _ _ _ _ => pg_name (i := 2) nd rfl (Or.inl rfl)) (fun _ _ _ _ _ => ⟨_, dts_nil⟩) (fun _ _ _ _ _ => ⟨_, (de_call C hr pass0 (da_cons (de_ix hr (de_var 0) (de_var 2)) (da_cons (de_ix hr (de_var 1) (de_var 2)) da_nil)))⟩))) da_nil)))))) dss_nil) (dss_cons (ds_if (dt_val (de_isi kit_str T.n_isinstance T.n_str PyProof.Rows.boot_str (de_var 1))) (dss_one (ds_ret (de_and (de_isi kit_str T.n_isinstance T.n_str PyProof.Rows.boot_str (de_var 0)) (de_one (de_cmp (or_eq hr) od_eq (de_var 0) (de_var 1) (nomark _)))))) dss_nil) (dss_cons (ds_if (dt_cmp op_isN od_is (de_var 1) de_non (nomark _)) (dss_one (ds_ret (de_cmp op_isN od_is (de_var 0) de_non (nomark _)))) dss_nil) (dss_one (ds_ret (de_and (de_call ((dfn__law_whole T).mono (by omega)) hr pass0 (da_cons (de_var 0) da_nil)) (de_one (de_cmp (or_eq hr) od_eq (de_var 0) (de_var 1) (nomark _)))))))))⟩
theorem sc__law_same_things : FnScope N__law_same_things ["_law_found", "_law_due"] (defScope s__law_same_things) := ⟨rfl, rfl, rfl, by decide +kernel, rfl, by decide +kernel, by decide +kernel⟩
def B__law_same_things : Env → R Fl := (sSeq (sIf (eOrT (eNotT (tB' (eUn (isiD "dict") (eVar 0)))) (tB' (eOp neD (eCall lenD (aCons (eVar 0) aNil)) (eCall lenD (aCons (eVar 1) aNil))))) (sRet [] (eC (.bl false))) sNext) (sSeq (sFor (iWalk (eCall listD (aCons (eVar 0) aNil))) (setN 2) (sSeq (sIf (eOrT (eNotT (tB' (eCall (F__law_whole) (aCons (eVar 2) aNil)))) (tB' (eOp notInD (eVar 2) (eVar 1)))) (sRet [] (eC (.bl false))) sNext) (sIf (eNotT (tB' (eCall (F__law_alike 7) (aCons (eOp ixD (eVar 0) (eVar 2)) (aCons (eOp ixD (eVar 1) (eVar 2)) aNil))))) (sRet [] (eC (.bl false))) sNext))) (sRet [] (eC (.bl true)))))
def F__law_same_things : List D → R D := fnD 3 B__law_same_things
theorem dfn__law_same_things (T : Txt K mg) : DFn P w K mg base CX0 10 "_law_same_things" 2 F__law_same_things .fz :=
  have nd := sc__law_same_things.nd
  dfn_ok (N := N__law_same_things) (ps := ["_law_found", "_law_due"]) (k := 9) (fb := B__law_same_things) (ωp := [.fz, .fz]) (ωl := [.fz]) (W := [2]) T.h__law_same_things sc__law_same_things rfl rfl rfl rfl rfl rfl fun f cdv A outer s H E hr => ⟨_, [],
    (dss_cons (ds_if (dt_of (dw_or (dt_not (dt_val (de_isi kit_dict T.n_isinstance T.n_dict PyProof.Rows.boot_dict (de_var 0)))) (dw_or1 (dt_cmp (or_ne hr) od_ne (de_callB cr_len cd_len T.n_len PySem.boot_len (da_cons (de_var 0) da_nil)) (de_callB cr_len cd_len T.n_len PySem.boot_len (da_cons (de_var 1) da_nil)) (nomark _))))) (dss_one (ds_ret de_bl)) dss_nil) (dss_cons (ds_for PassesOwn.never rfl (di_any (de_frz (de_callTy (cr_list rfl) cd_list T.n_list PyProof.Rows.boot_list (da_cons (de_var 0) da_nil)))) (dg_name (i := 2) nd) (dss_cons (ds_if (dt_of (dw_or (dt_not (dt_val (de_call ((dfn__law_whole T).mono (by decide)) hr pass0 (da_cons (de_var 2) da_nil)))) (dw_or1 (dt_cmp (or_notIn hr) od_notIn (de_var 2) (de_var 1) rfl)))) (dss_one (ds_ret de_bl)) dss_nil) (dss_one (ds_if (dt_not (dt_val (de_call ((dfn__law_alike T 7).mono (by decide)) hr pass0 (da_cons (de_ix hr (de_var 0) (de_var 2)) (da_cons (de_ix hr (de_var 1) (de_var 2)) da_nil))))) (dss_one (ds_ret de_bl)) dss_nil)))) (dss_one (ds_ret de_bl))))⟩
theorem sc__law_same_state : FnScope N__law_same_state ["_law_found", "_law_due"] (defScope s__law_same_state) := ⟨rfl, rfl, rfl, by decide +kernel, rfl, by decide +kernel, by decide +kernel⟩
def B__law_same_state : Env → R Fl := (sSeq (sIf (eOrT (eNotT (tB' (eUn (isiD "tuple") (eVar 0)))) (eOrT (tB' (eOp neD (eCall lenD (aCons (eVar 0) aNil)) (eC (.int 3)))) (eNotT (tB' (eUn (isiD "list") (eOp ixD (eVar 0) (eC (.int 1)))))))) (sRet [] (eC (.bl false))) sNext) (sRet [] (eAndV (eCall (F__law_alike 7) (aCons (eOp ixD (eVar 0) (eC (.int 0))) (aCons (eOp ixD (eVar 1) (eC (.int 0))) aNil))) (eAndV (eCall (F__law_alike 7) (aCons (eOp ixD (eVar 0) (eC (.int 1))) (aCons (eOp ixD (eVar 1) (eC (.int 1))) aNil))) (eCall (F__law_same_things) (aCons (eOp ixD (eVar 0) (eC (.int 2))) (aCons (eOp ixD (eVar 1) (eC (.int 2))) aNil)))))))
def F__law_same_state : List D → R D := fnD 2 B__law_same_state
theorem dfn__law_same_state (T : Txt K mg) : DFn P w K mg base CX0 11 "_law_same_state" 2 F__law_same_state .fz :=
  have nd := sc__law_same_state.nd
  dfn_ok (N := N__law_same_state) (ps := ["_law_found", "_law_due"]) (k := 10) (fb := B__law_same_state) (ωp := [.fz, .fz]) (ωl := []) (W := []) T.h__law_same_state sc__law_same_state rfl rfl rfl rfl rfl rfl fun f cdv A outer s H E hr => ⟨_, [],
    (dss_cons (ds_if (dt_of (dw_or (dt_not (dt_val (de_isi kit_tuple T.n_isinstance T.n_tuple PyProof.Rows.boot_tuple (de_var 0)))) (dw_or (dt_cmp (or_ne hr) od_ne (de_callB cr_len cd_len T.n_len PySem.boot_len (da_cons (de_var 0) da_nil)) de_int (nomark _)) (dw_or1 (dt_not (dt_val (de_isi kit_list T.n_isinstance T.n_list PyProof.Rows.boot_list (de_ix hr (de_var 0) de_int)))))))) (dss_one (ds_ret de_bl)) dss_nil) (dss_one (ds_ret (de_and (de_call ((dfn__law_alike T 7).mono (by decide)) hr pass0 (da_cons (de_ix hr (de_var 0) de_int) (da_cons (de_ix hr (de_var 1) de_int) da_nil))) (de_and (de_call ((dfn__law_alike T 7).mono (by decide)) hr pass0 (da_cons (de_ix hr (de_var 0) de_int) (da_cons (de_ix hr (de_var 1) de_int) da_nil))) (de_one (de_call ((dfn__law_same_things T).mono (by decide)) hr pass0 (da_cons (de_ix hr (de_var 0) de_int) (da_cons (de_ix hr (de_var 1) de_int) da_nil)))))))))⟩
theorem sc_law : FnScope N_law ["_law_script"] (defScope s_law) := ⟨rfl, rfl, rfl, by decide +kernel, rfl, by decide +kernel, by decide +kernel⟩
def B_law : Env → R Fl := (sSeq (sAsg 1 [] (eCall (F__law_program) (aCons (eVar 0) (aCons (eCall F__law_words aNil) aNil)))) (sSeq (sAsg 2 [] (eCall (F__law_ended) (aCons (eVar 0) (aCons (eCall (F__law_state) (aCons (eVar 0) (aCons (eVar 1) aNil))) aNil)))) (sSeq (sAsg 3 [] (eCall (F__law_named) (aCons (eVar 0) (aCons (eVar 2) aNil)))) (sSeq (sIf (tB' (eOp eqD (eOp modD (eCall (F__law_cell) (aCons (eVar 0) (aCons (eC (.int 17)) aNil))) (eC (.int 2))) (eC (.int 1)))) (sAsg 3 [] (eCall (F__law_more) (aCons (eVar 0) (aCons (eVar 3) aNil)))) sNext) (sSeq (sIf (tB' (eOp eqD (eOp modD (eCall (F__law_cell) (aCons (eVar 0) (aCons (eC (.int 18)) aNil))) (eC (.int 2))) (eC (.int 1)))) (sAsg 3 [] (eCall (F__law_bent) (aCons (eVar 0) (aCons (eVar 3) aNil)))) sNext) (sSeq (sAsg 4 [] (eLst (aCons (eCall (F__law_copy) (aCons (eVar 2) aNil)) (aCons (eCall (F__law_copy) (aCons (eVar 3) aNil)) aNil)))) (sSeq (sAsg 5 [] (eCall (F_matched) (aCons (eOp ixD (eVar 4) (eC (.int 0))) (aCons (eOp ixD (eVar 4) (eC (.int 1))) aNil)))) (sSeq (sIf (eOrT (eNotT (tB' (eCall (F__law_same_state) (aCons (eOp ixD (eVar 4) (eC (.int 0))) (aCons (eVar 2) aNil))))) (eNotT (tB' (eCall (F__law_same_state) (aCons (eOp ixD (eVar 4) (eC (.int 1))) (aCons (eVar 3) aNil)))))) (sRet [] (eC (.bl false))) sNext) (sSeq (sIf (tB' (eOp neD (eCall (F__law_told) (aCons (eVar 2) aNil)) (eCall (F__law_told) (aCons (eVar 3) aNil)))) (sRet [] (eLook (eOp isD (eVar 5) (eC .non)))) sNext) (sSeq (sIf (eOrT (eNotT (tB' (eUn (isiD "dict") (eVar 5)))) (tB' (eOp neD (eCall sortedD (aCons (eCall listD (aCons (eVar 5) aNil)) aNil)) (eCall sortedD (aCons (eCall (F__law_met) (aCons (eVar 2) aNil)) aNil))))) (sRet [] (eC (.bl false))) sNext) (sSeq (sAsg 6 [] (eCall dictD (aCons (eLc (iWalk (eChk (.own .fz) (eCall listD (aCons (eVar 5) aNil)))) [8] (setN 8) cYes (eTup (aCons (eVar 8) (aCons (eIxV 5 (eVar 8)) aNil)))) aNil))) (sSeq (sIf (tB' (eOp neD (eCall sortedD (aCons (eUn valsD (eVar 5)) aNil)) (eCall sortedD (aCons (eCall (F__law_met) (aCons (eVar 3) aNil)) aNil)))) (sRet [] (eC (.bl false))) sNext) (sSeq (sAsg 7 [] (eChk (.tup [.fz, (.own .fz), (.own .fz)]) (eCall (F__law_by_names) (aCons (eVar 2) (aCons (eVar 5) aNil))))) (sSeq (sIf (eOrT (eNotT (tB' (eCall (F__law_alike 7) (aCons (eOp ixD (eVar 7) (eC (.int 0))) (aCons (eOp ixD (eVar 3) (eC (.int 0))) aNil))))) (tB' (eOp neD (eOp ixD (eVar 7) (eC (.int 1))) (eOp ixD (eVar 3) (eC (.int 1)))))) (sRet [] (eC (.bl false))) sNext) (sSeq (sIf (tB' (eOp neD (eLc (iWalk (eCall listD (aCons (eOp ixD (eVar 7) (eC (.int 2))) aNil))) [8] (setN 8) (tB' (eOp neD (eOp ixD (eOp ixD (eVar 7) (eC (.int 2))) (eVar 8)) (eOp ixD (eOp ixD (eVar 3) (eC (.int 2))) (eVar 8)))) (eVar 8)) (eLst aNil))) (sRet [] (eC (.bl false))) sNext) (sSeq (sClr 5) (sRet [] (eOp eqD (eCall (F_matched) (aCons (eOp ixD (eVar 4) (eC (.int 0))) (aCons (eOp ixD (eVar 4) (eC (.int 1))) aNil))) (eVar 6)))))))))))))))))))
def F_law : List D → R D := fnD 9 B_law
theorem fnok_law (T : Txt K mg) {fa : Addr} {fd : FuncData} (Fn : Fun K "law" "law" s_law fa fd) : FnOk P w K mg base CX0 12 fa fd ["_law_script"] (spD K mg 1 F_law .fz) :=
  have nd := sc_law.nd
  fnok (N := N_law) (ps := ["_law_script"]) (k := 11) (fb := B_law) (ωp := [.fz]) (ωl := [.fz, .fz, .fz, .fz, (.own .fz), .fz, .fz, .fz]) (W := [1, 2, 3, 4, 5, 6, 7]) Fn sc_law rfl rfl rfl rfl rfl rfl fun f cdv A outer s H E hr => ⟨_, [],
    (dss_cons (ds_set (i := 1) nd (de_frz (de_call ((dfn__law_program T).mono (by decide)) hr pass0 (da_cons (de_var 0) (da_cons (de_call0 ((dfn__law_words T).mono (by decide)) hr pass0) da_nil))))) (dss_cons (ds_set (i := 2) nd (de_call ((dfn__law_ended T).mono (by decide)) hr pass0 (da_cons (de_var 0) (da_cons (de_frz (de_call ((dfn__law_state T).mono (by decide)) hr pass0 (da_cons (de_var 0) (da_cons (de_var 1) da_nil)))) da_nil)))) (dss_cons (ds_set (i := 3) nd (de_call ((dfn__law_named T).mono (by decide)) hr pass0 (da_cons (de_var 0) (da_cons (de_var 2) da_nil)))) (dss_cons (ds_if (dt_cmp (or_eq hr) od_eq (de_mod (de_call ((dfn__law_cell T).mono (by decide)) hr pass0 (da_cons (de_var 0) (da_cons de_int da_nil))) de_int) de_int (nomark _)) (dss_one (ds_set (i := 3) nd (de_call ((dfn__law_more T).mono (by decide)) hr pass0 (da_cons (de_var 0) (da_cons (de_var 3) da_nil))))) dss_nil) (dss_cons (ds_if (dt_cmp (or_eq hr) od_eq (de_mod (de_call ((dfn__law_cell T).mono (by decide)) hr pass0 (da_cons (de_var 0) (da_cons de_int da_nil))) de_int) de_int (nomark _)) (dss_one (ds_set (i := 3) nd (de_call ((dfn__law_bent T).mono (by decide)) hr pass0 (da_cons (de_var 0) (da_cons (de_var 3) da_nil))))) dss_nil) (dss_cons (ds_set (i := 4) nd (de_frz (de_lst (da_cons (de_call ((dfn__law_copy T).mono (by decide)) hr pass0 (da_cons (de_var 2) da_nil)) (da_cons (de_call ((dfn__law_copy T).mono (by decide)) hr pass0 (da_cons (de_var 3) da_nil)) da_nil))))) (dss_cons (ds_set (i := 5) nd (de_call ((dfn_matched T).mono (by decide)) hr pass0 (da_cons (de_ix hr (de_var 4) de_int) (da_cons (de_ix hr (de_var 4) de_int) da_nil)))) (dss_cons (ds_if (dt_of (dw_or (dt_not (dt_val (de_call ((dfn__law_same_state T).mono (by decide)) hr pass0 (da_cons (de_ix hr (de_var 4) de_int) (da_cons (de_var 2) da_nil))))) (dw_or1 (dt_not (dt_val (de_call ((dfn__law_same_state T).mono (by decide)) hr pass0 (da_cons (de_ix hr (de_var 4) de_int) (da_cons (de_var 3) da_nil)))))))) (dss_one (ds_ret de_bl)) dss_nil) (dss_cons (ds_if (dt_cmp (or_ne hr) od_ne (de_call ((dfn__law_told T).mono (by decide)) hr pass0 (da_cons (de_var 2) da_nil)) (de_call ((dfn__law_told T).mono (by decide)) hr pass0 (da_cons (de_var 3) da_nil)) (nomark _)) (dss_one (ds_ret (de_look (de_cmp op_isN od_is (de_var 5) de_non (nomark _))))) dss_nil) (dss_cons (ds_if (dt_look (dt_of (dw_or (dt_not (dt_val (de_isi kit_dict T.n_isinstance T.n_dict PyProof.Rows.boot_dict (de_var 5)))) (dw_or1 (dt_cmp (or_ne hr) od_ne (de_frz (de_callB cr_sortedI cd_sorted T.n_sorted PyProof.Rows.boot_sorted (da_cons (de_frz (de_callTy (cr_list rfl) cd_list T.n_list PyProof.Rows.boot_list (da_cons (de_var 5) da_nil))) da_nil))) (de_frz (de_callB cr_sortedI cd_sorted T.n_sorted PyProof.Rows.boot_sorted (da_cons (de_call ((dfn__law_met T).mono (by decide)) hr pass0 (da_cons (de_var 2) da_nil)) da_nil))) (nomark _)))))) (dss_one (ds_ret de_bl)) dss_nil) (dss_cons (ds_set (i := 6) nd (de_frz (de_callTy (cr_dict rfl) cd_dict T.n_dict PyProof.Rows.boot_dict (da_cons (de_frz (de_lcE (own := [("_law_number_here", 8)]) (i := 8) rfl nd rfl rfl (wipe_one _ _) (di_any (de_frz (de_chk (de_callTy (cr_list rfl) cd_list T.n_list PyProof.Rows.boot_list (da_cons (de_var 5) da_nil))))) (blkOk_by (N := N_law) (sc := defScope s_law) (by decide +kernel)) (fun _ _ _ _ _ => pg_name (i := 8) nd rfl (Or.inl rfl)) (fun _ _ _ _ _ => ⟨_, dts_nil⟩) (fun _ _ _ _ _ => ⟨_, (de_tup (da_cons (de_var 8) (da_cons (de_ixV (i := 5) hr (de_var 8)) da_nil)))⟩))) da_nil)))) (dss_cons (ds_if (dt_look (dt_cmp (or_ne hr) od_ne (de_frz (de_callB cr_sortedI cd_sorted T.n_sorted PyProof.Rows.boot_sorted (da_cons (de_frz (de_listVals rfl T.n_list (de_var 5))) da_nil))) (de_frz (de_callB cr_sortedI cd_sorted T.n_sorted PyProof.Rows.boot_sorted (da_cons (de_call ((dfn__law_met T).mono (by decide)) hr pass0 (da_cons (de_var 3) da_nil)) da_nil))) (nomark _))) (dss_one (ds_ret de_bl)) dss_nil) (dss_cons (ds_set (i := 7) nd (de_frz (de_chk (de_call ((dfn__law_by_names T).mono (by decide)) hr pass0 (da_cons (de_var 2) (da_cons (de_var 5) da_nil)))))) (dss_cons (ds_if (dt_of (dw_or (dt_not (dt_val (de_call ((dfn__law_alike T 7).mono (by decide)) hr pass0 (da_cons (de_ix hr (de_var 7) de_int) (da_cons (de_ix hr (de_var 3) de_int) da_nil))))) (dw_or1 (dt_cmp (or_ne hr) od_ne (de_ix hr (de_var 7) de_int) (de_ix hr (de_var 3) de_int) (nomark _))))) (dss_one (ds_ret de_bl)) dss_nil) (dss_cons (ds_if (dt_cmp (or_ne hr) od_ne (de_frz (de_lcE (own := [("_law_number_here", 8)]) (i := 8) rfl nd rfl rfl (wipe_one _ _) (di_any (de_frz (de_callTy (cr_list rfl) cd_list T.n_list PyProof.Rows.boot_list (da_cons (de_ix hr (de_var 7) de_int) da_nil)))) (blkOk_by (N := N_law) (sc := defScope s_law) (by decide +kernel)) (fun _ _ _ _ _ => pg_name (i := 8) nd rfl (Or.inl rfl)) (fun _ _ _ _ _ => ⟨_, (dts_one (dt_cmp (or_ne hr) od_ne (de_ix hr (de_ix hr (de_var 7) de_int) (de_var 8)) (de_ix hr (de_ix hr (de_var 3) de_int) (de_var 8)) (nomark _)))⟩) (fun _ _ _ _ _ => ⟨_, (de_var 8)⟩))) (de_frz (de_lst da_nil)) (nomark _)) (dss_one (ds_ret de_bl)) dss_nil) (dss_cons (ds_clr (i := 5)) (dss_one (ds_ret (de_cmp (or_eq hr) od_eq (de_frz (de_call ((dfn_matched T).mono (by decide)) hr pass0 (da_cons (de_ix hr (de_var 4) de_int) (da_cons (de_ix hr (de_var 4) de_int) da_nil)))) (de_var 6) (nomark _))))))))))))))))))))⟩
end
end Dn

/-! How the printed functions are reckoned: rules for simp. -/
namespace Dn
open PySem L2
section
variable {f g : Env → R D} {ρ : Env} {i j : Int} {d e : D} {s t : Str}
@[simp] theorem m_fnD (n : Nat) (f : Env → R Fl) (ds : List D) : fnD n f ds = leave (f (enter n ds)) := Eq.trans rfl rfl
@[simp] theorem m_enter (n : Nat) (ds : List D) : enter n ds = ds.map some ++ List.replicate (n - ds.length) none := Eq.trans rfl rfl
@[simp] theorem m_leave (d : D) (ρ : Env) : leave (.ok (.rt d ρ)) = .ok d := Eq.trans rfl rfl
@[simp] theorem m_next (ρ : Env) : sNext ρ = .ok (.nx ρ) := Eq.trans rfl rfl
@[simp] theorem m_hide0 (ρ : Env) : hideE ρ [] = ρ := Eq.trans rfl rfl
@[simp] theorem m_hide1 (ρ : Env) (m : Nat) (M : List Nat) : hideE ρ (m :: M) = (hideE ρ M).set m none := Eq.trans rfl rfl
@[simp] theorem m_asg (i : Nat) (M : List Nat) (f : Env → R D) (ρ : Env) : sAsg i M f ρ = (f ρ >>= fun d => .ok (.nx ((hideE ρ M).set i (some d)))) := Eq.trans rfl rfl
@[simp] theorem m_ret (M : List Nat) (f : Env → R D) (ρ : Env) : sRet M f ρ = (f ρ >>= fun d => .ok (.rt d (hideE ρ M))) := Eq.trans rfl rfl
def ifK {α : Type} (f g : Env → R α) (ρ : Env) : Bool → R α
  | true => f ρ
  | false => g ρ
theorem ifK_eq {α : Type} (f g : Env → R α) (ρ : Env) : (fun b : Bool => if b = true then f ρ else g ρ) = ifK f g ρ := by
  funext b
  cases b <;> rfl
@[simp] theorem m_ifT {α : Type} (f g : Env → R α) (ρ : Env) : ifK f g ρ true = f ρ := Eq.trans rfl rfl
@[simp] theorem m_ifF {α : Type} (f g : Env → R α) (ρ : Env) : ifK f g ρ false = g ρ := Eq.trans rfl rfl
@[simp] theorem m_if (c : Env → R Bool) (f g : Env → R Fl) (ρ : Env) : sIf c f g ρ = (c ρ >>= ifK f g ρ) := by
  rw [← ifK_eq]; rfl
def sqK (g : Env → R Fl) : Fl → R Fl
  | .nx ρ' => g ρ'
  | .rt d ρ' => .ok (.rt d ρ')
@[simp] theorem m_seq (f g : Env → R Fl) (ρ : Env) : sSeq f g ρ = (f ρ >>= sqK g) := by
  unfold sSeq
  congr 1
@[simp] theorem m_sq1 (g : Env → R Fl) (ρ : Env) : sqK g (.nx ρ) = g ρ := Eq.trans rfl rfl
@[simp] theorem m_sq2 (g : Env → R Fl) (d : D) (ρ : Env) : sqK g (.rt d ρ) = .ok (.rt d ρ) := Eq.trans rfl rfl
def getV (o : Option (Option D)) : R D := match o with
  | some (some d) => .ok d
  | _ => .no
@[simp] theorem m_var (i : Nat) (ρ : Env) : eVar i ρ = getV ρ[i]? := Eq.trans rfl rfl
@[simp] theorem m_get (d : D) : getV (some (some d)) = .ok d := Eq.trans rfl rfl
@[simp] theorem m_c (d : D) (ρ : Env) : eC d ρ = .ok d := Eq.trans rfl rfl
@[simp] theorem m_op (g : D → D → R D) (fa fb : Env → R D) (ρ : Env) : eOp g fa fb ρ = (fa ρ >>= fun x => fb ρ >>= fun y => g x y) := Eq.trans rfl rfl
@[simp] theorem m_un (g : D → R D) (fa : Env → R D) (ρ : Env) : eUn g fa ρ = (fa ρ >>= g) := Eq.trans rfl rfl
@[simp] theorem m_call (g : List D → R D) (fas : Env → R (List D)) (ρ : Env) : eCall g fas ρ = (fas ρ >>= g) := Eq.trans rfl rfl
@[simp] theorem m_anil (ρ : Env) : aNil ρ = .ok [] := Eq.trans rfl rfl
@[simp] theorem m_acons (f : Env → R D) (g : Env → R (List D)) (ρ : Env) : aCons f g ρ = (f ρ >>= fun d => g ρ >>= fun ds => .ok (d :: ds)) := Eq.trans rfl rfl
@[simp] theorem m_tup (g : Env → R (List D)) (ρ : Env) : eTup g ρ = (g ρ >>= fun ds => .ok (.tup ds)) := Eq.trans rfl rfl
@[simp] theorem m_lst (g : Env → R (List D)) (ρ : Env) : eLst g ρ = (g ρ >>= fun ds => .ok (.lst ds)) := Eq.trans rfl rfl
@[simp] theorem m_tb (f : Env → R D) (ρ : Env) : tB' f ρ = (f ρ >>= asB) := Eq.trans rfl rfl
@[simp] theorem m_asB (b : Bool) : asB (.bl b) = .ok b := Eq.trans rfl rfl
@[simp] theorem m_andT (f g : Env → R Bool) (ρ : Env) : eAndT f g ρ = (f ρ >>= ifK g (fun _ => .ok false) ρ) := by
  rw [← ifK_eq]; rfl
@[simp] theorem m_orT (f g : Env → R Bool) (ρ : Env) : eOrT f g ρ = (f ρ >>= ifK (fun _ => .ok true) g ρ) := by
  rw [← ifK_eq]; rfl
@[simp] theorem m_notT (f : Env → R Bool) (ρ : Env) : eNotT f ρ = (f ρ >>= fun b => .ok (!b)) := Eq.trans rfl rfl
def anK (g : Env → R D) (ρ : Env) : D → R D
  | .bl true => g ρ
  | .bl false => .ok (.bl false)
  | _ => .no
def orK (g : Env → R D) (ρ : Env) : D → R D
  | .bl true => .ok (.bl true)
  | .bl false => g ρ
  | _ => .no
@[simp] theorem m_andV (f g : Env → R D) (ρ : Env) : eAndV f g ρ = (f ρ >>= anK g ρ) := by
  unfold eAndV
  congr 1
@[simp] theorem m_orV (f g : Env → R D) (ρ : Env) : eOrV f g ρ = (f ρ >>= orK g ρ) := by
  unfold eOrV
  congr 1
@[simp] theorem m_an1 (g : Env → R D) (ρ : Env) : anK g ρ (.bl true) = g ρ := Eq.trans rfl rfl
@[simp] theorem m_an2 (g : Env → R D) (ρ : Env) : anK g ρ (.bl false) = .ok (.bl false) := Eq.trans rfl rfl
@[simp] theorem m_or1 (g : Env → R D) (ρ : Env) : orK g ρ (.bl true) = .ok (.bl true) := Eq.trans rfl rfl
@[simp] theorem m_or2 (g : Env → R D) (ρ : Env) : orK g ρ (.bl false) = g ρ := Eq.trans rfl rfl
@[simp] theorem m_eif (c : Env → R Bool) (f g : Env → R D) (ρ : Env) : eIf c f g ρ = (c ρ >>= ifK f g ρ) := by
  rw [← ifK_eq]; rfl
@[simp] theorem m_look (f : Env → R D) (ρ : Env) : eLook f ρ = (f ρ >>= scal1) := Eq.trans rfl rfl
@[simp] theorem m_scal (d : D) : scal1 d = if isScal d = true then .ok d else .no := Eq.trans rfl rfl
@[simp] theorem m_isS1 : isScal .non = true := Eq.trans rfl rfl
@[simp] theorem m_isS2 (b : Bool) : isScal (.bl b) = true := Eq.trans rfl rfl
@[simp] theorem m_isS3 (b : Int) : isScal (.int b) = true := Eq.trans rfl rfl
@[simp] theorem m_isS4 (b : Str) : isScal (.str b) = true := Eq.trans rfl rfl
@[simp] theorem m_chk (o : O) (f : Env → R D) (ρ : Env) : eChk o f ρ = (f ρ >>= fun d => if chk o d = true then .ok d else .no) := Eq.trans rfl rfl
@[simp] theorem m_add (i j : Int) : addD (.int i) (.int j) = .ok (.int (i + j)) := Eq.trans rfl rfl
@[simp] theorem m_sub (i j : Int) : subD (.int i) (.int j) = .ok (.int (i - j)) := Eq.trans rfl rfl
@[simp] theorem m_neg (i : Int) : negD (.int i) = .ok (.int (-i)) := Eq.trans rfl rfl
theorem m_mul (i j : Int) (h : fits64 j = true) : mulD (.int i) (.int j) = .ok (.int (i * j)) := by
  show (if (fits64 i || fits64 j || decide (i.natAbs.log2 + j.natAbs.log2 < 1000000)) = true then _ else _) = _
  rw [if_pos (by rw [h]; simp)]
theorem m_mulL (i j : Int) (h : fits64 i = true) : mulD (.int i) (.int j) = .ok (.int (i * j)) := by
  show (if (fits64 i || fits64 j || decide (i.natAbs.log2 + j.natAbs.log2 < 1000000)) = true then _ else _) = _
  rw [if_pos (by rw [h]; simp)]
theorem m_fits (i : Int) (h : -18446744073709551616 < i) (h2 : i < 18446744073709551616) : fits64 i = true := by
  unfold fits64
  simp [h, h2]
@[simp] theorem m_mod (i j : Int) : modD (.int i) (.int j) = if 0 < j then .ok (.int (i % j)) else .no := Eq.trans rfl rfl
@[simp] theorem m_div (i j : Int) : divD (.int i) (.int j) = if 0 < j ∧ j < 1073741824 then .ok (.int (i / j)) else .no := Eq.trans rfl rfl
@[simp] theorem m_pow (i j : Int) : powD (.int i) (.int j) = if 0 ≤ j ∧ j ≤ 1000000 ∧ fits64 i = true then .ok (.int (i ^ j.toNat)) else .no := Eq.trans rfl rfl
@[simp] theorem m_lt (i j : Int) : ltD (.int i) (.int j) = .ok (.bl (decide (i < j))) := Eq.trans rfl rfl
@[simp] theorem m_le (i j : Int) : leD (.int i) (.int j) = .ok (.bl (decide (i ≤ j))) := Eq.trans rfl rfl
@[simp] theorem m_gt (i j : Int) : gtD (.int i) (.int j) = .ok (.bl (decide (j < i))) := Eq.trans rfl rfl
@[simp] theorem m_ge (i j : Int) : geD (.int i) (.int j) = .ok (.bl (decide (j ≤ i))) := Eq.trans rfl rfl
@[simp] theorem m_eqI (i j : Int) : eqD (.int i) (.int j) = .ok (.bl (decide (i = j))) := Eq.trans rfl rfl
@[simp] theorem m_eqS (i j : Str) : eqD (.str i) (.str j) = .ok (.bl (decide (i = j))) := Eq.trans rfl rfl
@[simp] theorem m_not (b : Bool) : notD (.bl b) = .ok (.bl (!b)) := Eq.trans rfl rfl
@[simp] theorem m_ne (d e : D) : neD d e = (eqD d e >>= notD) := Eq.trans rfl rfl
@[simp] theorem m_is (d : D) : isD d .non = .ok (.bl (isNone d)) := Eq.trans rfl rfl
@[simp] theorem m_isN (d : D) : isNotD d .non = .ok (.bl (!isNone d)) := Eq.trans rfl rfl
@[simp] theorem m_n1 : isNone .non = true := Eq.trans rfl rfl
@[simp] theorem m_n2 (s : Str) : isNone (.str s) = false := Eq.trans rfl rfl
@[simp] theorem m_n3 (s : List D) : isNone (.tup s) = false := Eq.trans rfl rfl
@[simp] theorem m_n4 (s : Int) : isNone (.int s) = false := Eq.trans rfl rfl
@[simp] theorem m_ixT (xs : List D) (i : Int) : ixD (.tup xs) (.int i) = getV ((atI xs i).map some) := by
  show (match atI xs i with
    | some d => R.ok d
    | none => .no) = _
  cases atI xs i <;> rfl
@[simp] theorem m_ixL (xs : List D) (i : Int) : ixD (.lst xs) (.int i) = getV ((atI xs i).map some) := by
  show (match atI xs i with
    | some d => R.ok d
    | none => .no) = _
  cases atI xs i <;> rfl
theorem atI_pos {α : Type} {xs : List α} {i : Int} (h : 0 ≤ i) (h2 : i < xs.length) : atI xs i = xs[i.toNat]? := by
  unfold atI ixN
  rw [if_pos h, if_pos h2]
  rfl
theorem atI_neg {α : Type} {xs : List α} {i : Int} (h : i < 0) (h2 : -(xs.length : Int) ≤ i) : atI xs i = xs[(i + xs.length).toNat]? := by
  unfold atI ixN
  rw [if_neg (by omega), if_pos h2]
  rfl
@[simp] theorem m_lenL (xs : List D) : lenD [.lst xs] = .ok (.int xs.length) := Eq.trans rfl rfl
@[simp] theorem m_lenT (xs : List D) : lenD [.tup xs] = .ok (.int xs.length) := Eq.trans rfl rfl
@[simp] theorem m_lenS (xs : List Int) : lenD [.scr xs] = .ok (.int xs.length) := Eq.trans rfl rfl
@[simp] theorem m_intI (i : Int) : intD [.int i] = .ok (.int i) := Eq.trans rfl rfl
@[simp] theorem m_intB (b : Bool) : intD [.bl b] = .ok (.int (if b then 1 else 0)) := Eq.trans rfl rfl
end
end Dn
namespace Dn
open PySem L2
/-! ### comprehensions, loops -/
/-- each item gives what stands for something -/
theorem lcD_enc {α : Type} {enc : α → D} {P : α → Prop} {fe : Env → R D} {ρ : Env} {i : Nat} : ∀ {xs : List D}, (∀ x ∈ xs, ∃ a, fe (ρ.set i (some x)) = .ok (enc a) ∧ P a) → ∃ as : List α, lcD (setN i) cYes fe ρ xs = .ok (as.map enc) ∧ as.length = xs.length ∧ ∀ a ∈ as, P a
  | [], _ => ⟨[], rfl, rfl, fun _ h => by simp at h⟩
  | x :: xs, h => by
    obtain ⟨d, h1, h2⟩ := h x List.mem_cons_self
    obtain ⟨ds, h3, h4, h5⟩ := lcD_enc (xs := xs) fun y hy => h y (List.mem_cons_of_mem _ hy)
    refine ⟨d :: ds, ?_, by simp [h4], fun a ha => ?_⟩
    · show (fe (ρ.set i (some x)) >>= fun d => lcD (setN i) cYes fe ρ xs >>= fun ds => R.ok (d :: ds)) = _
      rw [h1, ok_bind, h3, ok_bind]
      rfl
    · rcases List.mem_cons.mp ha with rfl | ha
      · exact h2
      · exact h5 a ha
theorem lcD_map {g : D → D} {fe : Env → R D} {ρ : Env} {i : Nat} : ∀ {xs : List D}, (∀ x ∈ xs, fe (ρ.set i (some x)) = .ok (g x)) → lcD (setN i) cYes fe ρ xs = .ok (xs.map g)
  | [], _ => rfl
  | x :: xs, h => by
    show (fe (ρ.set i (some x)) >>= fun d => lcD (setN i) cYes fe ρ xs >>= fun ds => R.ok (d :: ds)) = _
    rw [h x List.mem_cons_self, ok_bind, lcD_map fun y hy => h y (List.mem_cons_of_mem _ hy), ok_bind]
    rfl
theorem eLc_eq {fi : Env → R (List D)} {vs : List Nat} {i : Nat} {fc : Env → R Bool} {fe : Env → R D} {ρ : Env} {xs : List D} (h : fi ρ = .ok xs) (hn : xs.length ≤ 1000000) :
    eLc fi vs (setN i) fc fe ρ = (lcD (setN i) fc fe (wipeE ρ vs) xs >>= fun ds => .ok (.lst ds)) := by
  unfold eLc
  rw [h, ok_bind, if_pos hn]
theorem eLc_enc {α : Type} {enc : α → D} {P : α → Prop} {fi : Env → R (List D)} {vs : List Nat} {i : Nat} {fe : Env → R D} {ρ : Env} {xs : List D} (h : fi ρ = .ok xs) (hn : xs.length ≤ 1000000)
    (hs : ∀ x ∈ xs, ∃ a, fe ((wipeE ρ vs).set i (some x)) = .ok (enc a) ∧ P a) : ∃ as : List α, eLc fi vs (setN i) cYes fe ρ = .ok (.lst (as.map enc)) ∧ as.length = xs.length ∧ ∀ a ∈ as, P a := by
  obtain ⟨as, h1, h2, h3⟩ := lcD_enc hs
  exact ⟨as, by rw [eLc_eq h hn, h1, ok_bind], h2, h3⟩
theorem eLc_map {g : D → D} {fi : Env → R (List D)} {vs : List Nat} {i : Nat} {fe : Env → R D} {ρ : Env} {xs : List D} (h : fi ρ = .ok xs) (hn : xs.length ≤ 1000000)
    (hs : ∀ x ∈ xs, fe ((wipeE ρ vs).set i (some x)) = .ok (g x)) : eLc fi vs (setN i) cYes fe ρ = .ok (.lst (xs.map g)) := by
  rw [eLc_eq h hn, lcD_map hs, ok_bind]
theorem mem_range {lo : Int} {n : Nat} {x : D} : x ∈ rangeD lo n ↔ ∃ j : Nat, j < n ∧ x = .int (lo + (j : Int)) := by
  unfold rangeD
  rw [List.mem_map]
  constructor
  · rintro ⟨j, hj, rfl⟩
    exact ⟨j, List.mem_range.mp hj, rfl⟩
  · rintro ⟨j, hj, rfl⟩
    exact ⟨j, List.mem_range.mpr hj, rfl⟩
@[simp] theorem len_range (lo : Int) (n : Nat) : (rangeD lo n).length = n := by simp [rangeD]
theorem rng1_ok {n : Int} (h : 0 ≤ n) (h2 : n < 4611686018427387904) : rng1 (.int n) = .ok (rangeD 0 n.toNat) := if_pos ⟨by omega, h2⟩
@[simp] theorem m_range1 (f : Env → R D) (ρ : Env) : iRange1 f ρ = (f ρ >>= rng1) := Eq.trans rfl rfl
@[simp] theorem m_walk (f : Env → R D) (ρ : Env) : iWalk f ρ = (f ρ >>= walkD) := Eq.trans rfl rfl
/-- a loop by an invariant -/
theorem forD_inv {set : D → Env → R Env} {body : Env → R Fl} (I : Nat → Env → Prop) : ∀ {xs : List D} {ρ : Env} {k : Nat}, I k ρ → (∀ j x ρ, I (k + j) ρ → xs[j]? = some x → ∃ ρ1 ρ2, set x ρ = .ok ρ1 ∧ body ρ1 = .ok (.nx ρ2) ∧ I (k + j + 1) ρ2) → ∃ ρ', forD set body xs ρ = .ok (.nx ρ') ∧ I (k + xs.length) ρ'
  | [], ρ, k, h, _ => ⟨ρ, rfl, h⟩
  | x :: xs, ρ, k, h, st => by
    obtain ⟨ρ1, ρ2, h1, h2, h3⟩ := st 0 x ρ h rfl
    obtain ⟨ρ', h4, h5⟩ := forD_inv (xs := xs) (k := k + 1) I h3 fun j y ρ hj hy => by
      obtain ⟨a, b, q1, q2, q3⟩ := st (j + 1) y ρ (by rw [show k + (j + 1) = k + 1 + j by omega]; exact hj) (by simpa using hy)
      exact ⟨a, b, q1, q2, by rw [show k + 1 + j + 1 = k + (j + 1) + 1 by omega]; exact q3⟩
    refine ⟨ρ', ?_, by rw [List.length_cons, show k + (xs.length + 1) = k + 1 + xs.length by omega]; exact h5⟩
    show (set x ρ >>= fun ρ1 => body ρ1 >>= fun fl => _) = _
    rw [h1, ok_bind, h2, ok_bind]
    exact h4
/-! ### data that may be compared -/
mutual
def pl : Nat → D → Bool
  | _, .non => true
  | _, .bl _ => true
  | _, .int _ => true
  | _, .str s => PyData.strOk s
  | n + 1, .tup xs => pls n xs
  | n + 1, .lst xs => pls n xs
  | _, _ => false
def pls : Nat → List D → Bool
  | _, [] => true
  | n, x :: xs => pl n x && pls n xs
end
mutual
theorem pl_shape : ∀ (n : Nat) (d : D), pl n d = true → PyData.canLay0 (toP d) = true ∧ (toP d).depth ≤ n
  | n, .non, h => ⟨rfl, Nat.zero_le _⟩
  | n, .bl _, h => ⟨rfl, Nat.zero_le _⟩
  | n, .int _, h => ⟨rfl, Nat.zero_le _⟩
  | n, .str s, h => ⟨by simpa [toP, PyData.canLay0, pl] using h, Nat.zero_le _⟩
  | n + 1, .tup xs, h => by
    have := pls_shape n xs (by simpa [pl] using h)
    exact ⟨by simpa [toP, PyData.canLay0] using this.1, by simpa [toP, PyData.depth] using this.2⟩
  | n + 1, .lst xs, h => by
    have := pls_shape n xs (by simpa [pl] using h)
    exact ⟨by simpa [toP, PyData.canLay0] using this.1, by simpa [toP, PyData.depth] using this.2⟩
  | 0, .tup xs, h => by simp [pl] at h
  | 0, .lst xs, h => by simp [pl] at h
  | n, .dic xs, h => by cases n <;> simp [pl] at h
  | n, .scr xs, h => by cases n <;> simp [pl] at h
theorem pls_shape : ∀ (n : Nat) (ds : List D), pls n ds = true → PyData.canLayAll0 (toPs ds) = true ∧ PyData.depthAll (toPs ds) ≤ n
  | n, [], h => ⟨rfl, Nat.zero_le _⟩
  | n, d :: ds, h => by
    rw [pls, Bool.and_eq_true] at h
    have h1 := pl_shape n d h.1
    have h2 := pls_shape n ds h.2
    refine ⟨by simp [toPs, PyData.canLayAll0, h1.1, h2.1], ?_⟩
    show max _ _ ≤ n
    omega
end
mutual
theorem eqv_self : ∀ (d : PyData), PyData.canLay0 d = true → PyData.eqv d d = true
  | .none, _ => rfl
  | .bool b, _ => by simp [PyData.eqv]
  | .int b, _ => by simp [PyData.eqv]
  | .str b, _ => by simp [PyData.eqv]
  | .list xs, h => eqvs_self xs (by simpa [PyData.canLay0] using h)
  | .tuple xs, h => eqvs_self xs (by simpa [PyData.canLay0] using h)
  | .dict xs, h => by simp [PyData.canLay0] at h
theorem eqvs_self : ∀ (ds : List PyData), PyData.canLayAll0 ds = true → PyData.eqvAll ds ds = true
  | [], _ => rfl
  | d :: ds, h => by
    rw [PyData.canLayAll0, Bool.and_eq_true] at h
    rw [PyData.eqvAll, eqv_self d h.1, eqvs_self ds h.2]
    rfl
end
theorem shaped_pl {n : Nat} {d : D} (h : pl n d = true) (hn : n ≤ 64) : SeqAt.shaped (toP d) = true := by
  have := pl_shape n d h
  unfold SeqAt.shaped
  rw [this.1, Bool.true_and]
  exact decide_eq_true (Nat.le_trans this.2 hn)
theorem eqD_pl {n : Nat} {d e : D} (h : pl n d = true) (h2 : pl n e = true) (hn : n ≤ 64) : ∃ b, eqD d e = .ok (.bl b) := by
  have a := shaped_pl h hn
  have b := shaped_pl h2 hn
  have k : (SeqAt.shaped (toP d) && SeqAt.shaped (toP e)) = true := by rw [a, b]; rfl
  unfold eqD
  split <;> first | exact ⟨_, rfl⟩ | exact ⟨_, by rw [if_pos k]⟩ | (exfalso; cases n <;> simp [pl] at h)
theorem eqD_self {n : Nat} {d : D} (h : pl n d = true) (hn : n ≤ 64) : eqD d d = .ok (.bl true) := by
  have a := shaped_pl h hn
  have k : (SeqAt.shaped (toP d) && SeqAt.shaped (toP d)) = true := by rw [a]; rfl
  have e := eqv_self _ (pl_shape n d h).1
  cases d with
  | non => rfl
  | bl b => cases b <;> rfl
  | int i => simp
  | str i => simp
  | tup xs =>
    refine Eq.trans (if_pos k) ?_
    rw [e]
  | lst xs =>
    refine Eq.trans (if_pos k) ?_
    rw [e]
  | dic xs => cases n <;> simp [pl] at h
  | scr xs => cases n <;> simp [pl] at h
end Dn
namespace Dn
open PySem L2
/-! ### statements that change, slices -/
@[simp] theorem m_setN (i : Nat) (d : D) (ρ : Env) : setN i d ρ = .ok (ρ.set i (some d)) := Eq.trans rfl rfl
@[simp] theorem m_putE (ρ : Env) (i : Nat) (d : D) : putE ρ i (.ok d) = .ok (.nx (ρ.set i (some d))) := Eq.trans rfl rfl
def revK (ρ : Env) (i : Nat) : Option (Option D) → R Fl
  | some (some d) => putE ρ i (revD d)
  | _ => .no
@[simp] theorem m_rev (i : Nat) (ρ : Env) : sRev i ρ = revK ρ i ρ[i]? := by
  unfold sRev
  cases ρ[i]? with
  | none => rfl
  | some o => cases o <;> rfl
@[simp] theorem m_revK (ρ : Env) (i : Nat) (xs : List D) : revK ρ i (some (some (.lst xs))) = .ok (.nx (ρ.set i (some (.lst xs.reverse)))) := Eq.trans rfl rfl
def appK (ρ : Env) (i : Nat) (y : R D) : Option (Option D) → R Fl
  | some (some (.lst ds)) => y >>= fun y => putE ρ i (appD y (.lst ds))
  | _ => .no
@[simp] theorem m_app (i : Nat) (fe : Env → R D) (ρ : Env) : sApp i fe ρ = appK ρ i (fe ρ) ρ[i]? := by
  unfold sApp
  cases ρ[i]? with
  | none => rfl
  | some o => cases o with
    | none => rfl
    | some d => cases d <;> rfl
theorem m_appK (ρ : Env) (i : Nat) (xs : List D) (y : D) (h : xs.length < most) : appK ρ i (.ok y) (some (some (.lst xs))) = .ok (.nx (ρ.set i (some (.lst (xs ++ [y]))))) := by
  show putE ρ i (if xs.length < most then _ else _) = _
  rw [if_pos h]
  rfl
def putK' (ρ : Env) (i : Nat) (k : R D) (y : D) : Option (Option D) → R Fl
  | some (some d) => k >>= fun k => putE ρ i (storeD d k y)
  | _ => .no
@[simp] theorem m_put (i : Nat) (fk fe : Env → R D) (ρ : Env) : sPut i fk fe ρ = (fe ρ >>= fun y => putK' ρ i (fk ρ) y ρ[i]?) := by
  unfold sPut
  congr 1
@[simp] theorem m_putK (ρ : Env) (i : Nat) (k y d : D) : putK' ρ i (.ok k) y (some (some d)) = putE ρ i (storeD d k y) := Eq.trans rfl rfl
theorem store_int {es : List (L2.Key × D)} {k : Int} {y : D} (h : es.length < most) : storeD (.dic es) (.int k) y = .ok (.dic (putD es (.inl k) y)) := if_pos h
theorem store_at {xs : List D} {k : Int} {y : D} (h : 0 ≤ k) (h2 : k < xs.length) : storeD (.lst xs) (.int k) y = .ok (.lst (xs.set k.toNat y)) := by
  show (match ixN xs.length k with
    | some j => R.ok (D.lst (xs.set j y))
    | none => .no) = _
  unfold ixN
  rw [if_pos h, if_pos h2]
@[simp] theorem m_for (fi : Env → R (List D)) (set : D → Env → R Env) (body : Env → R Fl) (ρ : Env) : sFor fi set body ρ = (fi ρ >>= fun xs => forD set body xs ρ) := Eq.trans rfl rfl
@[simp] theorem m_sl (f : Env → R D) (l h : Env → R (Option Int)) (ρ : Env) : eSl f l h ρ = (f ρ >>= fun d => l ρ >>= fun lo => h ρ >>= fun hi => slD d lo hi) := Eq.trans rfl rfl
@[simp] theorem m_oN (ρ : Env) : oNone ρ = .ok none := Eq.trans rfl rfl
@[simp] theorem m_oS (f : Env → R D) (ρ : Env) : oSome f ρ = (f ρ >>= asI) := Eq.trans rfl rfl
@[simp] theorem m_asI (i : Int) : asI (.int i) = .ok (some i) := Eq.trans rfl rfl
@[simp] theorem m_slL (xs : List D) (lo hi : Option Int) : slD (.lst xs) lo hi = .ok (.lst (cut xs lo hi)) := Eq.trans rfl rfl
@[simp] theorem m_slT (xs : List D) (lo hi : Option Int) : slD (.tup xs) lo hi = .ok (.tup (cut xs lo hi)) := Eq.trans rfl rfl
theorem cut_neg {α : Type} (xs : List α) (k : Int) (h : k < 0) : cut xs none (some k) = xs.take (k + xs.length).toNat := by
  show (xs.drop 0).take ((if k < 0 then (k + (xs.length : Int)).toNat else min k.toNat xs.length) - 0) = _
  rw [if_pos h]
  simp
theorem cut_to {α : Type} (xs : List α) (k : Int) (h : 0 ≤ k) : cut xs none (some k) = xs.take k.toNat := by
  show (xs.drop 0).take ((if k < 0 then (k + (xs.length : Int)).toNat else min k.toNat xs.length) - 0) = _
  rw [if_neg (by omega)]
  simp only [List.drop_zero, Nat.sub_zero]
  rcases Nat.le_total k.toNat xs.length with h | h
  · rw [Nat.min_eq_left h]
  · rw [Nat.min_eq_right h, List.take_of_length_le (Nat.le_refl _), List.take_of_length_le h]
theorem cut_from {α : Type} (xs : List α) (k : Int) (h : 0 ≤ k) : cut xs (some k) none = xs.drop k.toNat := by
  show (xs.drop (if k < 0 then (k + (xs.length : Int)).toNat else min k.toNat xs.length)).take (xs.length - (if k < 0 then (k + (xs.length : Int)).toNat else min k.toNat xs.length)) = _
  rw [if_neg (by omega)]
  rcases Nat.le_total k.toNat xs.length with h | h
  · rw [Nat.min_eq_left h]
    exact List.take_of_length_le (by simp)
  · rw [Nat.min_eq_right h, List.drop_eq_nil_of_le h]
    simp
theorem m_catL (a b : List D) (h : a.length + b.length ≤ most) : addD (.lst a) (.lst b) = .ok (.lst (a ++ b)) := if_pos h
theorem m_catT (a b : List D) (h : a.length + b.length ≤ most) : addD (.tup a) (.tup b) = .ok (.tup (a ++ b)) := if_pos h
@[simp] theorem m_listL (xs : List D) : listD [.lst xs] = .ok (.lst xs) := Eq.trans rfl rfl
@[simp] theorem m_listT (xs : List D) : listD [.tup xs] = .ok (.lst xs) := Eq.trans rfl rfl
@[simp] theorem m_dictD (es : List (L2.Key × D)) : dictD [.dic es] = .ok (.dic es) := Eq.trans rfl rfl
@[simp] theorem m_tupL (xs : List D) : tupleD [.lst xs] = .ok (.tup xs) := Eq.trans rfl rfl
end Dn
namespace Dn
open PySem L2
@[simp] theorem at1_0 {α : Type} (a0 : α) : atI [a0] 0 = some a0 := by simp [atI, ixN]
@[simp] theorem at2_0 {α : Type} (a0 a1 : α) : atI [a0, a1] 0 = some a0 := by simp [atI, ixN]
@[simp] theorem at2_1 {α : Type} (a0 a1 : α) : atI [a0, a1] 1 = some a1 := by simp [atI, ixN]
@[simp] theorem at3_0 {α : Type} (a0 a1 a2 : α) : atI [a0, a1, a2] 0 = some a0 := by simp [atI, ixN]
@[simp] theorem at3_1 {α : Type} (a0 a1 a2 : α) : atI [a0, a1, a2] 1 = some a1 := by simp [atI, ixN]
@[simp] theorem at3_2 {α : Type} (a0 a1 a2 : α) : atI [a0, a1, a2] 2 = some a2 := by simp [atI, ixN]
@[simp] theorem at4_0 {α : Type} (a0 a1 a2 a3 : α) : atI [a0, a1, a2, a3] 0 = some a0 := by simp [atI, ixN]
@[simp] theorem at4_1 {α : Type} (a0 a1 a2 a3 : α) : atI [a0, a1, a2, a3] 1 = some a1 := by simp [atI, ixN]
@[simp] theorem at4_2 {α : Type} (a0 a1 a2 a3 : α) : atI [a0, a1, a2, a3] 2 = some a2 := by simp [atI, ixN]
@[simp] theorem at4_3 {α : Type} (a0 a1 a2 a3 : α) : atI [a0, a1, a2, a3] 3 = some a3 := by simp [atI, ixN]
@[simp] theorem at5_0 {α : Type} (a0 a1 a2 a3 a4 : α) : atI [a0, a1, a2, a3, a4] 0 = some a0 := by simp [atI, ixN]
@[simp] theorem at5_1 {α : Type} (a0 a1 a2 a3 a4 : α) : atI [a0, a1, a2, a3, a4] 1 = some a1 := by simp [atI, ixN]
@[simp] theorem at5_2 {α : Type} (a0 a1 a2 a3 a4 : α) : atI [a0, a1, a2, a3, a4] 2 = some a2 := by simp [atI, ixN]
@[simp] theorem at5_3 {α : Type} (a0 a1 a2 a3 a4 : α) : atI [a0, a1, a2, a3, a4] 3 = some a3 := by simp [atI, ixN]
@[simp] theorem at5_4 {α : Type} (a0 a1 a2 a3 a4 : α) : atI [a0, a1, a2, a3, a4] 4 = some a4 := by simp [atI, ixN]
@[simp] theorem at6_0 {α : Type} (a0 a1 a2 a3 a4 a5 : α) : atI [a0, a1, a2, a3, a4, a5] 0 = some a0 := by simp [atI, ixN]
@[simp] theorem at6_1 {α : Type} (a0 a1 a2 a3 a4 a5 : α) : atI [a0, a1, a2, a3, a4, a5] 1 = some a1 := by simp [atI, ixN]
@[simp] theorem at6_2 {α : Type} (a0 a1 a2 a3 a4 a5 : α) : atI [a0, a1, a2, a3, a4, a5] 2 = some a2 := by simp [atI, ixN]
@[simp] theorem at6_3 {α : Type} (a0 a1 a2 a3 a4 a5 : α) : atI [a0, a1, a2, a3, a4, a5] 3 = some a3 := by simp [atI, ixN]
@[simp] theorem at6_4 {α : Type} (a0 a1 a2 a3 a4 a5 : α) : atI [a0, a1, a2, a3, a4, a5] 4 = some a4 := by simp [atI, ixN]
@[simp] theorem at6_5 {α : Type} (a0 a1 a2 a3 a4 a5 : α) : atI [a0, a1, a2, a3, a4, a5] 5 = some a5 := by simp [atI, ixN]
theorem at_last {α : Type} (xs : List α) : atI xs (-1) = xs.getLast? := by
  cases h : xs.length with
  | zero =>
    have : xs = [] := List.length_eq_zero_iff.mp h
    subst this
    rfl
  | succ n =>
    rw [atI_neg (by decide) (by omega), List.getLast?_eq_getElem?, h]
    congr 1
    omega
theorem at_snd {α : Type} (xs : List α) (h : 2 ≤ xs.length) : atI xs (-2) = xs[xs.length - 2]? := by
  rw [atI_neg (by decide) (by omega)]
  congr 1
  omega
end Dn

namespace Dn
open PySem L2
inductive Val where
  | num (i : Int) | ref (n : Int)
inductive Thing where
  | box (v : Val) | fn (b : Int) (vs : List Val)
structure Frm where
  body : Int
  place : Int
  own : List Val
  stack : List Val
def encV : Val → D
  | .num i => .int i
  | .ref n => .tup [.str w_at, .int n]
def encT : Thing → D
  | .box v => .tup [.str w_box, encV v]
  | .fn b vs => .tup [.str w_fun, .int b, .tup (vs.map encV)]
def encF (f : Frm) : D := .tup [.int f.body, .int f.place, .tup (f.own.map encV), .tup (f.stack.map encV)]
def encTs (ts : List (Int × Thing)) : D := .dic (ts.map fun t => (Sum.inl t.1, encT t.2))
def mostN : Int := 1000000000000000000000000000000
def okV (N : List Int) : Val → Prop
  | .num i => -mostN ≤ i ∧ i ≤ mostN
  | .ref n => n ∈ N
theorem ix_scr {ns : List Int} {i : Int} (h0 : 0 ≤ i) (h1 : i < ns.length) : ∃ z : Int, ixD (.scr ns) (.int i) = .ok (.int z) := by
  have e := atI_pos (xs := ns) h0 h1
  have h : i.toNat < ns.length := by omega
  rw [List.getElem?_eq_getElem h] at e
  refine ⟨ns[i.toNat], ?_⟩
  show (match atI ns i with
    | some d => R.ok (D.int d)
    | none => .no) = _
  rw [e]
/-- frames, things -/
def okT (N : List Int) (bodies : Int) : Thing → Prop
  | .box v => okV N v
  | .fn b vs => 0 ≤ b ∧ b < bodies ∧ vs.length ≤ 8 ∧ ∀ v ∈ vs, okV N v
theorem find_none {ts : List (Int × Thing)} {n : Int} (h : n ∉ ts.map (·.1)) : (((ts.map fun t => ((Sum.inl t.1 : L2.Key), encT t.2)).any fun kv => decide (kv.1 = Sum.inl n)) = true) = False := by
  simp only [List.any_map, eq_iff_iff, iff_false]
  intro q
  obtain ⟨t, h1, h2⟩ := List.any_eq_true.mp q
  have h3 := of_decide_eq_true h2
  have h4 : t.1 = n := by injection h3
  exact h (List.mem_map.mpr ⟨t, h1, h4⟩)
theorem put_new {ts : List (Int × Thing)} {n : Int} {t : Thing} (h : n ∉ ts.map (·.1)) : putD (ts.map fun t => ((Sum.inl t.1 : L2.Key), encT t.2)) (.inl n) (encT t) = ((ts ++ [(n, t)]).map fun t => ((Sum.inl t.1 : L2.Key), encT t.2)) := by
  unfold putD
  rw [if_neg (by rw [find_none h]; exact id)]
  simp
/-- a program, by its bodies' rows -/
def encP (prog : List (List D)) : D := .lst (prog.map .lst)
def okF (N : List Int) (prog : List (List D)) (f : Frm) : Prop :=
  0 ≤ f.body ∧ f.body < prog.length ∧ 0 ≤ f.place ∧ f.place ≤ ((prog.getD f.body.toNat []).length : Int) ∧ f.own.length ≤ 60 ∧ f.stack.length ≤ 60 ∧ (∀ v ∈ f.own, okV N v) ∧ ∀ v ∈ f.stack, okV N v
inductive Row where
  | plain (w : Str) | num (i : Int) | get (k : Int) | fn (b : Int) (ks : List Int) | jump (p : Int) | unless (p : Int)
def encR : Row → D
  | .plain w => .tup [.str w]
  | .num i => .tup [.str w_num, .int i]
  | .get k => .tup [.str w_get, .int k]
  | .fn b ks => .tup [.str w_fun, .int b, .tup (ks.map .int)]
  | .jump p => .tup [.str w_jump, .int p]
  | .unless p => .tup [.str w_unless, .int p]
def okR (ws : List Str) (bodies size : Int) : Row → Prop
  | .plain w => w ∈ ws ∧ w ≠ w_num ∧ w ≠ w_get ∧ w ≠ w_fun ∧ w ≠ w_jump ∧ w ≠ w_unless
  | .num i => w_num ∈ ws ∧ -1000000000000 ≤ i ∧ i ≤ 1000000000000
  | .get k => w_get ∈ ws ∧ 0 ≤ k ∧ k < 60
  | .fn b ks => w_fun ∈ ws ∧ 0 ≤ b ∧ b < bodies ∧ ks.length ≤ 8 ∧ ∀ k ∈ ks, 0 ≤ k ∧ k < 60
  | .jump p => w_jump ∈ ws ∧ 0 ≤ p ∧ p ≤ size
  | .unless p => w_unless ∈ ws ∧ 0 ≤ p ∧ p ≤ size
abbrev Prog := List (List Row)
def encPR (p : Prog) : D := encP (p.map fun b => b.map encR)
def okB (ws : List Str) (bodies : Int) (b : List Row) : Prop := b.length ≤ 60 ∧ ∀ r ∈ b, okR ws bodies b.length r
@[simp] theorem m_fnX (n : Nat) (I : List Nat) (f : Env → R Fl) (ds : List D) : fnX n I f ds = leaveX I (f (enter n ds)) := Eq.trans rfl rfl
theorem m_leaveX1 (d : D) (ρ : Env) (i : Nat) (e : D) (h : ρ[i]? = some (some e)) : leaveX [i] (.ok (.rt d ρ)) = .ok (d, [e]) := by
  show (match outs ρ [i] with
    | some ds => R.ok (d, ds)
    | none => .no) = _
  unfold outs
  rw [h]
  rfl
def ixVK (k : R D) : Option (Option D) → R D
  | some (some d) => k >>= fun k => ixD d k
  | _ => .no
@[simp] theorem m_ixV (i : Nat) (fb : Env → R D) (ρ : Env) : eIxV i fb ρ = ixVK (fb ρ) ρ[i]? := by
  unfold eIxV
  cases ρ[i]? with
  | none => rfl
  | some o => cases o <;> rfl
@[simp] theorem m_ixVK (d : D) (k : D) : ixVK (.ok k) (some (some d)) = ixD d k := Eq.trans rfl rfl
@[simp] theorem m_min2 (i j : Int) : min2D [.int i, .int j] = .ok (.int (if j < i then j else i)) := Eq.trans rfl rfl
@[simp] theorem m_max2 (i j : Int) : max2D [.int i, .int j] = .ok (.int (if j > i then j else i)) := Eq.trans rfl rfl
theorem top_at {fs : List Frm} (f : Frm) : atI ((fs ++ [f]).map encF) (-1) = some (encF f) := by
  rw [at_last]
  simp
theorem body_at {p : Prog} {b : Int} (h0 : 0 ≤ b) (h1 : b < p.length) : atI (p.map fun b => D.lst (b.map encR)) b = some (.lst ((p.getD b.toNat []).map encR)) := by
  have h2 : b.toNat < p.length := by omega
  rw [atI_pos h0 (by simpa using h1), List.getElem?_map, List.getD_eq_getElem?_getD, List.getElem?_eq_getElem h2]
  rfl
theorem enc_pr (p : Prog) : encPR p = .lst (p.map fun b => D.lst (b.map encR)) := by simp [encPR, encP, Function.comp_def]
/-- the row put in at a frame's place -/
def putRow (body : List Row) (pl : Int) (r : Row) : List Row := body.take pl.toNat ++ [r] ++ body.drop (pl.toNat + 1)
/-! ### alike, same_state: of a thing and itself -/
def sh : Nat → D → Bool
  | _, .non => true
  | _, .int _ => true
  | _, .str _ => true
  | n + 1, .tup xs => decide (xs.length ≤ 1000000) && xs.attach.all fun ⟨x, _⟩ => sh n x
  | n + 1, .lst xs => decide (xs.length ≤ 1000000) && xs.attach.all fun ⟨x, _⟩ => sh n x
  | _, _ => false
theorem sh_tup {n : Nat} {xs : List D} : sh (n + 1) (.tup xs) = true ↔ xs.length ≤ 1000000 ∧ ∀ x ∈ xs, sh n x = true := by
  simp [sh]
theorem sh_lst {n : Nat} {xs : List D} : sh (n + 1) (.lst xs) = true ↔ xs.length ≤ 1000000 ∧ ∀ x ∈ xs, sh n x = true := by
  simp [sh]
@[simp] theorem m_isi (T : String) (d : D) : isiD T d = .ok (.bl (isiB T d)) := Eq.trans rfl rfl
@[simp] theorem m_isi2 (T U : String) (d : D) : isi2D T U d = .ok (.bl (isiB T d || isiB U d)) := Eq.trans rfl rfl
@[simp] theorem i_t1 (xs : List D) : isiB "tuple" (.tup xs) = true := by simp [isiB, tyName]
@[simp] theorem i_t2 (xs : List D) : isiB "tuple" (.lst xs) = false := by simp [isiB, tyName]
@[simp] theorem i_t3 (xs : Int) : isiB "tuple" (.int xs) = false := by simp [isiB, tyName]
@[simp] theorem i_t4 (xs : Str) : isiB "tuple" (.str xs) = false := by simp [isiB, tyName]
@[simp] theorem i_t5 : isiB "tuple" .non = false := by simp [isiB, tyName]
@[simp] theorem i_l1 (xs : List D) : isiB "list" (.tup xs) = false := by simp [isiB, tyName]
@[simp] theorem i_l2 (xs : List D) : isiB "list" (.lst xs) = true := by simp [isiB, tyName]
@[simp] theorem i_l3 (xs : Int) : isiB "list" (.int xs) = false := by simp [isiB, tyName]
@[simp] theorem i_l4 (xs : Str) : isiB "list" (.str xs) = false := by simp [isiB, tyName]
@[simp] theorem i_l5 : isiB "list" .non = false := by simp [isiB, tyName]
@[simp] theorem i_s1 (xs : List D) : isiB "str" (.tup xs) = false := by simp [isiB, tyName]
@[simp] theorem i_s2 (xs : List D) : isiB "str" (.lst xs) = false := by simp [isiB, tyName]
@[simp] theorem i_s3 (xs : Int) : isiB "str" (.int xs) = false := by simp [isiB, tyName]
@[simp] theorem i_s4 (xs : Str) : isiB "str" (.str xs) = true := by simp [isiB, tyName]
@[simp] theorem i_s5 : isiB "str" .non = false := by simp [isiB, tyName]
@[simp] theorem i_i1 (xs : List D) : isiB "int" (.tup xs) = false := by simp [isiB, tyName]
@[simp] theorem i_i3 (xs : Int) : isiB "int" (.int xs) = true := by simp [isiB, tyName]
@[simp] theorem i_i4 (xs : Str) : isiB "int" (.str xs) = false := by simp [isiB, tyName]
@[simp] theorem i_i5 : isiB "int" .non = false := by simp [isiB, tyName]
@[simp] theorem i_b3 (xs : Int) : isiB "bool" (.int xs) = false := by simp [isiB, tyName]
@[simp] theorem i_d1 (es : List (L2.Key × D)) : isiB "dict" (.dic es) = true := by simp [isiB, tyName]
@[simp] theorem m_eqB (a b : Bool) : eqD (.bl a) (.bl b) = .ok (.bl (a == b)) := Eq.trans rfl rfl
theorem all_true (xs : List D) : allD [.lst (xs.map fun _ => .bl true)] = .ok (.bl true) := by
  have h : blsD (xs.map fun _ => D.bl true) = some (xs.map fun _ => true) := by
    induction xs with
    | nil => rfl
    | cons x xs ih =>
      show (blsD (xs.map fun _ => D.bl true)).map (true :: ·) = _
      rw [ih]
      rfl
  show (match blsD (xs.map fun _ => D.bl true) with
    | some bs => R.ok (D.bl (bs.all id))
    | none => .no) = _
  rw [h]
  simp
theorem val_at : ∀ {ts : List (Int × Thing)} {n : Int} {t : Thing}, (ts.map (·.1)).Nodup → (n, t) ∈ ts → valK (ts.map fun t => ((Sum.inl t.1 : L2.Key), encT t.2)) (.inl n) = some (encT t)
  | [], n, t, _, h => by simp at h
  | (m, u) :: ts, n, t, nd, h => by
    rw [List.map_cons, List.nodup_cons] at nd
    unfold valK
    rw [List.map_cons, List.find?_cons]
    rcases List.mem_cons.mp h with e | h
    · cases e
      simp
    · have ne : m ≠ n := fun e => nd.1 (by rw [e]; exact List.mem_map.mpr ⟨_, h, rfl⟩)
      have e : decide ((Sum.inl m : L2.Key) = Sum.inl n) = false := decide_eq_false fun q => ne (by injection q)
      simp only [e]
      exact val_at nd.2 h
@[simp] theorem m_walkL (xs : List D) : walkD (.lst xs) = .ok xs := Eq.trans rfl rfl
theorem sh_val (n : Nat) (v : Val) : sh (n + 1) (encV v) = true := by
  cases v with
  | num i => rfl
  | ref m => exact sh_tup.mpr ⟨by show 2 ≤ 1000000; decide, fun x hx => by
      rcases List.mem_cons.mp hx with rfl | hx
      · cases n <;> rfl
      · rw [List.mem_singleton.mp hx]; cases n <;> rfl⟩
theorem sh_vals {n : Nat} {vs : List Val} (h : vs.length ≤ 100000) : sh (n + 2) (.tup (vs.map encV)) = true := sh_tup.mpr ⟨by rw [List.length_map]; omega, fun x hx => by
  obtain ⟨v, _, rfl⟩ := List.mem_map.mp hx
  exact sh_val n v⟩
theorem sh_thing {t : Thing} {N : List Int} {b : Int} (h : okT N b t) : sh 6 (encT t) = true := by
  cases t with
  | box v => exact sh_tup.mpr ⟨by show 2 ≤ 1000000; decide, fun x hx => by
      rcases List.mem_cons.mp hx with rfl | hx
      · rfl
      · rw [List.mem_singleton.mp hx]; exact sh_val 4 v⟩
  | fn b vs => exact sh_tup.mpr ⟨by show 3 ≤ 1000000; decide, fun x hx => by
      rcases List.mem_cons.mp hx with rfl | hx
      · rfl
      rcases List.mem_cons.mp hx with rfl | hx
      · rfl
      · rw [List.mem_singleton.mp hx]; exact sh_vals (n := 3) (by have := h.2.2.1; omega)⟩
theorem sh_frame {n : Nat} {f : Frm} (h1 : f.own.length ≤ 100000) (h2 : f.stack.length ≤ 100000) : sh (n + 3) (encF f) = true := sh_tup.mpr ⟨by show 4 ≤ 1000000; decide, fun x hx => by
  rcases List.mem_cons.mp hx with rfl | hx
  · rfl
  rcases List.mem_cons.mp hx with rfl | hx
  · rfl
  rcases List.mem_cons.mp hx with rfl | hx
  · exact sh_vals (n := n) h1
  · rw [List.mem_singleton.mp hx]; exact sh_vals (n := n) h2⟩
theorem sh_frames {fs : List Frm} (h : fs.length ≤ 100000) (h1 : ∀ f ∈ fs, f.own.length ≤ 100000 ∧ f.stack.length ≤ 100000) : sh 6 (.lst (fs.map encF)) = true := sh_lst.mpr ⟨by rw [List.length_map]; omega, fun x hx => by
  obtain ⟨f, hf, rfl⟩ := List.mem_map.mp hx
  exact sh_frame (n := 2) (h1 f hf).1 (h1 f hf).2⟩
@[simp] theorem m_xPure (f : Env → R D) (ρ : Env) : xPure f ρ = (f ρ >>= fun d => .ok (d, ρ)) := Eq.trans rfl rfl
@[simp] theorem m_xaNil (ρ : Env) : xaNil ρ = .ok ([], ρ) := Eq.trans rfl rfl
@[simp] theorem m_xaCons (f : Env → R (D × Env)) (g : Env → R (List D × Env)) (ρ : Env) : xaCons f g ρ = (f ρ >>= fun p => g p.2 >>= fun q => .ok (p.1 :: q.1, q.2)) := Eq.trans rfl rfl
def xvB (i : Nat) (q : List D × Env) : Option (Option D) → R (List D × Env)
  | some (some d) => .ok (d :: q.1, q.2)
  | _ => .no
def xvA (i : Nat) (g : R (List D × Env)) : Option (Option D) → R (List D × Env)
  | some (some _) => g >>= fun q => xvB i q q.2[i]?
  | _ => .no
@[simp] theorem m_xaVar (i : Nat) (g : Env → R (List D × Env)) (ρ : Env) : xaVar i g ρ = xvA i (g ρ) ρ[i]? := by
  unfold xaVar
  cases ρ[i]? with
  | none => rfl
  | some o => cases o with
    | none => rfl
    | some d =>
      show (g ρ >>= _) = (g ρ >>= _)
      congr 1
@[simp] theorem m_xvA (i : Nat) (g : R (List D × Env)) (d : D) : xvA i g (some (some d)) = (g >>= fun q => xvB i q q.2[i]?) := Eq.trans rfl rfl
@[simp] theorem m_xvB (i : Nat) (q : List D × Env) (d : D) : xvB i q (some (some d)) = .ok (d :: q.1, q.2) := Eq.trans rfl rfl
@[simp] theorem m_xCall (g : List D → R (D × List D)) (I : List Nat) (fas : Env → R (List D × Env)) (ρ : Env) : xCall g I fas ρ = (fas ρ >>= fun p => g p.1 >>= fun q => if q.2.length = I.length then .ok (q.1, putL p.2 I q.2) else .no) := Eq.trans rfl rfl
@[simp] theorem m_putL (ρ : Env) (i : Nat) (d : D) : putL ρ [i] [d] = ρ.set i (some d) := Eq.trans rfl rfl
@[simp] theorem m_asgX (i : Nat) (f : Env → R (D × Env)) (ρ : Env) : sAsgX i f ρ = (f ρ >>= fun q => .ok (.nx (q.2.set i (some q.1)))) := Eq.trans rfl rfl
@[simp] theorem m_noE {α : Type} (a : α) : noExc (R.ok a) = .ok a := Eq.trans rfl rfl
@[simp] theorem m_appP (i : Nat) (o : O) (π : List Nat) (fe : Env → R D) (ρ : Env) : sAppP i o π fe ρ = (noExc (fe ρ) >>= fun y => sAtP i o π (appD y) ρ) := Eq.trans rfl rfl
@[simp] theorem m_putP (i : Nat) (o : O) (π : List Nat) (fk fe : Env → R D) (ρ : Env) : sPutP i o π fk fe ρ = (noExc (fe ρ) >>= fun y => noExc (fk ρ) >>= fun k => sAtP i o π (storeK k y) ρ) := Eq.trans rfl rfl
theorem m_atP {i : Nat} {o : O} {π : List Nat} {g : D → R D} {ρ : Env} {d e e' : D} (h : ρ[i]? = some (some d)) (h2 : atP o d π = some (.own .fz, e)) (h3 : g e = .ok e') : sAtP i o π g ρ = .ok (.nx (ρ.set i (some (setP d π e')))) := by
  unfold sAtP
  rw [h]
  show (match atP o d π with
    | some (.own .fz, e) => g e >>= fun e' => R.ok (Fl.nx (ρ.set i (some (setP d π e'))))
    | _ => R.no) = _
  rw [h2]
  show (g e >>= _) = _
  rw [h3, ok_bind]
theorem pls_of {n : Nat} {xs : List D} (h : ∀ x ∈ xs, pl n x = true) : pls n xs = true := by
  induction xs with
  | nil => cases n <;> rfl
  | cons x xs ih =>
    rw [pls, Bool.and_eq_true]
    exact ⟨h x List.mem_cons_self, ih fun y hy => h y (List.mem_cons_of_mem _ hy)⟩
theorem nb_val (v : Val) : noBox (encV v) = true := by cases v <;> rfl
theorem nbs_vals : ∀ vs : List Val, noBoxs (vs.map encV) = true
  | [] => rfl
  | v :: vs => by
    show (noBox (encV v) && noBoxs (vs.map encV)) = true
    rw [nb_val, nbs_vals]
    rfl
theorem nb_frm (f : Frm) : noBox (encF f) = true := by
  show (true && (true && (noBoxs (f.own.map encV) && (noBoxs (f.stack.map encV) && true)))) = true
  rw [nbs_vals, nbs_vals]
  rfl
theorem nb_thing (t : Thing) : noBox (encT t) = true := by
  cases t with
  | box v =>
    show (true && (noBox (encV v) && true)) = true
    rw [nb_val]
    rfl
  | fn b vs =>
    show (true && (true && (noBoxs (vs.map encV) && true))) = true
    rw [nbs_vals]
    rfl
theorem chk_state (fs : List Frm) (ts : List (Int × Thing)) : chk (.tup [.fz, .own .fz, .own .fz]) (.tup [.non, .lst (fs.map encF), encTs ts]) = true := by
  show (true && ((fs.map encF).all (chk .fz) && (((ts.map fun t => ((Sum.inl t.1 : L2.Key), encT t.2)).all fun kv => noBox kv.2) && true))) = true
  have a : (fs.map encF).all (chk .fz) = true := List.all_eq_true.mpr fun x hx => by
    obtain ⟨f, _, rfl⟩ := List.mem_map.mp hx
    exact nb_frm f
  have b : ((ts.map fun t => ((Sum.inl t.1 : L2.Key), encT t.2)).all fun kv => noBox kv.2) = true := List.all_eq_true.mpr fun x hx => by
    obtain ⟨t, _, rfl⟩ := List.mem_map.mp hx
    exact nb_thing t.2
  rw [a, b]
  rfl
theorem put_len (body : List Row) (pl : Int) (r : Row) (x : Row) (h : x ∈ putRow body pl r) : x = r ∨ x ∈ body := by
  unfold putRow at h
  rcases List.mem_append.mp h with h | h
  · rcases List.mem_append.mp h with h | h
    · exact .inr (List.mem_of_mem_take h)
    · exact .inl (List.mem_singleton.mp h)
  · exact .inr (List.mem_of_mem_drop h)
theorem put_at (body : List Row) (pl : Int) (r : Row) (h0 : 0 ≤ pl) (h1 : pl ≤ body.length) : (putRow body pl r)[pl.toNat]? = some r := by
  unfold putRow
  have e : (body.take pl.toNat).length = pl.toNat := by
    rw [List.length_take]
    omega
  rw [List.getElem?_append_left (by rw [List.length_append, e]; simp), List.getElem?_append_right (by omega), e, Nat.sub_self]
  rfl
theorem pl_row {ws : List Str} (hw : ∀ w ∈ ws, PyData.strOk w = true) {b z : Int} {r : Row} (h : okR ws b z r) : pl 2 (encR r) = true := by
  cases r with
  | plain w => exact pls_of fun x hx => by rw [List.mem_singleton.mp hx]; exact hw w h.1
  | num i =>
    exact pls_of fun x hx => by
      rcases List.mem_cons.mp hx with rfl | hx
      · exact hw _ h.1
      · rw [List.mem_singleton.mp hx]; rfl
  | get i =>
    exact pls_of fun x hx => by
      rcases List.mem_cons.mp hx with rfl | hx
      · exact hw _ h.1
      · rw [List.mem_singleton.mp hx]; rfl
  | fn b ks =>
    exact pls_of fun x hx => by
      rcases List.mem_cons.mp hx with rfl | hx
      · exact hw _ h.1
      rcases List.mem_cons.mp hx with rfl | hx
      · rfl
      · rw [List.mem_singleton.mp hx]
        exact pls_of fun x hx => by
          obtain ⟨k, _, rfl⟩ := List.mem_map.mp hx
          rfl
  | jump i =>
    exact pls_of fun x hx => by
      rcases List.mem_cons.mp hx with rfl | hx
      · exact hw _ h.1
      · rw [List.mem_singleton.mp hx]; rfl
  | «unless» i =>
    exact pls_of fun x hx => by
      rcases List.mem_cons.mp hx with rfl | hx
      · exact hw _ h.1
      · rw [List.mem_singleton.mp hx]; rfl
theorem pl_progR {ws : List Str} (hw : ∀ w ∈ ws, PyData.strOk w = true) {p : Prog} (h : ∀ b ∈ p, ∀ r ∈ b, ∃ n z, okR ws n z r) : pl 4 (encPR p) = true := by
  rw [enc_pr]
  refine pls_of fun x hx => ?_
  obtain ⟨b, hb, rfl⟩ := List.mem_map.mp hx
  refine pls_of fun y hy => ?_
  obtain ⟨r, hr, rfl⟩ := List.mem_map.mp hy
  obtain ⟨n, z, q⟩ := h b hb r hr
  exact pl_row hw q
/-! ### a step, from what its parts give (any row) -/
theorem at_zero {α : Type} (x : α) (l : List α) : atI (x :: l) 0 = some x := by
  rw [atI_pos (by decide) (by rw [List.length_cons]; omega)]
  rfl
theorem enc_frm (f : Frm) : encF f = .tup [.int f.body, .int f.place, .tup (f.own.map encV), .tup (f.stack.map encV)] := rfl
theorem nb_str (s : Str) : noBox (.str s) = true := rfl
/-! ### numbers of things: the next one -/
theorem fold_next (ns : List Int) : ∀ n : Int, ns.foldl (fun a y => if a < y then y else a) n + 1 = ns.foldl (fun a y => if y + 1 > a then y + 1 else a) (n + 1) := by
  induction ns with
  | nil => intro n; rfl
  | cons m ns ih =>
    intro n
    rw [List.foldl_cons, List.foldl_cons, ih]
    congr 1
    by_cases h : n < m
    · rw [if_pos h, if_pos (by omega)]
    · rw [if_neg h, if_neg (by omega)]
def nextN (ns : List Int) : Int := maxZ ns (-1) + 1
theorem next_fold {ns : List Int} (h : ∀ n ∈ ns, 0 ≤ n) : ns.foldl (fun a y => if y + 1 > a then y + 1 else a) 0 = nextN ns := by
  unfold nextN
  cases ns with
  | nil => rfl
  | cons n ns =>
    show _ = ns.foldl (fun a y => if a < y then y else a) n + 1
    rw [fold_next, List.foldl_cons, if_pos (by have := h n (by simp); omega)]
theorem fold_ge (ns : List Int) : ∀ n : Int, n ≤ ns.foldl (fun a y => if a < y then y else a) n ∧ ∀ m ∈ ns, m ≤ ns.foldl (fun a y => if a < y then y else a) n := by
  induction ns with
  | nil => intro n; exact ⟨Int.le_refl _, fun _ h => by simp at h⟩
  | cons k ns ih =>
    intro n
    rw [List.foldl_cons]
    obtain ⟨h1, h2⟩ := ih (if n < k then k else n)
    have g : n ≤ (if n < k then k else n) ∧ k ≤ (if n < k then k else n) := by split <;> omega
    generalize (if n < k then k else n) = z at h1 h2 g ⊢
    refine ⟨by omega, fun m hm => ?_⟩
    rcases List.mem_cons.mp hm with rfl | hm
    · omega
    · exact h2 m hm
theorem next_new (ns : List Int) : nextN ns ∉ ns := by
  intro h
  unfold nextN at h
  cases ns with
  | nil => simp at h
  | cons n ns =>
    obtain ⟨h1, h2⟩ := fold_ge ns n
    have e : maxZ (n :: ns) (-1) = ns.foldl (fun a y => if a < y then y else a) n := rfl
    rw [e] at h
    rcases List.mem_cons.mp h with h | h
    · omega
    · have := h2 _ h
      omega
theorem ints_of (ns : List Int) : intsD (ns.map D.int) = some ns := by
  induction ns with
  | nil => rfl
  | cons n ns ih =>
    show (intsD (ns.map D.int)).map (n :: ·) = _
    rw [ih]
    rfl
theorem maxDf_ok (ns : List Int) (d : Int) : maxDf (.lst (ns.map D.int)) (.int d) = .ok (.int (maxZ ns d)) := by
  show (match intsD (ns.map D.int) with
    | some ns => R.ok (D.int (maxZ ns d))
    | none => .no) = _
  rw [ints_of]
/-! ### k03: boxes -/
theorem pl_val (v : Val) : pl 2 (encV v) = true := by
  cases v with
  | num i => rfl
  | ref n => show (PyData.strOk w_at && (true && true)) = true; decide +kernel
theorem pl_vals (vs : List Val) : pl 3 (.tup (vs.map encV)) = true := pls_of fun x hx => by
  obtain ⟨v, _, rfl⟩ := List.mem_map.mp hx
  exact pl_val v
theorem eq_nilT (vs : List Val) : eqD (.tup (vs.map encV)) (.tup []) = .ok (.bl (decide (vs = []))) := by
  refine Eq.trans (if_pos (by rw [shaped_pl (pl_vals vs) (by decide)]; rfl)) ?_
  cases vs <;> rfl
def orF (b : Bool) : D → R D
  | .bl x => .ok (.bl (b || x))
  | d => .ok d
@[simp] theorem m_orF (b x : Bool) : orF b (.bl x) = .ok (.bl (b || x)) := Eq.trans rfl rfl
@[simp] theorem m_in0 (a : Str) : inD (.str a) (.tup []) = .ok (.bl false) := Eq.trans rfl rfl
@[simp] theorem m_in1 (a b : Str) (r : List D) : inD (.str a) (.tup (.str b :: r)) = (inD (.str a) (.tup r) >>= orF (decide (a = b))) := by
  show (if (flatD (.str a) && (D.str b :: r).all flatD) = true then R.ok (D.bl (inV (toV (.str a)) ((D.str b :: r).map toV))) else .no) = ((if (flatD (.str a) && r.all flatD) = true then R.ok (D.bl (inV (toV (.str a)) (r.map toV))) else .no) >>= orF (decide (a = b)))
  have e : (flatD (.str a) && (D.str b :: r).all flatD) = (flatD (.str a) && r.all flatD) := by simp [flatD]
  rw [e]
  split
  · rw [ok_bind]
    have h : inV (toV (.str a)) ((D.str b :: r).map toV) = (decide (a = b) || inV (toV (.str a)) (r.map toV)) := by
      show ((b == a) || _) = _
      congr 1
      by_cases q : a = b
      · subst q; simp
      · rw [decide_eq_false q]
        exact beq_false_of_ne (Ne.symm q)
    rw [h]
    rfl
  · rfl
@[simp] theorem m_notIn (d e : D) : notInD d e = (inD d e >>= notD) := Eq.trans rfl rfl
@[simp] theorem i_nV (i : Int) : encV (.num i) = .int i := rfl
@[simp] theorem i_rV (i : Int) : encV (.ref i) = .tup [.str w_at, .int i] := rfl
theorem last_at (st : List Val) (v : Val) : atI ((st ++ [v]).map encV) (-1) = some (encV v) := by
  rw [at_last]
  simp
theorem cut_last (st : List Val) (v : Val) : cut ((st ++ [v]).map encV) none (some (-1)) = st.map encV := by
  rw [cut_neg _ _ (by decide), ← List.map_take]
  congr 1
  rw [List.take_left' (by simp; omega)]
theorem cut_one (st : List Val) (v : Val) : cut ((st ++ [v]).map encV) none (some ((((st ++ [v]).map encV).length : Int) - 1)) = st.map encV := by
  rw [cut_to _ _ (by simp), ← List.map_take]
  congr 1
  rw [List.take_left' (by simp)]
theorem frames_cut (fs : List Frm) (f : Frm) : cut ((fs ++ [f]).map encF) none (some (-1)) = fs.map encF := by
  rw [cut_neg _ _ (by decide), ← List.map_take]
  congr 1
  rw [List.take_left' (by simp; omega)]
theorem frames_cat (fs : List Frm) (g : Frm) (h : fs.length ≤ 100) : addD (.lst (fs.map encF)) (.lst [.tup [.int g.body, .int g.place, .tup (g.own.map encV), .tup (g.stack.map encV)]]) = .ok (.lst ((fs ++ [g]).map encF)) := by
  rw [m_catL _ _ (by simp [most]; omega)]
  simp [encF]
theorem vals_cat (st : List Val) (v : Val) (h : st.length ≤ 100) : addD (.tup (st.map encV)) (.tup [encV v]) = .ok (.tup ((st ++ [v]).map encV)) := by
  rw [m_catT _ _ (by simp [most]; omega)]
  simp
theorem own_at (O : List Val) (k : Int) (h0 : 0 ≤ k) (h1 : k < O.length) : atI (O.map encV) k = some (encV (O.getD k.toNat (.num 0))) := by
  rw [atI_pos h0 (by rw [List.length_map]; exact h1), List.getElem?_map, List.getD_eq_getElem?_getD, List.getElem?_eq_getElem (by omega)]
  rfl
theorem at_thing {ts : List (Int × Thing)} {n : Int} {t : Thing} (nd : (ts.map (·.1)).Nodup) (h : (n, t) ∈ ts) : ixD (encTs ts) (.int n) = .ok (encT t) := by
  show (match valK (ts.map fun t => ((Sum.inl t.1 : L2.Key), encT t.2)) (.inl n) with
    | some d => R.ok d
    | none => .no) = _
  rw [val_at nd h]
theorem head_thing (t : Thing) : ixD (encT t) (.int 0) = .ok (.str (match t with | .box _ => w_box | .fn _ _ => w_fun)) := by
  cases t with
  | box v => simp [encT]
  | fn b vs => simp [encT, at_zero]
@[simp] theorem m_asgT (is M : List Nat) (f : Env → R D) (ρ : Env) : sAsgT is M f ρ = (f ρ >>= fun d => setT is d (hideE ρ M) >>= fun ρ' => .ok (.nx ρ')) := Eq.trans rfl rfl
@[simp] theorem m_setT2 (i j : Nat) (a b : D) (ρ : Env) : setT [i, j] (.tup [a, b]) ρ = .ok ((ρ.set i (some a)).set j (some b)) := Eq.trans rfl rfl
theorem keys_of (ts : List (Int × Thing)) : listD [encTs ts] = .ok (.lst ((ts.map (·.1)).map D.int)) := by
  show R.ok (D.lst ((ts.map fun t => ((Sum.inl t.1 : L2.Key), encT t.2)).map fun kv => dKey kv.1)) = _
  rw [List.map_map, List.map_map]
  rfl
theorem dict_of (ts : List (Int × Thing)) : dictD [encTs ts] = .ok (encTs ts) := m_dictD _
theorem nil_or (st : List Val) : st = [] ∨ ∃ s v, st = s ++ [v] := by
  rcases List.eq_nil_or_concat st with h | ⟨s, v, h⟩
  · exact .inl h
  · exact .inr ⟨s, v, by rw [h]; simp⟩
def putT (ts : List (Int × Thing)) (n : Int) (t : Thing) : List (Int × Thing) := ts.map fun q => if q.1 = n then (n, t) else q
theorem putT_keys (ts : List (Int × Thing)) (n : Int) (t : Thing) : (putT ts n t).map (·.1) = ts.map (·.1) := by
  unfold putT
  rw [List.map_map]
  refine List.map_congr_left fun q _ => ?_
  show (if q.1 = n then (n, t) else q).1 = q.1
  split
  · rename_i h; exact h.symm
  · rfl
theorem put_old {ts : List (Int × Thing)} {n : Int} {t : Thing} (h : n ∈ ts.map (·.1)) : putD (ts.map fun t => ((Sum.inl t.1 : L2.Key), encT t.2)) (.inl n) (encT t) = ((putT ts n t).map fun t => ((Sum.inl t.1 : L2.Key), encT t.2)) := by
  unfold putD putT
  have e : ((ts.map fun t => ((Sum.inl t.1 : L2.Key), encT t.2)).any fun kv => decide (kv.1 = Sum.inl n)) = true := by
    obtain ⟨q, h1, h2⟩ := List.mem_map.mp h
    rw [List.any_map]
    exact List.any_eq_true.mpr ⟨q, h1, decide_eq_true (by show (Sum.inl q.1 : L2.Key) = Sum.inl n; rw [h2])⟩
  rw [if_pos e, List.map_map, List.map_map]
  refine List.map_congr_left fun q _ => ?_
  show (if (Sum.inl q.1 : L2.Key) = Sum.inl n then ((Sum.inl q.1 : L2.Key), encT t) else (Sum.inl q.1, encT q.2)) = (Sum.inl (if q.1 = n then (n, t) else q).1, encT (if q.1 = n then (n, t) else q).2)
  by_cases h : q.1 = n
  · rw [if_pos h, if_pos (by rw [h]), h]
  · rw [if_neg h, if_neg (fun z => h (by injection z))]
end Dn

namespace Dn
open PySem L2
/-- a comprehension that leaves some out -/
theorem lcD_filter {α : Type} {enc : α → D} {p : α → Bool} {g : α → D} {fc : Env → R Bool} {fe : Env → R D} {ρ : Env} {i : Nat} : ∀ {xs : List α}, (∀ x ∈ xs, fc (ρ.set i (some (enc x))) = .ok (p x)) → (∀ x ∈ xs, p x = true → fe (ρ.set i (some (enc x))) = .ok (g x)) → lcD (setN i) fc fe ρ (xs.map enc) = .ok ((xs.filter p).map g)
  | [], _, _ => rfl
  | x :: xs, h, h' => by
    show (fc (ρ.set i (some (enc x))) >>= fun b => if b = true then fe (ρ.set i (some (enc x))) >>= fun d => lcD (setN i) fc fe ρ (xs.map enc) >>= fun ds => R.ok (d :: ds) else lcD (setN i) fc fe ρ (xs.map enc)) = _
    have ih := lcD_filter (xs := xs) (fun y hy => h y (List.mem_cons_of_mem _ hy)) (fun y hy => h' y (List.mem_cons_of_mem _ hy))
    rw [h x List.mem_cons_self, ok_bind]
    cases q : p x with
    | true =>
      rw [if_pos rfl, h' x List.mem_cons_self q, ok_bind, ih, ok_bind, List.filter_cons_of_pos q]
      rfl
    | false => rw [if_neg (by simp), ih, List.filter_cons_of_neg (by simp [q])]
theorem eLc_filter {α : Type} {enc : α → D} {p : α → Bool} {g : α → D} {fi : Env → R (List D)} {vs : List Nat} {i : Nat} {fc : Env → R Bool} {fe : Env → R D} {ρ : Env} {xs : List α} (h : fi ρ = .ok (xs.map enc)) (hn : xs.length ≤ 1000000)
    (hc : ∀ x ∈ xs, fc ((wipeE ρ vs).set i (some (enc x))) = .ok (p x)) (he : ∀ x ∈ xs, p x = true → fe ((wipeE ρ vs).set i (some (enc x))) = .ok (g x)) : eLc fi vs (setN i) fc fe ρ = .ok (.lst ((xs.filter p).map g)) := by
  rw [eLc_eq h (by simpa using hn), lcD_filter hc he, ok_bind]
theorem eq_nilI (N : List Int) : eqD (.lst (N.map .int)) (.lst []) = .ok (.bl (decide (N = []))) := by
  have h : pl 1 (.lst (N.map D.int)) = true := by
    show pls 0 _ = true
    induction N with
    | nil => rfl
    | cons n N ih => simpa [pls, pl] using ih
  refine Eq.trans (if_pos (by rw [shaped_pl h (by decide)]; rfl)) ?_
  cases N <;> rfl
@[simp] theorem m_index (fa fe : Env → R D) (ρ : Env) : eIndex fa fe ρ = (fa ρ >>= fun d => match d with
  | .lst ds => fe ρ >>= indexD (.lst ds)
  | _ => .no) := Eq.trans rfl rfl
/-- the law's own count of the next number: the loop's slots i, i+1 -/
theorem count_gen {ns : List Int} {i j : Nat} (hij : i ≠ j) : ∀ (z : Int) (ρ : Env), i < ρ.length → j < ρ.length → ρ[i]? = some (some (.int z)) → ∃ y', forD (setN j) (sAsg i [] (eCall max2D (aCons (eVar i) (aCons (eOp addD (eVar j) (eC (.int 1))) aNil)))) (ns.map D.int) ρ =
    .ok (.nx ((ρ.set j y').set i (some (.int (ns.foldl (fun a y => if y + 1 > a then y + 1 else a) z))))) := by
  induction ns with
  | nil =>
    intro z ρ hi hj h
    refine ⟨ρ[j], ?_⟩
    show R.ok (Fl.nx ρ) = _
    have e1 : ρ.set j ρ[j] = ρ := List.set_getElem_self hj
    rw [e1]
    have e2 : ρ.set i (some (.int z)) = ρ := list_set_self h
    exact congrArg (fun x => R.ok (Fl.nx x)) e2.symm
  | cons n ns ih =>
    intro z ρ hi hj h
    obtain ⟨y', e⟩ := ih (if n + 1 > z then n + 1 else z) ((ρ.set j (some (.int n))).set i (some (.int (if n + 1 > z then n + 1 else z)))) (by simpa using hi) (by simpa using hj) (by rw [List.getElem?_set_self (by simpa using hi)])
    refine ⟨y', ?_⟩
    rw [List.foldl_cons]
    have e3 : ((((ρ.set j (some (.int n))).set i (some (.int (if n + 1 > z then n + 1 else z)))).set j y').set i (some (.int (ns.foldl (fun a y => if y + 1 > a then y + 1 else a) (if n + 1 > z then n + 1 else z))))) = ((ρ.set j y').set i (some (.int (ns.foldl (fun a y => if y + 1 > a then y + 1 else a) (if n + 1 > z then n + 1 else z))))) := by
      generalize (some (D.int (if n + 1 > z then n + 1 else z)) : Option D) = a
      generalize (some (D.int (ns.foldl (fun a y => if y + 1 > a then y + 1 else a) (if n + 1 > z then n + 1 else z))) : Option D) = b
      rw [List.set_comm _ _ hij, List.set_set, List.set_set]
    rw [e3] at e
    rw [← e]
    have g1 : (ρ.set j (some (.int n)))[i]? = some (some (.int z)) := by rw [List.getElem?_set_ne (Ne.symm hij)]; exact h
    have g2 : (ρ.set j (some (.int n)))[j]? = some (some (.int n)) := List.getElem?_set_self hj
    show (setN j (.int n) ρ >>= fun ρ1 => _) = _
    simp [g1, g2]
/-- a loop over typed items, its invariant told by what is reckoned so far -/
theorem forD_fold {α β : Type} {enc : α → D} {set : D → Env → R Env} {body : Env → R Fl} (I : β → Env → Prop) (step : β → α → β) : ∀ {xs : List α} {b : β} {ρ : Env}, I b ρ → (∀ b x ρ, x ∈ xs → I b ρ → ∃ ρ1 ρ2, set (enc x) ρ = .ok ρ1 ∧ body ρ1 = .ok (.nx ρ2) ∧ I (step b x) ρ2) → ∃ ρ', forD set body (xs.map enc) ρ = .ok (.nx ρ') ∧ I (xs.foldl step b) ρ'
  | [], b, ρ, h, _ => ⟨ρ, rfl, h⟩
  | x :: xs, b, ρ, h, st => by
    obtain ⟨ρ1, ρ2, h1, h2, h3⟩ := st b x ρ List.mem_cons_self h
    obtain ⟨ρ', h4, h5⟩ := forD_fold I step (xs := xs) h3 fun b y ρ hy => st b y ρ (List.mem_cons_of_mem _ hy)
    refine ⟨ρ', ?_, h5⟩
    show (set (enc x) ρ >>= fun ρ1 => body ρ1 >>= fun fl => _) = _
    rw [h1, ok_bind, h2, ok_bind]
    exact h4
/-- .. where the state of the loop is bounded -/
theorem forD_foldP {α β : Type} {enc : α → D} {set : D → Env → R Env} {body : Env → R Fl} (I : List α → β → Env → Prop) (step : β → α → β) : ∀ {xs : List α} {b : β} {ρ : Env}, I xs b ρ → (∀ x xs b ρ, I (x :: xs) b ρ → ∃ ρ1 ρ2, set (enc x) ρ = .ok ρ1 ∧ body ρ1 = .ok (.nx ρ2) ∧ I xs (step b x) ρ2) → ∃ ρ', forD set body (xs.map enc) ρ = .ok (.nx ρ') ∧ I [] (xs.foldl step b) ρ'
  | [], b, ρ, h, _ => ⟨ρ, rfl, h⟩
  | x :: xs, b, ρ, h, st => by
    obtain ⟨ρ1, ρ2, h1, h2, h3⟩ := st x xs b ρ h
    obtain ⟨ρ', h4, h5⟩ := forD_foldP I step (xs := xs) h3 st
    refine ⟨ρ', ?_, h5⟩
    show (set (enc x) ρ >>= fun ρ1 => body ρ1 >>= fun fl => _) = _
    rw [h1, ok_bind, h2, ok_bind]
    exact h4
@[simp] theorem m_while (n : Nat) (c : Env → R Bool) (body : Env → R Fl) (ρ : Env) : sWhile n c body ρ = whileD c body n ρ := Eq.trans rfl rfl
theorem while_go {c : Env → R Bool} {body : Env → R Fl} {n : Nat} {ρ ρ1 : Env} (h1 : c ρ = .ok true) (h2 : body ρ = .ok (.nx ρ1)) : whileD c body (n + 1) ρ = whileD c body n ρ1 := by
  show (c ρ >>= fun b => if b = true then body ρ >>= fun fl => (match fl with
    | .nx ρ' => whileD c body n ρ'
    | .rt d ρ' => .ok (.rt d ρ')) else .ok (.nx ρ)) = _
  rw [h1, ok_bind, if_pos rfl, h2, ok_bind]
theorem while_end {c : Env → R Bool} {body : Env → R Fl} {n : Nat} {ρ : Env} (h1 : c ρ = .ok false) : whileD c body (n + 1) ρ = .ok (.nx ρ) := by
  show (c ρ >>= fun b => if b = true then body ρ >>= fun fl => (match fl with
    | .nx ρ' => whileD c body n ρ'
    | .rt d ρ' => .ok (.rt d ρ')) else .ok (.nx ρ)) = _
  rw [h1, ok_bind, if_neg (by simp)]
theorem in_ints (n : Int) (N : List Int) : inD (.int n) (.lst (N.map .int)) = .ok (.bl (decide (n ∈ N))) := by
  have h : (flatD (.int n) && (N.map D.int).all flatD) = true := by simp [flatD]
  refine Eq.trans (if_pos h) ?_
  have e : inV (toV (.int n)) ((N.map D.int).map toV) = decide (n ∈ N) := by
    clear h
    induction N with
    | nil => rfl
    | cons m N ih =>
      have ih' : inV (toV (.int n)) ((N.map D.int).map toV) = decide (n ∈ N) := ih
      show (eqV (.int m) (.int n) || inV (toV (.int n)) ((N.map D.int).map toV)) = _
      rw [ih']
      by_cases h : n = m
      · subst h; simp [eqV]
      · simp [eqV, h, Ne.symm h]
  rw [e]
end Dn

namespace Dn
open PySem L2
/-! ### rules for simp: expressions that change what names own -/
def popK (ρ : Env) (i : Nat) : Option (Option D) → R (D × Env)
  | some (some (.lst ds)) => (match ds.getLast? with
    | some d => .ok (d, ρ.set i (some (.lst ds.dropLast)))
    | none => .no)
  | _ => .no
@[simp] theorem m_xPop (i : Nat) (ρ : Env) : xPop i ρ = popK ρ i ρ[i]? := by
  unfold xPop
  cases ρ[i]? with
  | none => rfl
  | some o => cases o with
    | none => rfl
    | some d => cases d <;> rfl
theorem pop_snoc (ρ : Env) (i : Nat) (xs : List D) (x : D) : popK ρ i (some (some (.lst (xs ++ [x])))) = .ok (x, ρ.set i (some (.lst xs))) := by
  unfold popK
  simp
@[simp] theorem m_xTup (fas : Env → R (List D × Env)) (ρ : Env) : xTup fas ρ = (fas ρ >>= fun q => .ok (.tup q.1, q.2)) := Eq.trans rfl rfl
@[simp] theorem m_retX (f : Env → R (D × Env)) (ρ : Env) : sRetX f ρ = (f ρ >>= fun q => .ok (.rt q.1 q.2)) := Eq.trans rfl rfl
def apxB (i : Nat) (q : D × Env) : Option (Option D) → R Fl
  | some (some (.lst ds)) => putE q.2 i (appD q.1 (.lst ds))
  | _ => .no
def apxA (i : Nat) (g : R (D × Env)) : Option (Option D) → R Fl
  | some (some (.lst _)) => g >>= fun q => apxB i q q.2[i]?
  | _ => .no
@[simp] theorem m_appX (i : Nat) (fe : Env → R (D × Env)) (ρ : Env) : sAppX i fe ρ = apxA i (fe ρ) ρ[i]? := by
  unfold sAppX
  have e : (fun q : D × Env => (match q.2[i]? with
    | some (some (.lst ds)) => putE q.2 i (appD q.1 (.lst ds))
    | _ => .no : R Fl)) = fun q => apxB i q q.2[i]? := by
    funext q
    cases q.2[i]? with
    | none => rfl
    | some o => cases o with
      | none => rfl
      | some d => cases d <;> rfl
  cases ρ[i]? with
  | none => rfl
  | some o => cases o with
    | none => rfl
    | some d => cases d <;> first | rfl | exact congrArg (fun k => fe ρ >>= k) e
@[simp] theorem m_apxA (i : Nat) (g : R (D × Env)) (ds : List D) : apxA i g (some (some (.lst ds))) = (g >>= fun q => apxB i q q.2[i]?) := Eq.trans rfl rfl
theorem m_apxB (i : Nat) (q : D × Env) (ds : List D) (h : ds.length < most) : apxB i q (some (some (.lst ds))) = .ok (.nx (q.2.set i (some (.lst (ds ++ [q.1]))))) := by
  show putE q.2 i (if ds.length < most then _ else _) = _
  rw [if_pos h]
  rfl
def ptxB (i : Nat) (fk : Env → R D) (q : D × Env) : Option (Option D) → R Fl
  | some (some d) => noExc (fk q.2) >>= fun k => putE q.2 i (storeD d k q.1)
  | _ => .no
@[simp] theorem m_putX (i : Nat) (fk : Env → R D) (fe : Env → R (D × Env)) (ρ : Env) : sPutX i fk fe ρ = (fe ρ >>= fun q => ptxB i fk q q.2[i]?) := by
  unfold sPutX
  congr 1
@[simp] theorem m_ptxB (i : Nat) (fk : Env → R D) (q : D × Env) (d : D) : ptxB i fk q (some (some d)) = (noExc (fk q.2) >>= fun k => putE q.2 i (storeD d k q.1)) := Eq.trans rfl rfl
@[simp] theorem m_forX (fe : Env → R (D × Env)) (set : D → Env → R Env) (body : Env → R Fl) (ρ : Env) : sForX fe set body ρ = (fe ρ >>= fun q => rng1 q.1 >>= fun xs => forD set body xs q.2) := Eq.trans rfl rfl
@[simp] theorem m_xCallD (g : List D → R D) (fas : Env → R (List D × Env)) (ρ : Env) : xCallD g fas ρ = (fas ρ >>= fun p => g p.1 >>= fun d => .ok (d, p.2)) := Eq.trans rfl rfl
@[simp] theorem m_putL2 (ρ : Env) (i j : Nat) (d e : D) : putL ρ [i, j] [d, e] = (ρ.set i (some d)).set j (some e) := Eq.trans rfl rfl
theorem m_leaveX2 (d : D) (ρ : Env) (i j : Nat) (e f : D) (h : ρ[i]? = some (some e)) (h2 : ρ[j]? = some (some f)) : leaveX [i, j] (.ok (.rt d ρ)) = .ok (d, [e, f]) := by
  show (match outs ρ [i, j] with
    | some ds => R.ok (d, ds)
    | none => .no) = _
  unfold outs
  rw [h]
  unfold outs
  rw [h2]
  rfl
theorem m_forK {i : Nat} {n : Int} {set : D → Env → R Env} {body : Env → R Fl} {ρ : Env} {ds : List D} {es : List (L2.Key × D)} (h : ρ[i]? = some (some (.tup ds))) (h2 : atI ds n = some (.dic es)) : sForK i n set body ρ = noExcF (forD set body (es.map fun kv : L2.Key × D => dKey kv.1) ρ) := by
  unfold sForK
  rw [h]
  show (match atI ds n with
    | some (.dic es) => noExcF (forD set body (es.map fun kv : L2.Key × D => dKey kv.1) ρ)
    | _ => .no) = _
  rw [h2]
@[simp] theorem m_noEF (fl : Fl) : noExcF (.ok fl) = .ok fl := Eq.trans rfl rfl
@[simp] theorem m_lenStr (z : Str) : lenD [.str z] = if z.length ≤ most then .ok (.int z.length) else .no := Eq.trans rfl rfl
end Dn

namespace Dn
open PySem L2
/-! ### states, typed -/
instance decVal : DecidableEq Val := fun a b => match a, b with
  | .num i, .num j => if h : i = j then .isTrue (by rw [h]) else .isFalse (fun q => h (by injection q))
  | .ref i, .ref j => if h : i = j then .isTrue (by rw [h]) else .isFalse (fun q => h (by injection q))
  | .num _, .ref _ => .isFalse (fun q => by cases q)
  | .ref _, .num _ => .isFalse (fun q => by cases q)
inductive End where
  | run | done (v : Val) | stuck (w : Str)
structure Sta where
  en : End
  fs : List Frm
  ts : List (Int × Thing)
def encE : End → D
  | .run => .non
  | .done v => .tup [.str w_done, encV v]
  | .stuck w => .tup [.str w_stuck, .str w]
def encS (s : Sta) : D := .tup [encE s.en, .lst (s.fs.map encF), encTs s.ts]
def encO : Option Str → D
  | none => .non
  | some w => .str w
def wordR : Row → Str
  | .plain w => w | .num _ => w_num | .get _ => w_get | .fn _ _ => w_fun | .jump _ => w_jump | .unless _ => w_unless
def partsR : Row → List D
  | .plain _ => [] | .num i => [.int i] | .get k => [.int k] | .fn b ks => [.int b, .tup (ks.map .int)] | .jump p => [.int p] | .unless p => [.int p]
theorem encR_eq (r : Row) : encR r = .tup (.str (wordR r) :: partsR r) := by cases r <;> rfl
def topV (st : List Val) : Val := (st[st.length - 1]?).getD (.num 0)
def sndV (st : List Val) : Val := (st[st.length - 2]?).getD (.num 0)
def numV : Val → Int
  | .num i => i
  | .ref _ => 0
def refV : Val → Int
  | .num _ => 0
  | .ref n => n
def isNumV : Val → Bool
  | .num _ => true
  | .ref _ => false
def lookT (ts : List (Int × Thing)) (n : Int) : Option Thing := (ts.find? fun q => decide (q.1 = n)).map (·.2)
def isBx (ts : List (Int × Thing)) (v : Val) : Bool := match v with
  | .num _ => false
  | .ref n => match lookT ts n with
    | some (.box _) => true
    | _ => false
def isFn (ts : List (Int × Thing)) (v : Val) : Bool := match v with
  | .num _ => false
  | .ref n => match lookT ts n with
    | some (.fn _ _) => true
    | _ => false
theorem bls_of {α : Type} (f : α → Bool) : ∀ xs : List α, blsD (xs.map fun x => D.bl (f x)) = some (xs.map f)
  | [] => rfl
  | x :: xs => by
    show (blsD (xs.map fun x => D.bl (f x))).map (f x :: ·) = _
    rw [bls_of f xs]
    rfl
theorem any_of {α : Type} (f : α → Bool) (xs : List α) : anyD [.lst (xs.map fun x => .bl (f x))] = .ok (.bl (xs.any f)) := by
  show (match blsD (xs.map fun x => D.bl (f x)) with
    | some bs => R.ok (D.bl (bs.any id))
    | none => .no) = _
  rw [bls_of]
  simp [List.any_map, Function.comp_def]
theorem all_of {α : Type} (f : α → Bool) (xs : List α) : allD [.lst (xs.map fun x => .bl (f x))] = .ok (.bl (xs.all f)) := by
  show (match blsD (xs.map fun x => D.bl (f x)) with
    | some bs => R.ok (D.bl (bs.all id))
    | none => .no) = _
  rw [bls_of]
  simp [List.all_map, Function.comp_def]
@[simp] theorem m_walkT (xs : List D) : walkD (.tup xs) = .ok xs := Eq.trans rfl rfl
theorem look_mem {ts : List (Int × Thing)} {n : Int} {t : Thing} (h : lookT ts n = some t) : (n, t) ∈ ts := by
  unfold lookT at h
  cases q : ts.find? (fun q => decide (q.1 = n)) with
  | none => rw [q] at h; cases h
  | some x =>
    rw [q] at h
    have h1 := List.mem_of_find?_eq_some q
    have h2 := List.find?_some q
    have h3 : x.1 = n := of_decide_eq_true h2
    have h4 : x.2 = t := by simpa using h
    rw [← h3, ← h4]
    exact h1
theorem look_some {ts : List (Int × Thing)} {n : Int} (h : n ∈ ts.map (·.1)) : ∃ t, lookT ts n = some t := by
  unfold lookT
  cases q : ts.find? (fun q => decide (q.1 = n)) with
  | none =>
    obtain ⟨x, h1, h2⟩ := List.mem_map.mp h
    have := List.find?_eq_none.mp q x h1
    exact absurd (decide_eq_true h2) this
  | some x => exact ⟨x.2, rfl⟩
theorem valK_look (ts : List (Int × Thing)) (n : Int) : valK (ts.map fun t => ((Sum.inl t.1 : L2.Key), encT t.2)) (.inl n) = (lookT ts n).map encT := by
  induction ts with
  | nil => rfl
  | cons t ts ih =>
    unfold valK lookT at ih ⊢
    rw [List.map_cons, List.find?_cons, List.find?_cons]
    by_cases h : t.1 = n
    · rw [decide_eq_true h, decide_eq_true (by rw [h] : (Sum.inl t.1 : L2.Key) = Sum.inl n)]
      rfl
    · rw [decide_eq_false h, decide_eq_false (fun q : (Sum.inl t.1 : L2.Key) = Sum.inl n => h (by injection q))]
      exact ih
theorem ix_look {ts : List (Int × Thing)} {n : Int} {t : Thing} (h : lookT ts n = some t) : ixD (encTs ts) (.int n) = .ok (encT t) := by
  show (match valK (ts.map fun t => ((Sum.inl t.1 : L2.Key), encT t.2)) (.inl n) with
    | some d => R.ok d
    | none => .no) = _
  rw [valK_look, h]
  rfl
def okRow (bodies size : Int) : Row → Prop
  | .plain w => w ≠ w_num ∧ w ≠ w_get ∧ w ≠ w_fun ∧ w ≠ w_jump ∧ w ≠ w_unless
  | .num i => -mostN ≤ i ∧ i ≤ mostN
  | .get k => 0 ≤ k
  | .fn b ks => 0 ≤ b ∧ b < bodies ∧ ks.length ≤ 8 ∧ ∀ k ∈ ks, 0 ≤ k
  | .jump z => 0 ≤ z ∧ z ≤ size
  | .unless z => 0 ≤ z ∧ z ≤ size
theorem okRow_of {ws : List Str} {b z : Int} {r : Row} (h : okR ws b z r) : okRow b z r := by
  cases r with
  | plain w => exact h.2
  | num i => exact ⟨by have := h.2.1; unfold mostN; omega, by have := h.2.2; unfold mostN; omega⟩
  | get k => exact h.2.1
  | fn b ks => exact ⟨h.2.1, h.2.2.1, h.2.2.2.1, fun k hk => (h.2.2.2.2 k hk).1⟩
  | jump z => exact h.2
  | «unless» z => exact h.2
/-- a frame of a program, its things those of some numbers -/
structure okG (p : Prog) (N : List Int) (g : Frm) : Prop where
  b0 : 0 ≤ g.body
  b1 : g.body < p.length
  p0 : 0 ≤ g.place
  p1 : g.place ≤ ((p.getD g.body.toNat []).length : Int)
  ol : g.own.length ≤ 60
  sl : g.stack.length ≤ 60
  ov : ∀ v ∈ g.own, okV N v
  sv : ∀ v ∈ g.stack, okV N v
/-- the things of a state -/
structure okH (k : Nat) (p : Prog) (ts : List (Int × Thing)) : Prop where
  nd : (ts.map (·.1)).Nodup
  ge : ∀ n ∈ ts.map (·.1), 0 ≤ n
  tl : ts.length ≤ k
  th : ∀ t ∈ ts, okT (ts.map (·.1)) p.length t.2
/-- a state's frames and things -/
structure okS (k : Nat) (p : Prog) (fs : List Frm) (ts : List (Int × Thing)) : Prop where
  fl : fs.length ≤ 60
  fr : ∀ g ∈ fs, okG p (ts.map (·.1)) g
  h : okH k p ts
theorem kept_len {p : Prog} {fs : List Frm} {ts : List (Int × Thing)} {k : Nat} (s : okS k p fs ts) {n b : Int} {vs : List Val} (h : lookT ts n = some (.fn b vs)) : vs.length ≤ 8 := (s.h.th _ (look_mem h)).2.2.1
theorem okV_mono {N N' : List Int} (h : ∀ n ∈ N, n ∈ N') {v : Val} (q : okV N v) : okV N' v := by
  cases v with
  | num i => exact q
  | ref n => exact h n q
theorem okT_mono {N N' : List Int} (h : ∀ n ∈ N, n ∈ N') {b : Int} {t : Thing} (q : okT N b t) : okT N' b t := by
  cases t with
  | box v => exact okV_mono h q
  | fn c vs => exact ⟨q.1, q.2.1, q.2.2.1, fun v hv => okV_mono h (q.2.2.2 v hv)⟩
theorem okG_mono {p : Prog} {N N' : List Int} (h : ∀ n ∈ N, n ∈ N') {g : Frm} (q : okG p N g) : okG p N' g :=
  ⟨q.b0, q.b1, q.p0, q.p1, q.ol, q.sl, fun v hv => okV_mono h (q.ov v hv), fun v hv => okV_mono h (q.sv v hv)⟩
theorem okH_mono {k k' : Nat} {p : Prog} {ts : List (Int × Thing)} (h : k ≤ k') (q : okH k p ts) : okH k' p ts := ⟨q.nd, q.ge, by have := q.tl; omega, q.th⟩
theorem okF_G {p : Prog} {N : List Int} {g : Frm} (h : okF N (p.map fun b => b.map encR) g) : okG p N g := by
  obtain ⟨h1, h2, h3, h4, h5, h6, h7, h8⟩ := h
  have gl : (p.map fun b => b.map encR).getD g.body.toNat [] = (p.getD g.body.toNat []).map encR := by
    rw [List.getD_eq_getElem?_getD, List.getElem?_map, List.getD_eq_getElem?_getD]
    cases p[g.body.toNat]? <;> rfl
  rw [gl, List.length_map] at h4
  exact ⟨h1, by simpa using h2, h3, h4, h5, h6, h7, h8⟩
def stuckW : List Str := [w_end, w_empty, w_own, w_kind, w_great, w_deep, w_full]
/-- a state of a program -/
structure okA (k : Nat) (p : Prog) (s : Sta) : Prop where
  fl : s.fs.length ≤ 60
  fr : ∀ g ∈ s.fs, okG p (s.ts.map (·.1)) g
  h : okH k p s.ts
  en : ∀ v, s.en = .done v → okV (s.ts.map (·.1)) v
  st : ∀ w, s.en = .stuck w → w ∈ stuckW
  dn : s.fs = [] ↔ ∃ v, s.en = .done v
end Dn

namespace Dn
open PySem L2
/-! ### things met, typed -/
def innerM : Thing → List Val
  | .box v => [v]
  | .fn _ vs => vs
def endVals : End → List Val
  | .done v => [v]
  | _ => []
def valuesM (s : Sta) : List Val := endVals s.en ++ s.fs.flatMap fun f => f.own ++ f.stack
def refsM (vs : List Val) : List Int := (vs.filter fun v => !isNumV v).map refV
def addN (acc : List Int) (n : Int) : List Int := if n ∈ acc then acc else acc ++ [n]
def addAll (acc ns : List Int) : List Int := ns.foldl addN acc
def innerAt (ts : List (Int × Thing)) (n : Int) : List Val := match lookT ts n with
  | some t => innerM t
  | none => []
def growM (ts : List (Int × Thing)) : Nat → Nat → List Int → List Int
  | 0, _, found => found
  | f + 1, k, found => match found[k]? with
    | none => found
    | some n => growM ts f (k + 1) (addAll found (refsM (innerAt ts n)))
def metM (s : Sta) : List Int := growM s.ts s.ts.length 0 (addAll [] (refsM (valuesM s)))
theorem refs_nil : refsM [] = [] := rfl
theorem refs_num (i : Int) (vs : List Val) : refsM (.num i :: vs) = refsM vs := rfl
theorem refs_ref (n : Int) (vs : List Val) : refsM (.ref n :: vs) = n :: refsM vs := rfl
theorem refs_app (a b : List Val) : refsM (a ++ b) = refsM a ++ refsM b := by simp [refsM]
theorem mem_refs {n : Int} {vs : List Val} : n ∈ refsM vs ↔ Val.ref n ∈ vs := by
  induction vs with
  | nil => simp [refs_nil]
  | cons v vs ih =>
    cases v with
    | num i => rw [refs_num, ih]; simp
    | ref m => rw [refs_ref]; simp [ih]
theorem addAll_app (acc a b : List Int) : addAll acc (a ++ b) = addAll (addAll acc a) b := List.foldl_append
theorem addN_nd {acc : List Int} {n : Int} (h : acc.Nodup) : (addN acc n).Nodup := by
  unfold addN
  split
  · exact h
  · rename_i q
    exact List.nodup_append.mpr ⟨h, by simp, fun x hx y hy e => by
      have : y = n := by simpa using hy
      exact q (by rw [← this, ← e]; exact hx)⟩
theorem mem_addN {acc : List Int} {n m : Int} : m ∈ addN acc n ↔ m ∈ acc ∨ m = n := by
  unfold addN
  split
  · rename_i q
    constructor
    · exact .inl
    · rintro (h | rfl)
      · exact h
      · exact q
  · simp
theorem addAll_nd : ∀ {ns acc : List Int}, acc.Nodup → (addAll acc ns).Nodup
  | [], acc, h => h
  | n :: ns, acc, h => addAll_nd (ns := ns) (addN_nd h)
theorem mem_addAll {m : Int} : ∀ {ns acc : List Int}, m ∈ addAll acc ns ↔ m ∈ acc ∨ m ∈ ns
  | [], acc => by simp [addAll]
  | n :: ns, acc => by
    show m ∈ addAll (addN acc n) ns ↔ _
    rw [mem_addAll, mem_addN, List.mem_cons, or_assoc]
theorem addAll_pre : ∀ (ns acc : List Int), ∃ r, addAll acc ns = acc ++ r
  | [], acc => ⟨[], by simp [addAll]⟩
  | n :: ns, acc => by
    obtain ⟨r, h⟩ := addAll_pre ns (addN acc n)
    show ∃ r, addAll (addN acc n) ns = _
    rw [h]
    unfold addN
    split
    · exact ⟨r, rfl⟩
    · exact ⟨n :: r, by simp⟩
/-- all that the things hold is told of -/
def closedT (ts : List (Int × Thing)) : Prop := ∀ n t, lookT ts n = some t → ∀ v ∈ innerM t, okV (ts.map (·.1)) v
theorem inner_refs {ts : List (Int × Thing)} (h : closedT ts) {n m : Int} (hm : m ∈ refsM (innerAt ts n)) : m ∈ ts.map (·.1) := by
  unfold innerAt at hm
  split at hm
  · rename_i t ht
    exact h n t ht (.ref m) (mem_refs.mp hm)
  · simp [refs_nil] at hm
theorem closed_of {N : List Int} {b : Int} {ts : List (Int × Thing)} (hN : N = ts.map (·.1)) (h : ∀ t ∈ ts, okT N b t.2) : closedT ts := fun n t ht v hv => by
  have q := h _ (look_mem ht)
  rw [hN] at q
  cases t with
  | box u =>
    have : v = u := by simpa [innerM] using hv
    subst this
    exact q
  | fn c vs => exact q.2.2.2 v hv
theorem nodup_len : ∀ {a b : List Int}, a.Nodup → (∀ x ∈ a, x ∈ b) → a.length ≤ b.length
  | [], b, _, _ => by simp
  | x :: a, b, nd, h => by
    obtain ⟨h1, h2⟩ := List.nodup_cons.mp nd
    have hx := h x (by simp)
    have := nodup_len (b := b.erase x) h2 fun y hy => by
      have ne : y ≠ x := fun e => h1 (by rw [← e]; exact hy)
      exact (List.mem_erase_of_ne ne).mpr (h y (by simp [hy]))
    rw [List.length_erase_of_mem hx] at this
    have := List.length_pos_of_mem hx
    simp only [List.length_cons]
    omega
theorem grow_end {ts : List (Int × Thing)} {f k : Nat} {found : List Int} (h : found[k]? = none) : growM ts f k found = found := by
  cases f with
  | zero => rfl
  | succ f => unfold growM; rw [h]
theorem grow_go {ts : List (Int × Thing)} {f k : Nat} {found : List Int} {n : Int} (h : found[k]? = some n) : growM ts (f + 1) k found = growM ts f (k + 1) (addAll found (refsM (innerAt ts n))) := by
  show (match found[k]? with
    | none => found
    | some n => growM ts f (k + 1) (addAll found (refsM (innerAt ts n)))) = _
  rw [h]
theorem grow_facts {ts : List (Int × Thing)} (c : closedT ts) : ∀ (f k : Nat) (found : List Int), found.Nodup → (∀ n ∈ found, n ∈ ts.map (·.1)) → (growM ts f k found).Nodup ∧ (∀ n ∈ growM ts f k found, n ∈ ts.map (·.1)) ∧ ∃ r, growM ts f k found = found ++ r
  | 0, k, found, h1, h2 => ⟨h1, h2, [], by simp [growM]⟩
  | f + 1, k, found, h1, h2 => by
    unfold growM
    split
    · exact ⟨h1, h2, [], by simp⟩
    · rename_i n hn
      obtain ⟨a, b, r, e⟩ := grow_facts c f (k + 1) (addAll found (refsM (innerAt ts n))) (addAll_nd h1) fun m hm => by
        rcases mem_addAll.mp hm with h | h
        · exact h2 m h
        · exact inner_refs c h
      obtain ⟨r', e'⟩ := addAll_pre (refsM (innerAt ts n)) found
      exact ⟨a, b, r' ++ r, by rw [e, e', List.append_assoc]⟩
/-- more fuel than things there are is of no matter -/
theorem grow_more {ts : List (Int × Thing)} (c : closedT ts) : ∀ (f k : Nat) (found : List Int), found.Nodup → (∀ n ∈ found, n ∈ ts.map (·.1)) → ts.length ≤ f + k → ∀ g, growM ts (f + g) k found = growM ts f k found
  | 0, k, found, h1, h2, h3, 0 => rfl
  | 0, k, found, h1, h2, h3, g + 1 => by
    have hl := nodup_len h1 h2
    rw [List.length_map] at hl
    have : found[k]? = none := List.getElem?_eq_none_iff.mpr (by omega)
    rw [Nat.zero_add]
    unfold growM
    rw [this]
  | f + 1, k, found, h1, h2, h3, g => by
    rw [show f + 1 + g = (f + g) + 1 by omega]
    unfold growM
    split
    · rfl
    · rename_i n hn
      exact grow_more c f (k + 1) _ (addAll_nd h1) (fun m hm => by
        rcases mem_addAll.mp hm with h | h
        · exact h2 m h
        · exact inner_refs c h) (by omega) g
end Dn

namespace Dn
open PySem L2
theorem inner_ok (t : Thing) : F_inner [encT t] = .ok (.lst ((innerM t).map encV)) := by
  cases t with
  | box v =>
    simp only [encT, innerM, List.map_cons, List.map_nil]
    generalize encV v = d
    simp [F_inner, B_inner]
  | fn b vs =>
    simp only [encT, innerM]
    generalize vs.map encV = d
    simp [F_inner, B_inner]
theorem tup_val (v : Val) : isiB "tuple" (encV v) = !isNumV v := by cases v <;> simp [isNumV]
theorem numbers_ok (vs : List Val) (h : vs.length ≤ 1000000) : F_numbers_in [.lst (vs.map encV)] = .ok (.lst ((refsM vs).map .int)) := by
  have q := eLc_filter (fi := iWalk (eVar 0)) (vs := [1]) (i := 1) (fc := tB' (eUn (isiD "tuple") (eVar 1))) (fe := eOp ixD (eVar 1) (eC (.int 1))) (ρ := [some (.lst (vs.map encV)), none]) (xs := vs) (enc := encV) (p := fun v => !isNumV v) (g := fun v => D.int (refV v)) (by simp) h
    (fun v _ => by simp [wipeE, tup_val]) (fun v _ hv => by
      cases v with
      | num i => cases hv
      | ref n => simp [wipeE, refV])
  have e : (refsM vs).map D.int = (vs.filter fun v => !isNumV v).map fun v => D.int (refV v) := by
    unfold refsM
    rw [List.map_map]
    rfl
  rw [e]
  simp [F_numbers_in, B_numbers_in, q]
/-- a list's values joined to -/
theorem lst_cats (a b : List Val) (h : a.length + b.length ≤ 100000) : addD (.lst (a.map encV)) (.lst (b.map encV)) = .ok (.lst ((a ++ b).map encV)) := by
  rw [m_catL _ _ (by simp [most]; omega)]
  simp
/-- bounds that the walks ask for -/
structure sized (s : Sta) : Prop where
  fl : s.fs.length ≤ 60
  ol : ∀ g ∈ s.fs, g.own.length ≤ 60
  sl : ∀ g ∈ s.fs, g.stack.length ≤ 60
  tl : s.ts.length ≤ 900
  kl : ∀ n t, lookT s.ts n = some t → (innerM t).length ≤ 8
theorem flat_len {fs : List Frm} (h : ∀ g ∈ fs, g.own.length ≤ 60 ∧ g.stack.length ≤ 60) : (fs.flatMap fun f => f.own ++ f.stack).length ≤ 120 * fs.length := by
  induction fs with
  | nil => simp
  | cons f fs ih =>
    have := h f (by simp)
    have := ih fun g hg => h g (by simp [hg])
    rw [List.flatMap_cons, List.length_append, List.length_append, List.length_cons]
    omega
def voBody : Env → R Fl := sAsg 1 [] (eOp addD (eOp addD (eVar 1) (eCall listD (aCons (eOp ixD (eVar 2) (eC (.int 2))) aNil))) (eCall listD (aCons (eOp ixD (eVar 2) (eC (.int 3))) aNil)))
/-- the loop of values_of and of the law's own walk -/
theorem vo_loop {fs : List Frm} (h : ∀ g ∈ fs, g.own.length ≤ 60 ∧ g.stack.length ≤ 60) (hl : fs.length ≤ 60) {a x : Option D} {r : List (Option D)} {vs : List Val} (hv : vs.length ≤ 100) :
    ∃ y, forD (setN 2) voBody (fs.map encF) (a :: some (.lst (vs.map encV)) :: x :: r) = .ok (.nx (a :: some (.lst ((vs ++ fs.flatMap fun f => f.own ++ f.stack).map encV)) :: y :: r)) := by
  obtain ⟨ρ', h1, h2⟩ := forD_foldP (enc := encF) (set := setN 2) (body := voBody) (fun (fs' : List Frm) (b : List Val) ρ => b.length + 120 * fs'.length ≤ 7300 ∧ (∀ g ∈ fs', g.own.length ≤ 60 ∧ g.stack.length ≤ 60) ∧ ∃ y, ρ = a :: some (.lst (b.map encV)) :: y :: r) (fun b f => b ++ f.own ++ f.stack) (xs := fs) (b := vs) (ρ := a :: some (.lst (vs.map encV)) :: x :: r) ⟨by omega, h, x, rfl⟩
    fun f fs' b ρ ⟨i1, i2, y, e⟩ => by
      subst e
      have fl := i2 f (by simp)
      rw [List.length_cons] at i1
      have c1 := lst_cats b f.own (by omega)
      have c2 := lst_cats (b ++ f.own) f.stack (by simp; omega)
      refine ⟨_, a :: some (.lst ((b ++ f.own ++ f.stack).map encV)) :: some (encF f) :: r, rfl, ?_, by simp; omega, fun g hg => i2 g (by simp [hg]), _, rfl⟩
      rw [enc_frm]
      generalize (b ++ f.own ++ f.stack).map encV = B2 at *
      generalize (b ++ f.own).map encV = B1 at *
      generalize b.map encV = B0 at *
      generalize f.own.map encV = O at *
      generalize f.stack.map encV = S at *
      simp [voBody, c1, c2]
  obtain ⟨_, _, y, rfl⟩ := h2
  refine ⟨y, ?_⟩
  have e : ∀ (fs : List Frm) (b : List Val), fs.foldl (fun b f => b ++ f.own ++ f.stack) b = b ++ fs.flatMap fun f => f.own ++ f.stack := fun fs => by
    induction fs with
    | nil => intro b; simp
    | cons f fs ih => intro b; rw [List.foldl_cons, ih, List.flatMap_cons]; simp
  rw [h1, e]
theorem values_of_ok {s : Sta} (z : sized s) : F_values_of [encS s] = .ok (.lst ((valuesM s).map encV)) := by
  unfold encS valuesM
  have h : ∀ g ∈ s.fs, g.own.length ≤ 60 ∧ g.stack.length ≤ 60 := fun g hg => ⟨z.ol g hg, z.sl g hg⟩
  generalize encTs s.ts = T
  cases s.en with
  | run =>
    obtain ⟨y, e⟩ := vo_loop h z.fl (a := some (.tup [.non, .lst (s.fs.map encF), T])) (x := none) (r := []) (vs := []) (by simp)
    unfold voBody at e
    simp only [List.map_nil] at e
    simp only [encE, endVals]
    generalize ([] ++ s.fs.flatMap fun f : Frm => f.own ++ f.stack).map encV = V at *
    generalize s.fs.map encF = L at *
    simp [F_values_of, B_values_of, e]
  | stuck w =>
    obtain ⟨y, e⟩ := vo_loop h z.fl (a := some (.tup [.tup [.str w_stuck, .str w], .lst (s.fs.map encF), T])) (x := none) (r := []) (vs := []) (by simp)
    unfold voBody at e
    simp only [List.map_nil] at e
    simp only [encE, endVals]
    generalize ([] ++ s.fs.flatMap fun f : Frm => f.own ++ f.stack).map encV = V at *
    generalize s.fs.map encF = L at *
    simp [F_values_of, B_values_of, e]
  | done v =>
    obtain ⟨y, e⟩ := vo_loop h z.fl (a := some (.tup [.tup [.str w_done, encV v], .lst (s.fs.map encF), T])) (x := none) (r := []) (vs := [v]) (by simp)
    unfold voBody at e
    simp only [List.map_cons, List.map_nil] at e
    simp only [encE, endVals]
    generalize ([v] ++ s.fs.flatMap fun f : Frm => f.own ++ f.stack).map encV = V at *
    generalize s.fs.map encF = L at *
    generalize encV v = u at *
    have ap : ∀ ρ : Env, appK ρ 1 (.ok u) (some (some (.lst []))) = .ok (.nx (ρ.set 1 (some (.lst [u])))) := fun ρ => m_appK ρ 1 [] u (by show 0 < 16777216; decide)
    simp [F_values_of, B_values_of, e, ap]
/-! ### met -/
def encSeen (l : List Int) : D := .dic (l.map fun n => (Sum.inl n, D.bl true))
theorem seen_any (l : List Int) (n : Int) : ((l.map fun n => ((Sum.inl n : L2.Key), D.bl true)).any fun kv => decide (kv.1 = Sum.inl n)) = decide (n ∈ l) := by
  induction l with
  | nil => rfl
  | cons m l ih =>
    rw [List.map_cons, List.any_cons, ih]
    by_cases h : m = n
    · subst h; simp
    · have h2 : ¬ (Sum.inl m : L2.Key) = Sum.inl n := fun q => h (by injection q)
      simp [h2, Ne.symm h]
theorem seen_put (l : List Int) (n : Int) (h : l.length ≤ 1000000) : storeD (encSeen l) (.int n) (.bl true) = .ok (encSeen (addN l n)) := by
  have lt : (l.map fun n => ((Sum.inl n : L2.Key), D.bl true)).length < most := by
    rw [List.length_map]
    unfold most
    omega
  rw [encSeen, store_int lt]
  unfold putD addN encSeen
  rw [seen_any]
  by_cases hn : n ∈ l
  · rw [if_pos (decide_eq_true hn), if_pos hn, List.map_map]
    congr 2
    refine List.map_congr_left fun m _ => ?_
    show (if (Sum.inl m : L2.Key) = Sum.inl n then ((Sum.inl m : L2.Key), D.bl true) else (Sum.inl m, D.bl true)) = _
    split <;> rfl
  · rw [if_neg (by simp [hn]), if_neg hn]
    simp
theorem seen_in (l : List Int) (n : Int) : inD (.int n) (encSeen l) = .ok (.bl (decide (n ∈ l))) := by
  show R.ok (D.bl (valK (l.map fun n => ((Sum.inl n : L2.Key), D.bl true)) (.inl n)).isSome) = _
  congr 2
  induction l with
  | nil => rfl
  | cons m l ih =>
    unfold valK at ih ⊢
    rw [List.map_cons, List.find?_cons]
    by_cases h : m = n
    · subst h; simp
    · rw [decide_eq_false (fun q : (Sum.inl m : L2.Key) = Sum.inl n => h (by injection q))]
      rw [ih]
      simp [Ne.symm h]
theorem seen_keys (l : List Int) : listD [encSeen l] = .ok (.lst (l.map .int)) := by
  show R.ok (D.lst ((l.map fun n => ((Sum.inl n : L2.Key), D.bl true)).map fun kv => dKey kv.1)) = _
  rw [List.map_map]
  rfl
theorem addAll_len : ∀ (ns acc : List Int), (addAll acc ns).length ≤ acc.length + ns.length
  | [], acc => by simp [addAll]
  | n :: ns, acc => by
    show (addAll (addN acc n) ns).length ≤ _
    have := addAll_len ns (addN acc n)
    have h : (addN acc n).length ≤ acc.length + 1 := by unfold addN; split <;> simp
    simp only [List.length_cons]
    omega
def metBody1 : Env → R Fl := sPut 1 (eVar 2) (eC (.bl true))
theorem met_loop1 {ns : List Int} (hn : ns.length ≤ 10000) {a x : Option D} {r : List (Option D)} :
    ∃ y, forD (setN 2) metBody1 (ns.map D.int) (a :: some (.dic []) :: x :: r) = .ok (.nx (a :: some (encSeen (addAll [] ns)) :: y :: r)) := by
  obtain ⟨ρ', h1, h2⟩ := forD_foldP (enc := D.int) (set := setN 2) (body := metBody1) (fun (ns' : List Int) (b : List Int) ρ => b.length + ns'.length ≤ 10000 ∧ ∃ y, ρ = a :: some (encSeen b) :: y :: r) addN (xs := ns) (b := []) (ρ := a :: some (.dic []) :: x :: r) ⟨by simpa using hn, x, rfl⟩
    fun n ns' b ρ ⟨i1, y, e⟩ => by
      subst e
      rw [List.length_cons] at i1
      have st := seen_put b n (by omega)
      have hl : (addN b n).length ≤ b.length + 1 := by unfold addN; split <;> simp
      refine ⟨_, a :: some (encSeen (addN b n)) :: some (.int n) :: r, rfl, ?_, by omega, _, rfl⟩
      generalize encSeen (addN b n) = B2 at *
      generalize encSeen b = B0 at *
      simp [metBody1, st]
  obtain ⟨_, y, rfl⟩ := h2
  exact ⟨y, h1⟩
def metBody2 : Env → R Fl := sIf (tB' (eOp notInD (eVar 2) (eVar 1))) (sSeq (sPut 1 (eVar 2) (eC (.bl true))) (sApp 3 (eVar 2))) sNext
theorem met_loop2 {ns l : List Int} (hl : l.length + ns.length ≤ 10000) {a x : Option D} {r : List (Option D)} :
    ∃ y, forD (setN 2) metBody2 (ns.map D.int) (a :: some (encSeen l) :: x :: some (.lst (l.map .int)) :: r) = .ok (.nx (a :: some (encSeen (addAll l ns)) :: y :: some (.lst ((addAll l ns).map .int)) :: r)) := by
  obtain ⟨ρ', h1, h2⟩ := forD_foldP (enc := D.int) (set := setN 2) (body := metBody2) (fun (ns' : List Int) (b : List Int) ρ => b.length + ns'.length ≤ 10000 ∧ ∃ y, ρ = a :: some (encSeen b) :: y :: some (.lst (b.map .int)) :: r) addN (xs := ns) (b := l) (ρ := a :: some (encSeen l) :: x :: some (.lst (l.map .int)) :: r) ⟨hl, x, rfl⟩
    fun n ns' b ρ ⟨i1, y, e⟩ => by
      subst e
      rw [List.length_cons] at i1
      have st := seen_put b n (by omega)
      have si := seen_in b n
      have hl : (addN b n).length ≤ b.length + 1 := by unfold addN; split <;> simp
      refine ⟨_, a :: some (encSeen (addN b n)) :: some (.int n) :: some (.lst ((addN b n).map .int)) :: r, rfl, ?_, by omega, _, rfl⟩
      by_cases h : n ∈ b
      · have e : addN b n = b := if_pos h
        rw [e]
        rw [decide_eq_true h] at si
        generalize encSeen b = B0 at *
        simp [metBody2, si]
      · have e : addN b n = b ++ [n] := if_neg h
        rw [e] at st ⊢
        rw [decide_eq_false h] at si
        have lt : (b.map D.int).length < most := by rw [List.length_map]; unfold most; omega
        have ap : ∀ ρ : Env, appK ρ 3 (.ok (.int n)) (some (some (.lst (b.map D.int)))) = .ok (.nx (ρ.set 3 (some (.lst (b.map D.int ++ [.int n]))))) := fun ρ => m_appK ρ 3 _ _ lt
        generalize encSeen (b ++ [n]) = B2 at *
        generalize encSeen b = B0 at *
        simp only [List.map_append, List.map_cons, List.map_nil]
        generalize b.map D.int = BL at *
        simp [metBody2, si, st, ap]
  obtain ⟨_, y, rfl⟩ := h2
  exact ⟨y, h1⟩
def metWhile : Env → R Fl := (sSeq (sFor (iWalk (eCall (F_numbers_in) (aCons (eCall (F_inner) (aCons (eOp ixD (eOp ixD (eVar 0) (eC (.int 2))) (eIxV 3 (eVar 4))) aNil)) aNil))) (setN 2) metBody2) (sAsg 4 [] (eOp addD (eVar 4) (eC (.int 1)))))
theorem met_while {s : Sta} (z : sized s) (c : closedT s.ts) : ∀ (f k N : Nat) (found : List Int) (x : Option D), found.Nodup → (∀ n ∈ found, n ∈ s.ts.map (·.1)) → s.ts.length ≤ f + k → f + 1 ≤ N →
    ∃ y k', whileD (tB' (eOp ltD (eVar 4) (eCall lenD (aCons (eVar 3) aNil)))) metWhile N [some (encS s), some (encSeen found), x, some (.lst (found.map .int)), some (.int (k : Int))] =
      .ok (.nx [some (encS s), some (encSeen (growM s.ts f k found)), y, some (.lst ((growM s.ts f k found).map .int)), some (.int k')]) := by
  intro f
  induction f with
  | zero =>
    intro k N found x h1 h2 h3 h4
    have hl := nodup_len h1 h2
    rw [List.length_map] at hl
    obtain ⟨N, rfl⟩ : ∃ M, N = M + 1 := ⟨N - 1, by omega⟩
    refine ⟨x, k, while_end ?_⟩
    have : ¬ (k : Int) < found.length := by omega
    simp [this]
  | succ f ih =>
    intro k N found x h1 h2 h3 h4
    have hl := nodup_len h1 h2
    rw [List.length_map] at hl
    obtain ⟨N, rfl⟩ : ∃ M, N = M + 1 := ⟨N - 1, by omega⟩
    cases hk : found[k]? with
    | none =>
      rw [grow_end hk]
      have : found.length ≤ k := List.getElem?_eq_none_iff.mp hk
      refine ⟨x, k, while_end ?_⟩
      simp
      omega
    | some n =>
      have kl := (List.getElem?_eq_some_iff.mp hk).1
      have hn := h2 n (List.mem_of_getElem? hk)
      obtain ⟨t, ht⟩ := look_some hn
      have i2 := ix_look ht
      have io := inner_ok t
      have il := z.kl n t ht
      have no := numbers_ok (innerM t) (by omega)
      have ia : innerAt s.ts n = innerM t := by unfold innerAt; rw [ht]
      rw [grow_go hk, ia]
      have rl : (refsM (innerM t)).length ≤ 8 := by unfold refsM; rw [List.length_map]; exact Nat.le_trans (List.length_filter_le _ _) il
      have tl := z.tl
      obtain ⟨y, e2⟩ := met_loop2 (ns := refsM (innerM t)) (l := found) (by omega) (a := some (encS s)) (x := x) (r := [some (.int (k : Int))])
      obtain ⟨y', k', e3⟩ := ih (k + 1) N (addAll found (refsM (innerM t))) y (addAll_nd h1) (fun m hm => by
        rcases mem_addAll.mp hm with h | h
        · exact h2 m h
        · exact inner_refs c (n := n) (by rw [ia]; exact h)) (by omega) (by omega)
      refine ⟨y', k', ?_⟩
      rw [← e3]
      refine while_go ?_ ?_
      · have : (k : Int) < found.length := by omega
        simp
        omega
      · have at0 : atI (found.map D.int) (k : Int) = some (.int n) := by
          rw [atI_pos (by omega) (by rw [List.length_map]; omega), Int.toNat_natCast, List.getElem?_map, hk]
          rfl
        have i1 : ixD (encS s) (.int 2) = .ok (encTs s.ts) := by simp [encS]
        generalize encS s = SS at *
        generalize encSeen (addAll found (refsM (innerM t))) = B2 at *
        generalize encSeen found = B0 at *
        generalize (addAll found (refsM (innerM t))).map D.int = BL2 at *
        generalize found.map D.int = BL at *
        generalize (refsM (innerM t)).map D.int = RR at *
        generalize (innerM t).map encV = II at *
        generalize encT t = tt at *
        generalize encTs s.ts = TT at *
        simp [metWhile, i1, at0, i2, io, no, e2]
theorem met_ok {s : Sta} (z : sized s) (c : closedT s.ts) (hv : ∀ v ∈ valuesM s, okV (s.ts.map (·.1)) v) : F_met [encS s] = .ok (.lst ((metM s).map .int)) := by
  have vo := values_of_ok z
  have vl : (valuesM s).length ≤ 7201 := by
    have := flat_len (fs := s.fs) fun g hg => ⟨z.ol g hg, z.sl g hg⟩
    have := z.fl
    unfold valuesM endVals
    rw [List.length_append]
    split <;> simp only [List.length_singleton, List.length_nil] <;> omega
  have no := numbers_ok (valuesM s) (by omega)
  have rl : (refsM (valuesM s)).length ≤ 7201 := by unfold refsM; rw [List.length_map]; exact Nat.le_trans (List.length_filter_le _ _) vl
  obtain ⟨y, e1⟩ := met_loop1 (ns := refsM (valuesM s)) (by omega) (a := some (encS s)) (x := none) (r := [none, none])
  have sk := seen_keys (addAll [] (refsM (valuesM s)))
  have ck : chk (.own .fz) (.lst ((addAll [] (refsM (valuesM s))).map D.int)) = true := List.all_eq_true.mpr fun x hx => by
    obtain ⟨n, _, rfl⟩ := List.mem_map.mp hx
    rfl
  have tl := z.tl
  obtain ⟨y', k', e2⟩ := met_while z c s.ts.length 0 1000 (addAll [] (refsM (valuesM s))) y (addAll_nd List.nodup_nil) (fun m hm => by
    rcases mem_addAll.mp hm with h | h
    · cases h
    · exact hv _ (mem_refs.mp h)) (by omega) (by omega)
  have e2' : whileD (tB' (eOp ltD (eVar 4) (eCall lenD (aCons (eVar 3) aNil)))) metWhile 1000 [some (encS s), some (encSeen (addAll [] (refsM (valuesM s)))), y, some (.lst ((addAll [] (refsM (valuesM s))).map .int)), some (.int 0)] = _ := e2
  unfold metM
  unfold metBody1 at e1
  unfold metWhile metBody2 at e2'
  generalize growM s.ts s.ts.length 0 (addAll [] (refsM (valuesM s))) = G at *
  generalize encSeen G = B3 at *
  generalize G.map D.int = GL at *
  generalize encSeen (addAll [] (refsM (valuesM s))) = B2 at *
  generalize (addAll [] (refsM (valuesM s))).map D.int = BL at *
  generalize (refsM (valuesM s)).map D.int = RR at *
  generalize (valuesM s).map encV = VV at *
  generalize encS s = SS at *
  simp [F_met, B_met, vo, no, e1, sk, ck, e2']
end Dn

namespace Dn
open PySem L2
/-! ### the law's own walk over the things -/
theorem law_inner_ok (t : Thing) : F__law_inner [encT t] = .ok (.lst ((innerM t).map encV)) := by
  cases t with
  | box v =>
    simp only [encT, innerM, List.map_cons, List.map_nil]
    generalize encV v = d
    simp [F__law_inner, B__law_inner]
  | fn b vs =>
    simp only [encT, innerM]
    generalize vs.map encV = d
    simp [F__law_inner, B__law_inner]
theorem eq_nilV (vs : List Val) : eqD (.lst (vs.map encV)) (.lst []) = .ok (.bl (decide (vs = []))) := by
  have h : pl 3 (.lst (vs.map encV)) = true := pls_of fun x hx => by
    obtain ⟨v, _, rfl⟩ := List.mem_map.mp hx
    exact pl_val v
  refine Eq.trans (if_pos (by rw [shaped_pl h (by decide)]; rfl)) ?_
  cases vs <;> rfl
theorem cut_one_on {α : Type} (x : α) (xs : List α) : cut (x :: xs) (some 1) none = xs := by
  rw [cut_from _ _ (by decide)]
  rfl
def queueM (ts : List (Int × Thing)) (W : List Val) (L : List Int) : List Int := growM ts ts.length L.length (addAll L (refsM W))
theorem queue_nil (ts : List (Int × Thing)) (L : List Int) : queueM ts [] L = L := by
  unfold queueM
  rw [refs_nil]
  exact grow_end (List.getElem?_eq_none_iff.mpr (Nat.le_refl _))
theorem queue_num (ts : List (Int × Thing)) (i : Int) (W : List Val) (L : List Int) : queueM ts (.num i :: W) L = queueM ts W L := rfl
theorem queue_old {ts : List (Int × Thing)} {n : Int} {W : List Val} {L : List Int} (h : n ∈ L) : queueM ts (.ref n :: W) L = queueM ts W L := by
  unfold queueM
  rw [refs_ref]
  show growM ts ts.length L.length (addAll (addN L n) (refsM W)) = _
  rw [show addN L n = L from if_pos h]
theorem queue_new {ts : List (Int × Thing)} (c : closedT ts) {n : Int} {W : List Val} {L : List Int} (h : n ∉ L) (nd : L.Nodup) (hk : n ∈ ts.map (·.1)) (hL : ∀ m ∈ L, m ∈ ts.map (·.1)) (hW : ∀ v ∈ W, okV (ts.map (·.1)) v) : queueM ts (.ref n :: W) L = queueM ts (W ++ innerAt ts n) (L ++ [n]) := by
  unfold queueM
  rw [refs_ref, refs_app, addAll_app]
  have e : addAll L (n :: refsM W) = addAll (L ++ [n]) (refsM W) := by
    show addAll (addN L n) (refsM W) = _
    rw [show addN L n = L ++ [n] from if_neg h]
  rw [e]
  obtain ⟨f, hf⟩ : ∃ f, ts.length = f + 1 := by
    have := List.length_pos_of_mem hk
    rw [List.length_map] at this
    exact ⟨ts.length - 1, by omega⟩
  obtain ⟨r, hr⟩ := addAll_pre (refsM W) (L ++ [n])
  have nd2 : (L ++ [n]).Nodup := List.nodup_append.mpr ⟨nd, by simp, fun x hx y hy e => by
    have : y = n := by simpa using hy
    exact h (by rw [← this, ← e]; exact hx)⟩
  have hL2 : ∀ m ∈ L ++ [n], m ∈ ts.map (·.1) := fun m hm => by
    rcases List.mem_append.mp hm with hm | hm
    · exact hL m hm
    · rw [List.mem_singleton.mp hm]; exact hk
  have at0 : (addAll (L ++ [n]) (refsM W))[L.length]? = some n := by
    rw [hr, List.getElem?_append_left (by simp), List.getElem?_append_right (Nat.le_refl _), Nat.sub_self]
    rfl
  have fac : (addAll (addAll (L ++ [n]) (refsM W)) (refsM (innerAt ts n))).Nodup ∧ ∀ m ∈ addAll (addAll (L ++ [n]) (refsM W)) (refsM (innerAt ts n)), m ∈ ts.map (·.1) := by
    refine ⟨addAll_nd (addAll_nd nd2), fun m hm => ?_⟩
    rcases mem_addAll.mp hm with hm | hm
    · rcases mem_addAll.mp hm with hm | hm
      · exact hL2 m hm
      · exact hW _ (mem_refs.mp hm)
    · exact inner_refs c hm
  rw [hf, grow_go at0, List.length_append, List.length_singleton]
  exact (grow_more c f (L.length + 1) _ fac.1 fac.2 (by omega) 1).symm
def lmWhile : Env → R Fl := (sSeq (sAsg 4 [] (eOp ixD (eVar 1) (eC (.int 0)))) (sSeq (sAsg 1 [] (eSl (eVar 1) (oSome (eC (.int 1))) oNone)) (sIf (eAndT (tB' (eUn (isiD "tuple") (eVar 4))) (tB' (eOp notInD (eOp ixD (eVar 4) (eC (.int 1))) (eVar 3)))) (sSeq (sApp 3 (eOp ixD (eVar 4) (eC (.int 1)))) (sAsg 1 [] (eOp addD (eVar 1) (eCall (F__law_inner) (aCons (eOp ixD (eOp ixD (eVar 0) (eC (.int 2))) (eOp ixD (eVar 4) (eC (.int 1)))) aNil))))) sNext)))
theorem lm_while {s : Sta} (z : sized s) (c : closedT s.ts) (x : Option D) : ∀ (m : Nat) (W : List Val) (L : List Int) (N : Nat) (y : Option D), L.Nodup → (∀ n ∈ L, n ∈ s.ts.map (·.1)) → (∀ v ∈ W, okV (s.ts.map (·.1)) v) → W.length + 9 * (s.ts.length - L.length) ≤ m → m ≤ 20000 → m + 1 ≤ N →
    ∃ y' w', whileD (tB' (eOp neD (eVar 1) (eLst aNil))) lmWhile N [some (encS s), some (.lst (W.map encV)), x, some (.lst (L.map .int)), y] = .ok (.nx [some (encS s), w', x, some (.lst ((queueM s.ts W L).map .int)), y']) := by
  intro m
  induction m with
  | zero =>
    intro W L N y h1 h2 h3 h4 h5 h6
    obtain ⟨N, rfl⟩ : ∃ M, N = M + 1 := ⟨N - 1, by omega⟩
    have : W = [] := List.eq_nil_of_length_eq_zero (by omega)
    subst this
    rw [queue_nil]
    have e : eqD (.lst []) (.lst []) = .ok (.bl true) := eq_nilV []
    exact ⟨y, _, while_end (by simp [e])⟩
  | succ m ih =>
    intro W L N y h1 h2 h3 h4 h5 h6
    obtain ⟨N, rfl⟩ : ∃ M, N = M + 1 := ⟨N - 1, by omega⟩
    cases W with
    | nil =>
      rw [queue_nil]
      have e : eqD (.lst []) (.lst []) = .ok (.bl true) := eq_nilV []
      exact ⟨y, _, while_end (by simp [e])⟩
    | cons v W =>
      have e := eq_nilV (v :: W)
      rw [decide_eq_false (by simp)] at e
      have hc : tB' (eOp neD (eVar 1) (eLst aNil)) [some (encS s), some (.lst ((v :: W).map encV)), x, some (.lst (L.map .int)), y] = .ok true := by
        generalize (v :: W).map encV = WW at *
        simp [e]
      have a0 : atI ((v :: W).map encV) 0 = some (encV v) := at_zero _ _
      have cu : cut ((v :: W).map encV) (some 1) none = W.map encV := cut_one_on _ _
      rw [List.length_cons] at h4
      have tl := z.tl
      cases v with
      | num i =>
        obtain ⟨y', w', e3⟩ := ih W L N (some (.int i)) h1 h2 (fun v h => h3 v (by simp [h])) (by omega) (by omega) (by omega)
        refine ⟨y', w', ?_⟩
        rw [queue_num, ← e3]
        refine while_go hc ?_
        simp only [i_nV] at a0
        generalize (Val.num i :: W).map encV = WW at *
        generalize W.map encV = W0 at *
        simp [lmWhile, a0, cu]
      | ref n =>
        have hn : n ∈ s.ts.map (·.1) := h3 (.ref n) (by simp)
        have ii := in_ints n L
        simp only [i_rV] at a0
        by_cases hL : n ∈ L
        · obtain ⟨y', w', e3⟩ := ih W L N (some (.tup [.str w_at, .int n])) h1 h2 (fun v h => h3 v (by simp [h])) (by omega) (by omega) (by omega)
          refine ⟨y', w', ?_⟩
          rw [queue_old hL, ← e3]
          refine while_go hc ?_
          rw [decide_eq_true hL] at ii
          generalize (Val.ref n :: W).map encV = WW at *
          generalize W.map encV = W0 at *
          generalize L.map D.int = LL at *
          simp [lmWhile, a0, cu, ii]
        · obtain ⟨t, ht⟩ := look_some hn
          have i2 := ix_look ht
          have io := law_inner_ok t
          have il := z.kl n t ht
          have ia : innerAt s.ts n = innerM t := by unfold innerAt; rw [ht]
          have nd2 : (L ++ [n]).Nodup := List.nodup_append.mpr ⟨h1, by simp, fun x hx y hy e => by
            have : y = n := by simpa using hy
            exact hL (by rw [← this, ← e]; exact hx)⟩
          have k2 : ∀ m ∈ L ++ [n], m ∈ s.ts.map (·.1) := fun m hm => by
            rcases List.mem_append.mp hm with hm | hm
            · exact h2 m hm
            · rw [List.mem_singleton.mp hm]; exact hn
          have ll := nodup_len nd2 k2
          rw [List.length_map, List.length_append, List.length_singleton] at ll
          obtain ⟨y', w', e3⟩ := ih (W ++ innerM t) (L ++ [n]) N (some (.tup [.str w_at, .int n])) nd2 k2 (fun v h => by
            rcases List.mem_append.mp h with h | h
            · exact h3 v (by simp [h])
            · exact c n t ht v h) (by rw [List.length_append, List.length_append, List.length_singleton]; omega) (by omega) (by omega)
          refine ⟨y', w', ?_⟩
          rw [queue_new c hL h1 hn h2 (fun v h => h3 v (by simp [h])), ia, ← e3]
          refine while_go hc ?_
          have ca := lst_cats W (innerM t) (by omega)
          have lt : (L.map D.int).length < most := by rw [List.length_map]; unfold most; omega
          have ap : ∀ ρ : Env, appK ρ 3 (.ok (.int n)) (some (some (.lst (L.map D.int)))) = .ok (.nx (ρ.set 3 (some (.lst (L.map D.int ++ [.int n]))))) := fun ρ => m_appK ρ 3 _ _ lt
          have i1 : ixD (encS s) (.int 2) = .ok (encTs s.ts) := by simp [encS]
          rw [decide_eq_false hL] at ii
          simp only [List.map_append (f := D.int), List.map_cons (f := D.int), List.map_nil]
          generalize (Val.ref n :: W).map encV = WW at *
          generalize (W ++ innerM t).map encV = W2 at *
          generalize W.map encV = W0 at *
          generalize L.map D.int = LL at *
          generalize (innerM t).map encV = II at *
          generalize encT t = tt at *
          generalize encTs s.ts = TT at *
          generalize encS s = SS at *
          simp [lmWhile, a0, cu, ii, ap, i1, i2, io, ca]
theorem law_met_ok {s : Sta} (z : sized s) (c : closedT s.ts) (hv : ∀ v ∈ valuesM s, okV (s.ts.map (·.1)) v) : F__law_met [encS s] = .ok (.lst ((metM s).map .int)) := by
  have h : ∀ g ∈ s.fs, g.own.length ≤ 60 ∧ g.stack.length ≤ 60 := fun g hg => ⟨z.ol g hg, z.sl g hg⟩
  have fl := flat_len h
  have zf := z.fl
  have tl := z.tl
  have vl : (valuesM s).length ≤ 7201 := by
    unfold valuesM endVals
    rw [List.length_append]
    split <;> simp only [List.length_singleton, List.length_nil] <;> omega
  have key : ∀ x : Option D, ∃ y' w', whileD (tB' (eOp neD (eVar 1) (eLst aNil))) lmWhile 100000 [some (encS s), some (.lst ((valuesM s).map encV)), x, some (.lst []), none] = .ok (.nx [some (encS s), w', x, some (.lst ((metM s).map .int)), y']) := fun x => by
    obtain ⟨y', w', e⟩ := lm_while z c x 20000 (valuesM s) [] 100000 none List.nodup_nil (by simp) hv (by simp; omega) (by omega) (by omega)
    exact ⟨y', w', e⟩
  unfold lmWhile at key
  unfold valuesM at key
  unfold encS at key ⊢
  generalize encTs s.ts = T at *
  generalize (metM s).map D.int = MM at *
  cases he : s.en with
  | run =>
    obtain ⟨y, e⟩ := vo_loop h z.fl (a := some (.tup [.non, .lst (s.fs.map encF), T])) (x := none) (r := [none, none]) (vs := []) (by simp)
    unfold voBody at e
    simp only [List.map_nil] at e
    rw [he] at key
    simp only [encE, endVals] at key ⊢
    generalize ([] ++ s.fs.flatMap fun f : Frm => f.own ++ f.stack).map encV = V at *
    generalize s.fs.map encF = L at *
    obtain ⟨y', w', k⟩ := key y
    simp [F__law_met, B__law_met, e, k]
  | stuck w =>
    obtain ⟨y, e⟩ := vo_loop h z.fl (a := some (.tup [.tup [.str w_stuck, .str w], .lst (s.fs.map encF), T])) (x := none) (r := [none, none]) (vs := []) (by simp)
    unfold voBody at e
    simp only [List.map_nil] at e
    rw [he] at key
    simp only [encE, endVals] at key ⊢
    generalize ([] ++ s.fs.flatMap fun f : Frm => f.own ++ f.stack).map encV = V at *
    generalize s.fs.map encF = L at *
    obtain ⟨y', w', k⟩ := key y
    simp [F__law_met, B__law_met, e, k]
  | done v =>
    obtain ⟨y, e⟩ := vo_loop h z.fl (a := some (.tup [.tup [.str w_done, encV v], .lst (s.fs.map encF), T])) (x := none) (r := [none, none]) (vs := [v]) (by simp)
    unfold voBody at e
    simp only [List.map_cons, List.map_nil] at e
    rw [he] at key
    simp only [encE, endVals] at key ⊢
    generalize ([v] ++ s.fs.flatMap fun f : Frm => f.own ++ f.stack).map encV = V at *
    generalize s.fs.map encF = L at *
    generalize encV v = u at *
    obtain ⟨y', w', k⟩ := key y
    simp [F__law_met, B__law_met, e, k]
end Dn

namespace Dn
open PySem L2
theorem okA_sized {k : Nat} {p : Prog} {s : Sta} (o : okA k p s) (hk : k ≤ 900) : sized s :=
  ⟨o.fl, fun g hg => (o.fr g hg).ol, fun g hg => (o.fr g hg).sl, by have := o.h.tl; omega, fun n t ht => by
    have q := o.h.th _ (look_mem ht)
    cases t with
    | box v => simp [innerM]
    | fn b vs => exact q.2.2.1⟩
theorem okA_closed {k : Nat} {p : Prog} {s : Sta} (o : okA k p s) : closedT s.ts := closed_of rfl o.h.th
theorem okA_vals {k : Nat} {p : Prog} {s : Sta} (o : okA k p s) : ∀ v ∈ valuesM s, okV (s.ts.map (·.1)) v := fun v hv => by
  unfold valuesM at hv
  rcases List.mem_append.mp hv with hv | hv
  · unfold endVals at hv
    split at hv
    · rename_i u he
      rw [List.mem_singleton.mp hv]
      exact o.en u he
    · cases hv
  · obtain ⟨g, hg, hv⟩ := List.mem_flatMap.mp hv
    rcases List.mem_append.mp hv with hv | hv
    · exact (o.fr g hg).ov v hv
    · exact (o.fr g hg).sv v hv
theorem met_facts {k : Nat} {p : Prog} {s : Sta} (o : okA k p s) : (metM s).Nodup ∧ (∀ n ∈ metM s, n ∈ s.ts.map (·.1)) ∧ (metM s).length ≤ s.ts.length := by
  have c := okA_closed o
  obtain ⟨h1, h2, _⟩ := grow_facts c s.ts.length 0 (addAll [] (refsM (valuesM s))) (addAll_nd List.nodup_nil) fun m hm => by
    rcases mem_addAll.mp hm with h | h
    · cases h
    · exact okA_vals o _ (mem_refs.mp h)
  refine ⟨h1, h2, ?_⟩
  have := nodup_len h1 h2
  rw [List.length_map] at this
  exact this
end Dn

namespace Dn
open PySem L2
/-! ### telling, typed -/
def numS (i : Int) : Str := Str.ofString (toString i)
def wordM (o : List Int) : Val → Str
  | .num i => numS i
  | .ref n => w__40_ ++ numS (o.idxOf n : Nat)
def listM (o : List Int) (vs : List Val) : List Str := numS (vs.length : Nat) :: vs.map (wordM o)
def endM (o : List Int) : End → List Str
  | .run => [w_runs]
  | .done v => [w_done, wordM o v]
  | .stuck w => [w_stuck, w]
def frameM (o : List Int) (f : Frm) : List Str := [numS f.body, numS f.place] ++ listM o f.own ++ listM o f.stack
def thingM (o : List Int) : Thing → List Str
  | .box v => [w_box, wordM o v]
  | .fn b vs => [w_fun, numS b] ++ listM o vs
def thingAt (o : List Int) (ts : List (Int × Thing)) (n : Int) : List Str := match lookT ts n with
  | some t => thingM o t
  | none => []
def toldM (s : Sta) : List Str := endM (metM s) s.en ++ [numS (s.fs.length : Nat)] ++ (s.fs.flatMap fun f => frameM (metM s) f) ++ (metM s).flatMap fun n => thingAt (metM s) s.ts n
def encW (ws : List Str) : D := .lst (ws.map .str)
/-! ### numbers as text, places -/
theorem str_num {i : Int} (h : i.natAbs.log2 < 1920) : strD [.int i] = .ok (.str (numS i)) := if_pos h
theorem str_val {i : Int} (h : -mostN ≤ i) (h2 : i ≤ mostN) : strD [.int i] = .ok (.str (numS i)) := str_num (by
  unfold mostN at h h2
  by_cases h0 : i.natAbs = 0
  · rw [h0]; decide
  · exact (Nat.log2_lt h0).mpr (Nat.lt_of_lt_of_le (by omega : i.natAbs < 2 ^ 200) (Nat.pow_le_pow_right (by decide) (by decide))))
theorem str_nat {n : Nat} (h : n ≤ 1000000) : strD [.int (n : Int)] = .ok (.str (numS (n : Nat))) := str_val (by unfold mostN; omega) (by unfold mostN; omega)
theorem num_len {n : Nat} (h : n ≤ 1000000) : (numS (n : Nat)).length ≤ 10 := PyProof.Rows.toString_length_le (by omega) (by decide) (by omega)
theorem at_cat {n : Nat} (h : n ≤ 1000000) : addD (.str w__40_) (.str (numS (n : Nat))) = .ok (.str (w__40_ ++ numS (n : Nat))) := if_pos (by
  have := num_len h
  have e : w__40_.length = 1 := by decide +kernel
  unfold most
  omega)
def encPlK (k : Nat) (o : List Int) : List (L2.Key × D) := (o.zipIdx k).map fun q => (Sum.inl q.1, D.int (q.2 : Nat))
def encPl (o : List Int) : D := .dic (encPlK 0 o)
theorem pl_val_at : ∀ (o : List Int) (k : Nat) (n : Int), n ∈ o → valK (encPlK k o) (.inl n) = some (.int ((k + o.idxOf n : Nat) : Int))
  | m :: o, k, n, h => by
    unfold encPlK
    rw [List.zipIdx_cons, List.map_cons]
    unfold valK
    rw [List.find?_cons, List.idxOf_cons]
    by_cases e : m = n
    · subst e
      simp
    · have h2 : n ∈ o := by
        rcases List.mem_cons.mp h with h | h
        · exact absurd h.symm e
        · exact h
      have ih := pl_val_at o (k + 1) n h2
      unfold encPlK valK at ih
      rw [decide_eq_false (fun q : (Sum.inl m : L2.Key) = Sum.inl n => e (by injection q))]
      simp only
      rw [ih, show (m == n) = false from by simpa using e]
      simp
      omega
theorem place_at {o : List Int} {n : Int} (h : n ∈ o) : ixD (encPl o) (.int n) = .ok (.int (o.idxOf n : Nat)) := by
  show (match valK (encPlK 0 o) (.inl n) with
    | some d => R.ok d
    | none => .no) = _
  rw [pl_val_at o 0 n h, Nat.zero_add]
theorem plK_app (o : List Int) (n : Int) : encPlK 0 (o ++ [n]) = encPlK 0 o ++ [(Sum.inl n, .int (o.length : Nat))] := by
  unfold encPlK
  rw [List.zipIdx_append, List.map_append]
  simp
theorem plK_any {o : List Int} {n : Int} (h : n ∉ o) : ((encPlK 0 o).any fun kv => decide (kv.1 = Sum.inl n)) = false := by
  unfold encPlK
  rw [List.any_map, List.any_eq_false]
  intro q hq e
  have e2 := of_decide_eq_true e
  have e3 : q.1 = n := by injection e2
  have := List.mem_zipIdx' hq
  exact h (by rw [← e3, this.2]; exact List.getElem_mem _)
theorem plK_len (o : List Int) : (encPlK 0 o).length = o.length := by simp [encPlK]
theorem pl_store {o : List Int} {n : Int} (h : n ∉ o) (hl : o.length ≤ 1000000) : storeD (encPl o) (.int n) (.int (o.length : Nat)) = .ok (encPl (o ++ [n])) := by
  have lt : (encPlK 0 o).length < most := by rw [plK_len]; unfold most; omega
  rw [encPl, store_int lt]
  unfold putD
  rw [plK_any h, if_neg (by simp), encPl, plK_app]
theorem index_at {o : List Int} {n : Int} (h : n ∈ o) : indexF (.lst (o.map .int)) (.int n) = .ok (.int (o.idxOf n : Nat)) := by
  have hf : (flatD (.int n) && (o.map D.int).all flatD) = true := by simp [flatD]
  refine Eq.trans (if_pos hf) ?_
  have e : (o.map D.int).findIdx? (fun d => eqV (toV d) (toV (.int n))) = some (o.idxOf n) := by
    clear hf
    induction o with
    | nil => cases h
    | cons m o ih =>
      rw [List.map_cons, List.findIdx?_cons, List.idxOf_cons]
      by_cases q : m = n
      · subst q
        simp [toV, eqV]
      · have h2 : n ∈ o := by
          rcases List.mem_cons.mp h with h | h
          · exact absurd h.symm q
          · exact h
        have e1 : eqV (toV (.int m)) (toV (.int n)) = false := by simp [toV, eqV, q]
        rw [e1, ih h2, show (m == n) = false from by simpa using q]
        rfl
  rw [e]
/-- what a telling asks of a value -/
def tellV (o : List Int) : Val → Prop
  | .num i => -mostN ≤ i ∧ i ≤ mostN
  | .ref n => n ∈ o
theorem idx_le {o : List Int} {n : Int} (h : n ∈ o) (hl : o.length ≤ 1000000) : o.idxOf n ≤ 1000000 := by
  have := List.idxOf_lt_length_iff.mpr h
  omega
theorem chk_words (ws : List Str) : chk (.own .fz) (encW ws) = true := List.all_eq_true.mpr fun x hx => by
  obtain ⟨w, _, rfl⟩ := List.mem_map.mp hx
  rfl
theorem words_cat (a b : List Str) (h : a.length + b.length ≤ 1000000) : addD (encW a) (encW b) = .ok (encW (a ++ b)) := by
  unfold encW
  rw [m_catL _ _ (by simp [most]; omega)]
  simp
end Dn

namespace Dn
open PySem L2
structure tellF (o : List Int) (f : Frm) : Prop where
  b : 0 ≤ f.body ∧ f.body ≤ 1000000
  p : 0 ≤ f.place ∧ f.place ≤ 1000000
  ol : f.own.length ≤ 60
  sl : f.stack.length ≤ 60
  ov : ∀ v ∈ f.own, tellV o v
  sv : ∀ v ∈ f.stack, tellV o v
theorem frame_words {o : List Int} {f : Frm} (h : tellF o f) : (frameM o f).length ≤ 130 := by
  have := h.ol
  have := h.sl
  simp [frameM, listM]
  omega
def tellT (o : List Int) (ts : List (Int × Thing)) (n : Int) : Prop := ∃ t, lookT ts n = some t ∧ (∀ v ∈ innerM t, tellV o v) ∧ (innerM t).length ≤ 8 ∧ ∀ b vs, t = .fn b vs → 0 ≤ b ∧ b ≤ 1000000
theorem thing_words {o : List Int} {ts : List (Int × Thing)} {n : Int} (h : tellT o ts n) : (thingAt o ts n).length ≤ 11 := by
  obtain ⟨t, h1, h2, h3, h4⟩ := h
  unfold thingAt
  rw [h1]
  cases t with
  | box v => simp [thingM]
  | fn b vs =>
    have : vs.length ≤ 8 := h3
    simp [thingM, listM]
    omega
structure tells (s : Sta) : Prop where
  z : sized s
  c : closedT s.ts
  v : ∀ v ∈ valuesM s, okV (s.ts.map (·.1)) v
  nd : (metM s).Nodup
  ml : (metM s).length ≤ 900
  e : ∀ v, s.en = .done v → tellV (metM s) v
  f : ∀ f ∈ s.fs, tellF (metM s) f
  t : ∀ n ∈ metM s, tellT (metM s) s.ts n
end Dn

namespace Dn
open PySem L2
/-! ### the law's own telling -/
@[simp] theorem m_setT4 (i j k l : Nat) (a b c d : D) (ρ : Env) : setT [i, j, k, l] (.tup [a, b, c, d]) ρ = .ok ((((ρ.set i (some a)).set j (some b)).set k (some c)).set l (some d)) := Eq.trans rfl rfl
@[simp] theorem m_indexF (fa fe : Env → R D) (ρ : Env) : eIndexF fa fe ρ = (fa ρ >>= fun d => match d with
  | .lst ds => fe ρ >>= indexF (.lst ds)
  | _ => .no) := Eq.trans rfl rfl
theorem str_str (w : Str) : strD [.str w] = .ok (.str w) := rfl
section
variable {o : List Int} (ho : o.length ≤ 900)
include ho
theorem law_word_ok {v : Val} (h : tellV o v) : F__law_word [encV v, .lst (o.map .int)] = .ok (.str (wordM o v)) := by
  cases v with
  | num i =>
    have e := str_val h.1 h.2
    generalize o.map D.int = P at *
    simp [F__law_word, B__law_word, e, wordM]
  | ref n =>
    have hn : n ∈ o := h
    have il := idx_le hn (by omega)
    have e1 := index_at hn
    have e2 := str_nat il
    have e3 := at_cat il
    generalize o.map D.int = P at *
    simp [F__law_word, B__law_word, e1, e2, e3, wordM]
theorem law_list_ok {vs : List Val} (h : ∀ v ∈ vs, tellV o v) (hl : vs.length ≤ 1000) : F__law_list [.tup (vs.map encV), .lst (o.map .int)] = .ok (encW (listM o vs)) := by
  have q := eLc_map (fi := iWalk (eVar 0)) (vs := [2]) (i := 2) (fe := eCall F__law_word (aCons (eVar 2) (aCons (eVar 1) aNil))) (ρ := [some (.tup (vs.map encV)), some (.lst (o.map .int)), none]) (xs := vs.map encV)
    (g := fun x => match F__law_word [x, .lst (o.map .int)] with
      | .ok d => d
      | _ => .non) (by simp) (by simp; omega) fun x hx => by
      obtain ⟨v, hv, rfl⟩ := List.mem_map.mp hx
      have e := law_word_ok ho (h v hv)
      simp [wipeE, e]
  have e : (vs.map encV).map (fun x => match F__law_word [x, .lst (o.map .int)] with
      | .ok d => d
      | _ => .non) = (vs.map (wordM o)).map D.str := by
    rw [List.map_map, List.map_map]
    refine List.map_congr_left fun v hv => ?_
    show (match F__law_word [encV v, .lst (o.map .int)] with
      | .ok d => d
      | _ => .non) = _
    rw [law_word_ok ho (h v hv)]
    rfl
  rw [e] at q
  have sl := str_nat (n := vs.length) (by omega)
  have ll : lenD [.tup (vs.map encV)] = .ok (.int (vs.length : Nat)) := by simp
  have ct := words_cat [numS (vs.length : Nat)] (vs.map (wordM o)) (by simp; omega)
  unfold encW at ct
  unfold listM encW
  simp only [List.map_cons, List.map_nil, List.cons_append, List.nil_append] at ct ⊢
  generalize (vs.map (wordM o)).map D.str = WW at *
  generalize o.map D.int = P at *
  generalize vs.map encV = VV at *
  simp [F__law_list, B__law_list, ll, sl, q, ct]
end
def ltBody2 : Env → R Fl := (sAsg 2 [] (eOp addD (eOp addD (eOp addD (eVar 2) (eLst (aCons (eCall strD (aCons (eVar 3) aNil)) (aCons (eCall strD (aCons (eVar 4) aNil)) aNil)))) (eCall (F__law_list) (aCons (eVar 5) (aCons (eVar 1) aNil)))) (eCall (F__law_list) (aCons (eVar 6) (aCons (eVar 1) aNil)))))
theorem lt_loop2 {o : List Int} (ho : o.length ≤ 900) {fs : List Frm} (h : ∀ f ∈ fs, tellF o f) (hl : fs.length ≤ 60) {ws : List Str} (hw : ws.length ≤ 100) {a x1 x2 x3 x4 : Option D} {r : List (Option D)} :
    ∃ y1 y2 y3 y4, forD (setT [3, 4, 5, 6]) ltBody2 (fs.map encF) (a :: some (.lst (o.map .int)) :: some (encW ws) :: x1 :: x2 :: x3 :: x4 :: r) = .ok (.nx (a :: some (.lst (o.map .int)) :: some (encW (ws ++ fs.flatMap (frameM o))) :: y1 :: y2 :: y3 :: y4 :: r)) := by
  obtain ⟨ρ', h1, h2⟩ := forD_foldP (enc := encF) (set := setT [3, 4, 5, 6]) (body := ltBody2) (fun (fs' : List Frm) (bb : List Str) ρ => bb.length + 130 * fs'.length ≤ 8000 ∧ (∀ f ∈ fs', tellF o f) ∧ ∃ y1 y2 y3 y4, ρ = a :: some (.lst (o.map .int)) :: some (encW bb) :: y1 :: y2 :: y3 :: y4 :: r) (fun bb f => bb ++ frameM o f) (xs := fs) (b := ws) (ρ := a :: some (.lst (o.map .int)) :: some (encW ws) :: x1 :: x2 :: x3 :: x4 :: r) ⟨by omega, h, x1, x2, x3, x4, rfl⟩
    fun f fs' bb ρ ⟨i1, i2, y1, y2, y3, y4, e⟩ => by
      subst e
      have tf := i2 f (by simp)
      have fw := frame_words tf
      rw [List.length_cons] at i1
      have t1 := law_list_ok ho tf.ov (by have := tf.ol; omega)
      have t2 := law_list_ok ho tf.sv (by have := tf.sl; omega)
      have s1 := str_val (i := f.body) (by have := tf.b; unfold mostN; omega) (by have := tf.b; unfold mostN; omega)
      have s2 := str_val (i := f.place) (by have := tf.p; unfold mostN; omega) (by have := tf.p; unfold mostN; omega)
      have l1 : (listM o f.own).length ≤ 61 := by have := tf.ol; simp [listM]; omega
      have l2 : (listM o f.stack).length ≤ 61 := by have := tf.sl; simp [listM]; omega
      have c1 : addD (encW bb) (.lst [.str (numS f.body), .str (numS f.place)]) = .ok (encW (bb ++ [numS f.body, numS f.place])) := words_cat bb [numS f.body, numS f.place] (by simp; omega)
      have c2 := words_cat (bb ++ [numS f.body, numS f.place]) (listM o f.own) (by simp; omega)
      have c3 := words_cat (bb ++ [numS f.body, numS f.place] ++ listM o f.own) (listM o f.stack) (by simp; omega)
      have ef : bb ++ frameM o f = bb ++ [numS f.body, numS f.place] ++ listM o f.own ++ listM o f.stack := by simp [frameM]
      refine ⟨a :: some (.lst (o.map .int)) :: some (encW bb) :: some (.int f.body) :: some (.int f.place) :: some (.tup (f.own.map encV)) :: some (.tup (f.stack.map encV)) :: r, a :: some (.lst (o.map .int)) :: some (encW (bb ++ frameM o f)) :: some (.int f.body) :: some (.int f.place) :: some (.tup (f.own.map encV)) :: some (.tup (f.stack.map encV)) :: r, by rw [enc_frm, m_setT4]; rfl, ?_, by rw [List.length_append]; omega, fun g hg => i2 g (by simp [hg]), _, _, _, _, rfl⟩
      rw [ef]
      generalize encW (bb ++ [numS f.body, numS f.place] ++ listM o f.own ++ listM o f.stack) = W4 at *
      generalize encW (bb ++ [numS f.body, numS f.place] ++ listM o f.own) = W3 at *
      generalize encW (bb ++ [numS f.body, numS f.place]) = W2 at *
      generalize encW bb = W1 at *
      generalize encW (listM o f.own) = V1 at *
      generalize encW (listM o f.stack) = V2 at *
      generalize f.own.map encV = O at *
      generalize f.stack.map encV = S at *
      generalize o.map D.int = P at *
      simp [ltBody2, s1, s2, c1, t1, c2, t2, c3]
  obtain ⟨_, _, y1, y2, y3, y4, rfl⟩ := h2
  refine ⟨y1, y2, y3, y4, ?_⟩
  have e : ∀ (fs : List Frm) (bb : List Str), fs.foldl (fun bb f => bb ++ frameM o f) bb = bb ++ fs.flatMap (frameM o) := fun fs => by
    induction fs with
    | nil => intro b; simp
    | cons f fs ih => intro b; rw [List.foldl_cons, ih, List.flatMap_cons]; simp
  rw [h1, e]
def ltBody3 : Env → R Fl := (sSeq (sAsg 8 [] (eOp ixD (eOp ixD (eVar 0) (eC (.int 2))) (eVar 7))) (sIf (tB' (eOp eqD (eOp ixD (eVar 8) (eC (.int 0))) (eC (.str w_box)))) (sAsg 2 [] (eOp addD (eVar 2) (eLst (aCons (eC (.str w_box)) (aCons (eCall (F__law_word) (aCons (eOp ixD (eVar 8) (eC (.int 1))) (aCons (eVar 1) aNil))) aNil))))) (sAsg 2 [] (eOp addD (eOp addD (eVar 2) (eLst (aCons (eC (.str w_fun)) (aCons (eCall strD (aCons (eOp ixD (eVar 8) (eC (.int 1))) aNil)) aNil)))) (eCall (F__law_list) (aCons (eOp ixD (eVar 8) (eC (.int 2))) (aCons (eVar 1) aNil)))))))
theorem lt_loop3 {o : List Int} (ho : o.length ≤ 900) {s : Sta} {ns : List Int} (h : ∀ n ∈ ns, tellT o s.ts n) (hl : ns.length ≤ 900) {ws : List Str} (hw : ws.length ≤ 8000) {c1 c2 c3 c4 x y : Option D} :
    ∃ x' y', forD (setN 7) ltBody3 (ns.map D.int) [some (encS s), some (.lst (o.map .int)), some (encW ws), c1, c2, c3, c4, x, y] = .ok (.nx [some (encS s), some (.lst (o.map .int)), some (encW (ws ++ ns.flatMap (thingAt o s.ts))), c1, c2, c3, c4, x', y']) := by
  obtain ⟨ρ', h1, h2⟩ := forD_foldP (enc := D.int) (set := setN 7) (body := ltBody3) (fun (ns' : List Int) (bb : List Str) ρ => bb.length + 11 * ns'.length ≤ 20000 ∧ (∀ n ∈ ns', tellT o s.ts n) ∧ ∃ x' y', ρ = [some (encS s), some (.lst (o.map .int)), some (encW bb), c1, c2, c3, c4, x', y']) (fun bb n => bb ++ thingAt o s.ts n) (xs := ns) (b := ws) (ρ := [some (encS s), some (.lst (o.map .int)), some (encW ws), c1, c2, c3, c4, x, y]) ⟨by omega, h, x, y, rfl⟩
    fun n ns' bb ρ ⟨i1, i2, x', y', e⟩ => by
      subst e
      have tw := thing_words (i2 n (by simp))
      obtain ⟨t, t1, t2, t3, t4⟩ := i2 n (by simp)
      rw [List.length_cons] at i1
      have ix := ix_look t1
      have ea : thingAt o s.ts n = thingM o t := by unfold thingAt; rw [t1]
      rw [ea] at tw
      have i1' : ixD (encS s) (.int 2) = .ok (encTs s.ts) := by simp [encS]
      refine ⟨_, [some (encS s), some (.lst (o.map .int)), some (encW (bb ++ thingAt o s.ts n)), c1, c2, c3, c4, some (.int n), some (encT t)], rfl, ?_, by rw [List.length_append, ea]; omega, fun g hg => i2 g (by simp [hg]), _, _, rfl⟩
      rw [ea]
      cases t with
      | box v =>
        have e := law_word_ok ho (t2 v (by simp [innerM]))
        have cc : addD (encW bb) (.lst [.str w_box, .str (wordM o v)]) = .ok (encW (bb ++ [w_box, wordM o v])) := words_cat bb [w_box, wordM o v] (by simp; omega)
        unfold thingM
        generalize encW (bb ++ [w_box, wordM o v]) = W2 at *
        generalize encW bb = W1 at *
        simp only [encT] at ix ⊢
        generalize encV v = u at *
        generalize encTs s.ts = TS at *
        generalize encS s = SS at *
        generalize o.map D.int = P at *
        simp [ltBody3, i1', ix, e, cc]
      | fn b vs =>
        obtain ⟨b0, b1⟩ := t4 b vs rfl
        have sb := str_val (i := b) (by unfold mostN; omega) (by unfold mostN; omega)
        have hl' : vs.length ≤ 8 := t3
        have vt := law_list_ok ho (vs := vs) t2 (by omega)
        have l1 : (listM o vs).length ≤ 9 := by simp [listM]; omega
        have k1 : addD (encW bb) (.lst [.str w_fun, .str (numS b)]) = .ok (encW (bb ++ [w_fun, numS b])) := words_cat bb [w_fun, numS b] (by simp; omega)
        have k2 := words_cat (bb ++ [w_fun, numS b]) (listM o vs) (by simp; omega)
        unfold thingM
        rw [← List.append_assoc]
        generalize encW (bb ++ [w_fun, numS b] ++ listM o vs) = W3 at *
        generalize encW (bb ++ [w_fun, numS b]) = W2 at *
        generalize encW bb = W1 at *
        generalize encW (listM o vs) = V1 at *
        simp only [encT] at ix ⊢
        generalize vs.map encV = VV at *
        generalize encTs s.ts = TS at *
        generalize encS s = SS at *
        generalize o.map D.int = P at *
        simp [ltBody3, i1', ix, sb, vt, k1, k2]
  obtain ⟨_, _, x', y', rfl⟩ := h2
  refine ⟨x', y', ?_⟩
  have e : ∀ (ns : List Int) (bb : List Str), ns.foldl (fun bb n => bb ++ thingAt o s.ts n) bb = bb ++ ns.flatMap (thingAt o s.ts) := fun ns => by
    induction ns with
    | nil => intro b; simp
    | cons f fs ih => intro b; rw [List.foldl_cons, ih, List.flatMap_cons]; simp
  rw [h1, e]
theorem law_told_ok {s : Sta} (h : tells s) : F__law_told [encS s] = .ok (encW (toldM s)) := by
  have me := law_met_ok h.z h.c h.v
  have ho := h.ml
  have zf := h.z.fl
  have el : (endM (metM s) s.en).length ≤ 2 := by unfold endM; split <;> simp
  obtain ⟨y1, y2, y3, y4, l2⟩ := lt_loop2 ho h.f h.z.fl (ws := endM (metM s) s.en ++ [numS (s.fs.length : Nat)]) (by simp; omega) (a := some (encS s)) (x1 := none) (x2 := none) (x3 := none) (x4 := none) (r := [none, none])
  have fl : (s.fs.flatMap (frameM (metM s))).length ≤ 130 * s.fs.length := by
    have hf := h.f
    generalize s.fs = fs at hf ⊢
    induction fs with
    | nil => simp
    | cons f fs ih =>
      have := frame_words (hf f (by simp))
      have := ih fun g hg => hf g (by simp [hg])
      rw [List.flatMap_cons, List.length_append, List.length_cons]
      omega
  obtain ⟨z1, z2, l3⟩ := lt_loop3 ho h.t h.ml (ws := endM (metM s) s.en ++ [numS (s.fs.length : Nat)] ++ s.fs.flatMap (frameM (metM s))) (by simp only [List.length_append, List.length_singleton]; omega) (c1 := y1) (c2 := y2) (c3 := y3) (c4 := y4) (x := none) (y := none)
  have sn := str_nat (n := s.fs.length) (by omega)
  have i1 : ixD (encS s) (.int 1) = .ok (.lst (s.fs.map encF)) := by simp [encS]
  have lf : ((s.fs.map encF).length : Int) = (s.fs.length : Nat) := by simp
  unfold ltBody2 at l2
  unfold ltBody3 at l3
  unfold toldM
  generalize encW (endM (metM s) s.en ++ [numS (s.fs.length : Nat)] ++ s.fs.flatMap (frameM (metM s)) ++ (metM s).flatMap (thingAt (metM s) s.ts)) = W4 at *
  generalize encW (endM (metM s) s.en ++ [numS (s.fs.length : Nat)] ++ s.fs.flatMap (frameM (metM s))) = W3 at *
  cases he : s.en with
  | run =>
    have i0 : ixD (encS s) (.int 0) = .ok .non := by simp [encS, he, encE]
    have ap : ∀ ρ : Env, appK ρ 2 (.ok (.str (numS (s.fs.length : Nat)))) (some (some (.lst [.str w_runs]))) = .ok (.nx (ρ.set 2 (some (encW ([w_runs] ++ [numS (s.fs.length : Nat)]))))) := fun ρ => m_appK ρ 2 _ _ (by show 1 < 16777216; decide)
    rw [he] at l2
    simp only [endM] at l2
    generalize encW ([w_runs] ++ [numS (s.fs.length : Nat)]) = W2 at *
    generalize (metM s).map D.int = MM at *
    generalize s.fs.map encF = L at *
    generalize encS s = SS at *
    simp [F__law_told, B__law_told, me, i0, i1, lf, sn, ap, l2, l3]
  | stuck w =>
    have i0 : ixD (encS s) (.int 0) = .ok (.tup [.str w_stuck, .str w]) := by simp [encS, he, encE]
    have lw : F__law_word [.str w, .lst ((metM s).map .int)] = .ok (.str w) := by
      generalize (metM s).map D.int = MM
      simp [F__law_word, B__law_word, str_str]
    have ap : ∀ ρ : Env, appK ρ 2 (.ok (.str (numS (s.fs.length : Nat)))) (some (some (.lst [.str w_stuck, .str w]))) = .ok (.nx (ρ.set 2 (some (encW ([w_stuck, w] ++ [numS (s.fs.length : Nat)]))))) := fun ρ => m_appK ρ 2 _ _ (by show 2 < 16777216; decide)
    rw [he] at l2
    simp only [endM] at l2
    generalize encW ([w_stuck, w] ++ [numS (s.fs.length : Nat)]) = W2 at *
    generalize (metM s).map D.int = MM at *
    generalize s.fs.map encF = L at *
    generalize encS s = SS at *
    simp [F__law_told, B__law_told, me, i0, i1, lf, sn, ap, l2, l3, lw]
  | done v =>
    have i0 : ixD (encS s) (.int 0) = .ok (.tup [.str w_done, encV v]) := by simp [encS, he, encE]
    have lw := law_word_ok ho (h.e v he)
    have ap : ∀ ρ : Env, appK ρ 2 (.ok (.str (numS (s.fs.length : Nat)))) (some (some (.lst [.str w_done, .str (wordM (metM s) v)]))) = .ok (.nx (ρ.set 2 (some (encW ([w_done, wordM (metM s) v] ++ [numS (s.fs.length : Nat)]))))) := fun ρ => m_appK ρ 2 _ _ (by show 2 < 16777216; decide)
    rw [he] at l2
    simp only [endM] at l2
    generalize encW ([w_done, wordM (metM s) v] ++ [numS (s.fs.length : Nat)]) = W2 at *
    generalize (metM s).map D.int = MM at *
    generalize s.fs.map encF = L at *
    generalize encV v = vv at *
    generalize wordM (metM s) v = wv at *
    generalize encS s = SS at *
    simp [F__law_told, B__law_told, me, i0, i1, lf, sn, ap, l2, l3, lw]
end Dn

namespace Dn
open PySem L2
/-! ### what is met is all that is led to -/
theorem grow_all {ts : List (Int × Thing)} (c : closedT ts) : ∀ (f k : Nat) (found : List Int), found.Nodup → (∀ n ∈ found, n ∈ ts.map (·.1)) → ts.length ≤ f + k → (∀ i n, i < k → found[i]? = some n → ∀ m ∈ refsM (innerAt ts n), m ∈ found) →
    ∀ n ∈ growM ts f k found, ∀ m ∈ refsM (innerAt ts n), m ∈ growM ts f k found
  | 0, k, found, h1, h2, h3, h4 => by
    have hl := nodup_len h1 h2
    rw [List.length_map] at hl
    intro n hn m hm
    obtain ⟨i, hi⟩ := List.getElem?_of_mem (show n ∈ found from hn)
    have := (List.getElem?_eq_some_iff.mp hi).1
    exact h4 i n (by omega) hi m hm
  | f + 1, k, found, h1, h2, h3, h4 => by
    cases hk : found[k]? with
    | none =>
      rw [grow_end hk]
      intro n hn m hm
      obtain ⟨i, hi⟩ := List.getElem?_of_mem (show n ∈ found from hn)
      have := (List.getElem?_eq_some_iff.mp hi).1
      have := List.getElem?_eq_none_iff.mp hk
      exact h4 i n (by omega) hi m hm
    | some x =>
      rw [grow_go hk]
      refine grow_all c f (k + 1) _ (addAll_nd h1) (fun m hm => ?_) (by omega) fun i n hi hn m hm => ?_
      · rcases mem_addAll.mp hm with h | h
        · exact h2 m h
        · exact inner_refs c h
      · obtain ⟨r, hr⟩ := addAll_pre (refsM (innerAt ts x)) found
        have hkl := (List.getElem?_eq_some_iff.mp hk).1
        rw [hr, List.getElem?_append_left (by omega)] at hn
        by_cases e : i = k
        · subst e
          rw [hk] at hn
          cases hn
          exact mem_addAll.mpr (.inr hm)
        · exact mem_addAll.mpr (.inl (h4 i n (by omega) hn m hm))
section
variable {k : Nat} {p : Prog} {s : Sta} (o : okA k p s)
include o
theorem met_all : (∀ n ∈ refsM (valuesM s), n ∈ metM s) ∧ ∀ n ∈ metM s, ∀ m ∈ refsM (innerAt s.ts n), m ∈ metM s := by
  have c := okA_closed o
  have h0 : ∀ n ∈ addAll [] (refsM (valuesM s)), n ∈ s.ts.map (·.1) := fun m hm => by
    rcases mem_addAll.mp hm with h | h
    · cases h
    · exact okA_vals o _ (mem_refs.mp h)
  refine ⟨fun n hn => ?_, grow_all c _ 0 _ (addAll_nd List.nodup_nil) h0 (by omega) fun i n hi => by omega⟩
  obtain ⟨_, _, r, e⟩ := grow_facts c s.ts.length 0 (addAll [] (refsM (valuesM s))) (addAll_nd List.nodup_nil) h0
  unfold metM
  rw [e]
  exact List.mem_append_left _ (mem_addAll.mpr (.inr hn))
theorem tell_val {v : Val} (h : v ∈ valuesM s) : tellV (metM s) v := by
  have q := okA_vals o v h
  cases v with
  | num i => exact q
  | ref n => exact (met_all o).1 n (mem_refs.mpr h)
theorem tells_of (hk : k ≤ 900) (hp : p.length ≤ 1000) (hb : ∀ b ∈ p, b.length ≤ 1000) : tells s := by
  have mf := met_facts o
  have ma := met_all o
  have tl := o.h.tl
  refine ⟨okA_sized o hk, okA_closed o, okA_vals o, mf.1, by omega, fun v hv => tell_val o ?_, fun f hf => ?_, fun n hn => ?_⟩
  · unfold valuesM
    rw [hv]
    simp [endVals]
  · have g := o.fr f hf
    have fv : ∀ v, v ∈ f.own ++ f.stack → v ∈ valuesM s := fun v hv => List.mem_append_right _ (List.mem_flatMap.mpr ⟨f, hf, hv⟩)
    have bl : (p.getD f.body.toNat []).length ≤ 1000 := by
      have b1 := g.b1
      have b0 := g.b0
      rw [List.getD_eq_getElem?_getD, List.getElem?_eq_getElem (by omega)]
      exact hb _ (List.getElem_mem _)
    have := g.b1
    have := g.p1
    exact ⟨⟨g.b0, by omega⟩, ⟨g.p0, by omega⟩, g.ol, g.sl, fun v hv => tell_val o (fv v (by simp [hv])), fun v hv => tell_val o (fv v (by simp [hv]))⟩
  · obtain ⟨t, ht⟩ := look_some (mf.2.1 n hn)
    have q := o.h.th _ (look_mem ht)
    refine ⟨t, ht, fun v hv => ?_, (okA_sized o hk).kl n t ht, fun b vs e => ?_⟩
    · have okv := okA_closed o n t ht v hv
      cases v with
      | num i => exact okv
      | ref m =>
        refine ma.2 n hn m ?_
        unfold innerAt
        rw [ht]
        exact mem_refs.mpr hv
    · subst e
      have := q.2.1
      exact ⟨q.1, by omega⟩
end
theorem told_len {s : Sta} (h : tells s) : (toldM s).length ≤ 18000 := by
  have el : (endM (metM s) s.en).length ≤ 2 := by unfold endM; split <;> simp
  have fl : (s.fs.flatMap fun f => frameM (metM s) f).length ≤ 130 * s.fs.length := by
    have hf := h.f
    generalize s.fs = fs at hf ⊢
    induction fs with
    | nil => simp
    | cons f fs ih =>
      have := frame_words (hf f (by simp))
      have := ih fun g hg => hf g (by simp [hg])
      rw [List.flatMap_cons, List.length_append, List.length_cons]
      omega
  have tl : ((metM s).flatMap fun n => thingAt (metM s) s.ts n).length ≤ 11 * (metM s).length := by
    have ht := h.t
    generalize metM s = o at ht ⊢
    have key : ∀ ns : List Int, (∀ n ∈ ns, tellT o s.ts n) → (ns.flatMap fun n => thingAt o s.ts n).length ≤ 11 * ns.length := fun ns => by
      induction ns with
      | nil => simp
      | cons n ns ih =>
        intro hn
        have := thing_words (hn n (by simp))
        have := ih fun g hg => hn g (by simp [hg])
        rw [List.flatMap_cons, List.length_append, List.length_cons]
        omega
    exact key o ht
  have := h.ml
  have := h.z.fl
  unfold toldM
  simp only [List.length_append, List.length_singleton]
  omega
end Dn

namespace Dn
open PySem L2
/-! ### things by other numbers -/
def reV (g : Int → Int) : Val → Val
  | .num i => .num i
  | .ref n => .ref (g n)
def reT (g : Int → Int) : Thing → Thing
  | .box v => .box (reV g v)
  | .fn b vs => .fn b (vs.map (reV g))
def reF (g : Int → Int) (f : Frm) : Frm := { f with own := f.own.map (reV g), stack := f.stack.map (reV g) }
def reE (g : Int → Int) : End → End
  | .done v => .done (reV g v)
  | e => e
/-- s' is s by other numbers of the things that are met -/
structure alike (g : Int → Int) (s s' : Sta) : Prop where
  en : s'.en = reE g s.en
  fs : s'.fs = s.fs.map (reF g)
  inj : ∀ a ∈ metM s, ∀ b ∈ metM s, g a = g b → a = b
  th : ∀ n ∈ metM s, ∃ t, lookT s.ts n = some t ∧ lookT s'.ts (g n) = some (reT g t)
theorem isNum_re (g : Int → Int) (v : Val) : isNumV (reV g v) = isNumV v := by cases v <;> rfl
theorem refs_re (g : Int → Int) (vs : List Val) : refsM (vs.map (reV g)) = (refsM vs).map g := by
  induction vs with
  | nil => rfl
  | cons v vs ih =>
    cases v with
    | num i =>
      rw [List.map_cons]
      show refsM (.num i :: _) = _
      rw [refs_num, ih, refs_num]
    | ref n =>
      rw [List.map_cons]
      show refsM (.ref (g n) :: _) = _
      rw [refs_ref, ih, refs_ref]
      rfl
theorem inner_re (g : Int → Int) (t : Thing) : innerM (reT g t) = (innerM t).map (reV g) := by cases t <;> rfl
theorem values_re {g : Int → Int} {s s' : Sta} (h1 : s'.en = reE g s.en) (h2 : s'.fs = s.fs.map (reF g)) : valuesM s' = (valuesM s).map (reV g) := by
  unfold valuesM
  rw [h1, h2, List.map_append]
  congr 1
  · cases s.en <;> rfl
  · generalize s.fs = fs
    induction fs with
    | nil => rfl
    | cons f fs ih =>
      rw [List.map_cons, List.flatMap_cons, List.flatMap_cons, List.map_append, ih]
      congr 1
      show f.own.map (reV g) ++ f.stack.map (reV g) = _
      rw [List.map_append]
theorem addN_re {g : Int → Int} {M : List Int} (inj : ∀ a ∈ M, ∀ b ∈ M, g a = g b → a = b) {acc : List Int} {n : Int} (ha : ∀ x ∈ acc, x ∈ M) (hn : n ∈ M) : addN (acc.map g) (g n) = (addN acc n).map g := by
  unfold addN
  by_cases h : n ∈ acc
  · rw [if_pos h, if_pos (List.mem_map.mpr ⟨n, h, rfl⟩)]
  · rw [if_neg h, if_neg ?_]
    · simp
    · intro q
      obtain ⟨m, hm, e⟩ := List.mem_map.mp q
      exact h (by rw [← inj m (ha m hm) n hn e]; exact hm)
theorem addAll_re {g : Int → Int} {M : List Int} (inj : ∀ a ∈ M, ∀ b ∈ M, g a = g b → a = b) : ∀ {ns acc : List Int}, (∀ x ∈ addAll acc ns, x ∈ M) → addAll (acc.map g) (ns.map g) = (addAll acc ns).map g
  | [], acc, h => rfl
  | n :: ns, acc, h => by
    have h2 : ∀ x ∈ addN acc n, x ∈ M := fun x hx => h x (mem_addAll.mpr ((mem_addN.mp hx).imp id fun e => by rw [e]; simp))
    show addAll (addN (acc.map g) (g n)) (ns.map g) = _
    rw [addN_re inj (fun x hx => h2 x (mem_addN.mpr (.inl hx))) (h2 n (mem_addN.mpr (.inr rfl)))]
    exact addAll_re inj h
theorem grow_re {g : Int → Int} {M : List Int} {ts ts' : List (Int × Thing)} (inj : ∀ a ∈ M, ∀ b ∈ M, g a = g b → a = b) (th : ∀ n ∈ M, innerAt ts' (g n) = (innerAt ts n).map (reV g)) : ∀ (f k : Nat) (found : List Int), (∀ x ∈ growM ts f k found, x ∈ M) → (∀ x ∈ found, x ∈ M) → (∀ f k l, ∃ r, growM ts f k l = l ++ r) →
    growM ts' f k (found.map g) = (growM ts f k found).map g
  | 0, k, found, h, h2, pre => rfl
  | f + 1, k, found, h, h2, pre => by
    cases q : found[k]? with
    | none =>
      rw [grow_end q, grow_end (by rw [List.getElem?_map, q]; rfl)]
    | some n =>
      have q' : (found.map g)[k]? = some (g n) := by rw [List.getElem?_map, q]; rfl
      have nM : n ∈ M := h2 n (List.mem_of_getElem? q)
      rw [grow_go q] at h ⊢
      rw [grow_go q', th n nM, refs_re]
      obtain ⟨r, hr⟩ := pre f (k + 1) (addAll found (refsM (innerAt ts n)))
      have h3 : ∀ x ∈ addAll found (refsM (innerAt ts n)), x ∈ M := fun x hx => h x (by rw [hr]; exact List.mem_append_left _ hx)
      rw [addAll_re inj h3]
      exact grow_re inj th f (k + 1) _ h h3 pre
theorem grow_pre (ts : List (Int × Thing)) : ∀ (f k : Nat) (l : List Int), ∃ r, growM ts f k l = l ++ r
  | 0, k, l => ⟨[], by simp [growM]⟩
  | f + 1, k, l => by
    cases q : l[k]? with
    | none => exact ⟨[], by rw [grow_end q]; simp⟩
    | some n =>
      rw [grow_go q]
      obtain ⟨r, hr⟩ := grow_pre ts f (k + 1) (addAll l (refsM (innerAt ts n)))
      obtain ⟨r', hr'⟩ := addAll_pre (refsM (innerAt ts n)) l
      exact ⟨r' ++ r, by rw [hr, hr', List.append_assoc]⟩
/-- the things that are met, by the other numbers -/
theorem met_re {g : Int → Int} {s s' : Sta} (a : alike g s s') (c : closedT s.ts) (c' : closedT s'.ts) (v : ∀ v ∈ valuesM s, okV (s.ts.map (·.1)) v) (v' : ∀ v ∈ valuesM s', okV (s'.ts.map (·.1)) v) : metM s' = (metM s).map g := by
  have h0 : ∀ (s : Sta), (∀ v ∈ valuesM s, okV (s.ts.map (·.1)) v) → ∀ n ∈ addAll [] (refsM (valuesM s)), n ∈ s.ts.map (·.1) := fun s v m hm => by
    rcases mem_addAll.mp hm with h | h
    · cases h
    · exact v _ (mem_refs.mp h)
  have g1 := grow_more c s.ts.length 0 _ (addAll_nd List.nodup_nil) (h0 s v) (by omega) s'.ts.length
  have g2 := grow_more c' s'.ts.length 0 _ (addAll_nd List.nodup_nil) (h0 s' v') (by omega) s.ts.length
  rw [Nat.add_comm] at g2
  have inj := a.inj
  have th := a.th
  unfold metM at inj th ⊢
  rw [← g1] at inj th ⊢
  rw [← g2]
  rw [values_re a.en a.fs, refs_re]
  obtain ⟨r, hr⟩ := grow_pre s.ts (s.ts.length + s'.ts.length) 0 (addAll [] (refsM (valuesM s)))
  have e0 : addAll [] ((refsM (valuesM s)).map g) = (addAll [] (refsM (valuesM s))).map g := by
    have := addAll_re (ns := refsM (valuesM s)) (acc := []) inj (fun x hx => by rw [hr]; exact List.mem_append_left _ hx)
    simpa using this
  rw [e0]
  exact grow_re inj (fun n hn => by
    obtain ⟨t, h1, h2⟩ := th n hn
    unfold innerAt
    rw [h1, h2]
    exact inner_re g t) _ _ _ (fun x hx => hx) (fun x hx => by rw [hr]; exact List.mem_append_left _ hx) (grow_pre s.ts)
theorem idx_re {g : Int → Int} : ∀ {o : List Int} {n : Int}, (∀ a ∈ o, ∀ b ∈ o, g a = g b → a = b) → n ∈ o → (o.map g).idxOf (g n) = o.idxOf n
  | m :: o, n, inj, h => by
    rw [List.map_cons, List.idxOf_cons, List.idxOf_cons]
    by_cases e : m = n
    · subst e; simp
    · have h2 : n ∈ o := by
        rcases List.mem_cons.mp h with h | h
        · exact absurd h.symm e
        · exact h
      have e2 : g m ≠ g n := fun q => e (inj m (by simp) n h q)
      rw [show (m == n) = false from by simpa using e, show (g m == g n) = false from by simpa using e2]
      simp only [cond_false]
      rw [idx_re (fun a ha b hb => inj a (by simp [ha]) b (by simp [hb])) h2]
/-- all that is told of is met -/
structure allMet (s : Sta) : Prop where
  v : ∀ n, Val.ref n ∈ valuesM s → n ∈ metM s
  t : ∀ n ∈ metM s, ∀ m, Val.ref m ∈ innerAt s.ts n → m ∈ metM s
section
variable {g : Int → Int} {o : List Int} (inj : ∀ a ∈ o, ∀ b ∈ o, g a = g b → a = b)
include inj
theorem word_re {v : Val} (h : ∀ n, v = .ref n → n ∈ o) : wordM (o.map g) (reV g v) = wordM o v := by
  cases v with
  | num i => rfl
  | ref n =>
    show w__40_ ++ numS ((o.map g).idxOf (g n) : Nat) = w__40_ ++ numS (o.idxOf n : Nat)
    rw [idx_re inj (h n rfl)]
theorem list_re {vs : List Val} (h : ∀ n, Val.ref n ∈ vs → n ∈ o) : listM (o.map g) (vs.map (reV g)) = listM o vs := by
  unfold listM
  rw [List.length_map, List.map_map]
  congr 1
  refine List.map_congr_left fun v hv => ?_
  exact word_re inj fun n e => h n (by rw [← e]; exact hv)
theorem thing_re {t : Thing} (h : ∀ n, Val.ref n ∈ innerM t → n ∈ o) : thingM (o.map g) (reT g t) = thingM o t := by
  cases t with
  | box v =>
    show [w_box, wordM (o.map g) (reV g v)] = [w_box, wordM o v]
    rw [word_re inj fun n e => h n (by rw [e]; simp [innerM])]
  | fn b vs =>
    show [w_fun, numS b] ++ listM (o.map g) (vs.map (reV g)) = [w_fun, numS b] ++ listM o vs
    rw [list_re (vs := vs) inj h]
end
/-- alike states are told by the same words -/
theorem told_re {g : Int → Int} {s s' : Sta} (a : alike g s s') (m : metM s' = (metM s).map g) (al : allMet s) : toldM s' = toldM s := by
  have inj := a.inj
  unfold toldM
  rw [m, a.en, a.fs, List.length_map, List.flatMap_map, List.flatMap_map]
  have fv : ∀ f ∈ s.fs, ∀ v, v ∈ f.own ++ f.stack → v ∈ valuesM s := fun f hf v hv => List.mem_append_right _ (List.mem_flatMap.mpr ⟨f, hf, hv⟩)
  have e1 : endM ((metM s).map g) (reE g s.en) = endM (metM s) s.en := by
    cases he : s.en with
    | run => rfl
    | stuck w => rfl
    | done v =>
      show [w_done, wordM ((metM s).map g) (reV g v)] = [w_done, wordM (metM s) v]
      rw [word_re inj fun n e => al.v n (by unfold valuesM; rw [he]; simp [endVals, e])]
  have e2 : (s.fs.flatMap fun f => frameM ((metM s).map g) (reF g f)) = s.fs.flatMap fun f => frameM (metM s) f := by
    have key : ∀ fs : List Frm, (∀ f ∈ fs, f ∈ s.fs) → (fs.flatMap fun f => frameM ((metM s).map g) (reF g f)) = fs.flatMap fun f => frameM (metM s) f := fun fs => by
      induction fs with
      | nil => intro _; rfl
      | cons f fs ih =>
        intro h
        rw [List.flatMap_cons, List.flatMap_cons, ih fun x hx => h x (by simp [hx])]
        congr 1
        have hf := h f (by simp)
        show [numS f.body, numS f.place] ++ listM ((metM s).map g) (f.own.map (reV g)) ++ listM ((metM s).map g) (f.stack.map (reV g)) = _
        rw [list_re inj fun n hn => al.v n (fv f hf _ (by simp [hn])), list_re inj fun n hn => al.v n (fv f hf _ (by simp [hn]))]
        rfl
    exact key s.fs fun _ h => h
  have e3 : ((metM s).flatMap fun n => thingAt ((metM s).map g) s'.ts (g n)) = (metM s).flatMap fun n => thingAt (metM s) s.ts n := by
    have key : ∀ ns : List Int, (∀ n ∈ ns, n ∈ metM s) → (ns.flatMap fun n => thingAt ((metM s).map g) s'.ts (g n)) = ns.flatMap fun n => thingAt (metM s) s.ts n := fun ns => by
      induction ns with
      | nil => intro _; rfl
      | cons n ns ih =>
        intro h
        rw [List.flatMap_cons, List.flatMap_cons, ih fun x hx => h x (by simp [hx])]
        congr 1
        have hn := h n (by simp)
        obtain ⟨t, h1, h2⟩ := a.th n hn
        unfold thingAt
        rw [h1, h2]
        exact thing_re inj fun k hk => al.t n hn k (by unfold innerAt; rw [h1]; exact hk)
    exact key _ fun _ h => h
  rw [e1, e2, e3]
end Dn

namespace Dn
open PySem L2 TL NumText
/-! ### states that are told by the same words are alike -/
abbrev sgn (w : Str) : List Nat := w.cps.toList
theorem sgn_app (a b : Str) : sgn (a ++ b) = sgn a ++ sgn b := by
  show (a ++ b).cps.toList = _
  rw [Str.cps_append, Array.toList_append]
theorem sgn_at : sgn w__40_ = [64] := by decide +kernel
theorem sgn_nat (n : Nat) : sgn (numS (n : Nat)) = numL n := tl_num n
theorem sgn_neg (m : Nat) : sgn (numS (-((m + 1 : Nat) : Int))) = 45 :: numL (m + 1) := by
  have e : (toString (-((m + 1 : Nat) : Int)) : String) = "-" ++ toString (((m + 1 : Nat) : Int)) := rfl
  show (Str.ofString (toString (-((m + 1 : Nat) : Int)))).cps.toList = _
  rw [e, Str.ofString_eq_toList, String.toList_append, List.map_append]
  have e2 := tl_num (m + 1)
  rw [show tl (Str.ofString (toString ((m + 1 : Nat) : Int))) = (Str.ofString (toString ((m + 1 : Nat) : Int))).cps.toList from rfl, Str.ofString_eq_toList] at e2
  have e3 : ((toString ((m + 1 : Nat) : Int)).toList.map Char.toNat) = numL (m + 1) := by simpa using e2
  rw [e3]
  rfl
theorem numL_inj {n m : Nat} (h : numL n = numL m) : n = m := by
  have := congrArg digitsVal h
  rwa [numL_val, numL_val] at this
theorem numL_no {n c : Nat} {r : List Nat} (h : numL n = c :: r) : 48 ≤ c ∧ c ≤ 57 := numL_digits n c (by rw [h]; simp)
theorem numS_inj {i j : Int} (h : numS i = numS j) : i = j := by
  have h := congrArg sgn h
  rcases Int.eq_nat_or_neg i with ⟨n, rfl | rfl⟩ <;> rcases Int.eq_nat_or_neg j with ⟨m, rfl | rfl⟩
  · rw [sgn_nat, sgn_nat] at h
    rw [numL_inj h]
  · cases m with
    | zero =>
      rw [show (-((0 : Nat) : Int)) = ((0 : Nat) : Int) from rfl, sgn_nat, sgn_nat] at h
      rw [numL_inj h]
      rfl
    | succ m =>
      rw [sgn_nat, sgn_neg] at h
      have := numL_no h
      omega
  · cases n with
    | zero =>
      rw [show (-((0 : Nat) : Int)) = ((0 : Nat) : Int) from rfl, sgn_nat, sgn_nat] at h
      rw [← numL_inj h]
      rfl
    | succ n =>
      rw [sgn_nat, sgn_neg] at h
      have := numL_no h.symm
      omega
  · cases n with
    | zero =>
      cases m with
      | zero => rfl
      | succ m =>
        rw [show (-((0 : Nat) : Int)) = ((0 : Nat) : Int) from rfl, sgn_nat, sgn_neg] at h
        have := numL_no h
        omega
    | succ n =>
      cases m with
      | zero =>
        rw [show (-((0 : Nat) : Int)) = ((0 : Nat) : Int) from rfl, sgn_nat, sgn_neg] at h
        have := numL_no h.symm
        omega
      | succ m =>
        rw [sgn_neg, sgn_neg] at h
        rw [numL_inj (List.cons.inj h).2]
theorem num_not_at {i : Int} {k : Nat} (h : numS i = w__40_ ++ numS (k : Nat)) : False := by
  have h := congrArg sgn h
  rw [sgn_app, sgn_at, sgn_nat] at h
  rcases Int.eq_nat_or_neg i with ⟨n, rfl | rfl⟩
  · rw [sgn_nat] at h
    have := numL_no h
    omega
  · cases n with
    | zero =>
      rw [show (-((0 : Nat) : Int)) = ((0 : Nat) : Int) from rfl, sgn_nat] at h
      have := numL_no h
      omega
    | succ n =>
      rw [sgn_neg] at h
      have := (List.cons.inj h).1
      omega
theorem at_inj {k m : Nat} (h : w__40_ ++ numS (k : Nat) = w__40_ ++ numS (m : Nat)) : k = m := by
  have h := congrArg sgn h
  rw [sgn_app, sgn_app, sgn_at, sgn_nat, sgn_nat] at h
  exact numL_inj (List.cons.inj h).2
/-- the number at the same place of the other order -/
def gOf (o o' : List Int) (n : Int) : Int := o'.getD (o.idxOf n) n
theorem g_at {o o' : List Int} {n n' : Int} (h : n' ∈ o') (e : o.idxOf n = o'.idxOf n') : gOf o o' n = n' := by
  unfold gOf
  rw [e, List.getD_eq_getElem?_getD, List.getElem?_eq_getElem (List.idxOf_lt_length_iff.mpr h), Option.getD_some, List.getElem_idxOf]
section
variable {o o' : List Int}
theorem word_inj {v v' : Val} (h' : ∀ n, v' = .ref n → n ∈ o') (e : wordM o v = wordM o' v') : v' = reV (gOf o o') v := by
  cases v with
  | num i =>
    cases v' with
    | num j =>
      rw [numS_inj (show numS i = numS j from e)]
      rfl
    | ref n => exact (num_not_at (show numS i = w__40_ ++ numS (o'.idxOf n : Nat) from e)).elim
  | ref n =>
    cases v' with
    | num j => exact (num_not_at (show numS j = w__40_ ++ numS (o.idxOf n : Nat) from e.symm)).elim
    | ref m => exact congrArg Val.ref (g_at (h' m rfl) (at_inj e)).symm
theorem words_inj : ∀ {vs vs' : List Val}, (∀ n, Val.ref n ∈ vs' → n ∈ o') → vs.map (wordM o) = vs'.map (wordM o') → vs' = vs.map (reV (gOf o o'))
  | [], [], _, _ => rfl
  | [], _ :: _, _, e => by simp at e
  | _ :: _, [], _, e => by simp at e
  | v :: vs, v' :: vs', h, e => by
    rw [List.map_cons, List.map_cons] at e
    have e := List.cons.inj e
    rw [List.map_cons, word_inj (fun n q => h n (by rw [← q]; simp)) e.1, words_inj (fun n q => h n (List.mem_cons_of_mem _ q)) e.2]
theorem list_inj {vs vs' : List Val} {r r' : List Str} (h : ∀ n, Val.ref n ∈ vs' → n ∈ o') (e : listM o vs ++ r = listM o' vs' ++ r') : vs' = vs.map (reV (gOf o o')) ∧ r = r' := by
  unfold listM at e
  rw [List.cons_append, List.cons_append] at e
  obtain ⟨e1, e2⟩ := List.cons.inj e
  have hl : vs.length = vs'.length := by
    have := numS_inj e1
    omega
  obtain ⟨e3, e4⟩ := List.append_inj e2 (by rw [List.length_map, List.length_map, hl])
  exact ⟨words_inj h e3, e4⟩
theorem frames_inj : ∀ {fs fs' : List Frm} {r r' : List Str}, (∀ f ∈ fs', ∀ n, Val.ref n ∈ f.own ++ f.stack → n ∈ o') → fs.length = fs'.length → (fs.flatMap fun f => frameM o f) ++ r = (fs'.flatMap fun f => frameM o' f) ++ r' → fs' = fs.map (reF (gOf o o')) ∧ r = r'
  | [], [], r, r', _, _, e => ⟨rfl, e⟩
  | [], _ :: _, _, _, _, h, _ => by simp at h
  | _ :: _, [], _, _, _, h, _ => by simp at h
  | f :: fs, f' :: fs', r, r', h, hl, e => by
    rw [List.flatMap_cons, List.flatMap_cons] at e
    unfold frameM at e
    simp only [List.append_assoc, List.cons_append, List.nil_append] at e
    obtain ⟨e1, e⟩ := List.cons.inj e
    obtain ⟨e2, e⟩ := List.cons.inj e
    obtain ⟨e3, e⟩ := list_inj (fun n hn => h f' (by simp) n (by simp [hn])) e
    obtain ⟨e4, e⟩ := list_inj (fun n hn => h f' (by simp) n (by simp [hn])) e
    obtain ⟨e5, e6⟩ := frames_inj (fs := fs) (fs' := fs') (fun x hx => h x (List.mem_cons_of_mem _ hx)) (by simpa using hl) (by unfold frameM; simpa [List.append_assoc] using e)
    refine ⟨?_, e6⟩
    rw [List.map_cons, e5]
    congr 1
    cases f'
    cases f
    simp only [reF] at *
    rw [numS_inj e1, numS_inj e2, e3, e4]
theorem thing_inj {t t' : Thing} {r r' : List Str} (h : ∀ n, Val.ref n ∈ innerM t' → n ∈ o') (e : thingM o t ++ r = thingM o' t' ++ r') : t' = reT (gOf o o') t ∧ r = r' := by
  cases t with
  | box v =>
    cases t' with
    | box v' =>
      have e : w_box :: wordM o v :: r = w_box :: wordM o' v' :: r' := e
      obtain ⟨_, e⟩ := List.cons.inj e
      obtain ⟨e1, e2⟩ := List.cons.inj e
      refine ⟨?_, e2⟩
      show _ = Thing.box _
      rw [word_inj (fun n q => h n (by rw [q]; simp [innerM])) e1]
    | fn b vs =>
      have e : w_box :: wordM o v :: r = w_fun :: numS b :: (listM o' vs ++ r') := e
      exact absurd (List.cons.inj e).1 (by simp)
  | fn b vs =>
    cases t' with
    | box v' =>
      have e : w_fun :: numS b :: (listM o vs ++ r) = w_box :: wordM o' v' :: r' := e
      exact absurd (List.cons.inj e).1 (by simp)
    | fn b' vs' =>
      have e : w_fun :: numS b :: (listM o vs ++ r) = w_fun :: numS b' :: (listM o' vs' ++ r') := e
      obtain ⟨_, e⟩ := List.cons.inj e
      obtain ⟨e1, e⟩ := List.cons.inj e
      obtain ⟨e2, e3⟩ := list_inj h e
      refine ⟨?_, e3⟩
      show _ = Thing.fn b _
      rw [numS_inj e1, show vs' = _ from e2]
def thAt (ts : List (Int × Thing)) (n : Int) : Thing := (lookT ts n).getD (.box (.num 0))
theorem things_inj {ts ts' : List (Int × Thing)} : ∀ {ns ns' : List Int}, (∀ n ∈ ns, ∃ t, lookT ts n = some t) → (∀ n ∈ ns', ∃ t, lookT ts' n = some t ∧ ∀ m, Val.ref m ∈ innerM t → m ∈ o') →
    (ns.flatMap fun n => thingAt o ts n) = (ns'.flatMap fun n => thingAt o' ts' n) → ns'.map (thAt ts') = ns.map fun n => reT (gOf o o') (thAt ts n)
  | [], [], _, _, _ => rfl
  | [], n' :: ns', _, h', e => by
    obtain ⟨t', h1, _⟩ := h' n' (by simp)
    rw [List.flatMap_nil, List.flatMap_cons] at e
    unfold thingAt at e
    rw [h1] at e
    cases t' <;> simp [thingM] at e
  | n :: ns, [], h, _, e => by
    obtain ⟨t, h1⟩ := h n (by simp)
    rw [List.flatMap_nil, List.flatMap_cons] at e
    unfold thingAt at e
    rw [h1] at e
    cases t <;> simp [thingM] at e
  | n :: ns, n' :: ns', h, h', e => by
    obtain ⟨t, h1⟩ := h n (by simp)
    obtain ⟨t', h2, h3⟩ := h' n' (by simp)
    rw [List.flatMap_cons, List.flatMap_cons] at e
    have a1 : thingAt o ts n = thingM o t := by unfold thingAt; rw [h1]
    have a2 : thingAt o' ts' n' = thingM o' t' := by unfold thingAt; rw [h2]
    rw [a1, a2] at e
    obtain ⟨e1, e2⟩ := thing_inj h3 e
    rw [List.map_cons, List.map_cons, things_inj (fun x hx => h x (List.mem_cons_of_mem _ hx)) (fun x hx => h' x (List.mem_cons_of_mem _ hx)) e2]
    congr 1
    unfold thAt
    rw [h1, h2]
    exact e1
end
/-- what the program's matching asks of two states -/
structure fitted (s s' : Sta) : Prop where
  en : s'.en = reE (gOf (metM s) (metM s')) s.en
  fs : s'.fs = s.fs.map (reF (gOf (metM s) (metM s')))
  th : (metM s').map (thAt s'.ts) = (metM s).map fun n => reT (gOf (metM s) (metM s')) (thAt s.ts n)
theorem told_inj {s s' : Sta} (h : tells s) (h' : tells s') (e : toldM s = toldM s') : fitted s s' := by
  have al : ∀ v, v ∈ valuesM s' → ∀ n, v = .ref n → n ∈ metM s' := fun v hv n q => by
    subst q
    unfold valuesM at hv
    rcases List.mem_append.mp hv with hv | hv
    · unfold endVals at hv
      split at hv
      · rename_i u he
        rw [List.mem_singleton] at hv
        have := h'.e u he
        rw [← hv] at this
        exact this
      · cases hv
    · obtain ⟨f, hf, hv⟩ := List.mem_flatMap.mp hv
      have tf := h'.f f hf
      rcases List.mem_append.mp hv with hv | hv
      · exact tf.ov _ hv
      · exact tf.sv _ hv
  unfold toldM at e
  simp only [List.append_assoc] at e
  have key : s'.en = reE (gOf (metM s) (metM s')) s.en ∧ [numS (s.fs.length : Nat)] ++ ((s.fs.flatMap fun f => frameM (metM s) f) ++ (metM s).flatMap fun n => thingAt (metM s) s.ts n) = [numS (s'.fs.length : Nat)] ++ ((s'.fs.flatMap fun f => frameM (metM s') f) ++ (metM s').flatMap fun n => thingAt (metM s') s'.ts n) := by
    revert e
    cases h1 : s.en with
    | run =>
      cases h2 : s'.en with
      | run => exact fun e => ⟨rfl, (List.cons.inj e).2⟩
      | done v => exact fun e => absurd (List.cons.inj e).1 (by simp)
      | stuck w => exact fun e => absurd (List.cons.inj e).1 (by simp)
    | done v =>
      cases h2 : s'.en with
      | run => exact fun e => absurd (List.cons.inj e).1 (by simp)
      | done v' =>
        intro e
        obtain ⟨_, e⟩ := List.cons.inj e
        obtain ⟨e1, e2⟩ := List.cons.inj e
        refine ⟨?_, e2⟩
        show _ = End.done _
        rw [word_inj (fun n q => al v' (by unfold valuesM; rw [h2]; simp [endVals]) n q) e1]
      | stuck w => exact fun e => absurd (List.cons.inj e).1 (by simp)
    | stuck w =>
      cases h2 : s'.en with
      | run => exact fun e => absurd (List.cons.inj e).1 (by simp)
      | done v => exact fun e => absurd (List.cons.inj e).1 (by simp)
      | stuck w' =>
        intro e
        obtain ⟨_, e⟩ := List.cons.inj e
        obtain ⟨e1, e2⟩ := List.cons.inj e
        exact ⟨by rw [e1]; rfl, e2⟩
  obtain ⟨k1, k2⟩ := key
  obtain ⟨k3, k4⟩ := List.cons.inj k2
  have hl : s.fs.length = s'.fs.length := by
    have := numS_inj k3
    omega
  obtain ⟨k5, k6⟩ := frames_inj (fun f hf n hn => al _ (List.mem_append_right _ (List.mem_flatMap.mpr ⟨f, hf, hn⟩)) n rfl) hl k4
  exact ⟨k1, k5, things_inj (fun n hn => (h.t n hn).imp fun t q => q.1) (fun n hn => by
    obtain ⟨t, q1, q2, _⟩ := h'.t n hn
    exact ⟨t, q1, fun m hm => q2 _ hm⟩) k6⟩
theorem map_gOf {o o' : List Int} (nd : o.Nodup) (hl : o.length = o'.length) : o.map (gOf o o') = o' := by
  refine List.ext_getElem (by simp [hl]) fun i h1 h2 => ?_
  rw [List.getElem_map]
  have h3 : i < o.length := by simpa using h1
  unfold gOf
  rw [List.Nodup.idxOf_getElem nd i h3, List.getD_eq_getElem?_getD, List.getElem?_eq_getElem h2]
  rfl
theorem gOf_inj {o o' : List Int} (nd : o.Nodup) (nd' : o'.Nodup) (hl : o.length = o'.length) : ∀ a ∈ o, ∀ b ∈ o, gOf o o' a = gOf o o' b → a = b := by
  have h : (o.map (gOf o o')).Nodup := by rw [map_gOf nd hl]; exact nd'
  exact fun a ha b hb e => by
    have := List.pairwise_map.mp h
    obtain ⟨i, hi, rfl⟩ := List.mem_iff_getElem.mp ha
    obtain ⟨j, hj, rfl⟩ := List.mem_iff_getElem.mp hb
    rcases Nat.lt_trichotomy i j with q | q | q
    · exact absurd e (List.pairwise_iff_getElem.mp this i j hi hj q)
    · subst q; rfl
    · exact absurd e.symm (List.pairwise_iff_getElem.mp this j i hj hi q)
theorem fitted_told {s s' : Sta} (h : tells s) (h' : tells s') (al : allMet s) (f : fitted s s') : toldM s' = toldM s ∧ alike (gOf (metM s) (metM s')) s s' := by
  have hl : (metM s).length = (metM s').length := by
    have := congrArg List.length f.th
    simpa using this.symm
  have a : alike (gOf (metM s) (metM s')) s s' := ⟨f.en, f.fs, gOf_inj h.nd h'.nd hl, fun n hn => by
    obtain ⟨i, hi, rfl⟩ := List.mem_iff_getElem.mp hn
    obtain ⟨t, h1, _⟩ := h.t _ hn
    refine ⟨t, h1, ?_⟩
    have hi' : i < (metM s').length := by omega
    have e1 : gOf (metM s) (metM s') (metM s)[i] = (metM s')[i] := by
      have := congrArg (fun l => l[i]?) (map_gOf h.nd hl)
      simp only [List.getElem?_map, List.getElem?_eq_getElem hi, List.getElem?_eq_getElem hi', Option.map_some] at this
      exact Option.some.inj this
    have e2 : thAt s'.ts (metM s')[i] = reT (gOf (metM s) (metM s')) (thAt s.ts (metM s)[i]) := by
      have := congrArg (fun l => l[i]?) f.th
      simp only [List.getElem?_map, List.getElem?_eq_getElem hi, List.getElem?_eq_getElem hi', Option.map_some] at this
      exact Option.some.inj this
    obtain ⟨t', h2, _⟩ := h'.t _ (List.getElem_mem hi')
    rw [e1, h2]
    unfold thAt at e2
    rw [h1, h2] at e2
    exact congrArg some e2⟩
  exact ⟨told_re a (map_gOf h.nd hl).symm al, a⟩
end Dn

namespace Dn
open PySem L2 TL NumText
/-! ### what is told is text; all that is told of is met -/
def okWP (ws : List Str) : Prop := ∀ w ∈ ws, PyData.strOk w = true
theorem strOk_numP (i : Int) : PyData.strOk (numS i) = true := by
  have key : ∀ c ∈ sgn (numS i), c < 0x110000 := fun c hc => by
    by_cases h : 0 ≤ i
    · obtain ⟨n, rfl⟩ : ∃ n : Nat, i = n := ⟨i.toNat, by omega⟩
      rw [sgn_nat] at hc
      have := numL_digits n c hc
      omega
    · obtain ⟨n, hn, rfl⟩ : ∃ n : Nat, 0 < n ∧ i = -(n : Int) := ⟨(-i).toNat, by omega, by omega⟩
      obtain ⟨m, rfl⟩ : ∃ m, n = m + 1 := ⟨n - 1, by omega⟩
      rw [sgn_neg] at hc
      rcases List.mem_cons.mp hc with rfl | hc
      · omega
      · have := numL_digits (m + 1) c hc
        omega
  unfold PyData.strOk
  rw [← Array.all_toList, List.all_eq_true]
  exact fun c hc => decide_eq_true (key c hc)
theorem strOk_appP {a b : Str} (h1 : PyData.strOk a = true) (h2 : PyData.strOk b = true) : PyData.strOk (a ++ b) = true := by
  unfold PyData.strOk at *
  rw [← Array.all_toList, List.all_eq_true] at *
  intro c hc
  have hc' : c ∈ sgn (a ++ b) := hc
  rw [sgn_app] at hc'
  rcases List.mem_append.mp hc' with h | h
  · exact h1 c h
  · exact h2 c h
theorem okW_wordP (o : List Int) (v : Val) : PyData.strOk (wordM o v) = true := by
  cases v with
  | num i => exact strOk_numP i
  | ref n => exact strOk_appP (by decide +kernel) (strOk_numP _)
theorem okW_listP (o : List Int) (vs : List Val) : okWP (listM o vs) := fun w hw => by
  rcases List.mem_cons.mp hw with rfl | hw
  · exact strOk_numP _
  · obtain ⟨v, _, rfl⟩ := List.mem_map.mp hw
    exact okW_wordP o v
theorem okW_toldP {s : Sta} (hs : ∀ w, s.en = .stuck w → w ∈ stuckW) : okWP (toldM s) := fun w hw => by
  have sw : ∀ w ∈ stuckW, PyData.strOk w = true := fun w h => by
    simp only [stuckW, List.mem_cons, List.not_mem_nil, or_false] at h
    rcases h with rfl | rfl | rfl | rfl | rfl | rfl | rfl <;> decide +kernel
  unfold toldM at hw
  rcases List.mem_append.mp hw with hw | hw
  · rcases List.mem_append.mp hw with hw | hw
    · rcases List.mem_append.mp hw with hw | hw
      · unfold endM at hw
        split at hw
        · rw [List.mem_singleton.mp hw]; decide +kernel
        · rcases List.mem_cons.mp hw with rfl | hw
          · decide +kernel
          · rw [List.mem_singleton.mp hw]; exact okW_wordP _ _
        · rename_i u he
          rcases List.mem_cons.mp hw with rfl | hw
          · decide +kernel
          · rw [List.mem_singleton.mp hw]; exact sw u (hs u he)
      · rw [List.mem_singleton.mp hw]; exact strOk_numP _
    · obtain ⟨f, hf, hw⟩ := List.mem_flatMap.mp hw
      unfold frameM at hw
      rcases List.mem_append.mp hw with hw | hw
      · rcases List.mem_append.mp hw with hw | hw
        · rcases List.mem_cons.mp hw with rfl | hw
          · exact strOk_numP _
          · rw [List.mem_singleton.mp hw]; exact strOk_numP _
        · exact okW_listP _ _ w hw
      · exact okW_listP _ _ w hw
  · obtain ⟨n, hn, hw⟩ := List.mem_flatMap.mp hw
    unfold thingAt at hw
    split at hw
    · rename_i t ht
      cases t with
      | box v =>
        rcases List.mem_cons.mp hw with rfl | hw
        · decide +kernel
        · rw [List.mem_singleton.mp hw]; exact okW_wordP _ _
      | fn b vs =>
        rcases List.mem_append.mp hw with hw | hw
        · rcases List.mem_cons.mp hw with rfl | hw
          · decide +kernel
          · rw [List.mem_singleton.mp hw]; exact strOk_numP _
        · exact okW_listP _ _ w hw
    · cases hw
section
variable {k : Nat} {p : Prog} {s : Sta} (o : okA k p s)
include o
theorem allMetP : allMet s := ⟨fun n h => (met_all o).1 n (mem_refs.mpr h), fun n hn m hm => (met_all o).2 n hn m (mem_refs.mpr hm)⟩
end
theorem pl_wordsP {ws : List Str} (h : okWP ws) : pl 1 (encW ws) = true := pls_of fun x hx => by
  obtain ⟨w, hw, rfl⟩ := List.mem_map.mp hx
  exact h w hw
theorem stuckP {w : Str} (h : w ∈ stuckW) : PyData.strOk w = true := by
  simp only [stuckW, List.mem_cons, List.not_mem_nil, or_false] at h
  rcases h with rfl | rfl | rfl | rfl | rfl | rfl | rfl <;> decide +kernel
theorem encStr_inj : ∀ {a b : List Str}, a.map D.str = b.map D.str → a = b
  | [], [], _ => rfl
  | [], _ :: _, h => by simp at h
  | _ :: _, [], h => by simp at h
  | x :: a, y :: b, h => by
    rw [List.map_cons, List.map_cons] at h
    rw [D.str.inj (List.cons.inj h).1, encStr_inj (List.cons.inj h).2]
end Dn

namespace Dn
open PySem L2
/-! ### the law's own state by other numbers -/
@[simp] theorem m_setT4' (i j k l : Nat) (a b c d : D) (ρ : Env) : setT [i, j, k, l] (.tup [a, b, c, d]) ρ = .ok ((((ρ.set i (some a)).set j (some b)).set k (some c)).set l (some d)) := Eq.trans rfl rfl
def encNm (nm : List (Int × Int)) : D := .dic (nm.map fun q => (Sum.inl q.1, .int q.2))
section
variable {nm : List (Int × Int)} {g : Int → Int} (hg : ∀ q ∈ nm, g q.1 = q.2)
include hg
theorem nm_at {n : Int} (h : n ∈ nm.map (·.1)) : ixD (encNm nm) (.int n) = .ok (.int (g n)) := by
  show (match valK (nm.map fun q => ((Sum.inl q.1 : L2.Key), D.int q.2)) (.inl n) with
    | some d => R.ok d
    | none => .no) = _
  have e : valK (nm.map fun q => ((Sum.inl q.1 : L2.Key), D.int q.2)) (.inl n) = some (.int (g n)) := by
    induction nm with
    | nil => cases h
    | cons q nm ih =>
      unfold valK at ih ⊢
      rw [List.map_cons, List.find?_cons]
      by_cases e : q.1 = n
      · rw [decide_eq_true (by rw [e] : (Sum.inl q.1 : L2.Key) = Sum.inl n)]
        show some (D.int q.2) = _
        rw [← hg q (by simp), e]
      · rw [decide_eq_false (fun z : (Sum.inl q.1 : L2.Key) = Sum.inl n => e (by injection z))]
        refine ih (fun x hx => hg x (by simp [hx])) ?_
        rw [List.map_cons] at h
        rcases List.mem_cons.mp h with h | h
        · exact absurd h.symm e
        · exact h
  rw [e]
theorem changed_ok {v : Val} (h : ∀ n, v = .ref n → n ∈ nm.map (·.1)) : F__law_changed [encV v, encNm nm] = .ok (encV (reV g v)) := by
  cases v with
  | num i =>
    generalize encNm nm = N at *
    simp [F__law_changed, B__law_changed, reV]
  | ref n =>
    have e := nm_at hg (h n rfl)
    generalize encNm nm = N at *
    simp [F__law_changed, B__law_changed, reV, e]
def chgE : Env → R D := eCall (F__law_changed) (aCons (eVar 11) (aCons (eVar 1) aNil))
theorem chg_list {fi : Env → R (List D)} {ρ : Env} {vs : List Val} (h : fi ρ = .ok (vs.map encV)) (hl : ρ.length = 12) (h1 : ρ[1]? = some (some (encNm nm))) (hv : ∀ n, Val.ref n ∈ vs → n ∈ nm.map (·.1)) (hn : vs.length ≤ 1000) :
    eLc fi [11] (setN 11) cYes chgE ρ = .ok (.lst ((vs.map (reV g)).map encV)) := by
  have q := eLc_map (fi := fi) (vs := [11]) (i := 11) (fe := chgE) (ρ := ρ) (xs := vs.map encV) (g := fun x => match F__law_changed [x, encNm nm] with
      | .ok d => d
      | _ => .non) h (by rw [List.length_map]; omega) fun x hx => by
      obtain ⟨v, hvm, rfl⟩ := List.mem_map.mp hx
      have e := changed_ok hg (v := v) fun n e => hv n (by rw [← e]; exact hvm)
      simp only [e]
      have a1 : (((wipeE ρ [11]).set 11 (some (encV v))) : Env)[11]? = some (some (encV v)) := List.getElem?_set_self (by simp [wipeE, hl])
      have a2 : (((wipeE ρ [11]).set 11 (some (encV v))) : Env)[1]? = some (some (encNm nm)) := by
        rw [List.getElem?_set_ne (by decide)]
        show ((wipeE ρ []).set 11 none)[1]? = _
        rw [List.getElem?_set_ne (by decide)]
        exact h1
      simp [chgE, a1, a2, e]
  rw [q]
  congr 2
  rw [List.map_map, List.map_map]
  refine List.map_congr_left fun v hvm => ?_
  show (match F__law_changed [encV v, encNm nm] with
    | .ok d => d
    | _ => .non) = _
  rw [changed_ok hg (v := v) fun n e => hv n (by rw [← e]; exact hvm)]
  rfl
def bnB1 : Env → R Fl := (sSeq (sAsg 6 [] (eCall tupleD (aCons (eLc (iWalk (eVar 6)) [11] (setN 11) cYes (eCall (F__law_changed) (aCons (eVar 11) (aCons (eVar 1) aNil)))) aNil))) (sApp 3 (eTup (aCons (eVar 4) (aCons (eVar 5) (aCons (eVar 6) (aCons (eCall tupleD (aCons (eLc (iWalk (eVar 7)) [11] (setN 11) cYes (eCall (F__law_changed) (aCons (eVar 11) (aCons (eVar 1) aNil)))) aNil)) aNil)))))))
theorem bn_loop1 {fs : List Frm} (hf : ∀ f ∈ fs, f.own.length ≤ 60 ∧ f.stack.length ≤ 60 ∧ (∀ n, Val.ref n ∈ f.own → n ∈ nm.map (·.1)) ∧ ∀ n, Val.ref n ∈ f.stack → n ∈ nm.map (·.1)) (hl : fs.length ≤ 60) {a e x1 x2 x3 x4 y8 y9 y10 y11 : Option D} :
    ∃ z1 z2 z3 z4, forD (setT [4, 5, 6, 7]) bnB1 (fs.map encF) [a, some (encNm nm), e, some (.lst []), x1, x2, x3, x4, y8, y9, y10, y11] = .ok (.nx [a, some (encNm nm), e, some (.lst ((fs.map (reF g)).map encF)), z1, z2, z3, z4, y8, y9, y10, y11]) := by
  obtain ⟨ρ', h1, h2⟩ := forD_foldP (enc := encF) (set := setT [4, 5, 6, 7]) (body := bnB1) (fun (fs' : List Frm) (bb : List Frm) ρ => bb.length + fs'.length ≤ 60 ∧ (∀ f ∈ fs', f.own.length ≤ 60 ∧ f.stack.length ≤ 60 ∧ (∀ n, Val.ref n ∈ f.own → n ∈ nm.map (·.1)) ∧ ∀ n, Val.ref n ∈ f.stack → n ∈ nm.map (·.1)) ∧ ∃ z1 z2 z3 z4, ρ = [a, some (encNm nm), e, some (.lst (bb.map encF)), z1, z2, z3, z4, y8, y9, y10, y11]) (fun bb f => bb ++ [reF g f]) (xs := fs) (b := []) (ρ := [a, some (encNm nm), e, some (.lst []), x1, x2, x3, x4, y8, y9, y10, y11]) ⟨by simpa using hl, hf, x1, x2, x3, x4, rfl⟩
    fun f fs' bb ρ ⟨i1, i2, z1, z2, z3, z4, ee⟩ => by
      subst ee
      obtain ⟨ol, sl, ov, sv⟩ := i2 f (by simp)
      rw [List.length_cons] at i1
      have c1 := chg_list hg (fi := iWalk (eVar 6)) (ρ := [a, some (encNm nm), e, some (.lst (bb.map encF)), some (.int f.body), some (.int f.place), some (.tup (f.own.map encV)), some (.tup (f.stack.map encV)), y8, y9, y10, y11]) (vs := f.own) (by simp) rfl rfl ov (by omega)
      have c2 := chg_list hg (fi := iWalk (eVar 7)) (ρ := [a, some (encNm nm), e, some (.lst (bb.map encF)), some (.int f.body), some (.int f.place), some (.tup ((f.own.map (reV g)).map encV)), some (.tup (f.stack.map encV)), y8, y9, y10, y11]) (vs := f.stack) (by simp) rfl rfl sv (by omega)
      unfold chgE at c1 c2
      have lt : (bb.map encF).length < most := by rw [List.length_map]; unfold most; omega
      have ap : ∀ (ρ : Env) (y : D), appK ρ 3 (.ok y) (some (some (.lst (bb.map encF)))) = .ok (.nx (ρ.set 3 (some (.lst (bb.map encF ++ [y]))))) := fun ρ y => m_appK ρ 3 _ _ lt
      refine ⟨[a, some (encNm nm), e, some (.lst (bb.map encF)), some (.int f.body), some (.int f.place), some (.tup (f.own.map encV)), some (.tup (f.stack.map encV)), y8, y9, y10, y11], [a, some (encNm nm), e, some (.lst ((bb ++ [reF g f]).map encF)), some (.int f.body), some (.int f.place), some (.tup ((f.own.map (reV g)).map encV)), some (.tup (f.stack.map encV)), y8, y9, y10, y11], by rw [enc_frm, m_setT4']; rfl, ?_, by simp; omega, fun u hu => i2 u (by simp [hu]), _, _, _, _, rfl⟩
      have er : encF (reF g f) = .tup [.int f.body, .int f.place, .tup ((f.own.map (reV g)).map encV), .tup ((f.stack.map (reV g)).map encV)] := rfl
      simp only [List.map_append (f := encF), List.map_cons (f := encF), List.map_nil (f := encF), er]
      generalize (f.own.map (reV g)).map encV = O1 at *
      generalize (f.stack.map (reV g)).map encV = O2 at *
      generalize f.own.map encV = O at *
      generalize f.stack.map encV = S at *
      generalize bb.map encF = BB at *
      generalize encNm nm = N at *
      simp [bnB1, c1, c2, ap]
  obtain ⟨_, _, z1, z2, z3, z4, rfl⟩ := h2
  refine ⟨z1, z2, z3, z4, ?_⟩
  have e : ∀ (fs bb : List Frm), fs.foldl (fun bb f => bb ++ [reF g f]) bb = bb ++ fs.map (reF g) := fun fs => by
    induction fs with
    | nil => intro b; simp
    | cons f fs ih => intro b; rw [List.foldl_cons, ih]; simp
  rw [h1, e]
  rfl
def bnB2 : Env → R Fl := (sSeq (sAsg 10 [] (eOp ixD (eOp ixD (eVar 0) (eC (.int 2))) (eVar 9))) (sIf (tB' (eOp eqD (eOp ixD (eVar 10) (eC (.int 0))) (eC (.str w_box)))) (sPut 8 (eOp ixD (eVar 1) (eVar 9)) (eTup (aCons (eC (.str w_box)) (aCons (eCall (F__law_changed) (aCons (eOp ixD (eVar 10) (eC (.int 1))) (aCons (eVar 1) aNil))) aNil)))) (sPut 8 (eOp ixD (eVar 1) (eVar 9)) (eTup (aCons (eC (.str w_fun)) (aCons (eOp ixD (eVar 10) (eC (.int 1))) (aCons (eCall tupleD (aCons (eLc (iWalk (eOp ixD (eVar 10) (eC (.int 2)))) [11] (setN 11) cYes (eCall (F__law_changed) (aCons (eVar 11) (aCons (eVar 1) aNil)))) aNil)) aNil)))))))
def thOf (ts : List (Int × Thing)) (n : Int) : Thing := (lookT ts n).getD (.box (.num 0))
theorem bn_loop2 {s : Sta} (hk : ∀ n ∈ nm.map (·.1), ∃ t, lookT s.ts n = some t ∧ (innerM t).length ≤ 8 ∧ ∀ m, Val.ref m ∈ innerM t → m ∈ nm.map (·.1)) {e f x4 x5 x6 x7 x9 x10 x11 : Option D} : ∀ (qs done : List (Int × Int)), nm = done ++ qs → (nm.map (·.2)).Nodup → nm.length ≤ 1000 → ∀ (x9 x10 : Option D),
    ∃ z9 z10, forD (setN 9) bnB2 (qs.map fun q => D.int q.1) [some (encS s), some (encNm nm), e, f, x4, x5, x6, x7, some (encTs (done.map fun q => (q.2, reT g (thOf s.ts q.1)))), x9, x10, x11] = .ok (.nx [some (encS s), some (encNm nm), e, f, x4, x5, x6, x7, some (encTs (nm.map fun q => (q.2, reT g (thOf s.ts q.1)))), z9, z10, x11])
  | [], done, hd, nd, hl, x9, x10 => ⟨x9, x10, by rw [hd]; simp [forD]⟩
  | q :: qs, done, hd, nd, hl, x9, x10 => by
    have qm : q ∈ nm := by rw [hd]; simp
    have q1 : q.1 ∈ nm.map (·.1) := List.mem_map.mpr ⟨q, qm, rfl⟩
    obtain ⟨t, t1, t2, t3⟩ := hk q.1 q1
    have na := nm_at hg q1
    rw [hg q qm] at na
    have to : thOf s.ts q.1 = t := by unfold thOf; rw [t1]; rfl
    have new : q.2 ∉ (done.map fun q => (q.2, reT g (thOf s.ts q.1))).map (·.1) := by
      rw [List.map_map]
      intro z
      obtain ⟨y, hy, e⟩ := List.mem_map.mp z
      have e' : y.2 = q.2 := e
      rw [hd, List.map_append, List.nodup_append] at nd
      exact nd.2.2 y.2 (List.mem_map.mpr ⟨y, hy, rfl⟩) q.2 (by simp) e'
    have dl : done.length ≤ 1000 := by rw [hd, List.length_append] at hl; omega
    have st := store_int (es := (done.map fun q => (q.2, reT g (thOf s.ts q.1))).map fun t => ((Sum.inl t.1 : L2.Key), encT t.2)) (k := q.2) (y := encT (reT g t)) (by
      rw [List.length_map, List.length_map]; unfold most; omega)
    rw [put_new new] at st
    have st' : storeD (encTs (done.map fun q => (q.2, reT g (thOf s.ts q.1)))) (.int q.2) (encT (reT g t)) = .ok (encTs (done.map (fun q => (q.2, reT g (thOf s.ts q.1))) ++ [(q.2, reT g t)])) := st
    have ix := ix_look t1
    have i2 : ixD (encS s) (.int 2) = .ok (encTs s.ts) := by simp [encS]
    obtain ⟨z9, z10, ih⟩ := bn_loop2 (e := e) (f := f) (x4 := x4) (x5 := x5) (x6 := x6) (x7 := x7) (x9 := x9) (x10 := x10) (x11 := x11) hk qs (done ++ [q]) (by rw [hd]; simp) nd hl (some (.int q.1)) (some (encT t))
    refine ⟨z9, z10, ?_⟩
    rw [← ih, List.map_cons]
    have ed : (done ++ [q]).map (fun q => (q.2, reT g (thOf s.ts q.1))) = done.map (fun q => (q.2, reT g (thOf s.ts q.1))) ++ [(q.2, reT g t)] := by
      rw [List.map_append, List.map_cons, List.map_nil, to]
    rw [ed]
    show (setN 9 (.int q.1) _ >>= fun ρ1 => bnB2 ρ1 >>= fun fl => _) = _
    rw [m_setN, ok_bind]
    cases t with
    | box v =>
      have ch := changed_ok hg (v := v) fun n e => t3 n (by rw [e]; simp [innerM])
      have er : encT (reT g (.box v)) = .tup [.str w_box, encV (reV g v)] := rfl
      rw [er] at st'
      generalize encTs (done.map (fun q => (q.2, reT g (thOf s.ts q.1))) ++ [(q.2, reT g (.box v))]) = T2 at *
      generalize encTs (done.map fun q => (q.2, reT g (thOf s.ts q.1))) = T1 at *
      simp only [encT] at ix ⊢
      generalize encV (reV g v) = u' at *
      generalize encV v = u at *
      generalize encTs s.ts = TS at *
      generalize encS s = SS at *
      generalize encNm nm = N at *
      simp [bnB2, i2, ix, na, ch, st']
    | fn b vs =>
      have vl : vs.length ≤ 8 := t2
      have c1 := chg_list hg (fi := iWalk (eOp ixD (eVar 10) (eC (.int 2)))) (ρ := [some (encS s), some (encNm nm), e, f, x4, x5, x6, x7, some (encTs (done.map fun q => (q.2, reT g (thOf s.ts q.1)))), some (.int q.1), some (.tup [.str w_fun, .int b, .tup (vs.map encV)]), x11]) (vs := vs) (by simp) rfl rfl t3 (by omega)
      unfold chgE at c1
      have er : encT (reT g (.fn b vs)) = .tup [.str w_fun, .int b, .tup ((vs.map (reV g)).map encV)] := rfl
      rw [er] at st'
      generalize encTs (done.map (fun q => (q.2, reT g (thOf s.ts q.1))) ++ [(q.2, reT g (.fn b vs))]) = T2 at *
      generalize encTs (done.map fun q => (q.2, reT g (thOf s.ts q.1))) = T1 at *
      simp only [encT] at ix ⊢
      generalize (vs.map (reV g)).map encV = u' at *
      generalize vs.map encV = u at *
      generalize encTs s.ts = TS at *
      generalize encS s = SS at *
      generalize encNm nm = N at *
      simp [bnB2, i2, ix, na, c1, st']
theorem by_names_ok {s : Sta} (hl : s.fs.length ≤ 60) (hf : ∀ f ∈ s.fs, f.own.length ≤ 60 ∧ f.stack.length ≤ 60 ∧ (∀ n, Val.ref n ∈ f.own → n ∈ nm.map (·.1)) ∧ ∀ n, Val.ref n ∈ f.stack → n ∈ nm.map (·.1)) (he : ∀ n, s.en = .done (.ref n) → n ∈ nm.map (·.1))
    (hk : ∀ n ∈ nm.map (·.1), ∃ t, lookT s.ts n = some t ∧ (innerM t).length ≤ 8 ∧ ∀ m, Val.ref m ∈ innerM t → m ∈ nm.map (·.1)) (nd : (nm.map (·.2)).Nodup) (hn : nm.length ≤ 1000) :
    F__law_by_names [encS s, encNm nm] = .ok (encS ⟨reE g s.en, s.fs.map (reF g), nm.map fun q => (q.2, reT g (thOf s.ts q.1))⟩) := by
  have i0 : ixD (encS s) (.int 0) = .ok (encE s.en) := by simp [encS]
  have i1 : ixD (encS s) (.int 1) = .ok (.lst (s.fs.map encF)) := by simp [encS]
  have kk : listD [encNm nm] = .ok (.lst (nm.map fun q => D.int q.1)) := by
    show R.ok (D.lst ((nm.map fun q => ((Sum.inl q.1 : L2.Key), D.int q.2)).map fun kv => dKey kv.1)) = _
    rw [List.map_map]
    rfl
  have en : ∃ e1, (encE (reE g s.en)) = e1 ∧ (isNotD (encE s.en) .non >>= asB >>= fun b => if b = true then (ixD (encE s.en) (.int 0) >>= fun d => eqD d (.str w_done) >>= asB) else .ok false) = .ok (match s.en with | .done _ => true | _ => false) := by
    refine ⟨_, rfl, ?_⟩
    cases s.en with
    | run => simp [encE]
    | stuck w => simp [encE]
    | done v => simp [encE]
  have l1 := fun (e : Option D) => bn_loop1 hg hf hl (a := some (encS s)) (e := e) (x1 := none) (x2 := none) (x3 := none) (x4 := none) (y8 := none) (y9 := none) (y10 := none) (y11 := none)
  have l2 := fun (e f x4 x5 x6 x7 : Option D) => bn_loop2 hg hk (e := e) (f := f) (x4 := x4) (x5 := x5) (x6 := x6) (x7 := x7) (x9 := none) (x10 := none) (x11 := none) nm [] rfl nd hn none none
  unfold bnB1 at l1
  unfold bnB2 at l2
  have ee : encS ⟨reE g s.en, s.fs.map (reF g), nm.map fun q => (q.2, reT g (thOf s.ts q.1))⟩ = .tup [encE (reE g s.en), .lst ((s.fs.map (reF g)).map encF), encTs (nm.map fun q => (q.2, reT g (thOf s.ts q.1)))] := rfl
  rw [ee]
  have e0 : encTs (([] : List (Int × Int)).map fun q => (q.2, reT g (thOf s.ts q.1))) = .dic [] := rfl
  rw [e0] at l2
  cases hs : s.en with
  | run =>
    rw [hs] at i0
    simp only [reE, encE] at i0 ⊢
    obtain ⟨z1, z2, z3, z4, l1⟩ := l1 (some .non)
    obtain ⟨y1, y2, l2⟩ := l2 (some .non) (some (.lst ((s.fs.map (reF g)).map encF))) z1 z2 z3 z4
    generalize encTs (nm.map fun q => (q.2, reT g (thOf s.ts q.1))) = T2 at *
    generalize (s.fs.map (reF g)).map encF = FF2 at *
    generalize s.fs.map encF = FF at *
    generalize nm.map (fun q => D.int q.1) = NN at *
    generalize encNm nm = N at *
    generalize encS s = SS at *
    simp [F__law_by_names, B__law_by_names, i0, i1, l1, kk, l2]
  | stuck w =>
    rw [hs] at i0
    simp only [reE, encE] at i0 ⊢
    obtain ⟨z1, z2, z3, z4, l1⟩ := l1 (some (.tup [.str w_stuck, .str w]))
    obtain ⟨y1, y2, l2⟩ := l2 (some (.tup [.str w_stuck, .str w])) (some (.lst ((s.fs.map (reF g)).map encF))) z1 z2 z3 z4
    generalize encTs (nm.map fun q => (q.2, reT g (thOf s.ts q.1))) = T2 at *
    generalize (s.fs.map (reF g)).map encF = FF2 at *
    generalize s.fs.map encF = FF at *
    generalize nm.map (fun q => D.int q.1) = NN at *
    generalize encNm nm = N at *
    generalize encS s = SS at *
    simp [F__law_by_names, B__law_by_names, i0, i1, l1, kk, l2]
  | done v =>
    rw [hs] at i0
    have ch := changed_ok hg (v := v) fun n e => he n (by rw [hs, e])
    simp only [reE, encE] at i0 ⊢
    obtain ⟨z1, z2, z3, z4, l1⟩ := l1 (some (.tup [.str w_done, encV (reV g v)]))
    obtain ⟨y1, y2, l2⟩ := l2 (some (.tup [.str w_done, encV (reV g v)])) (some (.lst ((s.fs.map (reF g)).map encF))) z1 z2 z3 z4
    generalize encTs (nm.map fun q => (q.2, reT g (thOf s.ts q.1))) = T2 at *
    generalize (s.fs.map (reF g)).map encF = FF2 at *
    generalize s.fs.map encF = FF at *
    generalize nm.map (fun q => D.int q.1) = NN at *
    generalize encNm nm = N at *
    generalize encV (reV g v) = u' at *
    generalize encV v = u at *
    generalize encS s = SS at *
    simp [F__law_by_names, B__law_by_names, i0, i1, ch, l1, kk, l2]
end
end Dn

namespace Dn
open PySem L2
/-! ### == of data without bools tells whether they are the same -/
mutual
def nb : D → Bool
  | .bl _ => false
  | .scr _ => false
  | .dic _ => false
  | .tup xs => nbs xs
  | .lst xs => nbs xs
  | _ => true
def nbs : List D → Bool
  | [] => true
  | x :: xs => nb x && nbs xs
end
theorem nbs_of {xs : List D} (h : ∀ x ∈ xs, nb x = true) : nbs xs = true := by
  induction xs with
  | nil => rfl
  | cons x xs ih =>
    unfold nbs
    rw [h x (by simp), ih fun y hy => h y (List.mem_cons_of_mem _ hy)]
    rfl
mutual
theorem eqv_nb : ∀ (d e : D), nb d = true → nb e = true → PyData.eqv (toP d) (toP e) = true → d = e
  | .non, e, _, h2, h => by cases e <;> simp_all [toP, PyData.eqv, nb]
  | .int i, e, _, h2, h => by cases e <;> simp_all [toP, PyData.eqv, nb]
  | .str i, e, _, h2, h => by cases e <;> simp_all [toP, PyData.eqv, nb]
  | .bl b, e, h1, _, _ => by simp [nb] at h1
  | .scr b, e, h1, _, _ => by simp [nb] at h1
  | .dic b, e, h1, _, _ => by simp [nb] at h1
  | .tup xs, e, h1, h2, h => by
    cases e with
    | tup ys => rw [eqvs_nb xs ys h1 h2 h]
    | _ => first | (simp [nb] at h2; done) | simp [toP, PyData.eqv] at h
  | .lst xs, e, h1, h2, h => by
    cases e with
    | lst ys => rw [eqvs_nb xs ys h1 h2 h]
    | _ => first | (simp [nb] at h2; done) | simp [toP, PyData.eqv] at h
theorem eqvs_nb : ∀ (xs ys : List D), nbs xs = true → nbs ys = true → PyData.eqvAll (toPs xs) (toPs ys) = true → xs = ys
  | [], ys, _, _, h => by cases ys <;> simp_all [toPs, PyData.eqvAll]
  | x :: xs, [], _, _, h => by simp [toPs, PyData.eqvAll] at h
  | x :: xs, y :: ys, h1, h2, h => by
    unfold nbs at h1 h2
    rw [toPs, toPs, PyData.eqvAll] at h
    rw [Bool.and_eq_true] at h1 h2 h
    rw [eqv_nb x y h1.1 h2.1 h.1, eqvs_nb xs ys h1.2 h2.2 h.2]
end
theorem eqD_true {d e : D} (h1 : nb d = true) (h2 : nb e = true) (h : eqD d e = .ok (.bl true)) : d = e := by
  unfold eqD at h
  split at h
  · simp [nb] at h1
  · have h := of_decide_eq_true (D.bl.inj (R.ok.inj h)); rw [h]
  · have h := of_decide_eq_true (D.bl.inj (R.ok.inj h)); rw [h]
  · simp [nb] at h1
  · rfl
  · split at h
    · exact eqv_nb _ _ h1 h2 (D.bl.inj (R.ok.inj h))
    · cases h
open Classical in
theorem eq_exact {n : Nat} {d e : D} (p1 : pl n d = true) (p2 : pl n e = true) (hn : n ≤ 64) (h1 : nb d = true) (h2 : nb e = true) : eqD d e = .ok (.bl (decide (d = e))) := by
  obtain ⟨b, hb⟩ := eqD_pl p1 p2 hn
  cases b with
  | true => rw [hb, decide_eq_true (eqD_true h1 h2 hb)]
  | false =>
    by_cases q : d = e
    · subst q
      rw [eqD_self p1 hn] at hb
      cases hb
    · rw [hb, decide_eq_false q]
/-! ### the encodings -/
theorem encV_inj {v w : Val} (h : encV v = encV w) : v = w := by
  cases v <;> cases w <;> simp_all [encV]
theorem encVs_inj : ∀ {vs ws : List Val}, vs.map encV = ws.map encV → vs = ws
  | [], [], _ => rfl
  | [], _ :: _, h => by simp at h
  | _ :: _, [], h => by simp at h
  | v :: vs, w :: ws, h => by
    rw [List.map_cons, List.map_cons] at h
    rw [encV_inj (List.cons.inj h).1, encVs_inj (List.cons.inj h).2]
theorem encT_inj {t u : Thing} (h : encT t = encT u) : t = u := by
  cases t with
  | box v =>
    cases u with
    | box w =>
      have h := List.cons.inj (List.cons.inj (D.tup.inj h)).2
      rw [encV_inj h.1]
    | fn b vs =>
      have h := (List.cons.inj (D.tup.inj h)).1
      exact absurd (D.str.inj h) (by simp)
  | fn b vs =>
    cases u with
    | box w =>
      have h := (List.cons.inj (D.tup.inj h)).1
      exact absurd (D.str.inj h) (by simp)
    | fn c ws =>
      have h := List.cons.inj (List.cons.inj (D.tup.inj h)).2
      have h2 := (List.cons.inj h.2).1
      rw [D.int.inj h.1, encVs_inj (D.tup.inj h2)]
theorem encF_inj {f g : Frm} (h : encF f = encF g) : f = g := by
  have h := D.tup.inj h
  have h1 := List.cons.inj h
  have h2 := List.cons.inj h1.2
  have h3 := List.cons.inj h2.2
  have h4 := (List.cons.inj h3.2).1
  cases f
  cases g
  simp only at *
  rw [D.int.inj h1.1, D.int.inj h2.1, encVs_inj (D.tup.inj h3.1), encVs_inj (D.tup.inj h4)]
theorem encFs_inj : ∀ {vs ws : List Frm}, vs.map encF = ws.map encF → vs = ws
  | [], [], _ => rfl
  | [], _ :: _, h => by simp at h
  | _ :: _, [], h => by simp at h
  | v :: vs, w :: ws, h => by
    rw [List.map_cons, List.map_cons] at h
    rw [encF_inj (List.cons.inj h).1, encFs_inj (List.cons.inj h).2]
theorem encE_inj {e f : End} (h : encE e = encE f) : e = f := by
  cases e <;> cases f <;> first
    | rfl
    | (exact D.noConfusion h)
    | skip
  · have h := List.cons.inj (D.tup.inj h)
    rw [encV_inj (List.cons.inj h.2).1]
  · have h := (List.cons.inj (D.tup.inj h)).1
    exact absurd (D.str.inj h) (by simp)
  · have h := (List.cons.inj (D.tup.inj h)).1
    exact absurd (D.str.inj h) (by simp)
  · have h := List.cons.inj (D.tup.inj h)
    rw [D.str.inj (List.cons.inj h.2).1]
theorem nob_val (v : Val) : nb (encV v) = true := by cases v <;> rfl
theorem nb_vals (vs : List Val) : nb (.tup (vs.map encV)) = true := nbs_of fun x hx => by
  obtain ⟨v, _, rfl⟩ := List.mem_map.mp hx
  exact nob_val v
theorem nob_thing (t : Thing) : nb (encT t) = true := by
  cases t with
  | box v =>
    show (true && (nb (encV v) && true)) = true
    rw [nob_val]
    rfl
  | fn b vs =>
    show (true && (true && (nb (.tup (vs.map encV)) && true))) = true
    rw [nb_vals]
    rfl
theorem nb_frame (f : Frm) : nb (encF f) = true := by
  show (true && (true && (nb (.tup (f.own.map encV)) && (nb (.tup (f.stack.map encV)) && true)))) = true
  rw [nb_vals, nb_vals]
  rfl
theorem nb_frames (fs : List Frm) : nb (.lst (fs.map encF)) = true := nbs_of fun x hx => by
  obtain ⟨v, _, rfl⟩ := List.mem_map.mp hx
  exact nb_frame v
theorem nb_end (e : End) : nb (encE e) = true := by
  cases e with
  | run => rfl
  | done v =>
    show (true && (nb (encV v) && true)) = true
    rw [nob_val]
    rfl
  | stuck w => rfl
theorem plT (t : Thing) : pl 4 (encT t) = true := by
  cases t with
  | box v =>
    exact pls_of fun x hx => by
      rcases List.mem_cons.mp hx with rfl | hx
      · show PyData.strOk w_box = true; decide +kernel
      · rw [List.mem_singleton.mp hx]
        cases v with
        | num i => rfl
        | ref n => show (PyData.strOk w_at && (true && true)) = true; decide +kernel
  | fn b vs =>
    exact pls_of fun x hx => by
      rcases List.mem_cons.mp hx with rfl | hx
      · show PyData.strOk w_fun = true; decide +kernel
      rcases List.mem_cons.mp hx with rfl | hx
      · rfl
      · rw [List.mem_singleton.mp hx]; exact pl_vals vs
theorem plF (f : Frm) : pl 4 (encF f) = true := pls_of fun y hy => by
  rcases List.mem_cons.mp hy with rfl | hy
  · rfl
  rcases List.mem_cons.mp hy with rfl | hy
  · rfl
  rcases List.mem_cons.mp hy with rfl | hy
  · exact pl_vals f.own
  · rw [List.mem_singleton.mp hy]; exact pl_vals f.stack
theorem plFs (fs : List Frm) : pl 5 (.lst (fs.map encF)) = true := pls_of fun x hx => by
  obtain ⟨v, _, rfl⟩ := List.mem_map.mp hx
  exact plF v
def endOk (e : End) : Prop := ∀ w, e = .stuck w → PyData.strOk w = true
theorem plE {e : End} (h : endOk e) : pl 3 (encE e) = true := by
  cases e with
  | run => rfl
  | done v =>
    exact pls_of fun x hx => by
      rcases List.mem_cons.mp hx with rfl | hx
      · show PyData.strOk w_done = true; decide +kernel
      · rw [List.mem_singleton.mp hx]; exact pl_val v
  | stuck w =>
    exact pls_of fun x hx => by
      rcases List.mem_cons.mp hx with rfl | hx
      · show PyData.strOk w_stuck = true; decide +kernel
      · rw [List.mem_singleton.mp hx]; exact h w rfl
open Classical in
theorem eqT (t u : Thing) : eqD (encT t) (encT u) = .ok (.bl (decide (t = u))) := by
  rw [eq_exact (plT t) (plT u) (by decide) (nob_thing t) (nob_thing u)]
  congr 2
  exact decide_eq_decide.mpr ⟨encT_inj, fun h => by rw [h]⟩
open Classical in
theorem eqFs (t u : List Frm) : eqD (.lst (t.map encF)) (.lst (u.map encF)) = .ok (.bl (decide (t = u))) := by
  rw [eq_exact (plFs t) (plFs u) (by decide) (nb_frames t) (nb_frames u)]
  congr 2
  exact decide_eq_decide.mpr ⟨fun h => encFs_inj (D.lst.inj h), fun h => by rw [h]⟩
open Classical in
theorem eqE {t u : End} (h1 : endOk t) (h2 : endOk u) : eqD (encE t) (encE u) = .ok (.bl (decide (t = u))) := by
  rw [eq_exact (plE h1) (plE h2) (by decide) (nb_end t) (nb_end u)]
  congr 2
  exact decide_eq_decide.mpr ⟨encE_inj, fun h => by rw [h]⟩
theorem eqT_t {t u : Thing} (h : t = u) : eqD (encT t) (encT u) = .ok (.bl true) := by
  rw [eqT, @decide_eq_true _ (Classical.propDecidable _) h]
theorem eqT_f {t u : Thing} (h : ¬ t = u) : eqD (encT t) (encT u) = .ok (.bl false) := by
  rw [eqT, @decide_eq_false _ (Classical.propDecidable _) h]
theorem eqFs_t {t u : List Frm} (h : t = u) : eqD (.lst (t.map encF)) (.lst (u.map encF)) = .ok (.bl true) := by
  rw [eqFs]
  simp [h]
theorem eqFs_f {t u : List Frm} (h : ¬ t = u) : eqD (.lst (t.map encF)) (.lst (u.map encF)) = .ok (.bl false) := by
  rw [eqFs]
  simp [h]
theorem eqE_t {t u : End} (h1 : endOk t) (h2 : endOk u) (h : t = u) : eqD (encE t) (encE u) = .ok (.bl true) := by
  rw [eqE h1 h2, @decide_eq_true _ (Classical.propDecidable _) h]
theorem eqE_f {t u : End} (h1 : endOk t) (h2 : endOk u) (h : ¬ t = u) : eqD (encE t) (encE u) = .ok (.bl false) := by
  rw [eqE h1 h2, @decide_eq_false _ (Classical.propDecidable _) h]
end Dn

namespace Dn
open PySem L2
/-! ### the program's matching -/
theorem nm_store {nm : List (Int × Int)} {n m : Int} (h : n ∉ nm.map (·.1)) (hl : nm.length ≤ 1000000) : storeD (encNm nm) (.int n) (.int m) = .ok (encNm (nm ++ [(n, m)])) := by
  have hl' : (nm.map fun q => ((Sum.inl q.1 : L2.Key), D.int q.2)).length < most := by
    rw [List.length_map]
    unfold most
    omega
  show (if (nm.map fun q => ((Sum.inl q.1 : L2.Key), D.int q.2)).length < most then R.ok (D.dic (putD (nm.map fun q => ((Sum.inl q.1 : L2.Key), D.int q.2)) (.inl n) (.int m))) else .no) = _
  rw [if_pos hl']
  have e : (((nm.map fun q => ((Sum.inl q.1 : L2.Key), D.int q.2)).any fun kv => decide (kv.1 = Sum.inl n)) = true) = False := by
    simp only [List.any_map, eq_iff_iff, iff_false]
    intro q
    obtain ⟨x, hx, e⟩ := List.any_eq_true.mp q
    have e := of_decide_eq_true e
    injection e with e
    exact h (List.mem_map.mpr ⟨x, hx, e⟩)
  unfold putD
  rw [if_neg (by rw [e]; exact id)]
  unfold encNm
  rw [List.map_append]
  rfl
section
variable {nm : List (Int × Int)} {g : Int → Int} (hg : ∀ q ∈ nm, g q.1 = q.2)
include hg
theorem renamed_ok {v : Val} (h : ∀ n, v = .ref n → n ∈ nm.map (·.1)) : F_renamed [encV v, encNm nm] = .ok (encV (reV g v)) := by
  cases v with
  | num i =>
    generalize encNm nm = N at *
    simp [F_renamed, B_renamed, reV]
  | ref n =>
    have e := nm_at hg (h n rfl)
    generalize encNm nm = N at *
    simp [F_renamed, B_renamed, reV, e]
theorem renamed_all_ok {vs : List Val} (hv : ∀ n, Val.ref n ∈ vs → n ∈ nm.map (·.1)) (hn : vs.length ≤ 1000) : F_renamed_all [.tup (vs.map encV), encNm nm] = .ok (.tup ((vs.map (reV g)).map encV)) := by
  have q := eLc_map (fi := iWalk (eVar 0)) (vs := [2]) (i := 2) (fe := eCall (F_renamed) (aCons (eVar 2) (aCons (eVar 1) aNil))) (ρ := [some (.tup (vs.map encV)), some (encNm nm), none]) (xs := vs.map encV) (g := fun x => match F_renamed [x, encNm nm] with
      | .ok d => d
      | _ => .non) rfl (by rw [List.length_map]; omega) fun x hx => by
      obtain ⟨v, hvm, rfl⟩ := List.mem_map.mp hx
      have e := renamed_ok hg (v := v) fun n e => hv n (by rw [← e]; exact hvm)
      simp only [e]
      generalize encNm nm = N at *
      simp [wipeE, e]
  have e : (vs.map encV).map (fun x => match F_renamed [x, encNm nm] with
      | .ok d => d
      | _ => .non) = (vs.map (reV g)).map encV := by
    rw [List.map_map, List.map_map]
    refine List.map_congr_left fun v hvm => ?_
    have e := renamed_ok hg (v := v) fun n e => hv n (by rw [← e]; exact hvm)
    show (match F_renamed [encV v, encNm nm] with
      | .ok d => d
      | _ => .non) = _
    rw [e]
    rfl
  rw [e] at q
  generalize encNm nm = N at *
  generalize vs.map encV = V at *
  generalize (vs.map (reV g)).map encV = W at *
  simp [F_renamed_all, B_renamed_all, q]
theorem renamed_frame_ok {f : Frm} (h : ∀ n, Val.ref n ∈ f.own ++ f.stack → n ∈ nm.map (·.1)) (h1 : f.own.length ≤ 60) (h2 : f.stack.length ≤ 60) : F_renamed_frame [encF f, encNm nm] = .ok (encF (reF g f)) := by
  have a := renamed_all_ok hg (vs := f.own) (fun n hn => h n (by simp [hn])) (by omega)
  have b := renamed_all_ok hg (vs := f.stack) (fun n hn => h n (by simp [hn])) (by omega)
  show F_renamed_frame [.tup [.int f.body, .int f.place, .tup (f.own.map encV), .tup (f.stack.map encV)], encNm nm] = .ok (.tup [.int f.body, .int f.place, .tup ((f.own.map (reV g)).map encV), .tup ((f.stack.map (reV g)).map encV)])
  generalize encNm nm = N at *
  generalize f.own.map encV = V at *
  generalize (f.own.map (reV g)).map encV = W at *
  generalize f.stack.map encV = V' at *
  generalize (f.stack.map (reV g)).map encV = W' at *
  simp [F_renamed_frame, B_renamed_frame, a, b]
theorem renamed_thing_ok {t : Thing} (h : ∀ n, Val.ref n ∈ innerM t → n ∈ nm.map (·.1)) (h1 : (innerM t).length ≤ 8) : F_renamed_thing [encT t, encNm nm] = .ok (encT (reT g t)) := by
  cases t with
  | box v =>
    have a := renamed_ok hg (v := v) fun n q => h n (by rw [q]; simp [innerM])
    show F_renamed_thing [.tup [.str w_box, encV v], encNm nm] = .ok (.tup [.str w_box, encV (reV g v)])
    generalize encNm nm = N at *
    generalize encV v = V at *
    generalize encV (reV g v) = W at *
    simp [F_renamed_thing, B_renamed_thing, a]
  | fn b vs =>
    have a := renamed_all_ok hg (vs := vs) h (by have : vs.length ≤ 8 := h1; omega)
    show F_renamed_thing [.tup [.str w_fun, .int b, .tup (vs.map encV)], encNm nm] = .ok (.tup [.str w_fun, .int b, .tup ((vs.map (reV g)).map encV)])
    generalize encNm nm = N at *
    generalize vs.map encV = V at *
    generalize (vs.map (reV g)).map encV = W at *
    simp [F_renamed_thing, B_renamed_thing, a]
theorem renamed_end_ok {e : End} (h : ∀ n, e = .done (.ref n) → n ∈ nm.map (·.1)) : F_renamed_end [encE e, encNm nm] = .ok (encE (reE g e)) := by
  cases e with
  | run =>
    generalize encNm nm = N at *
    simp [F_renamed_end, B_renamed_end, encE, reE]
  | stuck w =>
    generalize encNm nm = N at *
    simp [F_renamed_end, B_renamed_end, encE, reE]
  | done v =>
    have a := renamed_ok hg (v := v) fun n q => h n (by rw [q])
    show F_renamed_end [.tup [.str w_done, encV v], encNm nm] = .ok (.tup [.str w_done, encV (reV g v)])
    generalize encNm nm = N at *
    generalize encV v = V at *
    generalize encV (reV g v) = W at *
    simp [F_renamed_end, B_renamed_end, a]
end
end Dn

namespace Dn
open PySem L2
theorem forD_allQ {α : Type} {enc : α → D} {set : D → Env → R Env} {body : Env → R Fl} {d : D} (p : α → Prop) (I : Env → Prop) : ∀ {xs : List α} {ρ : Env}, I ρ → (∀ x ρ, x ∈ xs → I ρ → ∃ ρ1, set (enc x) ρ = .ok ρ1 ∧ (p x → ∃ ρ2, body ρ1 = .ok (.nx ρ2) ∧ I ρ2) ∧ (¬ p x → ∃ ρ2, body ρ1 = .ok (.rt d ρ2))) →
    ((∀ x ∈ xs, p x) → ∃ ρ', forD set body (xs.map enc) ρ = .ok (.nx ρ') ∧ I ρ') ∧ (¬ (∀ x ∈ xs, p x) → ∃ ρ', forD set body (xs.map enc) ρ = .ok (.rt d ρ'))
  | [], ρ, h, _ => ⟨fun _ => ⟨ρ, rfl, h⟩, fun q => absurd (fun x hx => by cases hx) q⟩
  | x :: xs, ρ, h, st => by
    obtain ⟨ρ1, h1, h2, h3⟩ := st x ρ List.mem_cons_self h
    by_cases hp : p x
    · obtain ⟨ρ2, h4, h5⟩ := h2 hp
      obtain ⟨a, b⟩ := forD_allQ p I (xs := xs) h5 fun y ρ hy => st y ρ (List.mem_cons_of_mem _ hy)
      have e : forD set body ((x :: xs).map enc) ρ = forD set body (xs.map enc) ρ2 := by
        show (set (enc x) ρ >>= fun ρ1 => body ρ1 >>= fun fl => _) = _
        rw [h1, ok_bind, h4, ok_bind]
      rw [e]
      refine ⟨fun q => a fun y hy => q y (List.mem_cons_of_mem _ hy), fun q => b fun q' => q fun y hy => ?_⟩
      rcases List.mem_cons.mp hy with rfl | hy
      · exact hp
      · exact q' y hy
    · obtain ⟨ρ2, h4⟩ := h3 hp
      refine ⟨fun q => absurd (q x List.mem_cons_self) hp, fun _ => ⟨ρ2, ?_⟩⟩
      show (set (enc x) ρ >>= fun ρ1 => body ρ1 >>= fun fl => _) = _
      rw [h1, ok_bind, h4, ok_bind]
def maB1 : Env → R Fl := sPut 4 (eOp ixD (eVar 2) (eVar 5)) (eOp ixD (eVar 3) (eVar 5))
theorem ma_loop1 {o o' : List Int} (nd : o.Nodup) (hl : o.length = o'.length) (h9 : o.length ≤ 900) {a b x : Option D} {r : List (Option D)} :
    ∃ y, forD (setN 5) maB1 (rangeD 0 o.length) (a :: b :: some (.lst (o.map .int)) :: some (.lst (o'.map .int)) :: some (.dic []) :: x :: r) = .ok (.nx (a :: b :: some (.lst (o.map .int)) :: some (.lst (o'.map .int)) :: some (encNm (o.zip o')) :: y :: r)) := by
  obtain ⟨ρ', h1, h2⟩ := forD_inv (set := setN 5) (body := maB1) (fun k ρ => ∃ y, ρ = a :: b :: some (.lst (o.map .int)) :: some (.lst (o'.map .int)) :: some (encNm ((o.zip o').take k)) :: y :: r) (xs := rangeD 0 o.length) (ρ := a :: b :: some (.lst (o.map .int)) :: some (.lst (o'.map .int)) :: some (.dic []) :: x :: r) (k := 0) ⟨x, rfl⟩ fun j x ρ q1 q2 => by
    rw [Nat.zero_add] at q1 ⊢
    obtain ⟨y, rfl⟩ := q1
    have hj : j < o.length := by
      have := (List.getElem?_eq_some_iff.mp q2).1
      simpa using this
    have hj' : j < o'.length := by omega
    obtain rfl : x = .int (0 + (j : Int)) := by
      unfold rangeD at q2
      rw [List.getElem?_map, List.getElem?_range hj] at q2
      exact (Option.some.inj q2).symm
    have hz : j < (o.zip o').length := by rw [List.length_zip]; omega
    have new : o[j] ∉ ((o.zip o').take j).map (·.1) := fun q => by
      rw [List.map_take, List.map_fst_zip (by omega)] at q
      obtain ⟨i, hi, e⟩ := List.mem_take_iff_getElem.mp q
      exact absurd e (List.pairwise_iff_getElem.mp nd i j (by omega) hj (by omega))
    have st := nm_store (m := o'[j]) new (by rw [List.length_take, List.length_zip]; omega)
    have e1 : (o.zip o').take j ++ [(o[j], o'[j])] = (o.zip o').take (j + 1) := by
      rw [List.take_succ_eq_append_getElem hz, List.getElem_zip]
    rw [e1] at st
    have at0 : atI (o.map D.int) (j : Int) = some (.int o[j]) := by
      rw [atI_pos (by omega) (by rw [List.length_map]; omega), Int.toNat_natCast, List.getElem?_map, List.getElem?_eq_getElem hj]
      rfl
    have at1 : atI (o'.map D.int) (j : Int) = some (.int o'[j]) := by
      rw [atI_pos (by omega) (by rw [List.length_map]; omega), Int.toNat_natCast, List.getElem?_map, List.getElem?_eq_getElem hj']
      rfl
    refine ⟨_, a :: b :: some (.lst (o.map .int)) :: some (.lst (o'.map .int)) :: some (encNm ((o.zip o').take (j + 1))) :: some (.int (j : Int)) :: r, rfl, ?_, _, rfl⟩
    generalize encNm ((o.zip o').take (j + 1)) = P2 at *
    generalize encNm ((o.zip o').take j) = P1 at *
    generalize o.map D.int = OO at *
    generalize o'.map D.int = OO' at *
    simp [maB1, at0, at1, st]
  rw [len_range, Nat.zero_add, List.take_of_length_le (by rw [List.length_zip]; omega)] at h2
  obtain ⟨y, rfl⟩ := h2
  exact ⟨y, h1⟩
def maB2 : Env → R Fl := (sIf (tB' (eOp neD (eCall (F_renamed_thing) (aCons (eOp ixD (eOp ixD (eVar 0) (eC (.int 2))) (eVar 6)) (aCons (eVar 4) aNil))) (eOp ixD (eOp ixD (eVar 1) (eC (.int 2))) (eOp ixD (eVar 4) (eVar 6))))) (sRet [] (eC .non)) sNext)
def nmZ (s s' : Sta) : List (Int × Int) := (metM s).zip (metM s')
section
variable {s s' : Sta} (h : tells s) (h' : tells s') (al : allMet s) (k1 : endOk s.en) (k2 : endOk s'.en)
include h h' al
theorem nmZ_keys (hl : (metM s).length = (metM s').length) : (nmZ s s').map (·.1) = metM s := List.map_fst_zip (by omega)
theorem nmZ_vals (hl : (metM s).length = (metM s').length) : (nmZ s s').map (·.2) = metM s' := List.map_snd_zip (by omega)
theorem nmZ_g (hl : (metM s).length = (metM s').length) : ∀ q ∈ nmZ s s', gOf (metM s) (metM s') q.1 = q.2 := fun q hq => by
  obtain ⟨i, hi, rfl⟩ := List.mem_iff_getElem.mp hq
  have h1 : i < (metM s).length := by unfold nmZ at hi; rw [List.length_zip] at hi; omega
  have e : (nmZ s s')[i] = ((metM s)[i], (metM s')[i]'(by omega)) := List.getElem_zip
  rw [e]
  unfold gOf
  rw [List.Nodup.idxOf_getElem h.nd i h1, List.getD_eq_getElem?_getD, List.getElem?_eq_getElem (by omega)]
  rfl
include k1 k2
theorem matched_ok : (fitted s s' → F_matched [encS s, encS s'] = .ok (encNm (nmZ s s'))) ∧ (¬ fitted s s' → F_matched [encS s, encS s'] = .ok .non) := by
  have m1 := met_ok h.z h.c h.v
  have m2 := met_ok h'.z h'.c h'.v
  have l1 : ((metM s).map D.int).length = (metM s).length := List.length_map _
  have l2 : ((metM s').map D.int).length = (metM s').length := List.length_map _
  by_cases hl : (metM s).length = (metM s').length
  · have nk := nmZ_keys h h' al hl
    have hg := nmZ_g h h' al hl
    have q1 := ma_loop1 h.nd hl h.ml (a := some (encS s)) (b := some (encS s')) (x := none) (r := [none, none])
    obtain ⟨y, q1⟩ := q1
    have re := renamed_end_ok hg (e := s.en) fun n e => by rw [nk]; exact h.e _ e
    have kr : endOk (reE (gOf (metM s) (metM s')) s.en) := by
      intro w e
      cases hs : s.en with
      | run => rw [hs] at e; cases e
      | done v => rw [hs] at e; cases e
      | stuck w' => rw [hs] at e; cases e; exact k1 w hs
    have rf : eLc (iWalk (eOp ixD (eVar 0) (eC (.int 1)))) [7] (setN 7) cYes (eCall (F_renamed_frame) (aCons (eVar 7) (aCons (eVar 4) aNil))) [some (encS s), some (encS s'), some (.lst ((metM s).map .int)), some (.lst ((metM s').map .int)), some (encNm (nmZ s s')), y, none, none] = .ok (.lst ((s.fs.map (reF (gOf (metM s) (metM s')))).map encF)) := by
      have q := eLc_filter (enc := encF) (p := fun _ => true) (g := fun f => encF (reF (gOf (metM s) (metM s')) f)) (xs := s.fs) (fi := iWalk (eOp ixD (eVar 0) (eC (.int 1)))) (vs := [7]) (i := 7) (fc := cYes) (fe := eCall (F_renamed_frame) (aCons (eVar 7) (aCons (eVar 4) aNil))) (ρ := [some (encS s), some (encS s'), some (.lst ((metM s).map .int)), some (.lst ((metM s').map .int)), some (encNm (nmZ s s')), y, none, none]) (by simp [encS]) (by have := h.z.fl; omega) (fun _ _ => rfl) (fun f hf _ => by
        have tf := h.f f hf
        have e := renamed_frame_ok hg (f := f) (fun n hn => by
          rw [nk]
          exact al.v n (List.mem_append_right _ (List.mem_flatMap.mpr ⟨f, hf, hn⟩))) tf.ol tf.sl
        generalize encNm (nmZ s s') = N at *
        generalize encF f = FF at *
        generalize encS s = S1 at *
        generalize encS s' = S2 at *
        simp [wipeE, e])
      rw [q, List.filter_eq_self.mpr (fun _ _ => rfl), List.map_map]
      rfl
    have i1 : ixD (encS s) (.int 0) = .ok (encE s.en) := by simp [encS]
    have i2 : ixD (encS s') (.int 0) = .ok (encE s'.en) := by simp [encS]
    have i3 : ixD (encS s') (.int 1) = .ok (.lst (s'.fs.map encF)) := by simp [encS]
    have i4 : ixD (encS s) (.int 2) = .ok (encTs s.ts) := by simp [encS]
    have i5 : ixD (encS s') (.int 2) = .ok (encTs s'.ts) := by simp [encS]
    obtain ⟨A1, A2⟩ := forD_allQ (enc := D.int) (set := setN 6) (body := maB2) (d := .non) (fun n => reT (gOf (metM s) (metM s')) (thAt s.ts n) = thAt s'.ts (gOf (metM s) (metM s') n)) (fun ρ => ∃ z, ρ = [some (encS s), some (encS s'), some (.lst ((metM s).map .int)), some (.lst ((metM s').map .int)), some (encNm (nmZ s s')), y, z, none]) (xs := metM s) (ρ := [some (encS s), some (encS s'), some (.lst ((metM s).map .int)), some (.lst ((metM s').map .int)), some (encNm (nmZ s s')), y, none, none]) ⟨none, rfl⟩ fun n ρ hn ⟨z, e⟩ => by
      subst e
      obtain ⟨t, t1, t2, t3, t4⟩ := h.t n hn
      have gm : gOf (metM s) (metM s') n ∈ metM s' := by
        have : gOf (metM s) (metM s') n ∈ (metM s).map (gOf (metM s) (metM s')) := List.mem_map.mpr ⟨n, hn, rfl⟩
        rwa [map_gOf h.nd hl] at this
      obtain ⟨t', u1, _⟩ := h'.t _ gm
      have rt := renamed_thing_ok hg (t := t) (fun m hm => by
        rw [nk]
        exact t2 _ hm) t3
      have x1 := ix_look t1
      have x2 := ix_look u1
      have x3 := nm_at hg (n := n) (by rw [nk]; exact hn)
      have a1 : thAt s.ts n = t := by unfold thAt; rw [t1]; rfl
      have a2 : thAt s'.ts (gOf (metM s) (metM s') n) = t' := by unfold thAt; rw [u1]; rfl
      rw [a1, a2]
      generalize gOf (metM s) (metM s') = g at *
      generalize (metM s).map D.int = M1 at *
      generalize (metM s').map D.int = M2 at *
      generalize encNm (nmZ s s') = N at *
      generalize encTs s.ts = T1 at *
      generalize encTs s'.ts = T2 at *
      generalize encS s = S1 at *
      generalize encS s' = S2 at *
      refine ⟨_, rfl, fun hp => ⟨[some S1, some S2, some (.lst M1), some (.lst M2), some N, y, some (.int n), none], ?_, _, rfl⟩, fun hp => ⟨[some S1, some S2, some (.lst M1), some (.lst M2), some N, y, some (.int n), none], ?_⟩⟩
      · have eT := eqT_t hp
        generalize encT (reT g t) = E1 at *
        generalize encT t' = E2 at *
        generalize encT t = E0 at *
        simp [maB2, i4, i5, x1, x2, x3, rt, eT]
      · have eT := eqT_f hp
        generalize encT (reT g t) = E1 at *
        generalize encT t' = E2 at *
        generalize encT t = E0 at *
        simp [maB2, i4, i5, x1, x2, x3, rt, eT]
    have hth : (∀ n ∈ metM s, reT (gOf (metM s) (metM s')) (thAt s.ts n) = thAt s'.ts (gOf (metM s) (metM s') n)) ↔ (metM s').map (thAt s'.ts) = (metM s).map fun n => reT (gOf (metM s) (metM s')) (thAt s.ts n) := by
      have e0 : (metM s').map (thAt s'.ts) = (metM s).map fun n => thAt s'.ts (gOf (metM s) (metM s') n) := by
        conv => lhs; rw [← map_gOf h.nd hl]
        rw [List.map_map]
        rfl
      rw [e0]
      constructor
      · intro q
        exact List.map_congr_left fun n hn => (q n hn).symm
      · intro q n hn
        exact (List.map_inj_left.mp q n hn).symm
    unfold maB1 at q1
    unfold maB2 at A1 A2
    have ls : listD [.lst (s'.fs.map encF)] = .ok (.lst (s'.fs.map encF)) := rfl
    have fit_iff : fitted s s' ↔ (s'.en = reE (gOf (metM s) (metM s')) s.en ∧ s'.fs = s.fs.map (reF (gOf (metM s) (metM s')))) ∧ ∀ n ∈ metM s, reT (gOf (metM s) (metM s')) (thAt s.ts n) = thAt s'.ts (gOf (metM s) (metM s') n) := by
      rw [hth]
      exact ⟨fun f => ⟨⟨f.en, f.fs⟩, f.th⟩, fun f => ⟨f.1.1, f.1.2, f.2⟩⟩
    rw [fit_iff]
    have z1 : encNm (nmZ s s') = encNm ((metM s).zip (metM s')) := rfl
    rw [← z1] at q1
    rw [← hl] at l2
    have hl9 : (metM s).length ≤ 1000000 := by have := h.ml; omega
    generalize gOf (metM s) (metM s') = g at *
    generalize (metM s).length = L at *
    generalize (metM s).map D.int = M1 at *
    generalize (metM s').map D.int = M2 at *
    generalize encNm (nmZ s s') = N at *
    by_cases c1 : reE g s.en = s'.en
    · have ee := eqE_t kr k2 c1
      by_cases c2 : s.fs.map (reF g) = s'.fs
      · have ef := eqFs_t c2
        by_cases c3 : ∀ n ∈ metM s, reT g (thAt s.ts n) = thAt s'.ts (g n)
        · refine ⟨fun _ => ?_, fun q => absurd ⟨⟨c1.symm, c2.symm⟩, c3⟩ q⟩
          obtain ⟨ρ', q3, z, rfl⟩ := A1 c3
          generalize encE (reE g s.en) = E1 at *
          generalize encE s'.en = E2 at *
          generalize encE s.en = E0 at *
          generalize (s.fs.map (reF g)).map encF = F1 at *
          generalize s'.fs.map encF = F2 at *
          generalize encS s = S1 at *
          generalize encS s' = S2 at *
          simp [F_matched, B_matched, m1, m2, l1, l2, rng1_ok (n := L) (by omega) (by omega), q1, i1, re, i2, ee, rf, i3, ls, ef, q3]
        · refine ⟨fun q => absurd q.2 c3, fun _ => ?_⟩
          obtain ⟨ρ', q3⟩ := A2 c3
          generalize encE (reE g s.en) = E1 at *
          generalize encE s'.en = E2 at *
          generalize encE s.en = E0 at *
          generalize (s.fs.map (reF g)).map encF = F1 at *
          generalize s'.fs.map encF = F2 at *
          generalize encS s = S1 at *
          generalize encS s' = S2 at *
          simp [F_matched, B_matched, m1, m2, l1, l2, rng1_ok (n := L) (by omega) (by omega), q1, i1, re, i2, ee, rf, i3, ls, ef, q3]
      · have ef := eqFs_f c2
        refine ⟨fun q => absurd q.1.2.symm c2, fun _ => ?_⟩
        generalize encE (reE g s.en) = E1 at *
        generalize encE s'.en = E2 at *
        generalize encE s.en = E0 at *
        generalize (s.fs.map (reF g)).map encF = F1 at *
        generalize s'.fs.map encF = F2 at *
        generalize encS s = S1 at *
        generalize encS s' = S2 at *
        simp [F_matched, B_matched, m1, m2, l1, l2, rng1_ok (n := L) (by omega) (by omega), q1, i1, re, i2, ee, rf, i3, ls, ef]
    · have ee := eqE_f kr k2 c1
      refine ⟨fun q => absurd q.1.1.symm c1, fun _ => ?_⟩
      generalize encE (reE g s.en) = E1 at *
      generalize encE s'.en = E2 at *
      generalize encE s.en = E0 at *
      generalize encS s = S1 at *
      generalize encS s' = S2 at *
      simp [F_matched, B_matched, m1, m2, l1, l2, rng1_ok (n := L) (by omega) (by omega), q1, i1, re, i2, ee]
  · refine ⟨fun f => absurd (by simpa using (congrArg List.length f.th).symm) hl, fun _ => ?_⟩
    have hl' : ¬ ((metM s).length : Int) = ((metM s').length : Int) := by omega
    generalize (metM s).map D.int = M1 at *
    generalize (metM s').map D.int = M2 at *
    generalize encS s = S1 at *
    generalize encS s' = S2 at *
    simp [F_matched, B_matched, m1, m2, l1, l2, hl, hl']
end
end Dn

namespace Dn
open PySem L2
section
variable {ns : List Int} (hn : ns.length ≤ 63)
include hn
theorem cell_ok {k : Int} (hk : 0 ≤ k) : ∃ c, F__law_cell [.scr ns, .int k] = .ok (.int c) ∧ 0 ≤ c ∧ c < 1000003 := by
  have hm : ∀ x : Int, fits64 (x % 1000003) = true := fun x => m_fits _ (by omega) (by omega)
  by_cases h : 0 < ns.length
  · obtain ⟨z, hz⟩ := ix_scr (ns := ns) (Int.emod_nonneg k (by omega : (ns.length : Int) ≠ 0)) (Int.emod_lt_of_pos k (by omega))
    have h1 : (0 : Int) < ns.length := by omega
    have h2 : (ns.length : Int) < 1073741824 := by omega
    simp [F__law_cell, B__law_cell, hm, m_mul, m_mulL, m_fits, hz, h, h2]
    exact ⟨Int.emod_nonneg _ (by decide), Int.emod_lt_of_pos _ (by decide)⟩
  · have : ns.length = 0 := by omega
    simp [F__law_cell, B__law_cell, hm, m_mul, m_mulL, m_fits, this]
    exact ⟨Int.emod_nonneg _ (by decide), Int.emod_lt_of_pos _ (by decide)⟩
theorem raw_ok {k : Int} (hk : 0 ≤ k) : ∃ z, F__law_raw [.scr ns, .int k] = .ok (.int z) := by
  by_cases h : 0 < ns.length
  · obtain ⟨z, hz⟩ := ix_scr (ns := ns) (Int.emod_nonneg k (by omega : (ns.length : Int) ≠ 0)) (Int.emod_lt_of_pos k (by omega))
    have h1 : (0 : Int) < ns.length := by omega
    have h2 : (ns.length : Int) < 1073741824 := by omega
    have h3 : ¬ ns = [] := by intro q; simp [q] at h
    simp [F__law_raw, B__law_raw, m_mul, m_mulL, m_fits, hz, h, h2, h3]
  · have : ns.length = 0 := by omega
    have h3 : ns = [] := by simpa using this
    simp [F__law_raw, B__law_raw, m_mul, m_mulL, m_fits, this, h3]
theorem number_ok {k : Int} (hk : 0 ≤ k) : ∃ i, F__law_number [.scr ns, .int k] = .ok (.int i) ∧ -mostN ≤ i ∧ i ≤ mostN := by
  obtain ⟨c, hc, h0, h1⟩ := cell_ok hn hk
  obtain ⟨z, hz⟩ := raw_ok hn hk
  unfold mostN
  by_cases h : c % 6 = 1
  · simp [F__law_number, B__law_number, m_mul, m_mulL, m_fits, hc, hz, h]
    omega
  · by_cases h2 : c % 6 = 2
    · rcases (by omega : c / 6 % 6 = 0 ∨ c / 6 % 6 = 1 ∨ c / 6 % 6 = 2 ∨ c / 6 % 6 = 3 ∨ c / 6 % 6 = 4 ∨ c / 6 % 6 = 5) with h3 | h3 | h3 | h3 | h3 | h3 <;>
        simp [F__law_number, B__law_number, m_mul, m_mulL, m_fits, hc, hz, h, h2, h3, atI, ixN]
    · simp [F__law_number, B__law_number, m_mul, m_mulL, m_fits, hc, hz, h, h2]
      omega
theorem eq_nil (N : List Int) : eqD (.lst (N.map .int)) (.lst []) = .ok (.bl (decide (N = []))) := by
  have h : pl 1 (.lst (N.map D.int)) = true := by
    show pls 0 _ = true
    induction N with
    | nil => rfl
    | cons n N ih => simpa [pls, pl] using ih
  refine Eq.trans (if_pos (by rw [shaped_pl h (by decide)]; rfl)) ?_
  cases N <;> rfl
theorem value_ok {k : Int} (hk : 0 ≤ k) (N : List Int) (hN : N.length ≤ 1000) : ∃ v, F__law_value [.scr ns, .int k, .lst (N.map .int)] = .ok (encV v) ∧ okV N v := by
  obtain ⟨c, hc, h0, h1⟩ := cell_ok hn (by omega : 0 ≤ k + 3)
  obtain ⟨z, hz, hz1, hz2⟩ := number_ok hn hk
  by_cases h : N = []
  · subst h
    refine ⟨.num z, ?_, hz1, hz2⟩
    have := eq_nil hn []
    simp at this
    simp [F__law_value, B__law_value, hc, hz, encV, this]
  · by_cases h2 : c % 5 < 2
    · have hp : 0 < N.length := List.length_pos_iff.mpr h
      have hi : 0 ≤ c / 5 % (N.length : Int) := Int.emod_nonneg _ (by omega)
      have hi2 : c / 5 % (N.length : Int) < N.length := Int.emod_lt_of_pos _ (by omega)
      have hi3 : (c / 5 % (N.length : Int)).toNat < N.length := by omega
      refine ⟨.ref N[(c / 5 % (N.length : Int)).toNat], ?_, List.getElem_mem hi3⟩
      have := eq_nil hn N
      simp [F__law_value, B__law_value, hc, hz, encV, this, h, h2, hp, atI_pos (xs := N.map D.int) hi (by simpa using hi2), List.getElem?_eq_getElem hi3]
    · refine ⟨.num z, ?_, hz1, hz2⟩
      have := eq_nil hn N
      simp [F__law_value, B__law_value, hc, hz, encV, this, h, h2]
theorem values_ok {k m : Int} (hk : 0 ≤ k) (hm : 0 ≤ m) (hm2 : m ≤ 1000000) (N : List Int) (hN : N.length ≤ 1000) : ∃ vs : List Val, F__law_values [.scr ns, .int k, .int m, .lst (N.map .int)] = .ok (.tup (vs.map encV)) ∧ vs.length = m.toNat ∧ ∀ v ∈ vs, okV N v := by
  obtain ⟨vs, h1, h2, h3⟩ := eLc_enc (enc := encV) (P := okV N) (fi := iRange1 (eVar 2)) (vs := [4]) (i := 4) (ρ := [some (.scr ns), some (.int k), some (.int m), some (.lst (N.map .int)), none]) (xs := rangeD 0 m.toNat)
    (fe := eCall F__law_value (aCons (eVar 0) (aCons (eOp addD (eVar 1) (eOp mulD (eC (.int 11)) (eVar 4))) (aCons (eVar 3) aNil)))) (by simp [rng1_ok hm (by omega)]) (by simp; omega) fun x hx => by
      obtain ⟨j, hj, rfl⟩ := mem_range.mp hx
      obtain ⟨v, q1, q2⟩ := value_ok hn (by omega : 0 ≤ k + 11 * (j : Int)) N hN
      refine ⟨v, ?_, q2⟩
      simp [wipeE, m_mul, m_mulL, m_fits, q1]
  refine ⟨vs, ?_, by simpa using h2, h3⟩
  simp [F__law_values, B__law_values, h1, tupleD]
end

end Dn

namespace Dn
open PySem L2
section
variable {ns : List Int} (hn : ns.length ≤ 63)
include hn
theorem names_ok : ∃ N : List Int, F__law_names [.scr ns] = .ok (.lst (N.map .int)) ∧ N.length ≤ 130 ∧ N.Nodup ∧ ∀ n ∈ N, 0 ≤ n := by
  obtain ⟨c, hc, h0, h1⟩ := cell_ok hn (by decide : (0 : Int) ≤ 1)
  have hs : fits64 (1 + c / 112 % 5) = true := m_fits _ (by omega) (by omega)
  have key : ∀ m : Int, 0 ≤ m → m ≤ 130 → eLc (iRange1 (eVar 2)) [5] (setN 5) cYes (eOp addD (eOp modD (eOp divD (eVar 1) (eC (.int 560))) (eC (.int 30))) (eOp mulD (eVar 3) (eVar 5))) [some (.scr ns), some (.int c), some (.int m), some (.int (1 + c / 112 % 5)), none, none] =
      .ok (.lst (((List.range m.toNat).map fun j : Nat => c / 560 % 30 + (1 + c / 112 % 5) * (j : Int)).map .int)) := fun m hm hm2 => by
    rw [eLc_map (xs := rangeD 0 m.toNat) (g := fun x => match x with
      | .int j => .int (c / 560 % 30 + (1 + c / 112 % 5) * j)
      | d => d) (by simp [rng1_ok hm (by omega)]) (by simp; omega) fun x hx => by
        obtain ⟨j, hj, rfl⟩ := mem_range.mp hx
        simp [wipeE, m_mulL, hs]]
    simp [rangeD, Function.comp_def]
  have good : ∀ m : Int, 0 ≤ m → m ≤ 130 → ∀ N : List Int, N = ((List.range m.toNat).map fun j : Nat => c / 560 % 30 + (1 + c / 112 % 5) * (j : Int)) → N.length ≤ 130 ∧ N.Nodup ∧ ∀ n ∈ N, 0 ≤ n := fun m hm hm2 N e => by
    subst e
    refine ⟨by simp; omega, ?_, fun n h => ?_⟩
    · refine List.pairwise_map.mpr (List.Pairwise.imp (fun {a b} hlt e => ?_) List.pairwise_lt_range)
      have e2 : (1 + c / 112 % 5) * (a : Int) = (1 + c / 112 % 5) * (b : Int) := by omega
      have := Int.eq_of_mul_eq_mul_left (by omega) e2
      omega
    · obtain ⟨j, _, rfl⟩ := List.mem_map.mp h
      have : 0 ≤ (1 + c / 112 % 5) * (j : Int) := Int.mul_nonneg (by omega) (by omega)
      omega
  have done : ∀ m : Int, 0 ≤ m → m ≤ 130 → (∃ N : List Int, F__law_names [.scr ns] = .ok (.lst (N.map .int)) ∧ (N = ((List.range m.toNat).map fun j : Nat => c / 560 % 30 + (1 + c / 112 % 5) * (j : Int)) ∨ N = ((List.range m.toNat).map fun j : Nat => c / 560 % 30 + (1 + c / 112 % 5) * (j : Int)).reverse)) →
      ∃ N : List Int, F__law_names [.scr ns] = .ok (.lst (N.map .int)) ∧ N.length ≤ 130 ∧ N.Nodup ∧ ∀ n ∈ N, 0 ≤ n := fun m hm hm2 ⟨N, e, q⟩ => by
    obtain ⟨g1, g2, g3⟩ := good m hm hm2 _ rfl
    rcases q with q | q
    · rw [← q] at g1 g2 g3
      exact ⟨N, e, g1, g2, g3⟩
    · refine ⟨N, e, ?_, ?_, ?_⟩ <;> rw [q]
      · simpa using g1
      · exact List.pairwise_reverse.mpr (g2.imp fun h => Ne.symm h)
      · exact fun n hn => g3 n (List.mem_reverse.mp hn)
  have fin : ∀ m : Int, 0 ≤ m → m ≤ 130 → (c / 7 % 16 = 1 ∧ (c / 112 % 4 = 3 ∧ m = 130 ∨ (c / 112 % 4 = 0 ∨ c / 112 % 4 = 1 ∨ c / 112 % 4 = 2) ∧ m = 40) ∨ ¬ c / 7 % 16 = 1 ∧ m = c % 7) → ∃ N : List Int, F__law_names [.scr ns] = .ok (.lst (N.map .int)) ∧ N.length ≤ 130 ∧ N.Nodup ∧ ∀ n ∈ N, 0 ≤ n := fun m hm hm2 q => by
    refine done m hm hm2 ?_
    have k := key m hm hm2
    rcases q with ⟨h, q⟩ | ⟨h, e⟩
    · by_cases h3 : c / 16800 % 2 = 1
      · rcases q with ⟨h2, e⟩ | ⟨h2 | h2 | h2, e⟩ <;> rw [e] at k ⊢ <;> exact ⟨_, by simp [F__law_names, B__law_names, hc, h, h2, h3, atI, ixN, k], .inr rfl⟩
      · rcases q with ⟨h2, e⟩ | ⟨h2 | h2 | h2, e⟩ <;> rw [e] at k ⊢ <;> exact ⟨_, by simp [F__law_names, B__law_names, hc, h, h2, h3, atI, ixN, k], .inl rfl⟩
    · rw [e] at k ⊢
      by_cases h3 : c / 16800 % 2 = 1
      · exact ⟨_, by simp [F__law_names, B__law_names, hc, h, h3, k], .inr rfl⟩
      · exact ⟨_, by simp [F__law_names, B__law_names, hc, h, h3, k], .inl rfl⟩
  by_cases h : c / 7 % 16 = 1
  · by_cases h2 : c / 112 % 4 = 3
    · exact fin 130 (by decide) (by decide) (.inl ⟨h, .inl ⟨h2, rfl⟩⟩)
    · exact fin 40 (by decide) (by decide) (.inl ⟨h, .inr ⟨by omega, rfl⟩⟩)
  · exact fin (c % 7) (by omega) (by omega) (.inr ⟨h, rfl⟩)
end
end Dn

namespace Dn
open PySem L2
def thBody : Env → R Fl := (sSeq (sAsg 5 [] (eCall (F__law_cell) (aCons (eVar 0) (aCons (eOp addD (eC (.int 100)) (eVar 4)) aNil)))) (sIf (tB' (eOp eqD (eOp modD (eVar 5) (eC (.int 2))) (eC (.int 0)))) (sPut 3 (eOp ixD (eVar 1) (eVar 4)) (eTup (aCons (eC (.str w_box)) (aCons (eCall (F__law_value) (aCons (eVar 0) (aCons (eOp addD (eC (.int 200)) (eVar 4)) (aCons (eVar 1) aNil)))) aNil)))) (sSeq (sAsg 6 [] (eCall (F__law_values) (aCons (eVar 0) (aCons (eOp addD (eC (.int 300)) (eOp mulD (eC (.int 5)) (eVar 4))) (aCons (eOp modD (eOp divD (eVar 5) (eC (.int 2))) (eC (.int 9))) (aCons (eVar 1) aNil)))))) (sPut 3 (eOp ixD (eVar 1) (eVar 4)) (eTup (aCons (eC (.str w_fun)) (aCons (eOp modD (eOp divD (eVar 5) (eC (.int 18))) (eVar 2)) (aCons (eVar 6) aNil))))))))
def thI (ns N : List Int) (b : Int) (k : Nat) (ρ : Env) : Prop := ∃ (ts : List (Int × Thing)) (a x y : Option D), ρ = [some (.scr ns), some (.lst (N.map .int)), some (.int b), some (encTs ts), a, x, y] ∧ ts.map (·.1) = N.take k ∧ ∀ t ∈ ts, okT N b t.2
section
variable {ns : List Int} (hn : ns.length ≤ 63)
include hn
theorem things_step {N : List Int} (hN : N.length ≤ 130) (nd : N.Nodup) {b : Int} (hb : 0 < b) (hb2 : b ≤ 100) (j : Nat) (x : D) (ρ : Env) (hI : thI ns N b j ρ) (hx : (rangeD 0 N.length)[j]? = some x) :
    ∃ ρ1 ρ2, setN 4 x ρ = .ok ρ1 ∧ thBody ρ1 = .ok (.nx ρ2) ∧ thI ns N b (j + 1) ρ2 := by
  obtain ⟨ts, a, x', y, rfl, q1, q2⟩ := hI
  have hj : j < N.length := by
    have := (List.getElem?_eq_some_iff.mp hx).1
    simpa using this
  obtain rfl : x = .int (0 + (j : Int)) := by
    unfold rangeD at hx
    rw [List.getElem?_map, List.getElem?_range hj] at hx
    exact (Option.some.inj hx).symm
  obtain ⟨c, hc, h0, h1⟩ := cell_ok hn (by omega : (0 : Int) ≤ 100 + (j : Int))
  obtain ⟨v, hv, v1⟩ := value_ok hn (by omega : (0 : Int) ≤ 200 + (j : Int)) N (by omega)
  obtain ⟨vs, hvs, vs1, vs2⟩ := values_ok hn (by omega : (0 : Int) ≤ 300 + 5 * (j : Int)) (by omega : 0 ≤ c / 2 % 9) (by omega) N (by omega)
  have new : N[j] ∉ ts.map (·.1) := by
    rw [q1]
    intro q
    obtain ⟨i, hi, e⟩ := List.mem_take_iff_getElem.mp q
    exact absurd e (List.pairwise_iff_getElem.mp nd i j (by omega) hj (by omega))
  have lt : (ts.map fun t => ((Sum.inl t.1 : L2.Key), encT t.2)).length < most := by
    have := congrArg List.length q1
    simp at this
    simp [most]
    omega
  have tk : N.take (j + 1) = N.take j ++ [N[j]] := by rw [List.take_succ_eq_append_getElem hj]
  by_cases h : c % 2 = 0
  · refine ⟨_, [some (.scr ns), some (.lst (N.map .int)), some (.int b), some (encTs (ts ++ [(N[j], .box v)])), some (.int j), some (.int c), y], rfl, ?_, ts ++ [(N[j], .box v)], _, _, _, rfl, ?_, ?_⟩
    · have e := store_int (es := ts.map fun t => ((Sum.inl t.1 : L2.Key), encT t.2)) (k := N[j]) (y := encT (.box v)) lt
      rw [put_new new] at e
      have e' : storeD (encTs ts) (.int N[j]) (.tup [.str w_box, encV v]) = .ok (encTs (ts ++ [(N[j], .box v)])) := e
      simp [thBody, hc, hv, h, e', atI_pos (xs := N.map D.int) (i := (j : Int)) (by omega) (by simpa using hj), hj]
    · rw [tk, ← q1]; simp
    · intro t ht
      rcases List.mem_append.mp ht with ht | ht
      · exact q2 t ht
      · rw [List.mem_singleton.mp ht]; exact v1
  · refine ⟨_, [some (.scr ns), some (.lst (N.map .int)), some (.int b), some (encTs (ts ++ [(N[j], .fn (c / 18 % b) vs)])), some (.int j), some (.int c), some (.tup (vs.map encV))], rfl, ?_, ts ++ [(N[j], .fn (c / 18 % b) vs)], _, _, _, rfl, ?_, ?_⟩
    · have e := store_int (es := ts.map fun t => ((Sum.inl t.1 : L2.Key), encT t.2)) (k := N[j]) (y := encT (.fn (c / 18 % b) vs)) lt
      rw [put_new new] at e
      have e' : storeD (encTs ts) (.int N[j]) (.tup [.str w_fun, .int (c / 18 % b), .tup (vs.map encV)]) = .ok (encTs (ts ++ [(N[j], .fn (c / 18 % b) vs)])) := e
      have h' : c % 2 = 1 := by omega
      simp [thBody, hc, hvs, h', hb, e', m_mulL, m_fits, atI_pos (xs := N.map D.int) (i := (j : Int)) (by omega) (by simpa using hj), hj]
    · rw [tk, ← q1]; simp
    · intro t ht
      rcases List.mem_append.mp ht with ht | ht
      · exact q2 t ht
      · rw [List.mem_singleton.mp ht]
        exact ⟨Int.emod_nonneg _ (by omega), Int.emod_lt_of_pos _ hb, by omega, vs2⟩
theorem things_ok (N : List Int) (hN : N.length ≤ 130) (nd : N.Nodup) {b : Int} (hb : 0 < b) (hb2 : b ≤ 100) : ∃ ts : List (Int × Thing), F__law_things [.scr ns, .lst (N.map .int), .int b] = .ok (encTs ts) ∧ ts.map (·.1) = N ∧ ∀ t ∈ ts, okT N b t.2 := by
  obtain ⟨ρ', h1, h2⟩ := forD_inv (set := setN 4) (body := thBody) (thI ns N b) (xs := rangeD 0 N.length) (k := 0) ⟨[], none, none, none, rfl, rfl, fun _ h => by simp at h⟩ fun j x ρ q1 q2 => by
    rw [Nat.zero_add] at q1 ⊢
    exact things_step hn hN nd hb hb2 j x ρ q1 q2
  rw [len_range, Nat.zero_add] at h2
  obtain ⟨ts, a, x, y, rfl, q1, q2⟩ := h2
  refine ⟨ts, ?_, by rw [q1, List.take_length], q2⟩
  have h3 : rng1 (.int (N.length : Int)) = .ok (rangeD 0 N.length) := rng1_ok (n := (N.length : Int)) (by omega) (by omega)
  have h4 : forD (setN 4) thBody (rangeD 0 N.length) [some (.scr ns), some (.lst (N.map .int)), some (.int b), some (.dic []), none, none, none] = _ := h1
  unfold thBody at h4
  simp [F__law_things, B__law_things, h3, h4]
end

end Dn

namespace Dn
open PySem L2
section
variable {ns : List Int} (hn : ns.length ≤ 63)
include hn
theorem frame_ok {N : List Int} (hN : N.length ≤ 130) {prog : List (List D)} (hp : 0 < prog.length) (hp2 : prog.length ≤ 20) {k : Int} (hk : 0 ≤ k) :
    ∃ f, F__law_frame [.scr ns, .int k, encP prog, .lst (N.map .int)] = .ok (encF f) ∧ okF N prog f := by
  obtain ⟨c, hc, h0, h1⟩ := cell_ok hn hk
  obtain ⟨own, ho, ho1, ho2⟩ := values_ok hn (by omega : 0 ≤ k + 1) (by omega : 0 ≤ c / 20 % 5) (by omega) N (by omega)
  obtain ⟨st, hs, hs1, hs2⟩ := values_ok hn (by omega : 0 ≤ k + 2) (by omega : 0 ≤ c / 100 % 5) (by omega) N (by omega)
  obtain ⟨mo, hm, hm1, hm2⟩ := values_ok hn (by omega : 0 ≤ k + 5) (by omega : (0 : Int) ≤ 60) (by omega) N (by omega)
  have hb0 : 0 ≤ c % (prog.length : Int) := Int.emod_nonneg _ (by omega)
  have hb1 : c % (prog.length : Int) < prog.length := Int.emod_lt_of_pos _ (by omega)
  have hb2 : (c % (prog.length : Int)).toNat < prog.length := by omega
  have hg : prog[(c % (prog.length : Int)).toNat]? = some (prog.getD (c % (prog.length : Int)).toNat []) := by
    rw [List.getD_eq_getElem?_getD, List.getElem?_eq_getElem hb2]
    rfl
  have hb3 : atI (prog.map D.lst) (c % (prog.length : Int)) = some (.lst (prog.getD (c % (prog.length : Int)).toNat [])) := by
    rw [atI_pos hb0 (by simpa using hb1), List.getElem?_map, hg]
    rfl
  have hp3 : (0 : Int) < prog.length := by omega
  have hw : ∀ n : Nat, (0 : Int) < (n : Int) + 1 := fun n => by omega
  have big : ∀ xs ys : List Val, xs.length ≤ 100 → ys.length ≤ 100 → (xs.map encV).length + (ys.map encV).length ≤ most := fun xs ys h1 h2 => by
    rw [List.length_map, List.length_map]
    unfold most
    omega
  have mem60 : ∀ xs : List Val, (∀ v ∈ xs, okV N v) → ∀ v ∈ (xs ++ mo).take 60, okV N v := fun xs h v hv => by
    rcases List.mem_append.mp (List.mem_of_mem_take hv) with hv | hv
    · exact h v hv
    · exact hm2 v hv
  have e60 : ∀ xs : List Val, cut (xs.map encV ++ mo.map encV) none (some 60) = ((xs ++ mo).take 60).map encV := fun xs => by
    rw [cut_to _ _ (by decide), ← List.map_append, List.map_take]
    rfl
  have pl0 : 0 ≤ c / 16000 % (((prog.getD (c % (prog.length : Int)).toNat []).length : Int) + 1) ∧ c / 16000 % (((prog.getD (c % (prog.length : Int)).toNat []).length : Int) + 1) ≤ ((prog.getD (c % (prog.length : Int)).toNat []).length : Int) := by
    have a := Int.emod_nonneg (c / 16000) (b := ((prog.getD (c % (prog.length : Int)).toNat []).length : Int) + 1) (by omega)
    have b := Int.emod_lt_of_pos (c / 16000) (b := ((prog.getD (c % (prog.length : Int)).toNat []).length : Int) + 1) (by omega)
    omega
  by_cases h : c / 500 % 32 = 1
  · refine ⟨⟨c % prog.length, c / 16000 % (((prog.getD (c % (prog.length : Int)).toNat []).length : Int) + 1), (own ++ mo).take 60, st⟩, ?_, hb0, hb1, pl0.1, pl0.2, List.length_take_le _ _, by show st.length ≤ 60; omega, mem60 own ho2, hs2⟩
    simp [F__law_frame, B__law_frame, encP, encF, hc, ho, hs, hm, h, hb3, hp, hp3, hw, m_catT _ _ (big own mo (by omega) (by omega)), e60]
  · by_cases h' : c / 500 % 32 = 2
    · refine ⟨⟨c % prog.length, c / 16000 % (((prog.getD (c % (prog.length : Int)).toNat []).length : Int) + 1), own, (st ++ mo).take 60⟩, ?_, hb0, hb1, pl0.1, pl0.2, by show own.length ≤ 60; omega, List.length_take_le _ _, ho2, mem60 st hs2⟩
      simp [F__law_frame, B__law_frame, encP, encF, hc, ho, hs, hm, h', hb3, hp, hp3, hw, m_catT _ _ (big st mo (by omega) (by omega)), e60]
    · refine ⟨⟨c % prog.length, c / 16000 % (((prog.getD (c % (prog.length : Int)).toNat []).length : Int) + 1), own, st⟩, ?_, hb0, hb1, pl0.1, pl0.2, by show own.length ≤ 60; omega, by show st.length ≤ 60; omega, ho2, hs2⟩
      simp [F__law_frame, B__law_frame, encP, encF, hc, ho, hs, hm, h, h', hb3, hp, hp3, hw]
theorem frames_ok {N : List Int} (hN : N.length ≤ 130) {prog : List (List D)} (hp : 0 < prog.length) (hp2 : prog.length ≤ 20) :
    ∃ fs : List Frm, F__law_frames [.scr ns, encP prog, .lst (N.map .int)] = .ok (.lst (fs.map encF)) ∧ 0 < fs.length ∧ fs.length ≤ 60 ∧ ∀ f ∈ fs, okF N prog f := by
  obtain ⟨c, hc, h0, h1⟩ := cell_ok hn (by decide : (0 : Int) ≤ 2)
  have key : ∀ m : Int, 0 ≤ m → m ≤ 100 → ∃ fs : List Frm, eLc (iRange1 (eVar 4)) [5] (setN 5) cYes (eCall (F__law_frame) (aCons (eVar 0) (aCons (eOp addD (eC (.int 500)) (eOp mulD (eC (.int 13)) (eVar 5))) (aCons (eVar 1) (aCons (eVar 2) aNil))))) [some (.scr ns), some (encP prog), some (.lst (N.map .int)), some (.int c), some (.int m), none] = .ok (.lst (fs.map encF)) ∧ fs.length = m.toNat ∧ ∀ f ∈ fs, okF N prog f := fun m hm hm2 => by
    obtain ⟨fs, q1, q2, q3⟩ := eLc_enc (enc := encF) (P := okF N prog) (fi := iRange1 (eVar 4)) (vs := [5]) (i := 5) (ρ := [some (.scr ns), some (encP prog), some (.lst (N.map .int)), some (.int c), some (.int m), none]) (xs := rangeD 0 m.toNat)
      (fe := eCall (F__law_frame) (aCons (eVar 0) (aCons (eOp addD (eC (.int 500)) (eOp mulD (eC (.int 13)) (eVar 5))) (aCons (eVar 1) (aCons (eVar 2) aNil))))) (by simp [rng1_ok hm (by omega)]) (by simp; omega) fun x hx => by
        obtain ⟨j, hj, rfl⟩ := mem_range.mp hx
        obtain ⟨v, q1, q2⟩ := frame_ok hn hN hp hp2 (by omega : 0 ≤ 500 + 13 * (j : Int))
        refine ⟨v, ?_, q2⟩
        simp [wipeE, m_mulL, m_fits, q1]
    exact ⟨fs, q1, by simpa using q2, q3⟩
  by_cases h : c / 3 % 16 = 1
  · obtain ⟨fs, q1, q2, q3⟩ := key (59 + c / 48 % 2) (by omega) (by omega)
    refine ⟨fs, ?_, by omega, by omega, q3⟩
    simp [F__law_frames, B__law_frames, hc, h, q1]
  · obtain ⟨fs, q1, q2, q3⟩ := key (1 + c % 3) (by omega) (by omega)
    refine ⟨fs, ?_, by omega, by omega, q3⟩
    simp [F__law_frames, B__law_frames, hc, h, q1]
theorem state_ok {prog : List (List D)} (hp : 0 < prog.length) (hp2 : prog.length ≤ 20) : ∃ (fs : List Frm) (ts : List (Int × Thing)), F__law_state [.scr ns, encP prog] = .ok (.tup [.non, .lst (fs.map encF), encTs ts]) ∧ 0 < fs.length ∧ fs.length ≤ 60 ∧ ts.length ≤ 130 ∧ (ts.map (·.1)).Nodup ∧ (∀ n ∈ ts.map (·.1), 0 ≤ n) ∧ (∀ f ∈ fs, okF (ts.map (·.1)) prog f) ∧ ∀ t ∈ ts, okT (ts.map (·.1)) prog.length t.2 := by
  obtain ⟨N, n1, n2, n3, n4⟩ := names_ok hn
  obtain ⟨fs, f1, f2, f3, f4⟩ := frames_ok hn n2 hp hp2
  obtain ⟨ts, t1, t2, t3⟩ := things_ok hn N n2 n3 (b := prog.length) (by omega) (by omega)
  subst t2
  refine ⟨fs, ts, ?_, f2, f3, by simpa using n2, n3, n4, f4, t3⟩
  have e : lenD [encP prog] = .ok (.int prog.length) := by
    unfold encP
    rw [m_lenL, List.length_map]
  simp at n1 f1 t1
  simp [F__law_state, B__law_state, n1, f1, t1, e]
end

end Dn

namespace Dn
open PySem L2
section
variable {ns : List Int} (hn : ns.length ≤ 63)
include hn
theorem row_ok {ws : List Str} (hw : 0 < ws.length) (hw2 : ws.length ≤ 100) {k b z : Int} (hk : 0 ≤ k) (hb : 0 < b) (hz : 0 ≤ z) :
    ∃ r : Row, F__law_row [.scr ns, .int k, .lst (ws.map .str), .int b, .int z] = .ok (encR r) ∧ okR ws b z r := by
  obtain ⟨c, hc, h0, h1⟩ := cell_ok hn hk
  obtain ⟨y, hy⟩ := raw_ok hn hk
  have l0 : 0 ≤ c % (ws.length : Int) := Int.emod_nonneg _ (by omega)
  have l1 : c % (ws.length : Int) < ws.length := Int.emod_lt_of_pos _ (by omega)
  have l2 : (c % (ws.length : Int)).toNat < ws.length := by omega
  obtain ⟨w, hw3⟩ : ∃ w, w = ws[(c % (ws.length : Int)).toNat] := ⟨_, rfl⟩
  have mem : w ∈ ws := by rw [hw3]; exact List.getElem_mem l2
  have l3 : atI (ws.map D.str) (c % (ws.length : Int)) = some (.str w) := by
    rw [atI_pos l0 (by simpa using l1), List.getElem?_map, List.getElem?_eq_getElem l2, hw3]
    rfl
  have hw4 : (0 : Int) < ws.length := by omega
  have hw5 : (ws.length : Int) < 1073741824 := by omega
  have m0 : 0 ≤ c / (ws.length : Int) := Int.ediv_nonneg h0 (by omega)
  generalize hm : c / (ws.length : Int) = m at m0
  have key : ∀ far : Int, 0 < far → far ≤ 60 → ∃ ks : List Int, eLc (iRange1 (eOp modD (eVar 7) (eC (.int 9)))) [10] (setN 10) cYes (eOp modD (eCall (F__law_cell) (aCons (eVar 0) (aCons (eOp addD (eOp addD (eVar 1) (eC (.int 17))) (eVar 10)) aNil))) (eVar 8))
      [some (.scr ns), some (.int k), some (.lst (ws.map .str)), some (.int b), some (.int z), some (.int c), some (.str w), some (.int m), some (.int far), none, none] = .ok (.lst (ks.map .int)) ∧ ks.length ≤ 8 ∧ ∀ k ∈ ks, 0 ≤ k ∧ k < 60 := fun far f0 f1 => by
    obtain ⟨ks, q1, q2, q3⟩ := eLc_enc (enc := D.int) (P := fun k => 0 ≤ k ∧ k < 60) (fi := iRange1 (eOp modD (eVar 7) (eC (.int 9)))) (vs := [10]) (i := 10) (ρ := [some (.scr ns), some (.int k), some (.lst (ws.map .str)), some (.int b), some (.int z), some (.int c), some (.str w), some (.int m), some (.int far), none, none]) (xs := rangeD 0 (m % 9).toNat)
      (fe := eOp modD (eCall (F__law_cell) (aCons (eVar 0) (aCons (eOp addD (eOp addD (eVar 1) (eC (.int 17))) (eVar 10)) aNil))) (eVar 8)) (by simp [rng1_ok (by omega : 0 ≤ m % 9) (by omega)]) (by simp; omega) fun x hx => by
        obtain ⟨j, hj, rfl⟩ := mem_range.mp hx
        obtain ⟨d, hd, _, _⟩ := cell_ok hn (by omega : 0 ≤ k + 17 + (j : Int))
        have a := Int.emod_nonneg d (b := far) (by omega)
        have a2 := Int.emod_lt_of_pos d f0
        exact ⟨d % far, by simp [wipeE, hd, f0], a, by omega⟩
    exact ⟨ks, q1, by simp at q2; omega, q3⟩
  by_cases e1 : w = w_num
  · rw [e1] at l3 mem
    rcases (by omega : m / 19 % 2 = 0 ∨ m / 19 % 2 = 1) with e | e
    · refine ⟨.num (m % 19 - 9), ?_, mem, by omega, by omega⟩
      simp [F__law_row, B__law_row, encR, hc, hy, l3, hw, hw4, hw5, hm, e, m_mul, m_fits]
    · refine ⟨.num (y % 2000000000001 - 1000000000000), ?_, mem, by omega, by omega⟩
      simp [F__law_row, B__law_row, encR, hc, hy, l3, hw, hw4, hw5, hm, e, m_mul, m_fits]
  by_cases e2 : w = w_get
  · rw [e2] at l3 mem
    by_cases e : m / 300 % 8 = 1
    · refine ⟨.get (m / 5 % 60), ?_, mem, by omega, by omega⟩
      simp [F__law_row, B__law_row, encR, hc, hy, l3, hw, hw4, hw5, hm, e]
    · refine ⟨.get (m % 5), ?_, mem, by omega, by omega⟩
      simp [F__law_row, B__law_row, encR, hc, hy, l3, hw, hw4, hw5, hm, e]
  by_cases e3 : w = w_fun
  · have bb := Int.emod_nonneg (m / 144) (b := b) (by omega)
    have bb2 := Int.emod_lt_of_pos (m / 144) hb
    rw [e3] at l3 mem key
    by_cases e : m / 9 % 16 = 1
    · obtain ⟨ks, k1, k2, k3⟩ := key 60 (by decide) (by decide)
      refine ⟨.fn (m / 144 % b) ks, ?_, mem, bb, bb2, k2, k3⟩
      simp [F__law_row, B__law_row, encR, hc, hy, l3, hw, hw4, hw5, hm, e, hb, k1]
    · obtain ⟨ks, k1, k2, k3⟩ := key 5 (by decide) (by decide)
      refine ⟨.fn (m / 144 % b) ks, ?_, mem, bb, bb2, k2, k3⟩
      simp [F__law_row, B__law_row, encR, hc, hy, l3, hw, hw4, hw5, hm, e, hb, k1]
  have zz := Int.emod_nonneg m (b := z + 1) (by omega)
  have zz2 := Int.emod_lt_of_pos m (b := z + 1) (by omega)
  have zp : 0 < z + 1 := by omega
  by_cases e4 : w = w_jump
  · rw [e4] at l3 mem
    refine ⟨.jump (m % (z + 1)), ?_, mem, zz, by omega⟩
    simp [F__law_row, B__law_row, encR, hc, hy, l3, hw, hw4, hw5, hm, zp]
  by_cases e5 : w = w_unless
  · rw [e5] at l3 mem
    refine ⟨.unless (m % (z + 1)), ?_, mem, zz, by omega⟩
    simp [F__law_row, B__law_row, encR, hc, hy, l3, hw, hw4, hw5, hm, zp]
  · refine ⟨.plain w, ?_, mem, e1, e2, e3, e4, e5⟩
    simp [F__law_row, B__law_row, encR, hc, hy, l3, hw, hw4, hw5, hm, zp, e1, e2, e3, e4, e5]
end

end Dn

namespace Dn
open PySem L2
def prBody : Env → R Fl := (sSeq (sAsg 6 [] (eOp modD (eCall (F__law_cell) (aCons (eVar 0) (aCons (eOp addD (eC (.int 20)) (eVar 5)) aNil))) (eC (.int 7)))) (sSeq (sIf (tB' (eOp eqD (eOp modD (eOp divD (eCall (F__law_cell) (aCons (eVar 0) (aCons (eOp addD (eC (.int 20)) (eVar 5)) aNil))) (eC (.int 7))) (eC (.int 32))) (eC (.int 1)))) (sAsg 6 [] (eC (.int 60))) sNext) (sSeq (sAsg 7 [] (eLc (iRange1 (eVar 6)) [8] (setN 8) cYes (eCall (F__law_row) (aCons (eVar 0) (aCons (eOp addD (eOp addD (eC (.int 1000)) (eOp mulD (eC (.int 61)) (eVar 5))) (eVar 8)) (aCons (eVar 1) (aCons (eVar 3) (aCons (eVar 6) aNil)))))))) (sApp 4 (eVar 7)))))
def prI (ns : List Int) (ws : List Str) (c m : Int) (k : Nat) (ρ : Env) : Prop := ∃ (p : Prog) (a x y z : Option D), ρ = [some (.scr ns), some (.lst (ws.map .str)), some (.int c), some (.int m), some (encPR p), a, x, y, z] ∧ p.length = k ∧ ∀ b ∈ p, okB ws m b
section
variable {ns : List Int} (hn : ns.length ≤ 63)
include hn
theorem prog_step {ws : List Str} (hw : 0 < ws.length) (hw2 : ws.length ≤ 100) {c m : Int} (hm : 0 < m) (hm2 : m ≤ 20) (j : Nat) (x : D) (ρ : Env) (hI : prI ns ws c m j ρ) (hx : (rangeD 0 m.toNat)[j]? = some x) :
    ∃ ρ1 ρ2, setN 5 x ρ = .ok ρ1 ∧ prBody ρ1 = .ok (.nx ρ2) ∧ prI ns ws c m (j + 1) ρ2 := by
  obtain ⟨p, a, x', y, z, rfl, q1, q2⟩ := hI
  have hj : j < m.toNat := by
    have := (List.getElem?_eq_some_iff.mp hx).1
    simpa using this
  obtain rfl : x = .int (0 + (j : Int)) := by
    unfold rangeD at hx
    rw [List.getElem?_map, List.getElem?_range hj] at hx
    exact (Option.some.inj hx).symm
  obtain ⟨d, hd, d0, d1⟩ := cell_ok hn (by omega : (0 : Int) ≤ 20 + (j : Int))
  have lt : (p.map fun b => D.lst (b.map encR)).length < most := by
    rw [List.length_map, q1]
    unfold most
    omega
  have key : ∀ sz : Int, 0 ≤ sz → sz ≤ 60 → ∃ b : List Row, eLc (iRange1 (eVar 6)) [8] (setN 8) cYes (eCall (F__law_row) (aCons (eVar 0) (aCons (eOp addD (eOp addD (eC (.int 1000)) (eOp mulD (eC (.int 61)) (eVar 5))) (eVar 8)) (aCons (eVar 1) (aCons (eVar 3) (aCons (eVar 6) aNil)))))) [some (.scr ns), some (.lst (ws.map .str)), some (.int c), some (.int m), some (encPR p), some (.int (j : Int)), some (.int sz), y, z] = .ok (.lst (b.map encR)) ∧ okB ws m b := fun sz s0 s1 => by
    obtain ⟨b, k1, k2, k3⟩ := eLc_enc (enc := encR) (P := okR ws m sz) (fi := iRange1 (eVar 6)) (vs := [8]) (i := 8) (ρ := [some (.scr ns), some (.lst (ws.map .str)), some (.int c), some (.int m), some (encPR p), some (.int (j : Int)), some (.int sz), y, z]) (xs := rangeD 0 sz.toNat)
      (fe := eCall (F__law_row) (aCons (eVar 0) (aCons (eOp addD (eOp addD (eC (.int 1000)) (eOp mulD (eC (.int 61)) (eVar 5))) (eVar 8)) (aCons (eVar 1) (aCons (eVar 3) (aCons (eVar 6) aNil)))))) (by simp [rng1_ok s0 (by omega)]) (by simp; omega) fun x hx => by
        obtain ⟨i, hi, rfl⟩ := mem_range.mp hx
        obtain ⟨r, hr, hr2⟩ := row_ok hn hw hw2 (by omega : 0 ≤ 1000 + 61 * (j : Int) + (i : Int)) hm s0
        exact ⟨r, by simp [wipeE, m_mulL, m_fits, hr], hr2⟩
    have k4 : b.length = sz.toNat := by simpa using k2
    have k5 : (b.length : Int) = sz := by omega
    exact ⟨b, k1, by omega, by rw [k5]; exact k3⟩
  have fin : ∀ b : List Row, okB ws m b → encPR (p ++ [b]) = .lst ((p.map fun b => D.lst (b.map encR)) ++ [.lst (b.map encR)]) ∧ (p ++ [b]).length = j + 1 ∧ ∀ b' ∈ p ++ [b], okB ws m b' := fun b hb => by
    refine ⟨by simp [encPR, encP, Function.comp_def], by simp [q1], fun b' h => ?_⟩
    rcases List.mem_append.mp h with h | h
    · exact q2 b' h
    · rw [List.mem_singleton.mp h]; exact hb
  have ep : encPR p = .lst (p.map fun b => D.lst (b.map encR)) := by simp [encPR, encP, Function.comp_def]
  by_cases h : d / 7 % 32 = 1
  · obtain ⟨b, b1, b2⟩ := key 60 (by decide) (by decide)
    obtain ⟨f1, f2, f3⟩ := fin b b2
    refine ⟨_, [some (.scr ns), some (.lst (ws.map .str)), some (.int c), some (.int m), some (encPR (p ++ [b])), some (.int (j : Int)), some (.int 60), some (.lst (b.map encR)), z], rfl, ?_, p ++ [b], _, _, _, _, rfl, f2, f3⟩
    rw [ep] at b1 ⊢
    rw [f1]
    simp [prBody, hd, h, b1, m_appK _ _ _ _ lt]
  · obtain ⟨b, b1, b2⟩ := key (d % 7) (by omega) (by omega)
    obtain ⟨f1, f2, f3⟩ := fin b b2
    refine ⟨_, [some (.scr ns), some (.lst (ws.map .str)), some (.int c), some (.int m), some (encPR (p ++ [b])), some (.int (j : Int)), some (.int (d % 7)), some (.lst (b.map encR)), z], rfl, ?_, p ++ [b], _, _, _, _, rfl, f2, f3⟩
    rw [ep] at b1 ⊢
    rw [f1]
    simp [prBody, hd, h, b1, m_appK _ _ _ _ lt]
theorem program_ok {ws : List Str} (hw : 0 < ws.length) (hw2 : ws.length ≤ 100) : ∃ p : Prog, F__law_program [.scr ns, .lst (ws.map .str)] = .ok (encPR p) ∧ 0 < p.length ∧ p.length ≤ 20 ∧ ∀ b ∈ p, okB ws p.length b := by
  obtain ⟨c, hc, h0, h1⟩ := cell_ok hn (by decide : (0 : Int) ≤ 0)
  have key : ∀ m : Int, 0 < m → m ≤ 20 → ∃ ρ' p a x y z, forD (setN 5) prBody (rangeD 0 m.toNat) [some (.scr ns), some (.lst (ws.map .str)), some (.int c), some (.int m), some (.lst []), none, none, none, none] = .ok (.nx ρ') ∧
      ρ' = [some (.scr ns), some (.lst (ws.map .str)), some (.int c), some (.int m), some (encPR p), a, x, y, z] ∧ p.length = m.toNat ∧ ∀ b ∈ p, okB ws m b := fun m hm hm2 => by
    obtain ⟨ρ', k1, k2⟩ := forD_inv (set := setN 5) (body := prBody) (prI ns ws c m) (xs := rangeD 0 m.toNat) (ρ := [some (.scr ns), some (.lst (ws.map .str)), some (.int c), some (.int m), some (.lst []), none, none, none, none]) (k := 0) ⟨[], none, none, none, none, rfl, rfl, fun _ h => by simp at h⟩ fun j x ρ q1 q2 => by
      rw [Nat.zero_add] at q1 ⊢
      exact prog_step hn hw hw2 hm hm2 j x ρ q1 q2
    rw [len_range, Nat.zero_add] at k2
    obtain ⟨p, a, x, y, z, e1, e2, e3⟩ := k2
    exact ⟨ρ', p, a, x, y, z, k1, e1, e2, e3⟩
  by_cases h : c / 3 % 16 = 1
  · obtain ⟨ρ', p, a, x, y, z, k1, e1, e2, e3⟩ := key 20 (by decide) (by decide)
    have e4 : (p.length : Int) = 20 := by omega
    refine ⟨p, ?_, by omega, by omega, by rw [e4]; exact e3⟩
    subst e1
    unfold prBody at k1
    rw [show Int.toNat 20 = 20 from rfl] at k1
    simp [F__law_program, B__law_program, hc, h, rng1_ok (by decide : (0 : Int) ≤ 20) (by decide), k1]
  · obtain ⟨ρ', p, a, x, y, z, k1, e1, e2, e3⟩ := key (1 + c % 3) (by omega) (by omega)
    have e4 : (p.length : Int) = 1 + c % 3 := by omega
    refine ⟨p, ?_, by omega, by omega, by rw [e4]; exact e3⟩
    subst e1
    unfold prBody at k1
    simp [F__law_program, B__law_program, hc, h, rng1_ok (by omega : (0 : Int) ≤ 1 + c % 3) (by omega), k1]
end

end Dn

namespace Dn
open PySem L2
theorem whole_ok (i : Int) : F__law_whole [.int i] = .ok (.bl true) := by
  simp [F__law_whole, B__law_whole]
theorem alike_items {n : Nat} {xs : List D} {d : D} (hd : d = .tup xs ∨ d = .lst xs) (hl : xs.length ≤ 1000000) (h : ∀ x ∈ xs, F__law_alike n [x, x] = .ok (.bl true)) :
    eLc (iRange1 (eCall lenD (aCons (eVar 1) aNil))) [2] (setN 2) cYes (eCall (F__law_alike n) (aCons (eOp ixD (eVar 0) (eVar 2)) (aCons (eOp ixD (eVar 1) (eVar 2)) aNil))) [some d, some d, none] = .ok (.lst ((rangeD 0 xs.length).map fun _ => .bl true)) := by
  have e : lenD [d] = .ok (.int xs.length) := by rcases hd with rfl | rfl <;> simp
  have r : rng1 (.int (xs.length : Int)) = .ok (rangeD 0 xs.length) := rng1_ok (by omega) (by omega)
  refine eLc_map (xs := rangeD 0 xs.length) (by simp [e, r]) (by simpa using hl) fun x hx => ?_
  obtain ⟨j, hj, rfl⟩ := mem_range.mp hx
  have a : atI xs (j : Int) = some xs[j] := by
    rw [atI_pos (by omega) (by omega), Int.toNat_natCast, List.getElem?_eq_getElem hj]
  have b : ixD d (.int (j : Int)) = .ok xs[j] := by rcases hd with rfl | rfl <;> simp [a]
  simp [wipeE, b, h _ (List.getElem_mem hj)]
theorem alike_self : ∀ (n : Nat) (d : D), sh n d = true → F__law_alike (n + 1) [d, d] = .ok (.bl true)
  | n, .non, _ => by simp [F__law_alike, B__law_alike]
  | n, .int i, _ => by simp [F__law_alike, B__law_alike, whole_ok]
  | n, .str s, _ => by simp [F__law_alike, B__law_alike]
  | n + 1, .tup xs, h => by
    obtain ⟨h1, h2⟩ := sh_tup.mp h
    have k := alike_items (n := n + 1) (.inl rfl) h1 fun x hx => alike_self n x (h2 x hx)
    show fnD 3 (B__law_alike (F__law_alike (n + 1))) _ = _
    generalize F__law_alike (n + 1) = G at k ⊢
    simp [B__law_alike, k, all_true]
  | n + 1, .lst xs, h => by
    obtain ⟨h1, h2⟩ := sh_lst.mp h
    have k := alike_items (n := n + 1) (.inr rfl) h1 fun x hx => alike_self n x (h2 x hx)
    show fnD 3 (B__law_alike (F__law_alike (n + 1))) _ = _
    generalize F__law_alike (n + 1) = G at k ⊢
    simp [B__law_alike, k, all_true]
  | 0, .tup _, h => by simp [sh] at h
  | 0, .lst _, h => by simp [sh] at h
  | n, .bl _, h => by simp [sh] at h
  | n, .dic _, h => by simp [sh] at h
  | n, .scr _, h => by simp [sh] at h
def stBody : Env → R Fl := (sSeq (sIf (eOrT (eNotT (tB' (eCall (F__law_whole) (aCons (eVar 2) aNil)))) (tB' (eOp notInD (eVar 2) (eVar 1)))) (sRet [] (eC (.bl false))) sNext) (sIf (eNotT (tB' (eCall (F__law_alike 7) (aCons (eOp ixD (eVar 0) (eVar 2)) (aCons (eOp ixD (eVar 1) (eVar 2)) aNil))))) (sRet [] (eC (.bl false))) sNext))
theorem things_self {ts : List (Int × Thing)} (nd : (ts.map (·.1)).Nodup) (h : ∀ t ∈ ts, sh 6 (encT t.2) = true) : F__law_same_things [encTs ts, encTs ts] = .ok (.bl true) := by
  obtain ⟨ρ', h1, h2⟩ := forD_inv (set := setN 2) (body := stBody) (fun _ ρ => ∃ y, ρ = [some (encTs ts), some (encTs ts), y]) (xs := ts.map fun t => D.int t.1) (ρ := [some (encTs ts), some (encTs ts), none]) (k := 0) ⟨_, rfl⟩ fun j x ρ q1 q2 => by
    obtain ⟨y, rfl⟩ := q1
    have hx := List.mem_of_getElem? q2
    obtain ⟨t, ht, rfl⟩ := List.mem_map.mp hx
    obtain ⟨n, t⟩ := t
    have v := val_at nd ht
    have i0 : inD (.int n) (encTs ts) = .ok (.bl true) := by
      show R.ok (D.bl (valK (ts.map fun t => ((Sum.inl t.1 : L2.Key), encT t.2)) (.inl n)).isSome) = _
      rw [v]
      rfl
    have i2 : ixD (encTs ts) (.int n) = .ok (encT t) := by
      show (match valK (ts.map fun t => ((Sum.inl t.1 : L2.Key), encT t.2)) (.inl n) with
        | some d => R.ok d
        | none => .no) = _
      rw [v]
    exact ⟨_, [some (encTs ts), some (encTs ts), some (.int n)], rfl, by simp [stBody, whole_ok, i0, i2, alike_self 6 _ (h _ ht)], _, rfl⟩
  obtain ⟨y, rfl⟩ := h2
  have e1 : listD [encTs ts] = .ok (.lst (ts.map fun t => D.int t.1)) := by
    show R.ok (D.lst ((ts.map fun t => ((Sum.inl t.1 : L2.Key), encT t.2)).map fun kv => dKey kv.1)) = _
    rw [List.map_map]
    rfl
  have e2 : lenD [encTs ts] = .ok (.int ((ts.length : Nat) : Int)) := by
    show R.ok (D.int (((ts.map fun t => ((Sum.inl t.1 : L2.Key), encT t.2)).length : Nat) : Int)) = _
    rw [List.length_map]
  have e3 : isiB "dict" (encTs ts) = true := i_d1 _
  unfold stBody at h1
  simp [F__law_same_things, B__law_same_things, e1, e2, e3, h1]
theorem state_self {e : D} {fs : List D} {ts : List (Int × Thing)} (he : sh 6 e = true) (hf : sh 6 (.lst fs) = true) (nd : (ts.map (·.1)).Nodup) (h : ∀ t ∈ ts, sh 6 (encT t.2) = true) :
    F__law_same_state [.tup [e, .lst fs, encTs ts], .tup [e, .lst fs, encTs ts]] = .ok (.bl true) := by
  simp [F__law_same_state, B__law_same_state, alike_self 6 _ he, alike_self 6 _ hf, things_self nd h]
end Dn

namespace Dn
open PySem L2
/-! ### the drawn state, at its end or not -/
def allW : List Str := [w_num, w_get, w_keep, w_drop, w_add, w_minus, w_times, w_less, w_same, w_box, w_open, w_fill, w_fun, w_call, w_back, w_jump, w_unless, w_say]
theorem words_ok : F__law_words [] = .ok (.lst (allW.map .str)) := by
  have c : addD (.lst [.str w_num, .str w_get, .str w_keep, .str w_drop, .str w_add, .str w_minus, .str w_times, .str w_less, .str w_same, .str w_box, .str w_open, .str w_fill, .str w_fun]) (.lst [.str w_call, .str w_back, .str w_jump, .str w_unless, .str w_say]) = .ok (.lst (allW.map .str)) := m_catL _ _ (by show 18 ≤ 16777216; decide)
  generalize allW.map D.str = W at *
  simp [F__law_words, B__law_words, c]
theorem strW {w : Str} (h : w ∈ allW) : PyData.strOk w = true := by
  simp only [allW, List.mem_cons, List.not_mem_nil, or_false] at h
  rcases h with rfl | rfl | rfl | rfl | rfl | rfl | rfl | rfl | rfl | rfl | rfl | rfl | rfl | rfl | rfl | rfl | rfl | rfl <;> decide +kernel
section
variable {ns : List Int} (hn : ns.length ≤ 63)
include hn
theorem prog_all : ∃ p : Prog, F__law_program [.scr ns, .lst (allW.map .str)] = .ok (encPR p) ∧ 0 < p.length ∧ p.length ≤ 20 ∧ ∀ b ∈ p, okB allW p.length b := program_ok hn (ws := allW) (by decide) (by decide)
theorem state_all {p : Prog} (p2 : 0 < p.length) (p3 : p.length ≤ 20) : ∃ s : Sta, F__law_state [.scr ns, encPR p] = .ok (encS s) ∧ s.en = .run ∧ okA 130 p s := by
  obtain ⟨fs, ts, s1, s2, s3, s4, s5, s6, s7, s8⟩ := state_ok hn (prog := p.map fun b => b.map encR) (by simpa using p2) (by simpa using p3)
  exact ⟨⟨.run, fs, ts⟩, s1, rfl, s3, fun g hg => okF_G (s7 g hg), ⟨s5, s6, s4, fun t ht => by simpa using s8 t ht⟩, fun v h => (by cases h), fun w h => (by cases h), by
    show fs = [] ↔ ∃ v, End.run = .done v
    constructor
    · rintro rfl
      simp at s2
    · rintro ⟨v, h⟩
      cases h⟩
theorem ended_ok {p : Prog} {s : Sta} (o : okA 130 p s) (hr : s.en = .run) : ∃ s' : Sta, F__law_ended [.scr ns, encS s] = .ok (encS s') ∧ okA 130 p s' := by
  obtain ⟨c, hc, h0, h1⟩ := cell_ok hn (by decide : (0 : Int) ≤ 12)
  have tl := o.h.tl
  obtain ⟨v, hv, v1⟩ := value_ok hn (by decide : (0 : Int) ≤ 13) (s.ts.map (·.1)) (by rw [List.length_map]; omega)
  have kk := keys_of s.ts
  have e0 : encS s = .tup [.non, .lst (s.fs.map encF), encTs s.ts] := by unfold encS; rw [hr]; rfl
  by_cases h2 : c % 4 = 1
  · refine ⟨⟨.done v, [], s.ts⟩, ?_, by simp, by simp, o.h, fun u h => (by cases h; exact v1), fun w h => (by cases h), by simp⟩
    rw [e0]
    show _ = R.ok (D.tup [.tup [.str w_done, encV v], .lst [], encTs s.ts])
    generalize encTs s.ts = T at *
    generalize (s.ts.map (·.1)).map D.int = NN at *
    generalize encV v = vv at *
    simp [F__law_ended, B__law_ended, hc, h2, kk, hv]
  by_cases h3 : c % 4 = 2
  · have st : ∃ w, w ∈ stuckW ∧ F__law_ended [.scr ns, encS s] = .ok (encS ⟨.stuck w, s.fs, s.ts⟩) := by
      rw [e0]
      show ∃ w, w ∈ stuckW ∧ _ = R.ok (D.tup [.tup [.str w_stuck, .str w], .lst (s.fs.map encF), encTs s.ts])
      generalize encTs s.ts = T at *
      rcases (by omega : c / 4 % 7 = 0 ∨ c / 4 % 7 = 1 ∨ c / 4 % 7 = 2 ∨ c / 4 % 7 = 3 ∨ c / 4 % 7 = 4 ∨ c / 4 % 7 = 5 ∨ c / 4 % 7 = 6) with h | h | h | h | h | h | h
      · exact ⟨w_end, by simp [stuckW], by simp [F__law_ended, B__law_ended, hc, h2, h3, h, atI, ixN]⟩
      · exact ⟨w_empty, by simp [stuckW], by simp [F__law_ended, B__law_ended, hc, h2, h3, h, atI, ixN]⟩
      · exact ⟨w_own, by simp [stuckW], by simp [F__law_ended, B__law_ended, hc, h2, h3, h, atI, ixN]⟩
      · exact ⟨w_kind, by simp [stuckW], by simp [F__law_ended, B__law_ended, hc, h2, h3, h, atI, ixN]⟩
      · exact ⟨w_great, by simp [stuckW], by simp [F__law_ended, B__law_ended, hc, h2, h3, h, atI, ixN]⟩
      · exact ⟨w_deep, by simp [stuckW], by simp [F__law_ended, B__law_ended, hc, h2, h3, h, atI, ixN]⟩
      · exact ⟨w_full, by simp [stuckW], by simp [F__law_ended, B__law_ended, hc, h2, h3, h, atI, ixN]⟩
    obtain ⟨w, hw, e⟩ := st
    exact ⟨⟨.stuck w, s.fs, s.ts⟩, e, o.fl, o.fr, o.h, fun u h => (by cases h), fun w' h => (by cases h; exact hw), by
      show s.fs = [] ↔ ∃ v, End.stuck w = .done v
      constructor
      · intro h
        obtain ⟨v, h⟩ := o.dn.mp h
        rw [hr] at h
        cases h
      · rintro ⟨v, h⟩
        cases h⟩
  · refine ⟨s, ?_, o⟩
    generalize encS s = S at *
    simp [F__law_ended, B__law_ended, hc, h2, h3]
end
theorem copy_ok (s : Sta) : F__law_copy [encS s] = .ok (encS s) := by
  have ds := dict_of s.ts
  unfold encS
  generalize encE s.en = E at *
  generalize encTs s.ts = T at *
  simp [F__law_copy, B__law_copy, ds]
theorem sh_end {e : End} : sh 6 (encE e) = true := by
  cases e with
  | run => rfl
  | done v => exact sh_tup.mpr ⟨by show 2 ≤ 1000000; decide, fun x hx => by
      rcases List.mem_cons.mp hx with rfl | hx
      · rfl
      · rw [List.mem_singleton.mp hx]; exact sh_val 4 v⟩
  | stuck w => exact sh_tup.mpr ⟨by show 2 ≤ 1000000; decide, fun x hx => by
      rcases List.mem_cons.mp hx with rfl | hx
      · rfl
      · rw [List.mem_singleton.mp hx]; rfl⟩
theorem same_state_ok {k : Nat} {p : Prog} {s : Sta} (o : okA k p s) : F__law_same_state [encS s, encS s] = .ok (.bl true) :=
  state_self sh_end (sh_frames (by have := o.fl; omega) fun g hg => by have := (o.fr g hg).ol; have := (o.fr g hg).sl; omega) o.h.nd fun t ht => sh_thing (o.h.th t ht)
end Dn

namespace Dn
open PySem L2
/-! ### a program that every state of these laws fits -/
def bigP (n : Nat) : Prog := List.replicate n (List.replicate n (.plain w_add))
theorem bigP_len (n : Nat) : (bigP n).length = n := List.length_replicate
theorem bigP_at {n b : Nat} (h : b < n) : ((bigP n).getD b []).length = n := by
  rw [List.getD_eq_getElem?_getD, List.getElem?_eq_getElem (by rw [bigP_len]; exact h)]
  unfold bigP
  rw [List.getElem_replicate, Option.getD_some, List.length_replicate]
def P0 : Prog := bigP 1000
theorem P0_len : P0.length = 1000 := bigP_len 1000
theorem P0_at {b : Nat} (h : b < 1000) : (P0.getD b []).length = 1000 := bigP_at h
theorem okA_P0 {k : Nat} {p : Prog} {s : Sta} (o : okA k p s) (hp : p.length ≤ 1000) (hb : ∀ b ∈ p, b.length ≤ 1000) : okA k P0 s := by
  refine ⟨o.fl, fun g hg => ?_, ⟨o.h.nd, o.h.ge, o.h.tl, fun t ht => ?_⟩, o.en, o.st, o.dn⟩
  · have q := o.fr g hg
    have b0 := q.b0
    have b1 := q.b1
    have p1 := q.p1
    refine ⟨q.b0, by rw [P0_len]; omega, q.p0, ?_, q.ol, q.sl, q.ov, q.sv⟩
    rw [P0_at (by omega)]
    have h2 : g.body.toNat < p.length := by omega
    have := hb _ (List.getElem_mem h2)
    rw [List.getD_eq_getElem?_getD, List.getElem?_eq_getElem h2, Option.getD_some] at p1
    omega
  · have q := o.h.th t ht
    cases e : t.2 with
    | box v => rw [e] at q; exact q
    | fn b vs =>
      rw [e] at q
      exact ⟨q.1, by have := q.2.1; rw [P0_len]; omega, q.2.2.1, q.2.2.2⟩
/-! ### numbers all apart -/
theorem met_full {ns : List Int} : ∀ i, i ≤ ns.length → (PyProof.Rows.firstMet (fun i => ns.getD i 0) i).length = i → (ns.take i).Nodup
  | 0, _, _ => by simp
  | i + 1, hi, h => by
    have hlt : i < ns.length := hi
    have le := PyProof.Rows.firstMet_length_le (fun i => ns.getD i 0) i
    have e1 : ns.getD i 0 = ns[i] := by rw [List.getD_eq_getElem?_getD, List.getElem?_eq_getElem hlt]; rfl
    rw [PyProof.Rows.firstMet_succ] at h
    have sd : PyProof.Rows.step_dedup (PyProof.Rows.firstMet (fun i => ns.getD i 0) i) (ns.getD i 0) = (if (PyProof.Rows.firstMet (fun i => ns.getD i 0) i).any (· == ns.getD i 0) then PyProof.Rows.firstMet (fun i => ns.getD i 0) i else PyProof.Rows.firstMet (fun i => ns.getD i 0) i ++ [ns.getD i 0]) := rfl
    rw [sd] at h
    by_cases c : (PyProof.Rows.firstMet (fun i => ns.getD i 0) i).any (· == ns.getD i 0) = true
    · rw [if_pos c] at h
      omega
    · rw [if_neg c, List.length_append, List.length_singleton] at h
      have ih := met_full (ns := ns) i (by omega) (by omega)
      have c2 := PyProof.Rows.firstMet_any (fun i => ns.getD i 0) i (ns.getD i 0)
      rw [Bool.not_eq_true] at c
      rw [c] at c2
      rw [List.take_succ_eq_append_getElem hlt, List.nodup_append]
      refine ⟨ih, by simp, fun x hx y hy e => ?_⟩
      rw [List.mem_singleton] at hy
      subst hy
      subst e
      have : ((List.range i).map fun i => ns.getD i 0).any (· == ns.getD i 0) = true := by
        obtain ⟨j, hj, ej⟩ := List.mem_take_iff_getElem.mp hx
        refine List.any_eq_true.mpr ⟨ns.getD j 0, List.mem_map.mpr ⟨j, List.mem_range.mpr (by omega), rfl⟩, ?_⟩
        have hj2 : j < ns.length := by omega
        rw [List.getD_eq_getElem?_getD, List.getElem?_eq_getElem hj2, e1]
        simpa using ej
      rw [this] at c2
      cases c2
theorem met_nodup {ns : List Int} (h : (metZ ns).length = ns.length) : ns.Nodup := by
  have := met_full ns.length (Nat.le_refl _) h
  rwa [List.take_length] at this
theorem lenSet_ok {ns : List Int} (h : ns.length ≤ 4000) : lenSetD (.lst (ns.map .int)) = .ok (.int ((metZ ns).length : Nat)) := by
  show (match intsD (ns.map D.int) with
    | some ns => if ns.length ≤ 4000 then R.ok (D.int ((metZ ns).length : Nat)) else .no
    | none => .no) = _
  rw [ints_of]
  exact if_pos h
theorem met_le (ns : List Int) : (metZ ns).length ≤ ns.length := PyProof.Rows.firstMet_length_le _ _
theorem sorted_ok (N : List Int) : sortedD [.lst (N.map .int)] = .ok (.lst ((sortZ N).map .int)) := by
  show (match intsD (N.map D.int) with
    | some ns => R.ok (D.lst ((sortZ ns).map .int))
    | none => .no) = _
  rw [ints_of]
theorem vals_nm (nm : List (Int × Int)) : valsD (encNm nm) = .ok (.lst ((nm.map (·.2)).map .int)) := by
  show R.ok (D.lst ((nm.map fun q => ((Sum.inl q.1 : L2.Key), D.int q.2)).map (·.2))) = _
  rw [List.map_map, List.map_map]
  rfl
theorem keys_nm (nm : List (Int × Int)) : listD [encNm nm] = .ok (.lst ((nm.map (·.1)).map .int)) := by
  show R.ok (D.lst ((nm.map fun q => ((Sum.inl q.1 : L2.Key), D.int q.2)).map fun kv => dKey kv.1)) = _
  rw [List.map_map, List.map_map]
  rfl
/-- dict([(k, v), ..]) -/
theorem dict_pairs {nm : List (Int × Int)} (nd : (nm.map (·.1)).Nodup) : dictD [.lst (nm.map fun q => .tup [.int q.1, .int q.2])] = .ok (encNm nm) := by
  have e1 : ∀ nm : List (Int × Int), pairsD (nm.map fun q => .tup [.int q.1, .int q.2]) = some (nm.map fun q => ((Sum.inl q.1 : L2.Key), D.int q.2)) := fun nm => by
    induction nm with
    | nil => rfl
    | cons q nm ih =>
      show (match keyD (.int q.1), pairsD (nm.map fun q => .tup [.int q.1, .int q.2]) with
        | some k, some es => some ((k, D.int q.2) :: es)
        | _, _ => none) = _
      rw [ih]
      rfl
  show (match pairsD (nm.map fun q => .tup [.int q.1, .int q.2]) with
    | some es => R.ok (D.dic (es.foldl (fun (acc : List (L2.Key × D)) (kv : L2.Key × D) => putD acc kv.1 kv.2) []))
    | none => .no) = _
  rw [e1]
  have e2 : ∀ (a nm : List (Int × Int)), ((a ++ nm).map (·.1)).Nodup → (nm.map fun q => ((Sum.inl q.1 : L2.Key), D.int q.2)).foldl (fun acc kv => putD acc kv.1 kv.2) (a.map fun q => ((Sum.inl q.1 : L2.Key), D.int q.2)) = ((a ++ nm).map fun q => ((Sum.inl q.1 : L2.Key), D.int q.2)) := fun a nm => by
    induction nm generalizing a with
    | nil => intro _; simp
    | cons q nm ih =>
      intro nd
      have e3 : putD (a.map fun q => ((Sum.inl q.1 : L2.Key), D.int q.2)) (.inl q.1) (.int q.2) = ((a ++ [q]).map fun q => ((Sum.inl q.1 : L2.Key), D.int q.2)) := by
        unfold putD
        rw [if_neg, List.map_append]
        · rfl
        · rw [List.any_map]
          intro h
          obtain ⟨x, hx, e⟩ := List.any_eq_true.mp h
          have e := of_decide_eq_true e
          injection e with e
          rw [List.map_append, List.nodup_append] at nd
          exact nd.2.2 x.1 (List.mem_map.mpr ⟨x, hx, rfl⟩) q.1 (by simp) e
      rw [List.map_cons, List.foldl_cons, e3, ih (a ++ [q]) (by simpa using nd)]
      simp
  have := e2 [] nm (by simpa using nd)
  rw [List.map_nil] at this
  show R.ok (D.dic _) = _
  rw [this]
  rfl
/-! ### _law_named -/
def ndB1 : Env → R Fl := (sSeq (sAsg 6 [] (eOp modD (eOp addD (eOp mulD (eVar 5) (eOp ixD (eLst (aCons (eC (.int 1)) (aCons (eC (.int 5)) (aCons (eC (.int 11)) aNil)))) (eOp modD (eVar 2) (eC (.int 3))))) (eOp divD (eVar 2) (eC (.int 3)))) (eCall max2D (aCons (eC (.int 1)) (aCons (eCall lenD (aCons (eVar 3) aNil)) aNil))))) (sPut 4 (eOp ixD (eVar 3) (eVar 5)) (eOp addD (eOp modD (eOp divD (eVar 2) (eC (.int 300))) (eC (.int 7))) (eOp mulD (eVar 6) (eOp addD (eC (.int 1)) (eOp modD (eOp divD (eVar 2) (eC (.int 30))) (eC (.int 4))))))))
theorem nd_loop1 {N : List Int} (nd : N.Nodup) (hl : N.length ≤ 900) {c : Int} (hc : 0 ≤ c) {a b x6 : Option D} {r : List (Option D)} :
    ∃ vs : List Int, vs.length = N.length ∧ (∀ v ∈ vs, 0 ≤ v) ∧ ∃ y z, forD (setN 5) ndB1 (rangeD 0 N.length) (a :: b :: some (.int c) :: some (.lst (N.map .int)) :: some (.dic []) :: none :: x6 :: r) = .ok (.nx (a :: b :: some (.int c) :: some (.lst (N.map .int)) :: some (encNm (N.zip vs)) :: y :: z :: r)) := by
  obtain ⟨ρ', h1, h2⟩ := forD_inv (set := setN 5) (body := ndB1) (fun k ρ => ∃ vs : List Int, vs.length = k ∧ (∀ v ∈ vs, 0 ≤ v) ∧ ∃ y z, ρ = a :: b :: some (.int c) :: some (.lst (N.map .int)) :: some (encNm (N.zip vs)) :: y :: z :: r) (xs := rangeD 0 N.length) (ρ := a :: b :: some (.int c) :: some (.lst (N.map .int)) :: some (.dic []) :: none :: x6 :: r) (k := 0) ⟨[], rfl, fun v hv => (by cases hv), none, x6, by rw [List.zip_nil_right]; rfl⟩ fun j x ρ q1 q2 => by
    rw [Nat.zero_add] at q1 ⊢
    obtain ⟨vs, v1, v2, y, z, rfl⟩ := q1
    have hj : j < N.length := by
      have := (List.getElem?_eq_some_iff.mp q2).1
      simpa using this
    obtain rfl : x = .int (0 + (j : Int)) := by
      unfold rangeD at q2
      rw [List.getElem?_map, List.getElem?_range hj] at q2
      exact (Option.some.inj q2).symm
    have zk : (N.zip vs).map (·.1) = N.take j := by
      rw [List.zip_eq_zip_take_min, v1, Nat.min_eq_right (by omega), List.map_fst_zip (by rw [List.length_take, List.length_take]; omega)]
    have new : N[j] ∉ (N.zip vs).map (·.1) := fun q => by
      rw [zk] at q
      obtain ⟨i, hi, e⟩ := List.mem_take_iff_getElem.mp q
      exact absurd e (List.pairwise_iff_getElem.mp nd i j (by omega) hj (by omega))
    have hz : (N.zip vs).length ≤ 1000000 := by rw [List.length_zip]; omega
    have zz : ∀ m, N.zip vs ++ [(N[j], m)] = N.zip (vs ++ [m]) := fun m => by
      have e : N = N.take j ++ (N[j] :: N.drop (j + 1)) := by rw [← List.drop_eq_getElem_cons hj, List.take_append_drop]
      have e2 : N.zip (vs ++ [m]) = (N.take j).zip vs ++ [(N[j], m)] := by
        conv => lhs; rw [e]
        rw [List.zip_append (by rw [List.length_take]; omega), List.zip_cons_cons, List.zip_nil_right]
      have e3 : N.zip vs = (N.take j).zip vs := by
        conv => lhs; rw [e]
        have := @List.zip_append _ _ (N.take j) (N[j] :: N.drop (j + 1)) vs [] (by rw [List.length_take]; omega)
        rw [List.append_nil] at this
        rw [this, List.zip_nil_right, List.append_nil]
      rw [e2, e3]
    have at0 : atI (N.map D.int) (j : Int) = some (.int N[j]) := by
      rw [atI_pos (by omega) (by rw [List.length_map]; omega), Int.toNat_natCast, List.getElem?_map, List.getElem?_eq_getElem hj]
      rfl
    have key : ∀ st : Int, ixD (.lst [.int 1, .int 5, .int 11]) (.int (c % 3)) = .ok (.int st) → 0 ≤ st → st ≤ 11 → ∃ m : Int, 0 ≤ m ∧ ∃ z2, ndB1 (a :: b :: some (.int c) :: some (.lst (N.map .int)) :: some (encNm (N.zip vs)) :: some (.int (j : Int)) :: z :: r) = .ok (.nx (a :: b :: some (.int c) :: some (.lst (N.map .int)) :: some (encNm (N.zip vs ++ [(N[j], m)])) :: some (.int (j : Int)) :: z2 :: r)) := fun st h1 h2 h3 => by
      have M0 : ∀ Mx : Int, Mx = (if (N.length : Int) > 1 then (N.length : Int) else 1) → 0 < Mx ∧ Mx ≤ 900 := fun Mx e => by subst e; split <;> omega
      have ml : lenD [.lst (N.map D.int)] = .ok (.int (N.length : Int)) := by rw [m_lenL, List.length_map]
      have mx := m_max2 1 (N.length : Int)
      generalize hM : (if (N.length : Int) > 1 then (N.length : Int) else 1) = Mx at mx
      obtain ⟨m0, m1⟩ := M0 Mx hM.symm
      have pl0 := Int.emod_nonneg ((j : Int) * st + c / 3) (b := Mx) (by omega)
      have pl1 := Int.emod_lt_of_pos ((j : Int) * st + c / 3) m0
      have f1 : fits64 (j : Int) = true := m_fits _ (by omega) (by omega)
      have f2 : fits64 (((j : Int) * st + c / 3) % Mx) = true := m_fits _ (by omega) (by omega)
      have u0 := Int.emod_nonneg (c / 30) (b := 4) (by decide)
      have u1 := Int.emod_nonneg (c / 300) (b := 7) (by decide)
      have nn : 0 ≤ ((j : Int) * st + c / 3) % Mx * (1 + c / 30 % 4) := Int.mul_nonneg pl0 (by omega)
      refine ⟨c / 300 % 7 + ((j : Int) * st + c / 3) % Mx * (1 + c / 30 % 4), by omega, some (.int (((j : Int) * st + c / 3) % Mx)), ?_⟩
      have st' := nm_store (m := c / 300 % 7 + ((j : Int) * st + c / 3) % Mx * (1 + c / 30 % 4)) new hz
      rw [m_ixL] at h1
      generalize encNm (N.zip vs ++ [(N[j], c / 300 % 7 + ((j : Int) * st + c / 3) % Mx * (1 + c / 30 % 4))]) = P2 at *
      generalize encNm (N.zip vs) = P1 at *
      generalize N.map D.int = NN at *
      simp [ndB1, h1, m_mulL, f1, m_fits, ml, -m_max2, mx, m0, m_mul, f2, at0, st']
    have : ∃ m : Int, 0 ≤ m ∧ ∃ z2, ndB1 (a :: b :: some (.int c) :: some (.lst (N.map .int)) :: some (encNm (N.zip vs)) :: some (.int (j : Int)) :: z :: r) = .ok (.nx (a :: b :: some (.int c) :: some (.lst (N.map .int)) :: some (encNm (N.zip vs ++ [(N[j], m)])) :: some (.int (j : Int)) :: z2 :: r)) := by
      rcases (by omega : c % 3 = 0 ∨ c % 3 = 1 ∨ c % 3 = 2) with h | h | h
      · exact key 1 (by rw [h]; rfl) (by decide) (by decide)
      · exact key 5 (by rw [h]; rfl) (by decide) (by decide)
      · exact key 11 (by rw [h]; rfl) (by decide) (by decide)
    obtain ⟨m, m0, z2, hm⟩ := this
    rw [zz] at hm
    refine ⟨a :: b :: some (.int c) :: some (.lst (N.map .int)) :: some (encNm (N.zip vs)) :: some (.int (j : Int)) :: z :: r, _, by simp, hm, vs ++ [m], by simp [v1], fun v hv => ?_, _, _, rfl⟩
    rcases List.mem_append.mp hv with h | h
    · exact v2 v h
    · rw [List.mem_singleton.mp h]; exact m0
  rw [len_range, Nat.zero_add] at h2
  obtain ⟨vs, v1, v2, y, z, rfl⟩ := h2
  exact ⟨vs, v1, v2, y, z, h1⟩
end Dn

namespace Dn
open PySem L2
theorem zip_g {o o' : List Int} (nd : o.Nodup) (hl : o.length = o'.length) : ∀ q ∈ o.zip o', gOf o o' q.1 = q.2 := fun q hq => by
  obtain ⟨i, hi, rfl⟩ := List.mem_iff_getElem.mp hq
  have h1 : i < o.length := by rw [List.length_zip] at hi; omega
  have e : (o.zip o')[i] = (o[i], o'[i]'(by omega)) := List.getElem_zip
  rw [e]
  unfold gOf
  rw [List.Nodup.idxOf_getElem nd i h1, List.getD_eq_getElem?_getD, List.getElem?_eq_getElem (by omega)]
  rfl
theorem gOf_mem {o o' : List Int} (nd : o.Nodup) (hl : o.length = o'.length) {n : Int} (h : n ∈ o) : gOf o o' n ∈ o' := by
  have : gOf o o' n ∈ o.map (gOf o o') := List.mem_map.mpr ⟨n, h, rfl⟩
  rwa [map_gOf nd hl] at this
theorem okV_re {N N' : List Int} {g : Int → Int} (h : ∀ n ∈ N, g n ∈ N') {v : Val} (q : okV N v) : okV N' (reV g v) := by
  cases v with
  | num i => exact q
  | ref n => exact h n q
theorem okT_re {N N' : List Int} {g : Int → Int} (h : ∀ n ∈ N, g n ∈ N') {b : Int} {t : Thing} (q : okT N b t) : okT N' b (reT g t) := by
  cases t with
  | box v => exact okV_re h q
  | fn c vs =>
    refine ⟨q.1, q.2.1, by rw [List.length_map]; exact q.2.2.1, fun v hv => ?_⟩
    obtain ⟨u, hu, rfl⟩ := List.mem_map.mp hv
    exact okV_re h (q.2.2.2 u hu)
theorem okG_re {p : Prog} {N N' : List Int} {g : Int → Int} (h : ∀ n ∈ N, g n ∈ N') {f : Frm} (q : okG p N f) : okG p N' (reF g f) :=
  ⟨q.b0, q.b1, q.p0, q.p1, by show (f.own.map (reV g)).length ≤ 60; rw [List.length_map]; exact q.ol, by show (f.stack.map (reV g)).length ≤ 60; rw [List.length_map]; exact q.sl, fun v hv => by
    obtain ⟨u, hu, rfl⟩ := List.mem_map.mp hv
    exact okV_re h (q.ov u hu), fun v hv => by
    obtain ⟨u, hu, rfl⟩ := List.mem_map.mp hv
    exact okV_re h (q.sv u hu)⟩
/-- a state by other numbers, its things in another order -/
theorem okA_re {k : Nat} {p : Prog} {s : Sta} (o : okA k p s) {vs or : List Int} (hl : (s.ts.map (·.1)).length = vs.length) (v0 : ∀ v ∈ vs, 0 ≤ v) (nv : vs.Nodup) (pm : or.Perm vs) :
    okA k p ⟨reE (gOf (s.ts.map (·.1)) vs) s.en, s.fs.map (reF (gOf (s.ts.map (·.1)) vs)), or.map fun m => (m, thAt (((s.ts.map (·.1)).zip vs).map fun q => (q.2, reT (gOf (s.ts.map (·.1)) vs) (thOf s.ts q.1))) m)⟩ := by
  have gm : ∀ n ∈ s.ts.map (·.1), gOf (s.ts.map (·.1)) vs n ∈ or := fun n hn => pm.mem_iff.mpr (gOf_mem o.h.nd hl hn)
  have kk : (or.map fun m => (m, thAt (((s.ts.map (·.1)).zip vs).map fun q => (q.2, reT (gOf (s.ts.map (·.1)) vs) (thOf s.ts q.1))) m)).map (·.1) = or := by
    rw [List.map_map]
    exact List.map_id' or
  refine ⟨by rw [List.length_map]; exact o.fl, fun f hf => ?_, ⟨by rw [kk]; exact pm.nodup_iff.mpr nv, fun n hn => ?_, ?_, fun t ht => ?_⟩, fun v e => ?_, fun w e => ?_, ?_⟩
  · obtain ⟨f0, h0, rfl⟩ := List.mem_map.mp hf
    rw [kk]
    exact okG_re gm (o.fr f0 h0)
  · rw [kk] at hn
    exact v0 n (pm.mem_iff.mp hn)
  · rw [List.length_map, pm.length_eq, ← hl, List.length_map]
    exact o.h.tl
  · rw [kk]
    obtain ⟨m, hm, rfl⟩ := List.mem_map.mp ht
    have mv := pm.mem_iff.mp hm
    have bk : (((s.ts.map (·.1)).zip vs).map fun q => (q.2, reT (gOf (s.ts.map (·.1)) vs) (thOf s.ts q.1))).map (·.1) = vs := by
      rw [List.map_map]
      exact List.map_snd_zip (by omega)
    obtain ⟨t, ht⟩ := look_some (ts := ((s.ts.map (·.1)).zip vs).map fun q => (q.2, reT (gOf (s.ts.map (·.1)) vs) (thOf s.ts q.1))) (n := m) (by rw [bk]; exact mv)
    obtain ⟨q, hq, e⟩ := List.mem_map.mp (look_mem ht)
    have q1 : q.1 ∈ s.ts.map (·.1) := (List.of_mem_zip (show (q.1, q.2) ∈ (s.ts.map (·.1)).zip vs from hq)).1
    obtain ⟨t0, h0⟩ := look_some q1
    show okT or p.length (thAt _ m)
    unfold thAt
    rw [ht]
    have e2 : reT (gOf (s.ts.map (·.1)) vs) (thOf s.ts q.1) = t := (Prod.mk.inj e).2
    rw [Option.getD_some, ← e2]
    unfold thOf
    rw [h0]
    exact okT_re gm (o.h.th _ (look_mem h0))
  · rw [kk]
    cases hs : s.en with
    | run => rw [hs] at e; cases e
    | stuck w => rw [hs] at e; cases e
    | done u =>
      rw [hs] at e
      cases e
      exact okV_re gm (o.en u hs)
  · cases hs : s.en with
    | run => rw [hs] at e; cases e
    | stuck w' =>
      rw [hs] at e
      cases e
      exact o.st w hs
    | done u => rw [hs] at e; cases e
  · show s.fs.map _ = [] ↔ ∃ v, reE _ s.en = .done v
    rw [List.map_eq_nil_iff, o.dn]
    constructor
    · rintro ⟨v, h⟩
      exact ⟨_, by rw [h]; rfl⟩
    · rintro ⟨v, h⟩
      cases hs : s.en with
      | run => rw [hs] at h; cases h
      | stuck w' => rw [hs] at h; cases h
      | done u => exact ⟨u, rfl⟩
def ndB2 : Env → R Fl := sPut 8 (eVar 10) (eOp ixD (eOp ixD (eVar 7) (eC (.int 2))) (eVar 10))
theorem th_store {ts : List (Int × Thing)} {n : Int} {t : Thing} (h : n ∉ ts.map (·.1)) (hl : ts.length ≤ 100000) : storeD (encTs ts) (.int n) (encT t) = .ok (encTs (ts ++ [(n, t)])) := by
  have hl' : (ts.map fun t => ((Sum.inl t.1 : L2.Key), encT t.2)).length < most := by
    rw [List.length_map]
    unfold most
    omega
  show (if (ts.map fun t => ((Sum.inl t.1 : L2.Key), encT t.2)).length < most then R.ok (D.dic (putD (ts.map fun t => ((Sum.inl t.1 : L2.Key), encT t.2)) (.inl n) (encT t))) else .no) = _
  rw [if_pos hl', put_new h]
  rfl
theorem nd_loop2 {B : Sta} {a b c d e f x6 : Option D} : ∀ (qs done : List Int), (done ++ qs).Nodup → (∀ m ∈ qs, m ∈ B.ts.map (·.1)) → (done ++ qs).length ≤ 1000 → ∀ (x9 x10 : Option D),
    ∃ z10, forD (setN 10) ndB2 (qs.map D.int) [a, b, c, d, e, f, x6, some (encS B), some (encTs (done.map fun m => (m, thAt B.ts m))), x9, x10] = .ok (.nx [a, b, c, d, e, f, x6, some (encS B), some (encTs ((done ++ qs).map fun m => (m, thAt B.ts m))), x9, z10])
  | [], done, nd, _, hl, x9, x10 => ⟨x10, by simp [forD]⟩
  | q :: qs, done, nd, hm, hl, x9, x10 => by
    obtain ⟨t, ht⟩ := look_some (hm q (by simp))
    have ix := ix_look ht
    have ta : thAt B.ts q = t := by unfold thAt; rw [ht]; rfl
    have kd : (done.map fun m => (m, thAt B.ts m)).map (·.1) = done := by rw [List.map_map]; exact List.map_id' done
    have new : q ∉ (done.map fun m => (m, thAt B.ts m)).map (·.1) := by
      rw [kd]
      intro h
      rw [List.nodup_append] at nd
      exact nd.2.2 q h q (by simp) rfl
    have st := th_store (t := t) new (by rw [List.length_map]; rw [List.length_append] at hl; omega)
    have e1 : (done.map fun m => (m, thAt B.ts m)) ++ [(q, t)] = (done ++ [q]).map fun m => (m, thAt B.ts m) := by
      rw [List.map_append, ← ta]
      rfl
    rw [e1] at st
    obtain ⟨z10, ih⟩ := nd_loop2 (B := B) (a := a) (b := b) (c := c) (d := d) (e := e) (f := f) (x6 := x6) qs (done ++ [q]) (by simpa using nd) (fun m hm' => hm m (by simp [hm'])) (by simpa using hl) x9 (some (.int q))
    rw [List.append_assoc, List.singleton_append] at ih
    refine ⟨z10, ?_⟩
    rw [← ih]
    show (setN 10 (.int q) _ >>= fun ρ1 => ndB2 ρ1 >>= fun fl => match fl with
      | .nx ρ'' => forD (setN 10) ndB2 (qs.map D.int) ρ''
      | .rt d ρ3 => R.ok (.rt d ρ3)) = _
    have i2 : ixD (encS B) (.int 2) = .ok (encTs B.ts) := by simp [encS]
    have step : ndB2 [a, b, c, d, e, f, x6, some (encS B), some (encTs (done.map fun m => (m, thAt B.ts m))), x9, some (.int q)] = .ok (.nx [a, b, c, d, e, f, x6, some (encS B), some (encTs ((done ++ [q]).map fun m => (m, thAt B.ts m))), x9, some (.int q)]) := by
      generalize encTs ((done ++ [q]).map fun m => (m, thAt B.ts m)) = T2 at *
      generalize encTs (done.map fun m => (m, thAt B.ts m)) = T1 at *
      generalize encT t = tt at *
      generalize encTs B.ts = TB at *
      generalize encS B = SB at *
      simp [ndB2, i2, ix, st]
    show (R.ok [a, b, c, d, e, f, x6, some (encS B), some (encTs (done.map fun m => (m, thAt B.ts m))), x9, some (.int q)] >>= fun ρ1 => ndB2 ρ1 >>= fun fl => match fl with
      | .nx ρ'' => forD (setN 10) ndB2 (qs.map D.int) ρ''
      | .rt d ρ3 => R.ok (.rt d ρ3)) = _
    rw [ok_bind, step, ok_bind]
section
variable {ns : List Int} (hn : ns.length ≤ 63)
include hn
theorem named_ok {s : Sta} (o : okA 130 P0 s) : ∃ s', F__law_named [.scr ns, encS s] = .ok (encS s') ∧ okA 130 P0 s' := by
  obtain ⟨c, hc, c0, c1⟩ := cell_ok hn (by decide : (0 : Int) ≤ 16)
  have tl := o.h.tl
  have kk := keys_of s.ts
  have Nl : (s.ts.map (·.1)).length ≤ 130 := by rw [List.length_map]; exact tl
  obtain ⟨vs, v1, v2, y, z, l1⟩ := nd_loop1 (N := s.ts.map (·.1)) o.h.nd (by omega) c0 (a := some (.scr ns)) (b := some (encS s)) (x6 := none) (r := [none, none, none, none])
  have vn := vals_nm ((s.ts.map (·.1)).zip vs)
  rw [List.map_snd_zip (by omega)] at vn
  have ls := lenSet_ok (ns := vs) (by omega)
  -- what is behind the choice of names
  have fin : ∀ us : List Int, (s.ts.map (·.1)).length = us.length → (∀ v ∈ us, 0 ≤ v) → us.Nodup → ∃ B : Sta, F__law_by_names [encS s, encNm ((s.ts.map (·.1)).zip us)] = .ok (encS B) ∧ B.ts.map (·.1) = us ∧ ∀ or : List Int, or.Perm us → okA 130 P0 ⟨B.en, B.fs, or.map fun m => (m, thAt B.ts m)⟩ := fun us hl u0 nu => by
    have zk : ((s.ts.map (·.1)).zip us).map (·.1) = s.ts.map (·.1) := List.map_fst_zip (by omega)
    have zv : ((s.ts.map (·.1)).zip us).map (·.2) = us := List.map_snd_zip (by omega)
    refine ⟨_, by_names_ok (zip_g o.h.nd hl) o.fl (fun f hf => ⟨(o.fr f hf).ol, (o.fr f hf).sl, fun n hn' => ?_, fun n hn' => ?_⟩) (fun n e => ?_) (fun n hn' => ?_) (by rw [zv]; exact nu) (by rw [List.length_zip]; omega), ?_, fun or pm => okA_re o hl u0 nu pm⟩
    · rw [zk]; exact (o.fr f hf).ov _ hn'
    · rw [zk]; exact (o.fr f hf).sv _ hn'
    · rw [zk]; exact o.en _ e
    · rw [zk] at hn'
      obtain ⟨t, ht⟩ := look_some hn'
      have q := o.h.th _ (look_mem ht)
      refine ⟨t, ht, ?_, fun m hm => ?_⟩
      · cases t with
        | box v => show 1 ≤ 8; decide
        | fn b vs => exact q.2.2.1
      · rw [zk]
        exact okA_closed o n t ht (.ref m) hm
    · show (((s.ts.map (·.1)).zip us).map fun q => (q.2, _)).map (·.1) = us
      rw [List.map_map]
      exact zv
  -- the rest of the def, once the names are there
  have rest : ∀ (us : List Int) (B : Sta) (or : List Int), B.ts.map (·.1) = us → us.Nodup → us.length ≤ 130 → or.Perm us → ∀ a b c' d e f x6 x9 x10, ∃ z10, forD (setN 10) ndB2 (or.map D.int) [a, b, c', d, e, f, x6, some (encS B), some (.dic []), x9, x10] = .ok (.nx [a, b, c', d, e, f, x6, some (encS B), some (encTs (or.map fun m => (m, thAt B.ts m))), x9, z10]) := fun us B or hk nu ul pm a b c' d e f x6 x9 x10 => by
    have := nd_loop2 (B := B) (a := a) (b := b) (c := c') (d := d) (e := e) (f := f) (x6 := x6) or [] (by simpa using pm.nodup_iff.mpr nu) (fun m hm => by rw [hk]; exact pm.mem_iff.mp hm) (by simp; rw [pm.length_eq]; omega) x9 x10
    simpa [encTs] using this
  have ln : lenD [.lst ((s.ts.map (·.1)).map D.int)] = .ok (.int ((s.ts.map (·.1)).length : Int)) := by rw [m_lenL, List.length_map]
  have rg := rng1_ok (n := ((s.ts.map (·.1)).length : Int)) (by omega) (by omega)
  rw [Int.toNat_natCast] at rg
  have i2 : ixD (encS s) (.int 2) = .ok (encTs s.ts) := by simp [encS]
  have j0 : ∀ B : Sta, ixD (encS B) (.int 0) = .ok (encE B.en) := fun B => by simp [encS]
  have j1 : ∀ B : Sta, ixD (encS B) (.int 1) = .ok (.lst (B.fs.map encF)) := fun B => by simp [encS]
  have j2 : ∀ B : Sta, ixD (encS B) (.int 2) = .ok (encTs B.ts) := fun B => by simp [encS]
  have pr : ∀ us : List Int, (sortZ us).reverse.Perm us := fun us => (List.reverse_perm _).trans (sortZ_perm us)
  have rv : ∀ us : List Int, ((sortZ us).map D.int).reverse = (sortZ us).reverse.map D.int := fun us => List.map_reverse.symm
  unfold ndB1 at l1
  unfold ndB2 at rest
  by_cases hd : (metZ vs).length < (s.ts.map (·.1)).length
  · -- the names by their places
    have ul : ((List.range (s.ts.map (·.1)).length).map fun i : Nat => (i : Int)).length = (s.ts.map (·.1)).length := by simp
    have un : ((List.range (s.ts.map (·.1)).length).map fun i : Nat => (i : Int)).Nodup := by
      refine List.pairwise_map.mpr (List.nodup_range.imp fun {a b} q => ?_)
      omega
    have lc : eLc (iRange1 (eCall lenD (aCons (eVar 3) aNil))) [5] (setN 5) cYes (eTup (aCons (eOp ixD (eVar 3) (eVar 5)) (aCons (eVar 5) aNil))) [some (.scr ns), some (encS s), some (.int c), some (.lst ((s.ts.map (·.1)).map .int)), some (encNm ((s.ts.map (·.1)).zip vs)), y, z, none, none, none, none] = .ok (.lst (((s.ts.map (·.1)).zip ((List.range (s.ts.map (·.1)).length).map fun i : Nat => (i : Int))).map fun q => .tup [.int q.1, .int q.2])) := by
      have q := eLc_map (fi := iRange1 (eCall lenD (aCons (eVar 3) aNil))) (vs := [5]) (i := 5) (fe := eTup (aCons (eOp ixD (eVar 3) (eVar 5)) (aCons (eVar 5) aNil))) (ρ := [some (.scr ns), some (encS s), some (.int c), some (.lst ((s.ts.map (·.1)).map .int)), some (encNm ((s.ts.map (·.1)).zip vs)), y, z, none, none, none, none]) (xs := rangeD 0 (s.ts.map (·.1)).length) (g := fun x => match x with
        | .int i => .tup [.int ((s.ts.map (·.1)).getD i.toNat 0), .int i]
        | _ => .non) (by
          generalize (s.ts.map (·.1)).map D.int = NN at *
          generalize encNm ((s.ts.map (·.1)).zip vs) = P1 at *
          generalize encS s = SS at *
          generalize (s.ts.map (·.1)).length = LL at *
          simp [ln, rg]) (by rw [len_range]; omega) fun x hx => by
          obtain ⟨i, hi, rfl⟩ := mem_range.mp hx
          have at0 : atI ((s.ts.map (·.1)).map D.int) (i : Int) = some (.int ((s.ts.map (·.1)).getD i 0)) := by
            rw [atI_pos (by omega) (by rw [List.length_map]; omega), Int.toNat_natCast, List.getElem?_map, List.getD_eq_getElem?_getD, List.getElem?_eq_getElem hi]
            rfl
          generalize (s.ts.map (·.1)) = N at *
          generalize encNm (N.zip vs) = P1 at *
          generalize encS s = SS at *
          simp [wipeE, at0]
      rw [q]
      refine congrArg (fun l => R.ok (D.lst l)) ?_
      refine List.ext_getElem (by simp [len_range]) fun i h1 h2 => ?_
      have hi : i < (s.ts.map (·.1)).length := by simpa [len_range] using h1
      rw [List.getElem_map, List.getElem_map, List.getElem_zip]
      have e : (rangeD 0 (s.ts.map (·.1)).length)[i]'(by rw [len_range]; exact hi) = .int (0 + (i : Int)) := by simp [rangeD]
      rw [e]
      show D.tup [.int ((s.ts.map (·.1)).getD (0 + (i : Int)).toNat 0), .int (0 + (i : Int))] = _
      rw [Int.zero_add, Int.toNat_natCast, List.getD_eq_getElem?_getD, List.getElem?_eq_getElem hi, Option.getD_some]
      simp
    have dp := dict_pairs (nm := (s.ts.map (·.1)).zip ((List.range (s.ts.map (·.1)).length).map fun i : Nat => (i : Int))) (by rw [List.map_fst_zip (by omega)]; exact o.h.nd)
    obtain ⟨B, b1, b2, b3⟩ := fin ((List.range (s.ts.map (·.1)).length).map fun i : Nat => (i : Int)) (by simp) (fun v hv => by
      obtain ⟨i, _, rfl⟩ := List.mem_map.mp hv
      omega) un
    generalize (List.range (s.ts.map (·.1)).length).map (fun i : Nat => (i : Int)) = us at *
    have kb := keys_of B.ts
    rw [b2] at kb
    have so := sorted_ok us
    have hd' : ((metZ vs).length : Int) < ((s.ts.map (·.1)).length : Int) := by omega
    by_cases c2 : c % 2 = 1
    · obtain ⟨z10, l2⟩ := rest us B (sortZ us).reverse b2 un (by omega) (pr us) (some (.scr ns)) (some (encS s)) (some (.int c)) (some (.lst ((s.ts.map (·.1)).map .int))) (some (encNm ((s.ts.map (·.1)).zip us))) y z (some (.lst ((sortZ us).reverse.map .int))) none
      refine ⟨_, ?_, b3 _ (pr us)⟩
      show _ = R.ok (D.tup [encE B.en, .lst (B.fs.map encF), encTs ((sortZ us).reverse.map fun m => (m, thAt B.ts m))])
      have i0 := j0 B
      have i1 := j1 B
      have i3 := j2 B
      generalize encTs ((sortZ us).reverse.map fun m => (m, thAt B.ts m)) = T9 at *
      have rv' := rv us
      generalize (sortZ us).reverse.map D.int = O2 at *
      generalize (sortZ us).map D.int = O1 at *
      generalize us.map D.int = UU at *
      generalize (s.ts.map (·.1)).zip us = Z2 at *
      generalize (s.ts.map (·.1)).zip vs = Z1 at *
      generalize (s.ts.map (·.1)).map D.int = NN at *
      generalize (s.ts.map (·.1)).length = LL at *
      generalize vs.map D.int = VV at *
      generalize (metZ vs).length = ML at *
      generalize Z2.map (fun q => D.tup [.int q.1, .int q.2]) = TP at *
      generalize encNm Z1 = P1 at *
      generalize encNm Z2 = P2 at *
      generalize encTs s.ts = TS at *
      generalize encTs B.ts = TB at *
      generalize encE B.en = EB at *
      generalize B.fs.map encF = FB at *
      generalize encS B = SB at *
      generalize encS s = SS at *
      simp [F__law_named, B__law_named, hc, i2, kk, ln, rg, l1, vn, ls, hd', hd, lc, dp, b1, i3, kb, so, c2, rv', l2, i0, i1]
    · obtain ⟨z10, l2⟩ := rest us B (sortZ us) b2 un (by omega) (sortZ_perm us) (some (.scr ns)) (some (encS s)) (some (.int c)) (some (.lst ((s.ts.map (·.1)).map .int))) (some (encNm ((s.ts.map (·.1)).zip us))) y z (some (.lst ((sortZ us).map .int))) none
      refine ⟨_, ?_, b3 _ (sortZ_perm us)⟩
      show _ = R.ok (D.tup [encE B.en, .lst (B.fs.map encF), encTs ((sortZ us).map fun m => (m, thAt B.ts m))])
      have i0 := j0 B
      have i1 := j1 B
      have i3 := j2 B
      generalize encTs ((sortZ us).map fun m => (m, thAt B.ts m)) = T9 at *
      generalize (sortZ us).map D.int = O1 at *
      generalize us.map D.int = UU at *
      generalize (s.ts.map (·.1)).zip us = Z2 at *
      generalize (s.ts.map (·.1)).zip vs = Z1 at *
      generalize (s.ts.map (·.1)).map D.int = NN at *
      generalize (s.ts.map (·.1)).length = LL at *
      generalize vs.map D.int = VV at *
      generalize (metZ vs).length = ML at *
      generalize Z2.map (fun q => D.tup [.int q.1, .int q.2]) = TP at *
      generalize encNm Z1 = P1 at *
      generalize encNm Z2 = P2 at *
      generalize encTs s.ts = TS at *
      generalize encTs B.ts = TB at *
      generalize encE B.en = EB at *
      generalize B.fs.map encF = FB at *
      generalize encS B = SB at *
      generalize encS s = SS at *
      simp [F__law_named, B__law_named, hc, i2, kk, ln, rg, l1, vn, ls, hd', hd, lc, dp, b1, i3, kb, so, c2, l2, i0, i1]
  · have vnd : vs.Nodup := met_nodup (by have := met_le vs; omega)
    obtain ⟨B, b1, b2, b3⟩ := fin vs v1.symm v2 vnd
    have kb := keys_of B.ts
    rw [b2] at kb
    have so := sorted_ok vs
    have hd' : ¬ ((metZ vs).length : Int) < ((s.ts.map (·.1)).length : Int) := by omega
    by_cases c2 : c % 2 = 1
    · obtain ⟨z10, l2⟩ := rest vs B (sortZ vs).reverse b2 vnd (by omega) (pr vs) (some (.scr ns)) (some (encS s)) (some (.int c)) (some (.lst ((s.ts.map (·.1)).map .int))) (some (encNm ((s.ts.map (·.1)).zip vs))) y z (some (.lst ((sortZ vs).reverse.map .int))) none
      refine ⟨_, ?_, b3 _ (pr vs)⟩
      show _ = R.ok (D.tup [encE B.en, .lst (B.fs.map encF), encTs ((sortZ vs).reverse.map fun m => (m, thAt B.ts m))])
      have i0 := j0 B
      have i1 := j1 B
      have i3 := j2 B
      generalize encTs ((sortZ vs).reverse.map fun m => (m, thAt B.ts m)) = T9 at *
      have rv' := rv vs
      generalize (sortZ vs).reverse.map D.int = O2 at *
      generalize (sortZ vs).map D.int = O1 at *
      generalize (s.ts.map (·.1)).zip vs = Z1 at *
      generalize (s.ts.map (·.1)).map D.int = NN at *
      generalize (s.ts.map (·.1)).length = LL at *
      generalize vs.map D.int = VV at *
      generalize (metZ vs).length = ML at *
      generalize encNm Z1 = P1 at *
      generalize encTs s.ts = TS at *
      generalize encTs B.ts = TB at *
      generalize encE B.en = EB at *
      generalize B.fs.map encF = FB at *
      generalize encS B = SB at *
      generalize encS s = SS at *
      simp [F__law_named, B__law_named, hc, i2, kk, ln, rg, l1, vn, ls, hd', hd, b1, i3, kb, so, c2, rv', l2, i0, i1]
    · obtain ⟨z10, l2⟩ := rest vs B (sortZ vs) b2 vnd (by omega) (sortZ_perm vs) (some (.scr ns)) (some (encS s)) (some (.int c)) (some (.lst ((s.ts.map (·.1)).map .int))) (some (encNm ((s.ts.map (·.1)).zip vs))) y z (some (.lst ((sortZ vs).map .int))) none
      refine ⟨_, ?_, b3 _ (sortZ_perm vs)⟩
      show _ = R.ok (D.tup [encE B.en, .lst (B.fs.map encF), encTs ((sortZ vs).map fun m => (m, thAt B.ts m))])
      have i0 := j0 B
      have i1 := j1 B
      have i3 := j2 B
      generalize encTs ((sortZ vs).map fun m => (m, thAt B.ts m)) = T9 at *
      generalize (sortZ vs).map D.int = O1 at *
      generalize (s.ts.map (·.1)).zip vs = Z1 at *
      generalize (s.ts.map (·.1)).map D.int = NN at *
      generalize (s.ts.map (·.1)).length = LL at *
      generalize vs.map D.int = VV at *
      generalize (metZ vs).length = ML at *
      generalize encNm Z1 = P1 at *
      generalize encTs s.ts = TS at *
      generalize encTs B.ts = TB at *
      generalize encE B.en = EB at *
      generalize B.fs.map encF = FB at *
      generalize encS B = SB at *
      generalize encS s = SS at *
      simp [F__law_named, B__law_named, hc, i2, kk, ln, rg, l1, vn, ls, hd', hd, b1, i3, kb, so, c2, l2, i0, i1]
end
end Dn

namespace Dn
open PySem L2
theorem next_lt (ns : List Int) : (∀ n ∈ ns, n < nextN ns) ∧ (∀ n ∈ ns, 0 ≤ n) → (∀ n ∈ ns, n < nextN ns) ∧ 0 ≤ nextN ns := fun ⟨h, h0⟩ => by
  refine ⟨h, ?_⟩
  cases ns with
  | nil => decide
  | cons n ns =>
    have := h n (by simp)
    have := h0 n (by simp)
    omega
theorem next_gt (ns : List Int) : ∀ n ∈ ns, n < nextN ns := fun n hn => by
  unfold nextN
  cases ns with
  | nil => cases hn
  | cons k ns =>
    obtain ⟨h1, h2⟩ := fold_ge ns k
    show n < ns.foldl (fun a y => if a < y then y else a) k + 1
    rcases List.mem_cons.mp hn with rfl | hn
    · omega
    · have := h2 n hn
      omega
theorem okA_add {k : Nat} {p : Prog} {e : End} {fs : List Frm} {ts : List (Int × Thing)} (o : okA k p ⟨e, fs, ts⟩) {n : Int} {v : Val} (h0 : 0 ≤ n) (hn : n ∉ ts.map (·.1)) (hv : okV (ts.map (·.1)) v) : okA (k + 1) p ⟨e, fs, ts ++ [(n, .box v)]⟩ := by
  have sub : ∀ m ∈ ts.map (·.1), m ∈ (ts ++ [(n, Thing.box v)]).map (·.1) := fun m hm => by
    rw [List.map_append]
    exact List.mem_append_left _ hm
  refine ⟨o.fl, fun g hg => okG_mono sub (o.fr g hg), ⟨?_, fun m hm => ?_, by have := o.h.tl; simp at this ⊢; omega, fun q hq => ?_⟩, fun u hu => okV_mono sub (o.en u hu), o.st, o.dn⟩
  · rw [List.map_append, List.nodup_append]
    refine ⟨o.h.nd, by simp, fun x hx y hy e => ?_⟩
    have : y = n := by simpa using hy
    exact hn (by rw [← this, ← e]; exact hx)
  · rw [List.map_append] at hm
    rcases List.mem_append.mp hm with hm | hm
    · exact o.h.ge m hm
    · have : m = n := by simpa using hm
      rw [this]
      exact h0
  · rcases List.mem_append.mp hq with hq | hq
    · exact okT_mono sub (o.h.th q hq)
    · rw [List.mem_singleton.mp hq]
      exact okV_mono sub hv
theorem okA_put {k : Nat} {p : Prog} {e : End} {fs : List Frm} {ts : List (Int × Thing)} (o : okA k p ⟨e, fs, ts⟩) {n : Int} {t : Thing} (ht : okT (ts.map (·.1)) p.length t) : okA k p ⟨e, fs, putT ts n t⟩ := by
  have e := putT_keys ts n t
  refine ⟨o.fl, fun g hg => ?_, ⟨?_, ?_, by unfold putT; rw [List.length_map]; exact o.h.tl, fun q hq => ?_⟩, fun u hu => ?_, o.st, o.dn⟩
  · rw [e]; exact o.fr g hg
  · rw [e]; exact o.h.nd
  · rw [e]; exact o.h.ge
  · rw [e]
    obtain ⟨u, h1, h2⟩ := List.mem_map.mp hq
    subst h2
    show okT _ _ (if u.1 = n then (n, t) else u).2
    split
    · exact ht
    · exact o.h.th u h1
  · rw [e]; exact o.en u hu
theorem okA_set {k : Nat} {p : Prog} {e : End} {fs : List Frm} {ts : List (Int × Thing)} (o : okA k p ⟨e, fs, ts⟩) {i : Nat} {g : Frm} (hg : okG p (ts.map (·.1)) g) : okA k p ⟨e, fs.set i g, ts⟩ := by
  refine ⟨by show (fs.set i g).length ≤ 60; rw [List.length_set]; exact o.fl, fun f hf => ?_, o.h, o.en, o.st, ?_⟩
  · rcases List.mem_or_eq_of_mem_set hf with h | h
    · exact o.fr f h
    · rw [h]; exact hg
  · show fs.set i g = [] ↔ _
    rw [← o.dn]
    constructor
    · intro h
      have := congrArg List.length h
      rw [List.length_set] at this
      exact List.length_eq_zero_iff.mp this
    · intro h
      have h : fs = [] := h
      rw [h]
      rfl
theorem okH_keep (ts : List (Int × Thing)) : chk (.own .fz) (.lst ((ts.map (·.1)).map D.int)) = true := List.all_eq_true.mpr fun x hx => by
  obtain ⟨n, _, rfl⟩ := List.mem_map.mp hx
  rfl
theorem old_put {ts : List (Int × Thing)} {t : Thing} {n : Int} (hn : n ∈ ts.map (·.1)) (hts : ts.length ≤ 100000) : storeD (encTs ts) (.int n) (encT t) = .ok (encTs (putT ts n t)) := by
  have hl : (ts.map fun t => ((Sum.inl t.1 : L2.Key), encT t.2)).length < most := by
    rw [List.length_map]
    unfold most
    omega
  show (if (ts.map fun t => ((Sum.inl t.1 : L2.Key), encT t.2)).length < most then R.ok (D.dic (putD (ts.map fun t => ((Sum.inl t.1 : L2.Key), encT t.2)) (.inl n) (encT t))) else .no) = _
  rw [if_pos hl, put_old hn]
  rfl
def moB : Env → R Fl := (sSeq (sAsg 5 [] (eOp addD (eOp addD (eOp maxDf (eChk (.own .fz) (eCall listD (aCons (eVar 3) aNil))) (eUn negD (eC (.int 1)))) (eC (.int 1))) (eOp modD (eOp divD (eVar 2) (eC (.int 6))) (eC (.int 5))))) (sPut 3 (eVar 5) (eTup (aCons (eC (.str w_box)) (aCons (eCall (F__law_value) (aCons (eVar 0) (aCons (eOp addD (eC (.int 60)) (eVar 4)) (aCons (eChk (.own .fz) (eCall listD (aCons (eVar 3) aNil))) aNil)))) aNil)))))
section
variable {ns : List Int} (hn : ns.length ≤ 63)
include hn
theorem mo_loop {s : Sta} (o : okA 130 P0 s) {c : Int} (c0 : 0 ≤ c) {m : Nat} (hm : m ≤ 3) : ∃ ts, okA 133 P0 ⟨s.en, s.fs, ts⟩ ∧ ∃ x y, forD (setN 4) moB (rangeD 0 m) [some (.scr ns), some (encS s), some (.int c), some (encTs s.ts), none, none] = .ok (.nx [some (.scr ns), some (encS s), some (.int c), some (encTs ts), x, y]) := by
  obtain ⟨ρ', h1, h2⟩ := forD_inv (set := setN 4) (body := moB) (fun k ρ => ∃ ts, okA (130 + k) P0 ⟨s.en, s.fs, ts⟩ ∧ ∃ x y, ρ = [some (.scr ns), some (encS s), some (.int c), some (encTs ts), x, y]) (xs := rangeD 0 m) (ρ := [some (.scr ns), some (encS s), some (.int c), some (encTs s.ts), none, none]) (k := 0) ⟨s.ts, o, none, none, rfl⟩ fun j x ρ q1 q2 => by
    rw [Nat.zero_add] at q1 ⊢
    obtain ⟨ts, o1, x', y, rfl⟩ := q1
    have hj : j < m := by
      have := (List.getElem?_eq_some_iff.mp q2).1
      simpa using this
    obtain rfl : x = .int (0 + (j : Int)) := by
      unfold rangeD at q2
      rw [List.getElem?_map, List.getElem?_range hj] at q2
      exact (Option.some.inj q2).symm
    have tl : ts.length ≤ 130 + j := o1.h.tl
    obtain ⟨v, hv, v1⟩ := value_ok hn (by omega : (0 : Int) ≤ 60 + (j : Int)) (ts.map (·.1)) (by rw [List.length_map]; omega)
    have kk := keys_of ts
    have ck := okH_keep ts
    have mx : maxDf (.lst ((ts.map (·.1)).map D.int)) (.int (-1)) = .ok (.int (nextN (ts.map (·.1)) - 1)) := by
      rw [maxDf_ok, show maxZ (ts.map (·.1)) (-1) = nextN (ts.map (·.1)) - 1 from by unfold nextN; omega]
    have gt := next_gt (ts.map (·.1))
    have ge := (next_lt _ ⟨gt, o1.h.ge⟩).2
    have d0 := Int.emod_nonneg (c / 6) (b := 5) (by decide)
    have new : nextN (ts.map (·.1)) - 1 + 1 + c / 6 % 5 ∉ ts.map (·.1) := fun h => by
      have := gt _ h
      omega
    have st := th_store (t := .box v) new (by omega)
    have o2 := okA_add o1 (v := v) (by omega : 0 ≤ nextN (ts.map (·.1)) - 1 + 1 + c / 6 % 5) new v1
    refine ⟨[some (.scr ns), some (encS s), some (.int c), some (encTs ts), some (.int (j : Int)), y], [some (.scr ns), some (encS s), some (.int c), some (encTs (ts ++ [(nextN (ts.map (·.1)) - 1 + 1 + c / 6 % 5, .box v)])), some (.int (j : Int)), some (.int (nextN (ts.map (·.1)) - 1 + 1 + c / 6 % 5))], by simp, ?_, _, o2, _, _, rfl⟩
    have ev : encT (.box v) = .tup [.str w_box, encV v] := rfl
    rw [ev] at st
    generalize nextN (ts.map (·.1)) = nx at *
    generalize encTs (ts ++ [(nx - 1 + 1 + c / 6 % 5, .box v)]) = T2 at *
    generalize (ts.map (·.1)).map D.int = NN at *
    generalize encTs ts = T1 at *
    generalize encV v = vv at *
    generalize encS s = SS at *
    have e1 : nx - 1 + 1 = nx := by omega
    rw [e1] at st
    simp [moB, kk, ck, mx, hv, st]
  rw [len_range, Nat.zero_add] at h2
  obtain ⟨ts, o1, x, y, rfl⟩ := h2
  refine ⟨ts, ⟨o1.fl, o1.fr, okH_mono (by omega) o1.h, o1.en, o1.st, o1.dn⟩, x, y, h1⟩
theorem more_ok {s : Sta} (o : okA 130 P0 s) : ∃ s', F__law_more [.scr ns, encS s] = .ok (encS s') ∧ okA 133 P0 s' := by
  obtain ⟨c, hc, c0, c1⟩ := cell_ok hn (by decide : (0 : Int) ≤ 17)
  have m0 := Int.emod_nonneg (c / 2) (b := 3) (by decide)
  have m1 := Int.emod_lt_of_pos (c / 2) (by decide : (0 : Int) < 3)
  obtain ⟨ts, o1, x, y, h1⟩ := mo_loop hn o c0 (m := (1 + c / 2 % 3).toNat) (by omega)
  refine ⟨⟨s.en, s.fs, ts⟩, ?_, o1⟩
  have i0 : ixD (encS s) (.int 0) = .ok (encE s.en) := by simp [encS]
  have i1 : ixD (encS s) (.int 1) = .ok (.lst (s.fs.map encF)) := by simp [encS]
  have i2 : ixD (encS s) (.int 2) = .ok (encTs s.ts) := by simp [encS]
  have ds := dict_of s.ts
  have rg := rng1_ok (n := 1 + c / 2 % 3) (by omega) (by omega)
  show _ = R.ok (D.tup [encE s.en, .lst (s.fs.map encF), encTs ts])
  unfold moB at h1
  generalize encTs ts = T2 at *
  generalize encTs s.ts = T1 at *
  generalize encE s.en = E at *
  generalize s.fs.map encF = FF at *
  generalize encS s = SS at *
  simp [F__law_more, B__law_more, hc, i2, ds, rg, h1, i0, i1]
theorem okA_133 {k : Nat} (hk : k ≤ 133) {p : Prog} {s : Sta} (o : okA k p s) : okA 133 p s := ⟨o.fl, o.fr, okH_mono hk o.h, o.en, o.st, o.dn⟩
end
@[simp] theorem m_sPar (i j : Nat) (fas : Env → R (List D)) (ρ : Env) : sPar i j fas ρ = (fas ρ >>= fun ds => match ds with
  | [a, b] => .ok (.nx ((ρ.set i (some a)).set j (some b)))
  | _ => .no) := Eq.trans rfl rfl
@[simp] theorem m_asgG (set : D → Env → R Env) (f : Env → R D) (ρ : Env) : sAsgG set f ρ = (f ρ >>= fun d => set d ρ >>= fun ρ' => .ok (.nx ρ')) := Eq.trans rfl rfl
theorem bent_frame_ok {N : List Int} {f : Frm} (q : okG P0 N f) {v : Val} (hv : okV N v) {c : Int} (c0 : 0 ≤ c) : ∃ f', F__law_bent_frame [encF f, .int c, encV v] = .ok (encF f') ∧ okG P0 N f' := by
  obtain ⟨b0, b1, p0, p1, ol, sl, ov, sv⟩ := q
  have b1' := b1
  rw [P0_len] at b1'
  have pa := P0_at (b := f.body.toNat) (by omega)
  rw [pa] at p1
  have en := eq_nilT f.own
  have lo : lenD [.tup (f.own.map encV)] = .ok (.int (f.own.length : Int)) := by
    show R.ok (D.int ((f.own.map encV).length : Nat)) = _
    rw [List.length_map]
  have ls : lenD [.tup (f.stack.map encV)] = .ok (.int (f.stack.length : Int)) := by
    show R.ok (D.int ((f.stack.map encV).length : Nat)) = _
    rw [List.length_map]
  have mk : ∀ (pl : Int) (ow st : List Val), 0 ≤ pl → pl ≤ 1000 → ow.length ≤ 60 → st.length ≤ 60 → (∀ v ∈ ow, okV N v) → (∀ v ∈ st, okV N v) → okG P0 N ⟨f.body, pl, ow, st⟩ := fun pl ow st h1 h2 h3 h4 h5 h6 => ⟨b0, b1, h1, by show pl ≤ ((P0.getD f.body.toNat []).length : Int); rw [pa]; exact h2, h3, h4, h5, h6⟩
  by_cases h1 : c % 4 = 0 ∧ f.own ≠ []
  · obtain ⟨e0, ho⟩ := h1
    have l0 : 0 < f.own.length := List.length_pos_iff.mpr ho
    have a0 := Int.emod_nonneg (c / 4) (b := (f.own.length : Int)) (by omega)
    have a1 := Int.emod_lt_of_pos (c / 4) (b := (f.own.length : Int)) (by omega)
    have en' : eqD (.tup (f.own.map encV)) (.tup []) = .ok (.bl false) := by rw [en, decide_eq_false ho]
    generalize hk : c / 4 % (f.own.length : Int) = k at *
    refine ⟨⟨f.body, f.place, f.own.take k.toNat ++ [v] ++ f.own.drop (k + 1).toNat, f.stack⟩, ?_, mk _ _ _ p0 p1 (by simp; omega) sl (fun u hu => ?_) sv⟩
    · show F__law_bent_frame [.tup [.int f.body, .int f.place, .tup (f.own.map encV), .tup (f.stack.map encV)], .int c, encV v] = R.ok (.tup [.int f.body, .int f.place, .tup ((f.own.take k.toNat ++ [v] ++ f.own.drop (k + 1).toNat).map encV), .tup (f.stack.map encV)])
      have t1 := cut_to (f.own.map encV) k a0
      have t2 := cut_from (f.own.map encV) (k + 1) (by omega)
      have e1 : addD (.tup ((f.own.map encV).take k.toNat)) (.tup [encV v]) = .ok (.tup ((f.own.take k.toNat ++ [v]).map encV)) := by
        rw [m_catT _ _ (by simp [most]; omega), List.map_append, List.map_take]
        rfl
      have e2 : addD (.tup ((f.own.take k.toNat ++ [v]).map encV)) (.tup ((f.own.map encV).drop (k + 1).toNat)) = .ok (.tup ((f.own.take k.toNat ++ [v] ++ f.own.drop (k + 1).toNat).map encV)) := by
        rw [m_catT _ _ (by simp [most]; omega), List.map_append (l₂ := f.own.drop (k + 1).toNat), List.map_drop]
      generalize (f.own.take k.toNat ++ [v] ++ f.own.drop (k + 1).toNat).map encV = O3 at *
      generalize (f.own.take k.toNat ++ [v]).map encV = O2 at *
      generalize f.own.map encV = OO at *
      generalize f.stack.map encV = ST at *
      generalize encV v = vv at *
      simp [F__law_bent_frame, B__law_bent_frame, e0, en', lo, hk, l0, t1, t2, e1, e2]
    · rw [List.append_assoc] at hu
      rcases List.mem_append.mp hu with h | h
      · exact ov u (List.mem_of_mem_take h)
      · rcases List.mem_cons.mp h with h | h
        · rw [h]; exact hv
        · exact ov u (List.mem_of_mem_drop h)
  · have n1 : ¬ (c % 4 = 0) ∨ eqD (.tup (f.own.map encV)) (.tup []) = .ok (.bl true) := by
      by_cases e0 : c % 4 = 0
      · right
        rw [en]
        have : f.own = [] := by
          by_cases h : f.own = []
          · exact h
          · exact absurd ⟨e0, h⟩ h1
        rw [this]
        rfl
      · exact .inl e0
    show ∃ f', F__law_bent_frame [.tup [.int f.body, .int f.place, .tup (f.own.map encV), .tup (f.stack.map encV)], .int c, encV v] = .ok (encF f') ∧ okG P0 N f'
    by_cases h2 : c % 4 = 1 ∧ f.stack.length < 60
    · obtain ⟨e1, hs⟩ := h2
      refine ⟨⟨f.body, f.place, f.own, f.stack ++ [v]⟩, ?_, mk _ _ _ p0 p1 ol (by simp; omega) ov (fun u hu => ?_)⟩
      · show _ = R.ok (D.tup [.int f.body, .int f.place, .tup (f.own.map encV), .tup ((f.stack ++ [v]).map encV)])
        have e2 : addD (.tup (f.stack.map encV)) (.tup [encV v]) = .ok (.tup ((f.stack ++ [v]).map encV)) := by
          rw [m_catT _ _ (by simp [most]; omega), List.map_append]
          rfl
        have hs' : (f.stack.length : Int) < 60 := by omega
        generalize (f.stack ++ [v]).map encV = S2 at *
        generalize f.own.map encV = OO at *
        generalize f.stack.map encV = ST at *
        generalize encV v = vv at *
        simp [F__law_bent_frame, B__law_bent_frame, e1, ls, hs', e2]
      · rcases List.mem_append.mp hu with h | h
        · exact sv u h
        · rw [List.mem_singleton.mp h]; exact hv
    · have n2 : ¬ (c % 4 = 1) ∨ ¬ (f.stack.length : Int) < 60 := by
        by_cases e1 : c % 4 = 1
        · exact .inr fun h => h2 ⟨e1, by omega⟩
        · exact .inl e1
      by_cases e3 : c % 4 = 2
      · refine ⟨⟨f.body, (f.place + 1) % 61, f.own, f.stack⟩, ?_, mk _ _ _ (Int.emod_nonneg _ (by decide)) (by have := Int.emod_lt_of_pos (f.place + 1) (by decide : (0 : Int) < 61); omega) ol sl ov sv⟩
        show _ = R.ok (D.tup [.int f.body, .int ((f.place + 1) % 61), .tup (f.own.map encV), .tup (f.stack.map encV)])
        generalize f.own.map encV = OO at *
        generalize f.stack.map encV = ST at *
        generalize encV v = vv at *
        simp [F__law_bent_frame, B__law_bent_frame, e3]
      · refine ⟨⟨f.body, f.place, f.stack, f.own⟩, ?_, mk _ _ _ p0 p1 sl ol sv ov⟩
        show _ = R.ok (D.tup [.int f.body, .int f.place, .tup (f.stack.map encV), .tup (f.own.map encV)])
        generalize f.own.map encV = OO at *
        generalize f.stack.map encV = ST at *
        generalize encV v = vv at *
        rcases (by omega : c % 4 = 0 ∨ c % 4 = 1 ∨ c % 4 = 3) with z | z | z
        · have n1 := n1.resolve_left (fun h => h z)
          simp [F__law_bent_frame, B__law_bent_frame, z, n1]
        · have n2 := n2.resolve_left (fun h => h z)
          have n3 : (60 : Int) ≤ (f.stack.length : Int) := by omega
          have n4 : decide ((f.stack.length : Int) < 60) = false := decide_eq_false n2
          simp [F__law_bent_frame, B__law_bent_frame, z, ls, -decide_eq_false_iff_not, n4]
        · simp [F__law_bent_frame, B__law_bent_frame, z]
end Dn

namespace Dn
open PySem L2
theorem eq_nilFs (fs : List Frm) : eqD (.lst (fs.map encF)) (.lst []) = .ok (.bl (decide (fs = []))) := by
  refine Eq.trans (if_pos (by rw [shaped_pl (plFs fs) (by decide)]; rfl)) ?_
  cases fs <;> rfl
section
variable {ns : List Int} (hn : ns.length ≤ 63)
include hn
theorem bent_ok {s : Sta} (o : okA 133 P0 s) : ∃ s', F__law_bent [.scr ns, encS s] = .ok (encS s') ∧ okA 133 P0 s' := by
  obtain ⟨c, hc, c0, c1⟩ := cell_ok hn (by decide : (0 : Int) ≤ 18)
  have tl := o.h.tl
  have kk := keys_of s.ts
  have ds := dict_of s.ts
  obtain ⟨v, hv, v1⟩ := value_ok hn (by decide : (0 : Int) ≤ 65) (s.ts.map (·.1)) (by rw [List.length_map]; omega)
  have i0 : ixD (encS s) (.int 0) = .ok (encE s.en) := by simp [encS]
  have i1 : ixD (encS s) (.int 1) = .ok (.lst (s.fs.map encF)) := by simp [encS]
  have i2 : ixD (encS s) (.int 2) = .ok (encTs s.ts) := by simp [encS]
  have lf : listD [.lst (s.fs.map encF)] = .ok (.lst (s.fs.map encF)) := rfl
  have ef := eq_nilFs s.fs
  have en := eq_nilI (s.ts.map (·.1))
  have hlen : ((s.fs.map encF).length : Int) = s.fs.length := by rw [List.length_map]
  have hlen2 : (((s.ts.map (·.1)).map D.int).length : Int) = (s.ts.map (·.1)).length := by rw [List.length_map]
  have os : okA 133 P0 ⟨s.en, s.fs, s.ts⟩ := o
  by_cases hA : c / 2 % 3 = 0 ∧ s.fs ≠ []
  · obtain ⟨h1, h2⟩ := hA
    have l0 : 0 < s.fs.length := List.length_pos_iff.mpr h2
    have a0 := Int.emod_nonneg (c / 6) (b := (s.fs.length : Int)) (by omega)
    have a1 := Int.emod_lt_of_pos (c / 6) (b := (s.fs.length : Int)) (by omega)
    have a2 : (c / 6 % (s.fs.length : Int)).toNat < s.fs.length := by omega
    obtain ⟨f', hf, of⟩ := bent_frame_ok (o.fr _ (List.getElem_mem a2)) v1 (Int.ediv_nonneg c0 (by decide : (0 : Int) ≤ 360))
    have at0 : atI (s.fs.map encF) (c / 6 % (s.fs.length : Int)) = some (encF (s.fs[(c / 6 % (s.fs.length : Int)).toNat]'a2)) := by
      rw [atI_pos a0 (by simpa using a1), List.getElem?_map, List.getElem?_eq_getElem a2]
      rfl
    have st : storeD (.lst (s.fs.map encF)) (.int (c / 6 % (s.fs.length : Int))) (encF f') = .ok (.lst ((s.fs.set (c / 6 % (s.fs.length : Int)).toNat f').map encF)) := by
      have e : ixN (s.fs.map encF).length (c / 6 % (s.fs.length : Int)) = some (c / 6 % (s.fs.length : Int)).toNat := by
        rw [List.length_map]
        unfold ixN
        rw [if_pos a0, if_pos a1]
      show (match ixN (s.fs.map encF).length (c / 6 % (s.fs.length : Int)) with
        | some j => R.ok (D.lst ((s.fs.map encF).set j (encF f')))
        | none => .no) = _
      rw [e, List.map_set]
    refine ⟨_, ?_, okA_set os (i := (c / 6 % (s.fs.length : Int)).toNat) of⟩
    show _ = R.ok (D.tup [encE s.en, .lst ((s.fs.set _ f').map encF), encTs s.ts])
    have ef' : eqD (.lst (s.fs.map encF)) (.lst []) = .ok (.bl false) := by rw [ef, decide_eq_false h2]
    generalize hk : c / 6 % (s.fs.length : Int) = k at *
    generalize encF (s.fs[k.toNat]'a2) = f0 at *
    generalize (s.fs.set k.toNat f').map encF = F2 at *
    generalize encF f' = ff at *
    generalize s.fs.map encF = FF at *
    generalize (s.ts.map (·.1)).map D.int = NN at *
    generalize encTs s.ts = TT at *
    generalize encE s.en = EE at *
    generalize encS s = SS at *
    generalize encV v = vv at *
    simp [F__law_bent, B__law_bent, hc, i2, kk, hv, i1, lf, ds, i0, h1, ef', hlen, l0, hk, at0, hf, st]
  · have nA : ¬ c / 2 % 3 = 0 ∨ eqD (.lst (s.fs.map encF)) (.lst []) = .ok (.bl true) := by
      by_cases h : c / 2 % 3 = 0
      · right
        rw [ef]
        have : s.fs = [] := by
          by_cases q : s.fs = []
          · exact q
          · exact absurd ⟨h, q⟩ hA
        rw [this]
        rfl
      · exact .inl h
    by_cases hB : c / 2 % 3 = 1 ∧ s.ts.map (·.1) ≠ []
    · obtain ⟨h1, h2⟩ := hB
      have l0 : 0 < (s.ts.map (·.1)).length := List.length_pos_iff.mpr h2
      have a0 := Int.emod_nonneg (c / 6) (b := ((s.ts.map (·.1)).length : Int)) (by omega)
      have a1 := Int.emod_lt_of_pos (c / 6) (b := ((s.ts.map (·.1)).length : Int)) (by omega)
      have a2 : (c / 6 % ((s.ts.map (·.1)).length : Int)).toNat < (s.ts.map (·.1)).length := by omega
      have at0 : atI ((s.ts.map (·.1)).map D.int) (c / 6 % ((s.ts.map (·.1)).length : Int)) = some (.int ((s.ts.map (·.1))[(c / 6 % ((s.ts.map (·.1)).length : Int)).toNat]'a2)) := by
        rw [atI_pos a0 (by simpa using a1), List.getElem?_map, List.getElem?_eq_getElem a2]
        rfl
      have mem := List.getElem_mem a2
      have en' : eqD (.lst ((s.ts.map (·.1)).map D.int)) (.lst []) = .ok (.bl false) := by rw [en, decide_eq_false h2]
      have fin : ∀ t : Thing, okT (s.ts.map (·.1)) P0.length t → ∀ d, ixD (.lst [.tup [.str w_box, encV v], .tup [.str w_fun, .int (c / 360 % 2), .tup [encV v]]]) (.int (c / 720 % 2)) = .ok d → d = encT t → ∃ s', F__law_bent [.scr ns, encS s] = .ok (encS s') ∧ okA 133 P0 s' := fun t ht d h3 h4 => by
        subst h4
        have st := old_put (t := t) mem (by omega)
        refine ⟨_, ?_, okA_put os (n := (s.ts.map (·.1))[(c / 6 % ((s.ts.map (·.1)).length : Int)).toNat]'a2) ht⟩
        show _ = R.ok (D.tup [encE s.en, .lst (s.fs.map encF), encTs (putT s.ts _ t)])
        rw [m_ixL] at h3
        generalize hk : c / 6 % ((s.ts.map (·.1)).length : Int) = k at *
        generalize encTs (putT s.ts ((s.ts.map (·.1))[k.toNat]'a2) t) = T2 at *
        generalize (s.ts.map (·.1))[k.toNat]'a2 = n0 at *
        generalize s.fs.map encF = FF at *
        generalize (s.ts.map (·.1)).map D.int = NN at *
        generalize (s.ts.map (·.1)).length = LL at *
        generalize encTs s.ts = TT at *
        generalize encE s.en = EE at *
        generalize encS s = SS at *
        generalize encV v = vv at *
        generalize encT t = tt at *
        simp [F__law_bent, B__law_bent, hc, i2, kk, hv, i1, lf, ds, i0, h1, en', hlen2, l0, hk, at0, h3, st]
      have b0 := Int.emod_nonneg (c / 360) (b := 2) (by decide)
      have b1 := Int.emod_lt_of_pos (c / 360) (by decide : (0 : Int) < 2)
      rcases (by omega : c / 720 % 2 = 0 ∨ c / 720 % 2 = 1) with h | h
      · exact fin (.box v) v1 _ (by rw [h]; rfl) rfl
      · exact fin (.fn (c / 360 % 2) [v]) ⟨b0, by rw [P0_len]; omega, by show 1 ≤ 8; decide, fun u hu => by rw [List.mem_singleton.mp hu]; exact v1⟩ _ (by rw [h]; rfl) rfl
    · have nB : ¬ c / 2 % 3 = 1 ∨ eqD (.lst ((s.ts.map (·.1)).map D.int)) (.lst []) = .ok (.bl true) := by
        by_cases h : c / 2 % 3 = 1
        · right
          rw [en]
          have : s.ts.map (·.1) = [] := by
            by_cases q : s.ts.map (·.1) = []
            · exact q
            · exact absurd ⟨h, q⟩ hB
          rw [this]
          rfl
        · exact .inl h
      have go : ∀ (e' : End) , (∀ u, e' = .done u → okV (s.ts.map (·.1)) u) → (∀ w, e' = .stuck w → w ∈ stuckW) → ((∃ u, s.en = .done u) ↔ ∃ u, e' = .done u) → okA 133 P0 ⟨e', s.fs, s.ts⟩ := fun e' h1 h2 h3 => ⟨o.fl, o.fr, o.h, h1, h2, o.dn.trans h3⟩
      generalize (s.ts.map (·.1)).map D.int = NN at *
      cases hs : s.en with
      | run =>
        refine ⟨_, ?_, os⟩
        rw [hs] at i0
        show _ = R.ok (D.tup [encE s.en, .lst (s.fs.map encF), encTs s.ts])
        rw [hs]
        simp only [encE] at i0 ⊢
        generalize s.fs.map encF = FF at *
        generalize encTs s.ts = TT at *
        generalize encS s = SS at *
        generalize encV v = vv at *
        rcases (by omega : c / 2 % 3 = 0 ∨ c / 2 % 3 = 1 ∨ c / 2 % 3 = 2) with z | z | z
        · have nA := nA.resolve_left (fun h => h z)
          simp [F__law_bent, B__law_bent, hc, i2, kk, hv, i1, lf, ds, i0, z, nA]
        · have nB := nB.resolve_left (fun h => h z)
          simp [F__law_bent, B__law_bent, hc, i2, kk, hv, i1, lf, ds, i0, z, nB]
        · simp [F__law_bent, B__law_bent, hc, i2, kk, hv, i1, lf, ds, i0, z]
      | done u =>
        refine ⟨_, ?_, go (.done v) (fun u h => by cases h; exact v1) (fun w h => by cases h) ⟨fun _ => ⟨v, rfl⟩, fun _ => ⟨u, hs⟩⟩⟩
        rw [hs] at i0
        show _ = R.ok (D.tup [.tup [.str w_done, encV v], .lst (s.fs.map encF), encTs s.ts])
        simp only [encE] at i0
        generalize encV u = uu at *
        generalize s.fs.map encF = FF at *
        generalize encTs s.ts = TT at *
        generalize encS s = SS at *
        generalize encV v = vv at *
        rcases (by omega : c / 2 % 3 = 0 ∨ c / 2 % 3 = 1 ∨ c / 2 % 3 = 2) with z | z | z
        · have nA := nA.resolve_left (fun h => h z)
          simp [F__law_bent, B__law_bent, hc, i2, kk, hv, i1, lf, ds, i0, z, nA]
        · have nB := nB.resolve_left (fun h => h z)
          simp [F__law_bent, B__law_bent, hc, i2, kk, hv, i1, lf, ds, i0, z, nB]
        · simp [F__law_bent, B__law_bent, hc, i2, kk, hv, i1, lf, ds, i0, z]
      | stuck w =>
        have key : ∃ w', w' ∈ stuckW ∧ atI [D.str w_end, D.str w_own] (c / 6 % 2) = some (.str w') := by
          rcases (by omega : c / 6 % 2 = 0 ∨ c / 6 % 2 = 1) with h | h
          · exact ⟨w_end, by simp [stuckW], by rw [h]; rfl⟩
          · exact ⟨w_own, by simp [stuckW], by rw [h]; rfl⟩
        obtain ⟨w', k1, k2⟩ := key
        refine ⟨_, ?_, go (.stuck w') (fun u h => by cases h) (fun w h => by cases h; exact k1) ⟨fun ⟨u, h⟩ => (by rw [hs] at h; cases h), fun ⟨u, h⟩ => (by cases h)⟩⟩
        rw [hs] at i0
        show _ = R.ok (D.tup [.tup [.str w_stuck, .str w'], .lst (s.fs.map encF), encTs s.ts])
        simp only [encE] at i0
        generalize s.fs.map encF = FF at *
        generalize encTs s.ts = TT at *
        generalize encS s = SS at *
        generalize encV v = vv at *
        rcases (by omega : c / 2 % 3 = 0 ∨ c / 2 % 3 = 1 ∨ c / 2 % 3 = 2) with z | z | z
        · have nA := nA.resolve_left (fun h => h z)
          simp [F__law_bent, B__law_bent, hc, i2, kk, hv, i1, lf, ds, i0, z, nA, k2]
        · have nB := nB.resolve_left (fun h => h z)
          simp [F__law_bent, B__law_bent, hc, i2, kk, hv, i1, lf, ds, i0, z, nB, k2]
        · simp [F__law_bent, B__law_bent, hc, i2, kk, hv, i1, lf, ds, i0, z, k2]
end
end Dn

namespace Dn
open PySem L2
theorem eqW_t {a b : List Str} (h1 : okWP a) (h : a = b) : eqD (encW a) (encW b) = .ok (.bl true) := by
  subst h
  exact eqD_self (pl_wordsP h1) (by decide)
theorem nb_words (a : List Str) : nb (encW a) = true := nbs_of fun x hx => by
  obtain ⟨v, _, rfl⟩ := List.mem_map.mp hx
  rfl
theorem eqW_f {a b : List Str} (h1 : okWP a) (h2 : okWP b) (h : ¬ a = b) : eqD (encW a) (encW b) = .ok (.bl false) := by
  rw [eq_exact (pl_wordsP h1) (pl_wordsP h2) (by decide) (nb_words a) (nb_words b)]
  have : ¬ encW a = encW b := fun q => h (encStr_inj (D.lst.inj q))
  rw [@decide_eq_false _ (Classical.propDecidable _) this]
def lwRest : Env → R Fl := (sSeq (sAsg 4 [] (eLst (aCons (eCall (F__law_copy) (aCons (eVar 2) aNil)) (aCons (eCall (F__law_copy) (aCons (eVar 3) aNil)) aNil)))) (sSeq (sAsg 5 [] (eCall (F_matched) (aCons (eOp ixD (eVar 4) (eC (.int 0))) (aCons (eOp ixD (eVar 4) (eC (.int 1))) aNil)))) (sSeq (sIf (eOrT (eNotT (tB' (eCall (F__law_same_state) (aCons (eOp ixD (eVar 4) (eC (.int 0))) (aCons (eVar 2) aNil))))) (eNotT (tB' (eCall (F__law_same_state) (aCons (eOp ixD (eVar 4) (eC (.int 1))) (aCons (eVar 3) aNil)))))) (sRet [] (eC (.bl false))) sNext) (sSeq (sIf (tB' (eOp neD (eCall (F__law_told) (aCons (eVar 2) aNil)) (eCall (F__law_told) (aCons (eVar 3) aNil)))) (sRet [] (eLook (eOp isD (eVar 5) (eC .non)))) sNext) (sSeq (sIf (eOrT (eNotT (tB' (eUn (isiD "dict") (eVar 5)))) (tB' (eOp neD (eCall sortedD (aCons (eCall listD (aCons (eVar 5) aNil)) aNil)) (eCall sortedD (aCons (eCall (F__law_met) (aCons (eVar 2) aNil)) aNil))))) (sRet [] (eC (.bl false))) sNext) (sSeq (sAsg 6 [] (eCall dictD (aCons (eLc (iWalk (eChk (.own .fz) (eCall listD (aCons (eVar 5) aNil)))) [8] (setN 8) cYes (eTup (aCons (eVar 8) (aCons (eIxV 5 (eVar 8)) aNil)))) aNil))) (sSeq (sIf (tB' (eOp neD (eCall sortedD (aCons (eUn valsD (eVar 5)) aNil)) (eCall sortedD (aCons (eCall (F__law_met) (aCons (eVar 3) aNil)) aNil)))) (sRet [] (eC (.bl false))) sNext) (sSeq (sAsg 7 [] (eChk (.tup [.fz, (.own .fz), (.own .fz)]) (eCall (F__law_by_names) (aCons (eVar 2) (aCons (eVar 5) aNil))))) (sSeq (sIf (eOrT (eNotT (tB' (eCall (F__law_alike 7) (aCons (eOp ixD (eVar 7) (eC (.int 0))) (aCons (eOp ixD (eVar 3) (eC (.int 0))) aNil))))) (tB' (eOp neD (eOp ixD (eVar 7) (eC (.int 1))) (eOp ixD (eVar 3) (eC (.int 1)))))) (sRet [] (eC (.bl false))) sNext) (sSeq (sIf (tB' (eOp neD (eLc (iWalk (eCall listD (aCons (eOp ixD (eVar 7) (eC (.int 2))) aNil))) [8] (setN 8) (tB' (eOp neD (eOp ixD (eOp ixD (eVar 7) (eC (.int 2))) (eVar 8)) (eOp ixD (eOp ixD (eVar 3) (eC (.int 2))) (eVar 8)))) (eVar 8)) (eLst aNil))) (sRet [] (eC (.bl false))) sNext) (sSeq (sClr 5) (sRet [] (eOp eqD (eCall (F_matched) (aCons (eOp ixD (eVar 4) (eC (.int 0))) (aCons (eOp ixD (eVar 4) (eC (.int 1))) aNil))) (eVar 6))))))))))))))
theorem B_lwRest : B_law = (sSeq (sAsg 1 [] (eCall (F__law_program) (aCons (eVar 0) (aCons (eCall F__law_words aNil) aNil)))) (sSeq (sAsg 2 [] (eCall (F__law_ended) (aCons (eVar 0) (aCons (eCall (F__law_state) (aCons (eVar 0) (aCons (eVar 1) aNil))) aNil)))) (sSeq (sAsg 3 [] (eCall (F__law_named) (aCons (eVar 0) (aCons (eVar 2) aNil)))) (sSeq (sIf (tB' (eOp eqD (eOp modD (eCall (F__law_cell) (aCons (eVar 0) (aCons (eC (.int 17)) aNil))) (eC (.int 2))) (eC (.int 1)))) (sAsg 3 [] (eCall (F__law_more) (aCons (eVar 0) (aCons (eVar 3) aNil)))) sNext) (sSeq (sIf (tB' (eOp eqD (eOp modD (eCall (F__law_cell) (aCons (eVar 0) (aCons (eC (.int 18)) aNil))) (eC (.int 2))) (eC (.int 1)))) (sAsg 3 [] (eCall (F__law_bent) (aCons (eVar 0) (aCons (eVar 3) aNil)))) sNext) lwRest))))) := rfl
theorem eq_ints (N : List Int) : eqD (.lst (N.map .int)) (.lst (N.map .int)) = .ok (.bl true) := eqD_self (n := 1) (pls_of fun x hx => by
  obtain ⟨v, _, rfl⟩ := List.mem_map.mp hx
  rfl) (by decide)
theorem dic_self {nm : List (Int × Int)} (nd : (nm.map (·.1)).Nodup) : eqD (encNm nm) (encNm nm) = .ok (.bl true) := by
  refine if_pos ?_
  unfold dicB
  rw [Bool.and_eq_true]
  refine ⟨beq_self_eq_true _, List.all_eq_true.mpr fun kv hkv => ?_⟩
  obtain ⟨q, hq, rfl⟩ := List.mem_map.mp hkv
  show lookB (nm.map fun q => ((Sum.inl q.1 : L2.Key), D.int q.2)) (Sum.inl q.1) (D.int q.2) = true
  have e : ((nm.map fun q => ((Sum.inl q.1 : L2.Key), D.int q.2)).find? fun kv => decide (kv.1 = Sum.inl q.1)) = some (Sum.inl q.1, D.int q.2) := by
    induction nm with
    | nil => cases hq
    | cons x nm ih =>
      rw [List.map_cons, List.nodup_cons] at nd
      rw [List.map_cons]
      rcases List.mem_cons.mp hq with rfl | hq
      · rw [List.find?_cons_of_pos (by simp)]
      · rw [List.find?_cons_of_neg, ih nd.2 hq (List.mem_map.mpr ⟨q, hq, rfl⟩)]
        simp only [decide_eq_true_eq]
        intro h
        injection h with h
        exact nd.1 (by rw [h]; exact List.mem_map.mpr ⟨q, hq, rfl⟩)
  unfold lookB
  rw [e]
  show ((q.2 == q.2) : Bool) = true
  exact beq_self_eq_true _
theorem chk_stateE (B : Sta) : chk (.tup [.fz, .own .fz, .own .fz]) (encS B) = true := by
  have h := chk_state B.fs B.ts
  have e : chk .fz (encE B.en) = true := by
    cases B.en with
    | run => rfl
    | stuck w => rfl
    | done v => cases v <;> rfl
  show (chk .fz (encE B.en) && (chk (.own .fz) (.lst (B.fs.map encF)) && (chk (.own .fz) (encTs B.ts) && true))) = true
  have h2 : (chk .fz .non && (chk (.own .fz) (.lst (B.fs.map encF)) && (chk (.own .fz) (encTs B.ts) && true))) = true := h
  rw [Bool.and_eq_true] at h2 ⊢
  exact ⟨e, h2.2⟩
theorem rest_ok {s s' : Sta} (o : okA 130 P0 s) (o' : okA 133 P0 s') (a0 a1 : Option D) : ∃ ρ', lwRest [a0, a1, some (encS s), some (encS s'), none, none, none, none, none] = .ok (.rt (.bl true) ρ') := by
  have pb : ∀ b ∈ P0, b.length ≤ 1000 := fun b hb => by
    have := List.eq_of_mem_replicate (show b ∈ List.replicate 1000 (List.replicate 1000 (Row.plain w_add)) from hb)
    rw [this, List.length_replicate]
    exact Nat.le_refl _
  have te := tells_of o (by decide) (by rw [P0_len]; omega) pb
  have te' := tells_of o' (by decide) (by rw [P0_len]; omega) pb
  have al := allMetP o
  have ek : endOk s.en := fun w h => stuckP (o.st w h)
  have ek' : endOk s'.en := fun w h => stuckP (o'.st w h)
  obtain ⟨mt, mf⟩ := matched_ok te te' al ek ek'
  have cp := copy_ok s
  have cp' := copy_ok s'
  have ss := same_state_ok o
  have ss' := same_state_ok o'
  have lt := law_told_ok te
  have lt' := law_told_ok te'
  have ow := okW_toldP o.st
  have ow' := okW_toldP o'.st
  by_cases ft : fitted s s'
  · obtain ⟨t1, ak⟩ := fitted_told te te' al ft
    have mt := mt ft
    have ew := eqW_t ow t1.symm
    have hl : (metM s).length = (metM s').length := by simpa using (congrArg List.length ft.th).symm
    have nk := nmZ_keys te te' al hl
    have nv := nmZ_vals te te' al hl
    have ng := nmZ_g te te' al hl
    have kn := keys_nm (nmZ s s')
    have vn := vals_nm (nmZ s s')
    rw [nk] at kn
    rw [nv] at vn
    have nl : (nmZ s s').length ≤ 900 := by
      have := congrArg List.length nk
      rw [List.length_map] at this
      rw [this]
      exact te.ml
    have s1 := sorted_ok (metM s)
    have s2 := sorted_ok (metM s')
    have lm := law_met_ok te.z te.c te.v
    have lm' := law_met_ok te'.z te'.c te'.v
    have q1 := eq_ints (sortZ (metM s))
    have q2 := eq_ints (sortZ (metM s'))
    have ck : chk (.own .fz) (.lst ((metM s).map D.int)) = true := List.all_eq_true.mpr fun x hx => by
      obtain ⟨n, _, rfl⟩ := List.mem_map.mp hx
      rfl
    have fn : ∀ n, n ∈ metM s → ∃ t, lookT s.ts n = some t ∧ (innerM t).length ≤ 8 ∧ ∀ m, Val.ref m ∈ innerM t → m ∈ metM s := fun n hn => by
      obtain ⟨t, h1, h2, h3, _⟩ := te.t n hn
      exact ⟨t, h1, h3, fun m hm => h2 _ hm⟩
    have fv : ∀ f ∈ s.fs, ∀ v, v ∈ f.own ++ f.stack → v ∈ valuesM s := fun f hf v hv => List.mem_append_right _ (List.mem_flatMap.mpr ⟨f, hf, hv⟩)
    have bn := by_names_ok (nm := nmZ s s') (g := gOf (metM s) (metM s')) (s := s) ng o.fl (fun f hf => ⟨(o.fr f hf).ol, (o.fr f hf).sl, fun n hn => by rw [nk]; exact al.v n (fv f hf _ (by simp [hn])), fun n hn => by rw [nk]; exact al.v n (fv f hf _ (by simp [hn]))⟩) (fun n e => by rw [nk]; exact al.v n (by unfold valuesM; rw [e]; simp [endVals])) (fun n hn => by rw [nk] at hn ⊢; exact fn n hn) (by rw [nv]; exact te'.nd) (by omega)
    rw [← ft.en, ← ft.fs] at bn
    have ch := chk_stateE ⟨s'.en, s'.fs, (nmZ s s').map fun q => (q.2, reT (gOf (metM s) (metM s')) (thOf s.ts q.1))⟩
    have b0 : ∀ T, ixD (encS ⟨s'.en, s'.fs, T⟩) (.int 0) = .ok (encE s'.en) := fun T => by simp [encS]
    have b1 : ∀ T, ixD (encS ⟨s'.en, s'.fs, T⟩) (.int 1) = .ok (.lst (s'.fs.map encF)) := fun T => by simp [encS]
    have b2 : ∀ T, ixD (encS ⟨s'.en, s'.fs, T⟩) (.int 2) = .ok (encTs T) := fun T => by simp [encS]
    have j0 : ixD (encS s') (.int 0) = .ok (encE s'.en) := by simp [encS]
    have j1 : ixD (encS s') (.int 1) = .ok (.lst (s'.fs.map encF)) := by simp [encS]
    have j2 : ixD (encS s') (.int 2) = .ok (encTs s'.ts) := by simp [encS]
    have ae : F__law_alike 7 [encE s'.en, encE s'.en] = .ok (.bl true) := alike_self 6 _ sh_end
    have ef : eqD (.lst (s'.fs.map encF)) (.lst (s'.fs.map encF)) = .ok (.bl true) := eqFs_t rfl
    have dp := dict_pairs (nm := nmZ s s') (by rw [nk]; exact te.nd)
    have ds := dic_self (nm := nmZ s s') (by rw [nk]; exact te.nd)
    have e0 : eqD (.lst []) (.lst []) = .ok (.bl true) := eq_nilI []
    have isd : isiB "dict" (encNm (nmZ s s')) = true := rfl
    -- the copy of the matching
    have lc : eLc (iWalk (eChk (.own .fz) (eCall listD (aCons (eVar 5) aNil)))) [8] (setN 8) cYes (eTup (aCons (eVar 8) (aCons (eIxV 5 (eVar 8)) aNil))) [a0, a1, some (encS s), some (encS s'), some (.lst [encS s, encS s']), some (encNm (nmZ s s')), none, none, none] = .ok (.lst ((nmZ s s').map fun q => .tup [.int q.1, .int q.2])) := by
      have q := eLc_filter (enc := fun q : Int × Int => D.int q.1) (p := fun _ => true) (g := fun q : Int × Int => D.tup [.int q.1, .int q.2]) (xs := nmZ s s') (fi := iWalk (eChk (.own .fz) (eCall listD (aCons (eVar 5) aNil)))) (vs := [8]) (i := 8) (fc := cYes) (fe := eTup (aCons (eVar 8) (aCons (eIxV 5 (eVar 8)) aNil))) (ρ := [a0, a1, some (encS s), some (encS s'), some (.lst [encS s, encS s']), some (encNm (nmZ s s')), none, none, none]) (by
        have em : (nmZ s s').map (fun q : Int × Int => D.int q.1) = (metM s).map D.int := by rw [← nk, List.map_map]; rfl
        rw [em]
        generalize (metM s).map D.int = MM at *
        generalize encNm (nmZ s s') = NN at *
        simp [kn, ck]) (by omega) (fun _ _ => rfl) (fun q hq _ => by
        have e := nm_at ng (n := q.1) (List.mem_map.mpr ⟨q, hq, rfl⟩)
        rw [ng q hq] at e
        generalize encNm (nmZ s s') = NN at *
        generalize encS s = S1 at *
        generalize encS s' = S2 at *
        simp [wipeE, e])
      rw [q, List.filter_eq_self.mpr (fun _ _ => rfl)]
    -- no thing differs
    have ld : ∀ y6 : Option D, eLc (iWalk (eCall listD (aCons (eOp ixD (eVar 7) (eC (.int 2))) aNil))) [8] (setN 8) (tB' (eOp neD (eOp ixD (eOp ixD (eVar 7) (eC (.int 2))) (eVar 8)) (eOp ixD (eOp ixD (eVar 3) (eC (.int 2))) (eVar 8)))) (eVar 8) [a0, a1, some (encS s), some (encS s'), some (.lst [encS s, encS s']), some (encNm (nmZ s s')), y6, some (encS ⟨s'.en, s'.fs, (nmZ s s').map fun q => (q.2, reT (gOf (metM s) (metM s')) (thOf s.ts q.1))⟩), none] = .ok (.lst []) := fun y6 => by
      have q := eLc_filter (enc := fun q : Int × Int => D.int q.2) (p := fun _ => false) (g := fun _ => D.non) (xs := nmZ s s') (fi := iWalk (eCall listD (aCons (eOp ixD (eVar 7) (eC (.int 2))) aNil))) (vs := [8]) (i := 8) (fc := tB' (eOp neD (eOp ixD (eOp ixD (eVar 7) (eC (.int 2))) (eVar 8)) (eOp ixD (eOp ixD (eVar 3) (eC (.int 2))) (eVar 8)))) (fe := eVar 8) (ρ := [a0, a1, some (encS s), some (encS s'), some (.lst [encS s, encS s']), some (encNm (nmZ s s')), y6, some (encS ⟨s'.en, s'.fs, (nmZ s s').map fun q => (q.2, reT (gOf (metM s) (metM s')) (thOf s.ts q.1))⟩), none]) (by
        have kb := keys_of ((nmZ s s').map fun q => (q.2, reT (gOf (metM s) (metM s')) (thOf s.ts q.1)))
        have em : ((((nmZ s s').map fun q => (q.2, reT (gOf (metM s) (metM s')) (thOf s.ts q.1))).map (·.1)).map D.int) = (nmZ s s').map (fun q : Int × Int => D.int q.2) := by
          rw [List.map_map, List.map_map]
          rfl
        rw [em] at kb
        have b2' := b2 ((nmZ s s').map fun q => (q.2, reT (gOf (metM s) (metM s')) (thOf s.ts q.1)))
        generalize (nmZ s s').map (fun q : Int × Int => D.int q.2) = MM at *
        generalize encS ⟨s'.en, s'.fs, (nmZ s s').map fun q => (q.2, reT (gOf (metM s) (metM s')) (thOf s.ts q.1))⟩ = SB at *
        generalize encTs ((nmZ s s').map fun q => (q.2, reT (gOf (metM s) (metM s')) (thOf s.ts q.1))) = TB at *
        simp [b2', kb]) (by omega) (fun q hq => by
        have q1 : q.1 ∈ metM s := by rw [← nk]; exact List.mem_map.mpr ⟨q, hq, rfl⟩
        obtain ⟨t, h1, h2⟩ := ak.th q.1 q1
        rw [ng q hq] at h2
        have x2 := ix_look h2
        have x1 : ixD (encTs ((nmZ s s').map fun q => (q.2, reT (gOf (metM s) (metM s')) (thOf s.ts q.1)))) (.int q.2) = .ok (encT (reT (gOf (metM s) (metM s')) t)) := by
          have e : thOf s.ts q.1 = t := by unfold thOf; rw [h1]; rfl
          have v := val_at (ts := (nmZ s s').map fun q => (q.2, reT (gOf (metM s) (metM s')) (thOf s.ts q.1))) (n := q.2) (t := reT (gOf (metM s) (metM s')) t) (by
            have : ((nmZ s s').map fun q => (q.2, reT (gOf (metM s) (metM s')) (thOf s.ts q.1))).map (·.1) = metM s' := by
              rw [List.map_map]
              exact nv
            rw [this]
            exact te'.nd) (List.mem_map.mpr ⟨q, hq, by rw [e]⟩)
          show (match valK (((nmZ s s').map fun q => (q.2, reT (gOf (metM s) (metM s')) (thOf s.ts q.1))).map fun t => ((Sum.inl t.1 : L2.Key), encT t.2)) (.inl q.2) with
            | some d => R.ok d
            | none => .no) = _
          rw [v]
        have eT := eqT_t (t := reT (gOf (metM s) (metM s')) t) rfl
        have b2' := b2 ((nmZ s s').map fun q => (q.2, reT (gOf (metM s) (metM s')) (thOf s.ts q.1)))
        generalize encS ⟨s'.en, s'.fs, (nmZ s s').map fun q => (q.2, reT (gOf (metM s) (metM s')) (thOf s.ts q.1))⟩ = SB at *
        generalize encTs ((nmZ s s').map fun q => (q.2, reT (gOf (metM s) (metM s')) (thOf s.ts q.1))) = TB at *
        generalize encT (reT (gOf (metM s) (metM s')) t) = tt at *
        generalize encTs s'.ts = T2 at *
        generalize encS s' = S2 at *
        generalize encS s = S1 at *
        generalize encNm (nmZ s s') = NN at *
        simp [wipeE, b2', x1, j2, x2, eT]) (fun q hq h => by cases h)
      rw [q, List.filter_eq_nil_iff.mpr (fun _ _ h => by cases h)]
      rfl
    have c0 := b0 ((nmZ s s').map fun q => (q.2, reT (gOf (metM s) (metM s')) (thOf s.ts q.1)))
    have c1 := b1 ((nmZ s s').map fun q => (q.2, reT (gOf (metM s) (metM s')) (thOf s.ts q.1)))
    have c2 := b2 ((nmZ s s').map fun q => (q.2, reT (gOf (metM s) (metM s')) (thOf s.ts q.1)))
    clear b0 b1 b2
    generalize encS ⟨s'.en, s'.fs, (nmZ s s').map fun q => (q.2, reT (gOf (metM s) (metM s')) (thOf s.ts q.1))⟩ = SB at *
    generalize encTs ((nmZ s s').map fun q => (q.2, reT (gOf (metM s) (metM s')) (thOf s.ts q.1))) = TB at *
    generalize (nmZ s s').map (fun q => D.tup [.int q.1, .int q.2]) = PP at *
    have nd0 : ∃ es, encNm (nmZ s s') = .dic es := ⟨_, rfl⟩
    generalize encNm (nmZ s s') = NN at *
    obtain ⟨es, rfl⟩ := nd0
    generalize (sortZ (metM s)).map D.int = Z1 at *
    generalize (sortZ (metM s')).map D.int = Z2 at *
    generalize (metM s).map D.int = M1 at *
    generalize (metM s').map D.int = M2 at *
    generalize s'.fs.map encF = F2 at *
    generalize encE s'.en = E2 at *
    generalize encTs s'.ts = T2 at *
    generalize encW (toldM s) = W1 at *
    generalize encW (toldM s') = W2 at *
    generalize encS s = S1 at *
    generalize encS s' = S2 at *
    simp [lwRest, cp, cp', mt, ss, ss', lt, lt', ew, isd, kn, s1, lm, q1, lc, dp, vn, s2, lm', q2, bn, ch, c0, j0, ae, c1, j1, ef, ld, e0, ds, sClr]
  · have mf := mf ft
    have ew := eqW_f ow ow' (fun e => ft (told_inj te te' e))
    generalize encW (toldM s) = W1 at *
    generalize encW (toldM s') = W2 at *
    generalize encS s = S1 at *
    generalize encS s' = S2 at *
    simp [lwRest, cp, cp', mf, ss, ss', lt, lt', ew]
theorem law_true (ns : List Int) (hn : ns.length ≤ 63) : F_law [.scr ns] = .ok (.bl true) := by
  obtain ⟨p, p1, p2, p3, p4⟩ := prog_all hn
  obtain ⟨s0, s1, s2, s3⟩ := state_all hn p2 p3
  obtain ⟨s, e1, o⟩ := ended_ok hn s3 s2
  have o := okA_P0 o (by omega) fun b hb => by have := (p4 b hb).1; omega
  obtain ⟨sn, n1, n2⟩ := named_ok hn o
  obtain ⟨sm, m1, m2⟩ := more_ok hn n2
  obtain ⟨b1, d1, d2⟩ := bent_ok hn (okA_133 hn (by decide) n2)
  obtain ⟨b2, f1, f2⟩ := bent_ok hn m2
  obtain ⟨c7, hc7, _, _⟩ := cell_ok hn (by decide : (0 : Int) ≤ 17)
  obtain ⟨c8, hc8, _, _⟩ := cell_ok hn (by decide : (0 : Int) ≤ 18)
  obtain ⟨r1, g1⟩ := rest_ok o (okA_133 hn (by decide) n2) (some (.scr ns)) (some (encPR p))
  obtain ⟨r2, g2⟩ := rest_ok o m2 (some (.scr ns)) (some (encPR p))
  obtain ⟨r3, g3⟩ := rest_ok o d2 (some (.scr ns)) (some (encPR p))
  obtain ⟨r4, g4⟩ := rest_ok o f2 (some (.scr ns)) (some (encPR p))
  have wo := words_ok
  generalize allW.map D.str = WW at *
  generalize encS s0 = S0 at *
  generalize encS s = S at *
  generalize encS sn = SN at *
  generalize encS sm = SM at *
  generalize encS b1 = SB1 at *
  generalize encS b2 = SB2 at *
  generalize encPR p = PP at *
  by_cases h7 : c7 % 2 = 1 <;> by_cases h8 : c8 % 2 = 1
  · simp [F_law, B_lwRest, wo, p1, s1, e1, n1, hc7, h7, m1, hc8, h8, f1, g4]
  · simp [F_law, B_lwRest, wo, p1, s1, e1, n1, hc7, h7, m1, hc8, h8, g2]
  · simp [F_law, B_lwRest, wo, p1, s1, e1, n1, hc7, h7, hc8, h8, d1, g3]
  · simp [F_law, B_lwRest, wo, p1, s1, e1, n1, hc7, h7, hc8, h8, g1]
end Dn

open PySem PySem.W PyProof.Rows in
set_option maxRecDepth 100000 in
set_option maxHeartbeats 0 in
theorem PySem.Challenge.cw_sleepwalk_k11_matched_holds : PySem.Challenge.rw_sleepwalk_k11_matched.Holds := by
  w_on; o_law; k_head; (case hw => w_witness2)
  k_fill
  refine Dn.walk_d (l := PySem.Challenge.rw_sleepwalk_k11_matched) (g := Dn.F_law) (k := 12) (x := "_law_script") rfl rfl ⟨rfl, by decide, by decide⟩ (fun w h Y => PySem.W.kIn_of Y) ?F Dn.law_true
  case F =>
    intro w mg fa h KX G GX hmg
    have n_all : mg "all" = none := PySem.W.mg_none_of KX G (by k_is)
    have n_bool : mg "bool" = none := PySem.W.mg_none_of KX G (by k_is)
    have n_dict : mg "dict" = none := PySem.W.mg_none_of KX G (by k_is)
    have n_int : mg "int" = none := PySem.W.mg_none_of KX G (by k_is)
    have n_isinstance : mg "isinstance" = none := PySem.W.mg_none_of KX G (by k_is)
    have n_len : mg "len" = none := PySem.W.mg_none_of KX G (by k_is)
    have n_list : mg "list" = none := PySem.W.mg_none_of KX G (by k_is)
    have n_max : mg "max" = none := PySem.W.mg_none_of KX G (by k_is)
    have n_range : mg "range" = none := PySem.W.mg_none_of KX G (by k_is)
    have n_set : mg "set" = none := PySem.W.mg_none_of KX G (by k_is)
    have n_sorted : mg "sorted" = none := PySem.W.mg_none_of KX G (by k_is)
    have n_str : mg "str" = none := PySem.W.mg_none_of KX G (by k_is)
    have n_tuple : mg "tuple" = none := PySem.W.mg_none_of KX G (by k_is)
    have h__law_cell : Dn.Has (Dn.fragOf KX) mg "_law_cell" Dn.s__law_cell ["_law_script", "_law_k"] := by
      dsimp only [Dn.fragOf]
      refine' Dn.has_mk KX G ?a12 ?l12 ?c12 ?k12 ?b12
      (case a12 => k_is)
      (case l12 => k_is)
      (case c12 => k_is)
      (case k12 => k_is)
      exact fun _ _ _ _ _ _ us hl => match us, hl with | [_, _], _ => rfl
    have h__law_raw : Dn.Has (Dn.fragOf KX) mg "_law_raw" Dn.s__law_raw ["_law_script", "_law_k"] := by
      dsimp only [Dn.fragOf]
      refine' Dn.has_mk KX G ?a13 ?l13 ?c13 ?k13 ?b13
      (case a13 => k_is)
      (case l13 => k_is)
      (case c13 => k_is)
      (case k13 => k_is)
      exact fun _ _ _ _ _ _ us hl => match us, hl with | [_, _], _ => rfl
    have h__law_row : Dn.Has (Dn.fragOf KX) mg "_law_row" Dn.s__law_row ["_law_script", "_law_k", "_law_words_here", "_law_bodies", "_law_size"] := by
      dsimp only [Dn.fragOf]
      refine' Dn.has_mk KX G ?a22 ?l22 ?c22 ?k22 ?b22
      (case a22 => k_is)
      (case l22 => k_is)
      (case c22 => k_is)
      (case k22 => k_is)
      exact fun _ _ _ _ _ _ us hl => match us, hl with | [_, _, _, _, _], _ => rfl
    have h__law_program : Dn.Has (Dn.fragOf KX) mg "_law_program" Dn.s__law_program ["_law_script", "_law_words_here"] := by
      dsimp only [Dn.fragOf]
      refine' Dn.has_mk KX G ?a24 ?l24 ?c24 ?k24 ?b24
      (case a24 => k_is)
      (case l24 => k_is)
      (case c24 => k_is)
      (case k24 => k_is)
      exact fun _ _ _ _ _ _ us hl => match us, hl with | [_, _], _ => rfl
    have h__law_number : Dn.Has (Dn.fragOf KX) mg "_law_number" Dn.s__law_number ["_law_script", "_law_k"] := by
      dsimp only [Dn.fragOf]
      refine' Dn.has_mk KX G ?a15 ?l15 ?c15 ?k15 ?b15
      (case a15 => k_is)
      (case l15 => k_is)
      (case c15 => k_is)
      (case k15 => k_is)
      exact fun _ _ _ _ _ _ us hl => match us, hl with | [_, _], _ => rfl
    have h__law_value : Dn.Has (Dn.fragOf KX) mg "_law_value" Dn.s__law_value ["_law_script", "_law_k", "_law_names_here"] := by
      dsimp only [Dn.fragOf]
      refine' Dn.has_mk KX G ?a16 ?l16 ?c16 ?k16 ?b16
      (case a16 => k_is)
      (case l16 => k_is)
      (case c16 => k_is)
      (case k16 => k_is)
      exact fun _ _ _ _ _ _ us hl => match us, hl with | [_, _, _], _ => rfl
    have h__law_ended : Dn.Has (Dn.fragOf KX) mg "_law_ended" Dn.s__law_ended ["_law_script", "_law_state_here"] := by
      dsimp only [Dn.fragOf]
      refine' Dn.has_mk KX G ?a26 ?l26 ?c26 ?k26 ?b26
      (case a26 => k_is)
      (case l26 => k_is)
      (case c26 => k_is)
      (case k26 => k_is)
      exact fun _ _ _ _ _ _ us hl => match us, hl with | [_, _], _ => rfl
    have h__law_changed : Dn.Has (Dn.fragOf KX) mg "_law_changed" Dn.s__law_changed ["_law_value_here", "_law_names_here"] := by
      dsimp only [Dn.fragOf]
      refine' Dn.has_mk KX G ?a32 ?l32 ?c32 ?k32 ?b32
      (case a32 => k_is)
      (case l32 => k_is)
      (case c32 => k_is)
      (case k32 => k_is)
      exact fun _ _ _ _ _ _ us hl => match us, hl with | [_, _], _ => rfl
    have h__law_by_names : Dn.Has (Dn.fragOf KX) mg "_law_by_names" Dn.s__law_by_names ["_law_state_here", "_law_names_here"] := by
      dsimp only [Dn.fragOf]
      refine' Dn.has_mk KX G ?a33 ?l33 ?c33 ?k33 ?b33
      (case a33 => k_is)
      (case l33 => k_is)
      (case c33 => k_is)
      (case k33 => k_is)
      exact fun _ _ _ _ _ _ us hl => match us, hl with | [_, _], _ => rfl
    have h__law_named : Dn.Has (Dn.fragOf KX) mg "_law_named" Dn.s__law_named ["_law_script", "_law_state_here"] := by
      dsimp only [Dn.fragOf]
      refine' Dn.has_mk KX G ?a38 ?l38 ?c38 ?k38 ?b38
      (case a38 => k_is)
      (case l38 => k_is)
      (case c38 => k_is)
      (case k38 => k_is)
      exact fun _ _ _ _ _ _ us hl => match us, hl with | [_, _], _ => rfl
    have h_numbers_in : Dn.Has (Dn.fragOf KX) mg "numbers_in" Dn.s_numbers_in ["values"] := by
      dsimp only [Dn.fragOf]
      refine' Dn.has_mk KX G ?a3 ?l3 ?c3 ?k3 ?b3
      (case a3 => k_is)
      (case l3 => k_is)
      (case c3 => k_is)
      (case k3 => k_is)
      exact fun _ _ _ _ _ _ us hl => match us, hl with | [_], _ => rfl
    have h_values_of : Dn.Has (Dn.fragOf KX) mg "values_of" Dn.s_values_of ["state"] := by
      dsimp only [Dn.fragOf]
      refine' Dn.has_mk KX G ?a1 ?l1 ?c1 ?k1 ?b1
      (case a1 => k_is)
      (case l1 => k_is)
      (case c1 => k_is)
      (case k1 => k_is)
      exact fun _ _ _ _ _ _ us hl => match us, hl with | [_], _ => rfl
    have h_inner : Dn.Has (Dn.fragOf KX) mg "inner" Dn.s_inner ["thing"] := by
      dsimp only [Dn.fragOf]
      refine' Dn.has_mk KX G ?a2 ?l2 ?c2 ?k2 ?b2
      (case a2 => k_is)
      (case l2 => k_is)
      (case c2 => k_is)
      (case k2 => k_is)
      exact fun _ _ _ _ _ _ us hl => match us, hl with | [_], _ => rfl
    have h_met : Dn.Has (Dn.fragOf KX) mg "met" Dn.s_met ["state"] := by
      dsimp only [Dn.fragOf]
      refine' Dn.has_mk KX G ?a4 ?l4 ?c4 ?k4 ?b4
      (case a4 => k_is)
      (case l4 => k_is)
      (case c4 => k_is)
      (case k4 => k_is)
      exact fun _ _ _ _ _ _ us hl => match us, hl with | [_], _ => rfl
    have h_renamed : Dn.Has (Dn.fragOf KX) mg "renamed" Dn.s_renamed ["value", "names"] := by
      dsimp only [Dn.fragOf]
      refine' Dn.has_mk KX G ?a5 ?l5 ?c5 ?k5 ?b5
      (case a5 => k_is)
      (case l5 => k_is)
      (case c5 => k_is)
      (case k5 => k_is)
      exact fun _ _ _ _ _ _ us hl => match us, hl with | [_, _], _ => rfl
    have h_renamed_end : Dn.Has (Dn.fragOf KX) mg "renamed_end" Dn.s_renamed_end ["end", "names"] := by
      dsimp only [Dn.fragOf]
      refine' Dn.has_mk KX G ?a9 ?l9 ?c9 ?k9 ?b9
      (case a9 => k_is)
      (case l9 => k_is)
      (case c9 => k_is)
      (case k9 => k_is)
      exact fun _ _ _ _ _ _ us hl => match us, hl with | [_, _], _ => rfl
    have h_renamed_all : Dn.Has (Dn.fragOf KX) mg "renamed_all" Dn.s_renamed_all ["values", "names"] := by
      dsimp only [Dn.fragOf]
      refine' Dn.has_mk KX G ?a6 ?l6 ?c6 ?k6 ?b6
      (case a6 => k_is)
      (case l6 => k_is)
      (case c6 => k_is)
      (case k6 => k_is)
      exact fun _ _ _ _ _ _ us hl => match us, hl with | [_, _], _ => rfl
    have h_renamed_frame : Dn.Has (Dn.fragOf KX) mg "renamed_frame" Dn.s_renamed_frame ["frame", "names"] := by
      dsimp only [Dn.fragOf]
      refine' Dn.has_mk KX G ?a8 ?l8 ?c8 ?k8 ?b8
      (case a8 => k_is)
      (case l8 => k_is)
      (case c8 => k_is)
      (case k8 => k_is)
      exact fun _ _ _ _ _ _ us hl => match us, hl with | [_, _], _ => rfl
    have h_renamed_thing : Dn.Has (Dn.fragOf KX) mg "renamed_thing" Dn.s_renamed_thing ["thing", "names"] := by
      dsimp only [Dn.fragOf]
      refine' Dn.has_mk KX G ?a7 ?l7 ?c7 ?k7 ?b7
      (case a7 => k_is)
      (case l7 => k_is)
      (case c7 => k_is)
      (case k7 => k_is)
      exact fun _ _ _ _ _ _ us hl => match us, hl with | [_, _], _ => rfl
    have h_matched : Dn.Has (Dn.fragOf KX) mg "matched" Dn.s_matched ["one", "other"] := by
      dsimp only [Dn.fragOf]
      refine' Dn.has_mk KX G ?a10 ?l10 ?c10 ?k10 ?b10
      (case a10 => k_is)
      (case l10 => k_is)
      (case c10 => k_is)
      (case k10 => k_is)
      exact fun _ _ _ _ _ _ us hl => match us, hl with | [_, _], _ => rfl
    have h__law_words : Dn.Has (Dn.fragOf KX) mg "_law_words" Dn.s__law_words [] := by
      dsimp only [Dn.fragOf]
      refine' Dn.has_mk KX G ?a23 ?l23 ?c23 ?k23 ?b23
      (case a23 => k_is)
      (case l23 => k_is)
      (case c23 => k_is)
      (case k23 => k_is)
      exact fun _ _ _ _ _ _ us hl => match us, hl with | [], _ => rfl
    have h__law_names : Dn.Has (Dn.fragOf KX) mg "_law_names" Dn.s__law_names ["_law_script"] := by
      dsimp only [Dn.fragOf]
      refine' Dn.has_mk KX G ?a18 ?l18 ?c18 ?k18 ?b18
      (case a18 => k_is)
      (case l18 => k_is)
      (case c18 => k_is)
      (case k18 => k_is)
      exact fun _ _ _ _ _ _ us hl => match us, hl with | [_], _ => rfl
    have h__law_values : Dn.Has (Dn.fragOf KX) mg "_law_values" Dn.s__law_values ["_law_script", "_law_k", "_law_many", "_law_names_here"] := by
      dsimp only [Dn.fragOf]
      refine' Dn.has_mk KX G ?a17 ?l17 ?c17 ?k17 ?b17
      (case a17 => k_is)
      (case l17 => k_is)
      (case c17 => k_is)
      (case k17 => k_is)
      exact fun _ _ _ _ _ _ us hl => match us, hl with | [_, _, _, _], _ => rfl
    have h__law_frame : Dn.Has (Dn.fragOf KX) mg "_law_frame" Dn.s__law_frame ["_law_script", "_law_k", "_law_program_here", "_law_names_here"] := by
      dsimp only [Dn.fragOf]
      refine' Dn.has_mk KX G ?a20 ?l20 ?c20 ?k20 ?b20
      (case a20 => k_is)
      (case l20 => k_is)
      (case c20 => k_is)
      (case k20 => k_is)
      exact fun _ _ _ _ _ _ us hl => match us, hl with | [_, _, _, _], _ => rfl
    have h__law_frames : Dn.Has (Dn.fragOf KX) mg "_law_frames" Dn.s__law_frames ["_law_script", "_law_program_here", "_law_names_here"] := by
      dsimp only [Dn.fragOf]
      refine' Dn.has_mk KX G ?a21 ?l21 ?c21 ?k21 ?b21
      (case a21 => k_is)
      (case l21 => k_is)
      (case c21 => k_is)
      (case k21 => k_is)
      exact fun _ _ _ _ _ _ us hl => match us, hl with | [_, _, _], _ => rfl
    have h__law_things : Dn.Has (Dn.fragOf KX) mg "_law_things" Dn.s__law_things ["_law_script", "_law_names_here", "_law_bodies"] := by
      dsimp only [Dn.fragOf]
      refine' Dn.has_mk KX G ?a19 ?l19 ?c19 ?k19 ?b19
      (case a19 => k_is)
      (case l19 => k_is)
      (case c19 => k_is)
      (case k19 => k_is)
      exact fun _ _ _ _ _ _ us hl => match us, hl with | [_, _, _], _ => rfl
    have h__law_state : Dn.Has (Dn.fragOf KX) mg "_law_state" Dn.s__law_state ["_law_script", "_law_program_here"] := by
      dsimp only [Dn.fragOf]
      refine' Dn.has_mk KX G ?a25 ?l25 ?c25 ?k25 ?b25
      (case a25 => k_is)
      (case l25 => k_is)
      (case c25 => k_is)
      (case k25 => k_is)
      exact fun _ _ _ _ _ _ us hl => match us, hl with | [_, _], _ => rfl
    have h__law_more : Dn.Has (Dn.fragOf KX) mg "_law_more" Dn.s__law_more ["_law_script", "_law_state_here"] := by
      dsimp only [Dn.fragOf]
      refine' Dn.has_mk KX G ?a39 ?l39 ?c39 ?k39 ?b39
      (case a39 => k_is)
      (case l39 => k_is)
      (case c39 => k_is)
      (case k39 => k_is)
      exact fun _ _ _ _ _ _ us hl => match us, hl with | [_, _], _ => rfl
    have h__law_bent_frame : Dn.Has (Dn.fragOf KX) mg "_law_bent_frame" Dn.s__law_bent_frame ["_law_frame_here", "_law_cell_here", "_law_value_here"] := by
      dsimp only [Dn.fragOf]
      refine' Dn.has_mk KX G ?a40 ?l40 ?c40 ?k40 ?b40
      (case a40 => k_is)
      (case l40 => k_is)
      (case c40 => k_is)
      (case k40 => k_is)
      exact fun _ _ _ _ _ _ us hl => match us, hl with | [_, _, _], _ => rfl
    have h__law_bent : Dn.Has (Dn.fragOf KX) mg "_law_bent" Dn.s__law_bent ["_law_script", "_law_state_here"] := by
      dsimp only [Dn.fragOf]
      refine' Dn.has_mk KX G ?a41 ?l41 ?c41 ?k41 ?b41
      (case a41 => k_is)
      (case l41 => k_is)
      (case c41 => k_is)
      (case k41 => k_is)
      exact fun _ _ _ _ _ _ us hl => match us, hl with | [_, _], _ => rfl
    have h__law_copy : Dn.Has (Dn.fragOf KX) mg "_law_copy" Dn.s__law_copy ["_law_state_here"] := by
      dsimp only [Dn.fragOf]
      refine' Dn.has_mk KX G ?a37 ?l37 ?c37 ?k37 ?b37
      (case a37 => k_is)
      (case l37 => k_is)
      (case c37 => k_is)
      (case k37 => k_is)
      exact fun _ _ _ _ _ _ us hl => match us, hl with | [_], _ => rfl
    have h__law_inner : Dn.Has (Dn.fragOf KX) mg "_law_inner" Dn.s__law_inner ["_law_thing"] := by
      dsimp only [Dn.fragOf]
      refine' Dn.has_mk KX G ?a27 ?l27 ?c27 ?k27 ?b27
      (case a27 => k_is)
      (case l27 => k_is)
      (case c27 => k_is)
      (case k27 => k_is)
      exact fun _ _ _ _ _ _ us hl => match us, hl with | [_], _ => rfl
    have h__law_met : Dn.Has (Dn.fragOf KX) mg "_law_met" Dn.s__law_met ["_law_state_here"] := by
      dsimp only [Dn.fragOf]
      refine' Dn.has_mk KX G ?a28 ?l28 ?c28 ?k28 ?b28
      (case a28 => k_is)
      (case l28 => k_is)
      (case c28 => k_is)
      (case k28 => k_is)
      exact fun _ _ _ _ _ _ us hl => match us, hl with | [_], _ => rfl
    have h__law_word : Dn.Has (Dn.fragOf KX) mg "_law_word" Dn.s__law_word ["_law_value_here", "_law_order"] := by
      dsimp only [Dn.fragOf]
      refine' Dn.has_mk KX G ?a29 ?l29 ?c29 ?k29 ?b29
      (case a29 => k_is)
      (case l29 => k_is)
      (case c29 => k_is)
      (case k29 => k_is)
      exact fun _ _ _ _ _ _ us hl => match us, hl with | [_, _], _ => rfl
    have h__law_list : Dn.Has (Dn.fragOf KX) mg "_law_list" Dn.s__law_list ["_law_values_here", "_law_order"] := by
      dsimp only [Dn.fragOf]
      refine' Dn.has_mk KX G ?a30 ?l30 ?c30 ?k30 ?b30
      (case a30 => k_is)
      (case l30 => k_is)
      (case c30 => k_is)
      (case k30 => k_is)
      exact fun _ _ _ _ _ _ us hl => match us, hl with | [_, _], _ => rfl
    have h__law_told : Dn.Has (Dn.fragOf KX) mg "_law_told" Dn.s__law_told ["_law_state_here"] := by
      dsimp only [Dn.fragOf]
      refine' Dn.has_mk KX G ?a31 ?l31 ?c31 ?k31 ?b31
      (case a31 => k_is)
      (case l31 => k_is)
      (case c31 => k_is)
      (case k31 => k_is)
      exact fun _ _ _ _ _ _ us hl => match us, hl with | [_], _ => rfl
    have h__law_whole : Dn.Has (Dn.fragOf KX) mg "_law_whole" Dn.s__law_whole ["_law_found"] := by
      dsimp only [Dn.fragOf]
      refine' Dn.has_mk KX G ?a14 ?l14 ?c14 ?k14 ?b14
      (case a14 => k_is)
      (case l14 => k_is)
      (case c14 => k_is)
      (case k14 => k_is)
      exact fun _ _ _ _ _ _ us hl => match us, hl with | [_], _ => rfl
    have h__law_alike : Dn.Has (Dn.fragOf KX) mg "_law_alike" Dn.s__law_alike ["_law_found", "_law_due"] := by
      dsimp only [Dn.fragOf]
      refine' Dn.has_mk KX G ?a34 ?l34 ?c34 ?k34 ?b34
      (case a34 => k_is)
      (case l34 => k_is)
      (case c34 => k_is)
      (case k34 => k_is)
      exact fun _ _ _ _ _ _ us hl => match us, hl with | [_, _], _ => rfl
    have h__law_same_things : Dn.Has (Dn.fragOf KX) mg "_law_same_things" Dn.s__law_same_things ["_law_found", "_law_due"] := by
      dsimp only [Dn.fragOf]
      refine' Dn.has_mk KX G ?a35 ?l35 ?c35 ?k35 ?b35
      (case a35 => k_is)
      (case l35 => k_is)
      (case c35 => k_is)
      (case k35 => k_is)
      exact fun _ _ _ _ _ _ us hl => match us, hl with | [_, _], _ => rfl
    have h__law_same_state : Dn.Has (Dn.fragOf KX) mg "_law_same_state" Dn.s__law_same_state ["_law_found", "_law_due"] := by
      dsimp only [Dn.fragOf]
      refine' Dn.has_mk KX G ?a36 ?l36 ?c36 ?k36 ?b36
      (case a36 => k_is)
      (case l36 => k_is)
      (case c36 => k_is)
      (case k36 => k_is)
      exact fun _ _ _ _ _ _ us hl => match us, hl with | [_, _], _ => rfl
    refine' Dn.law_mk KX G hmg ?a ?l ?c ?k ?b fun base fd Fn => Dn.fnok_law ⟨n_all, n_bool, n_dict, n_int, n_isinstance, n_len, n_list, n_max, n_range, n_set, n_sorted, n_str, n_tuple, h__law_cell, h__law_raw, h__law_row, h__law_program, h__law_number, h__law_value, h__law_ended, h__law_changed, h__law_by_names, h__law_named, h_numbers_in, h_values_of, h_inner, h_met, h_renamed, h_renamed_end, h_renamed_all, h_renamed_frame, h_renamed_thing, h_matched, h__law_words, h__law_names, h__law_values, h__law_frame, h__law_frames, h__law_things, h__law_state, h__law_more, h__law_bent_frame, h__law_bent, h__law_copy, h__law_inner, h__law_met, h__law_word, h__law_list, h__law_told, h__law_whole, h__law_alike, h__law_same_things, h__law_same_state⟩ Fn
    (case a => k_is)
    (case l => k_is)
    (case c => k_is)
    (case k => k_is)
    (case b => exact fun s v => .of_eq rfl)
