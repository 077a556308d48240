import PyProof.Rows.All
import Wide.All
import OpenK.AllK
import Wide.FinOn
import HandS.ForMost
import HandS.Exc
import HandS.TryOnly
import HandS.ExcOwn
import HandS.TupAny
import HandS.IsInst
import HandS.Wide
import HandS.Conv
import HandS.TupMul
import PyProof.StrOps2
import HandS.More
import HandS.Text
import HandS.DictComp
import HandS.RaiseMore
import HandS.Iter
import HandS.SortKw
import KE.DataMinMax
import HandS.SortInts
import HandS.Finally
import HandS.Zip
import HandS.OwnEq
import HandS.DeepEq
import HandS.HotCalls
import HandS.ExcIs
import KE.RegKIsAll
import PySem.Challenge.RW_sleepwalk_k05_programs_checked
set_option Elab.async false
set_option linter.all false
set_option maxRecDepth 100000
set_option maxHeartbeats 4000000
/-! Data, and what stands for it in the heap; what an expression gives, told by a function over data. -/
namespace Dn
open PySem L2

/-! ### data -/
inductive D where
  | non | bl (b : Bool) | int (i : Int) | str (s : Str)
  | tup (xs : List D) | lst (xs : List D) | dic (es : List (L2.Key × D)) | scr (ns : List Int) | err (a : Addr) (c : Str)
inductive R (α : Type) where
  | ok (a : α) | exc (c : Str) | no
def R.bind {α β : Type} : R α → (α → R β) → R β
  | .ok a, f => f a
  | .exc c, _ => .exc c
  | .no, _ => .no
instance : Monad R where
  pure := R.ok
  bind := R.bind
@[simp] theorem ok_bind {α β : Type} (a : α) (f : α → R β) : (R.ok a >>= f) = f a := Eq.trans rfl rfl
@[simp] theorem exc_bind {α β : Type} (c : Str) (f : α → R β) : ((R.exc c : R α) >>= f) = R.exc c := Eq.trans rfl rfl
@[simp] theorem no_bind {α β : Type} (f : α → R β) : ((R.no : R α) >>= f) = R.no := Eq.trans rfl rfl
@[simp] theorem pure_ok {α : Type} (a : α) : (pure a : R α) = R.ok a := Eq.trans rfl rfl
@[simp] theorem r_bind_ok {α β : Type} (a : α) (f : α → R β) : R.bind (R.ok a) f = f a := Eq.trans rfl rfl
@[simp] theorem r_bind_exc {α β : Type} (c : Str) (f : α → R β) : R.bind (R.exc c : R α) f = R.exc c := Eq.trans rfl rfl
@[simp] theorem r_bind_no {α β : Type} (f : α → R β) : R.bind (R.no : R α) f = R.no := Eq.trans rfl rfl
abbrev Env := List (Option D)

theorem rd_mono {F F' : Hp} {a : Addr} {u : HO} (e : Same F F') (h : Rd F a u) : Rd F' a u := by
  rcases h with h | ⟨o, h⟩
  · exact .inl (e _ _ h)
  · exact .inr ⟨o, e _ _ h⟩
/-! ### what stands for data in a heap that does not change -/
mutual
def Rep (K : PySem.W.Frag) (F : Hp) : D → V → Prop
  | .non, v => v = .non
  | .bl b, v => v = .bl b
  | .int i, v => v = .int i
  | .str s, v => v = .str s
  | .err a _, v => v = .ref a
  | .scr ns, v => ∃ a, v = .ref a ∧ SqL K F a (ns.map V.int)
  | .tup ds, v => ∃ a vs, v = .ref a ∧ F a = some (.tup vs) ∧ Reps K F ds vs
  | .lst ds, v => ∃ a vs, v = .ref a ∧ F a = some (.lst vs) ∧ Reps K F ds vs
  | .dic es, v => ∃ a kvs, v = .ref a ∧ Rd F a (.dK kvs) ∧ RepK K F es kvs
def Reps (K : PySem.W.Frag) (F : Hp) : List D → List V → Prop
  | [], vs => vs = []
  | d :: ds, vs => ∃ v vr, vs = v :: vr ∧ Rep K F d v ∧ Reps K F ds vr
def RepK (K : PySem.W.Frag) (F : Hp) : List (L2.Key × D) → List (L2.Key × V) → Prop
  | [], vs => vs = []
  | (k, d) :: ds, vs => ∃ v vr, vs = (k, v) :: vr ∧ Rep K F d v ∧ RepK K F ds vr
end
section
variable {K : PySem.W.Frag} {F F' H H' : Hp}
mutual
theorem Rep.mono (e : Same F F') : ∀ (d : D) (v : V), Rep K F d v → Rep K F' d v
  | .non, v, h => h
  | .bl b, v, h => h
  | .int i, v, h => h
  | .str i, v, h => h
  | .err a c, v, h => h
  | .scr ns, v, h => by
    obtain ⟨a, h1, h2⟩ := h
    exact ⟨a, h1, e.seq h2⟩
  | .tup ds, v, h => by
    obtain ⟨a, vs, h1, h2, h3⟩ := h
    exact ⟨a, vs, h1, e _ _ h2, Reps.mono e ds vs h3⟩
  | .lst ds, v, h => by
    obtain ⟨a, vs, h1, h2, h3⟩ := h
    exact ⟨a, vs, h1, e _ _ h2, Reps.mono e ds vs h3⟩
  | .dic ds, v, h => by
    obtain ⟨a, vs, h1, h2, h3⟩ := h
    exact ⟨a, vs, h1, rd_mono e h2, RepK.mono e ds vs h3⟩
theorem Reps.mono (e : Same F F') : ∀ (ds : List D) (vs : List V), Reps K F ds vs → Reps K F' ds vs
  | [], vs, h => h
  | d :: ds, vs, h => by
    obtain ⟨v, vr, h1, h2, h3⟩ := h
    exact ⟨v, vr, h1, Rep.mono e d v h2, Reps.mono e ds vr h3⟩
theorem RepK.mono (e : Same F F') : ∀ (ds : List (L2.Key × D)) (vs : List (L2.Key × V)), RepK K F ds vs → RepK K F' ds vs
  | [], vs, h => h
  | (k, d) :: ds, vs, h => by
    obtain ⟨v, vr, h1, h2, h3⟩ := h
    exact ⟨v, vr, h1, Rep.mono e d v h2, RepK.mono e ds vr h3⟩
end
theorem Reps.length : ∀ {ds : List D} {vs : List V}, Reps K F ds vs → vs.length = ds.length
  | [], vs, h => by rw [show vs = [] from h]; rfl
  | d :: ds, vs, h => by
    obtain ⟨v, vr, rfl, _, h3⟩ := h
    rw [List.length_cons, List.length_cons, Reps.length h3]
theorem Reps.get : ∀ {ds : List D} {vs : List V} {i : Nat} {d : D}, Reps K F ds vs → ds[i]? = some d → ∃ v, vs[i]? = some v ∧ Rep K F d v
  | [], vs, i, d, h, e => by simp at e
  | d :: ds, vs, 0, d', h, e => by
    obtain ⟨v, vr, rfl, h2, h3⟩ := h
    simp at e
    subst e
    exact ⟨v, rfl, h2⟩
  | d :: ds, vs, i + 1, d', h, e => by
    obtain ⟨v, vr, rfl, h2, h3⟩ := h
    simp at e
    obtain ⟨w, h4, h5⟩ := Reps.get h3 e
    exact ⟨w, by simpa using h4, h5⟩
theorem Reps.get' {ds : List D} {vs : List V} {i : Nat} {v : V} (h : Reps K F ds vs) (e : vs[i]? = some v) : ∃ d, ds[i]? = some d ∧ Rep K F d v := by
  have hi : i < ds.length := by
    have := (List.getElem?_eq_some_iff.mp e).1
    rw [h.length] at this
    exact this
  obtain ⟨w, h1, h2⟩ := h.get (List.getElem?_eq_getElem hi)
  rw [e] at h1
  cases h1
  exact ⟨_, List.getElem?_eq_getElem hi, h2⟩
theorem Reps.append : ∀ {ds es : List D} {vs ws : List V}, Reps K F ds vs → Reps K F es ws → Reps K F (ds ++ es) (vs ++ ws)
  | [], es, vs, ws, h, h' => by
    rw [show vs = [] from h]
    exact h'
  | d :: ds, es, vs, ws, h, h' => by
    obtain ⟨v, vr, rfl, h2, h3⟩ := h
    exact ⟨v, vr ++ ws, rfl, h2, Reps.append h3 h'⟩
theorem Reps.drop : ∀ {ds : List D} {vs : List V} (n : Nat), Reps K F ds vs → Reps K F (ds.drop n) (vs.drop n)
  | ds, vs, 0, h => h
  | [], vs, n + 1, h => by
    rw [show vs = [] from h]
    exact rfl
  | d :: ds, vs, n + 1, h => by
    obtain ⟨v, vr, rfl, h2, h3⟩ := h
    exact Reps.drop n h3
theorem Reps.take : ∀ {ds : List D} {vs : List V} (n : Nat), Reps K F ds vs → Reps K F (ds.take n) (vs.take n)
  | ds, vs, 0, h => rfl
  | [], vs, n + 1, h => by
    rw [show vs = [] from h]
    exact rfl
  | d :: ds, vs, n + 1, h => by
    obtain ⟨v, vr, rfl, h2, h3⟩ := h
    exact ⟨v, vr.take n, rfl, h2, Reps.take n h3⟩
theorem Reps.one {d : D} {v : V} (h : Rep K F d v) : Reps K F [d] [v] := ⟨v, [], rfl, h, rfl⟩
theorem Reps.snoc {ds : List D} {vs : List V} {d : D} {v : V} (h : Reps K F ds vs) (h' : Rep K F d v) : Reps K F (ds ++ [d]) (vs ++ [v]) := h.append (.one h')
theorem Reps.dropLast {ds : List D} {vs : List V} (h : Reps K F ds vs) : Reps K F ds.dropLast vs.dropLast := by
  rw [List.dropLast_eq_take, List.dropLast_eq_take, h.length]
  exact h.take _
theorem Reps.reverse : ∀ {ds : List D} {vs : List V}, Reps K F ds vs → Reps K F ds.reverse vs.reverse
  | [], vs, h => by
    rw [show vs = [] from h]
    exact rfl
  | d :: ds, vs, h => by
    obtain ⟨v, vr, rfl, h2, h3⟩ := h
    rw [List.reverse_cons, List.reverse_cons]
    exact (Reps.reverse h3).snoc h2
theorem Reps.set : ∀ {ds : List D} {vs : List V} {d : D} {v : V} (i : Nat), Reps K F ds vs → Rep K F d v → Reps K F (ds.set i d) (vs.set i v)
  | [], vs, d, v, i, h, h' => by
    rw [show vs = [] from h]
    exact rfl
  | d :: ds, vs, d', v', 0, h, h' => by
    obtain ⟨v, vr, rfl, h2, h3⟩ := h
    exact ⟨v', vr, rfl, h', h3⟩
  | d :: ds, vs, d', v', i + 1, h, h' => by
    obtain ⟨v, vr, rfl, h2, h3⟩ := h
    exact ⟨v, vr.set i v', rfl, h2, Reps.set i h3 h'⟩
theorem Reps.rep {ds : List D} {vs : List V} (h : Reps K F ds vs) : ∀ n : Nat, Reps K F (List.replicate n ds).flatten (List.replicate n vs).flatten
  | 0 => rfl
  | n + 1 => by
    rw [List.replicate_succ, List.replicate_succ, List.flatten_cons, List.flatten_cons]
    exact h.append (Reps.rep h n)

/-! ### whose it is: frozen; one's own, to be changed; a tuple of such -/
inductive O where
  | fz | own (o : O) | tup (os : List O)
def AllO (P : D → V → List Addr → Prop) : List D → List V → List Addr → Prop
  | [], vs, B => vs = [] ∧ B = []
  | d :: ds, vs, B => ∃ v vr B1 B2, vs = v :: vr ∧ B = B1 ++ B2 ∧ P d v B1 ∧ AllO P ds vr B2
def isBox : D → Bool
  | .lst _ => true | .dic _ => true
  | _ => false
def OwnR (K : PySem.W.Frag) (F H : Hp) (P : D → V → List Addr → Prop) (d : D) (v : V) (B : List Addr) : Prop :=
  (∃ ds a vs B', d = .lst ds ∧ v = .ref a ∧ F a = none ∧ H a = some (.lst vs) ∧ B = a :: B' ∧ AllO P ds vs B') ∨
  (∃ es a kvs, d = .dic es ∧ v = .ref a ∧ F a = none ∧ H a = some (.dK kvs) ∧ RepK K F es kvs ∧ B = [a]) ∨ (isBox d = false ∧ Rep K F d v ∧ B = [])
mutual
def RepO (K : PySem.W.Frag) (F H : Hp) : O → D → V → List Addr → Prop
  | .fz, d, v, B => Rep K F d v ∧ B = []
  | .own o, d, v, B => OwnR K F H (RepO K F H o) d v B
  | .tup os, d, v, B => ∃ ds a vs, d = .tup ds ∧ v = .ref a ∧ F a = some (.tup vs) ∧ RepT K F H os ds vs B
def RepT (K : PySem.W.Frag) (F H : Hp) : List O → List D → List V → List Addr → Prop
  | [], ds, vs, B => ds = [] ∧ vs = [] ∧ B = []
  | o :: os, ds, vs, B => ∃ d dr v vr B1 B2, ds = d :: dr ∧ vs = v :: vr ∧ B = B1 ++ B2 ∧ RepO K F H o d v B1 ∧ RepT K F H os dr vr B2
end
/-- a heap and what is frozen of it, grown -/
structure Grow (F H F' H' : Hp) : Prop where
  ff : Same F F'
  hh : Same H H'
  fh : Same F' H'
  sep : ∀ x, F x = none → H x ≠ none → F' x = none
theorem Grow.refl {F H : Hp} (e : Same F H) : Grow F H F H := ⟨Same.refl _, Same.refl _, e, fun _ h _ => h⟩
theorem there {H H' : Hp} {x : Addr} (e : Same H H') (h : H x ≠ none) : H' x ≠ none := by
  cases q : H x with
  | none => exact absurd q h
  | some o => rw [e _ _ q]; simp
theorem Grow.trans {F H F1 H1 F2 H2 : Hp} (a : Grow F H F1 H1) (b : Grow F1 H1 F2 H2) : Grow F H F2 H2 :=
  ⟨a.ff.trans b.ff, a.hh.trans b.hh, b.fh, fun x h1 h2 => b.sep x (a.sep x h1 h2) (there a.hh h2)⟩
theorem AllO.imp {P P' : D → V → List Addr → Prop} (h : ∀ d v B, P d v B → P' d v B) : ∀ {ds : List D} {vs : List V} {B : List Addr}, AllO P ds vs B → AllO P' ds vs B
  | [], vs, B, q => q
  | d :: ds, vs, B, q => by
    obtain ⟨v, vr, B1, B2, h1, h2, h3, h4⟩ := q
    exact ⟨v, vr, B1, B2, h1, h2, h _ _ _ h3, AllO.imp h h4⟩
theorem AllO.impB {P P' : D → V → List Addr → Prop} : ∀ {ds : List D} {vs : List V} {B : List Addr}, AllO P ds vs B → (∀ d v B1, (∀ x ∈ B1, x ∈ B) → P d v B1 → P' d v B1) → AllO P' ds vs B
  | [], vs, B, q, h => q
  | d :: ds, vs, B, q, h => by
    obtain ⟨v, vr, B1, B2, h1, h2, h3, h4⟩ := q
    subst h2
    exact ⟨v, vr, B1, B2, h1, rfl, h _ _ _ (fun x hx => List.mem_append_left _ hx) h3, AllO.impB h4 fun d v B1 hb => h d v B1 fun x hx => List.mem_append_right _ (hb x hx)⟩
/-- what a list of owned things is when its owned parts are known otherwise -/
theorem AllO.reps {P : D → V → List Addr → Prop} {F' : Hp} : ∀ {ds : List D} {vs : List V} {B : List Addr}, AllO P ds vs B → (∀ d v B1, (∀ x ∈ B1, x ∈ B) → P d v B1 → Rep K F' d v) → Reps K F' ds vs
  | [], vs, B, q, h => q.1
  | d :: ds, vs, B, q, h => by
    obtain ⟨v, vr, B1, B2, h1, h2, h3, h4⟩ := q
    subst h2
    exact ⟨v, vr, h1, h _ _ _ (fun x hx => List.mem_append_left _ hx) h3, AllO.reps h4 fun d v B1 hb => h d v B1 fun x hx => List.mem_append_right _ (hb x hx)⟩
theorem AllO.mem {P : D → V → List Addr → Prop} {x : Addr} {Z : Prop} : ∀ {ds : List D} {vs : List V} {B : List Addr}, AllO P ds vs B → x ∈ B → (∀ d v B1, P d v B1 → x ∈ B1 → Z) → Z
  | [], vs, B, q, hx, h => by rw [q.2] at hx; simp at hx
  | d :: ds, vs, B, q, hx, h => by
    obtain ⟨v, vr, B1, B2, h1, h2, h3, h4⟩ := q
    subst h2
    rcases List.mem_append.mp hx with hx | hx
    · exact h _ _ _ h3 hx
    · exact AllO.mem h4 hx h
mutual
theorem RepO.mem {x : Addr} : ∀ (o : O) (d : D) (v : V) (B : List Addr), RepO K F H o d v B → x ∈ B → F x = none ∧ H x ≠ none
  | .fz, d, v, B, h, hx => by rw [h.2] at hx; simp at hx
  | .own o, d, v, B, h, hx => by
    rcases h with ⟨ds, a, vs, B', _, _, h1, h2, h3, h4⟩ | ⟨es, a, kvs, _, _, h1, h2, _, h3⟩ | ⟨_, _, h3⟩
    · subst h3
      rcases List.mem_cons.mp hx with rfl | hx
      · exact ⟨h1, by rw [h2]; simp⟩
      · exact h4.mem hx fun d v B1 q hx' => RepO.mem o d v B1 q hx'
    · subst h3
      obtain rfl := List.mem_singleton.mp hx
      exact ⟨h1, by rw [h2]; simp⟩
    · subst h3
      simp at hx
  | .tup os, d, v, B, h, hx => by
    obtain ⟨ds, a, vs, _, _, _, h4⟩ := h
    exact RepT.mem os ds vs B h4 hx
theorem RepT.mem {x : Addr} : ∀ (os : List O) (ds : List D) (vs : List V) (B : List Addr), RepT K F H os ds vs B → x ∈ B → F x = none ∧ H x ≠ none
  | [], ds, vs, B, h, hx => by rw [h.2.2] at hx; simp at hx
  | o :: os, ds, vs, B, h, hx => by
    obtain ⟨d, dr, v, vr, B1, B2, _, _, h3, h4, h5⟩ := h
    subst h3
    rcases List.mem_append.mp hx with hx | hx
    · exact RepO.mem o d v B1 h4 hx
    · exact RepT.mem os dr vr B2 h5 hx
end
mutual
theorem RepO.keep : ∀ (o : O) (d : D) (v : V) (B : List Addr), Same F F' → (∀ x ∈ B, F' x = none ∧ H' x = H x) → RepO K F H o d v B → RepO K F' H' o d v B
  | .fz, d, v, B, e, hB, h => ⟨Rep.mono e d v h.1, h.2⟩
  | .own o, d, v, B, e, hB, h => by
    rcases h with ⟨ds, a, vs, B', h1, h2, h3, h4, h5, h6⟩ | ⟨es, a, kvs, h1, h2, h3, h4, h5, h6⟩ | ⟨h1, h2, h3⟩
    · subst h5
      refine .inl ⟨ds, a, vs, B', h1, h2, (hB a (by simp)).1, by rw [(hB a (by simp)).2]; exact h4, rfl, h6.impB fun d v B1 hb q => RepO.keep o d v B1 e (fun x hx => hB x (List.mem_cons_of_mem _ (hb x hx))) q⟩
    · subst h6
      exact .inr (.inl ⟨es, a, kvs, h1, h2, (hB a (by simp)).1, by rw [(hB a (by simp)).2]; exact h4, RepK.mono e es kvs h5, rfl⟩)
    · exact .inr (.inr ⟨h1, Rep.mono e d v h2, h3⟩)
  | .tup os, d, v, B, e, hB, h => by
    obtain ⟨ds, a, vs, h1, h2, h3, h4⟩ := h
    exact ⟨ds, a, vs, h1, h2, e _ _ h3, RepT.keep os ds vs B e hB h4⟩
theorem RepT.keep : ∀ (os : List O) (ds : List D) (vs : List V) (B : List Addr), Same F F' → (∀ x ∈ B, F' x = none ∧ H' x = H x) → RepT K F H os ds vs B → RepT K F' H' os ds vs B
  | [], ds, vs, B, e, hB, h => h
  | o :: os, ds, vs, B, e, hB, h => by
    obtain ⟨d, dr, v, vr, B1, B2, h1, h2, h3, h4, h5⟩ := h
    subst h3
    exact ⟨d, dr, v, vr, B1, B2, h1, h2, rfl, RepO.keep o d v B1 e (fun x hx => hB x (List.mem_append_left _ hx)) h4, RepT.keep os dr vr B2 e (fun x hx => hB x (List.mem_append_right _ hx)) h5⟩
end
mutual
theorem RepO.thaw : ∀ (o : O) (d : D) (v : V) (B : List Addr), Same F F' → (∀ x ∈ B, F' x = H x) → RepO K F H o d v B → Rep K F' d v
  | .fz, d, v, B, e, hB, h => Rep.mono e d v h.1
  | .own o, d, v, B, e, hB, h => by
    rcases h with ⟨ds, a, vs, B', h1, h2, h3, h4, h5, h6⟩ | ⟨es, a, kvs, h1, h2, h3, h4, h5, h6⟩ | ⟨h1, h2, h3⟩
    · subst h5
      subst h1
      exact ⟨a, vs, h2, by rw [hB a (by simp)]; exact h4, h6.reps fun d v B1 hb q => RepO.thaw o d v B1 e (fun x hx => hB x (List.mem_cons_of_mem _ (hb x hx))) q⟩
    · subst h6
      subst h1
      exact ⟨a, kvs, h2, .inl (by rw [hB a (by simp)]; exact h4), RepK.mono e es kvs h5⟩
    · exact Rep.mono e d v h2
  | .tup os, d, v, B, e, hB, h => by
    obtain ⟨ds, a, vs, h1, h2, h3, h4⟩ := h
    subst h1
    exact ⟨a, vs, h2, e _ _ h3, RepT.thaw os ds vs B e hB h4⟩
theorem RepT.thaw : ∀ (os : List O) (ds : List D) (vs : List V) (B : List Addr), Same F F' → (∀ x ∈ B, F' x = H x) → RepT K F H os ds vs B → Reps K F' ds vs
  | [], ds, vs, B, e, hB, h => by
    rw [h.1]
    exact h.2.1
  | o :: os, ds, vs, B, e, hB, h => by
    obtain ⟨d, dr, v, vr, B1, B2, h1, h2, h3, h4, h5⟩ := h
    subst h3
    subst h1
    exact ⟨v, vr, h2, RepO.thaw o d v B1 e (fun x hx => hB x (List.mem_append_left _ hx)) h4, RepT.thaw os dr vr B2 e (fun x hx => hB x (List.mem_append_right _ hx)) h5⟩
end
theorem RepO.grow {o : O} {d : D} {v : V} {B : List Addr} (g : Grow F H F' H') (h : RepO K F H o d v B) : RepO K F' H' o d v B :=
  RepO.keep o d v B g.ff (fun x hx => by
    obtain ⟨h1, h2⟩ := RepO.mem o d v B h hx
    refine ⟨g.sep x h1 h2, ?_⟩
    cases q : H x with
    | none => exact absurd q h2
    | some u => exact g.hh _ _ q) h
theorem RepT.grow {os : List O} {ds : List D} {vs : List V} {B : List Addr} (g : Grow F H F' H') (h : RepT K F H os ds vs B) : RepT K F' H' os ds vs B :=
  RepT.keep os ds vs B g.ff (fun x hx => by
    obtain ⟨h1, h2⟩ := RepT.mem os ds vs B h hx
    refine ⟨g.sep x h1 h2, ?_⟩
    cases q : H x with
    | none => exact absurd q h2
    | some u => exact g.hh _ _ q) h
end

/-! ### the names' values -/
inductive Sl (K : PySem.W.Frag) (F H : Hp) : List O → Env → L2.St → List (List Addr) → Prop where
  | nil : Sl K F H [] [] [] []
  | none {o ω ρ x σ As} : Sl K F H ω ρ σ As → Sl K F H (o :: ω) (none :: ρ) (x :: σ) ([] :: As)
  | some {o ω d ρ v σ B As} : RepO K F H o d v B → Sl K F H ω ρ σ As → Sl K F H (o :: ω) (some d :: ρ) (some v :: σ) (B :: As)
/-- the state: what is frozen is part of the heap, the names' values stand for data -/
structure Stt (K : PySem.W.Frag) (ω : List O) (ρ : Env) (σ : L2.St) (F H : Hp) (As : List (List Addr)) : Prop where
  ex : Same F H
  sl : Sl K F H ω ρ σ As
  nd : As.flatten.Nodup
section
variable {K : PySem.W.Frag} {F F' H H' : Hp} {ω : List O} {ρ : Env} {σ : L2.St} {As : List (List Addr)}
theorem Sl.lens (h : Sl K F H ω ρ σ As) : ρ.length = ω.length ∧ σ.length = ω.length ∧ As.length = ω.length := by
  induction h with
  | nil => exact ⟨rfl, rfl, rfl⟩
  | none _ ih => exact ⟨by simp [ih.1], by simp [ih.2.1], by simp [ih.2.2]⟩
  | some _ _ ih => exact ⟨by simp [ih.1], by simp [ih.2.1], by simp [ih.2.2]⟩
theorem Sl.mem {x : Addr} (h : Sl K F H ω ρ σ As) (hx : x ∈ As.flatten) : F x = Option.none ∧ H x ≠ Option.none := by
  induction h with
  | nil => simp at hx
  | none _ ih => exact ih (by simpa using hx)
  | some r _ ih =>
    rw [List.flatten_cons] at hx
    rcases List.mem_append.mp hx with hx | hx
    · exact RepO.mem _ _ _ _ r hx
    · exact ih hx
theorem Sl.keep (h : Sl K F H ω ρ σ As) (e : Same F F') (hB : ∀ x ∈ As.flatten, F' x = Option.none ∧ H' x = H x) : Sl K F' H' ω ρ σ As := by
  induction h with
  | nil => exact .nil
  | none _ ih => exact .none (ih fun x hx => hB x (by simpa using hx))
  | some r _ ih =>
    rw [List.flatten_cons] at hB
    exact .some (RepO.keep _ _ _ _ e (fun x hx => hB x (List.mem_append_left _ hx)) r) (ih fun x hx => hB x (List.mem_append_right _ hx))
theorem Sl.get {i : Nat} {o : O} {d : D} (h : Sl K F H ω ρ σ As) (ho : ω[i]? = Option.some o) (hd : ρ[i]? = Option.some (Option.some d)) : ∃ v B, σ[i]? = Option.some (Option.some v) ∧ As[i]? = Option.some B ∧ RepO K F H o d v B := by
  induction h generalizing i with
  | nil => simp at hd
  | none _ ih =>
    cases i with
    | zero => simp at hd
    | succ i => exact ih (by simpa using ho) (by simpa using hd)
  | some r _ ih =>
    cases i with
    | zero =>
      simp at hd ho
      subst hd
      subst ho
      exact ⟨_, _, rfl, rfl, r⟩
    | succ i => exact ih (by simpa using ho) (by simpa using hd)
theorem Sl.getO {i : Nat} {d : D} (h : Sl K F H ω ρ σ As) (hd : ρ[i]? = Option.some (Option.some d)) : ∃ o, ω[i]? = Option.some o := by
  have hi : i < ω.length := by
    have := (List.getElem?_eq_some_iff.mp hd).1
    rw [h.lens.1] at this
    exact this
  exact ⟨_, List.getElem?_eq_getElem hi⟩
/-- all looked at as frozen -/
theorem Sl.thaw (h : Sl K F H ω ρ σ As) (e : Same F F') (hB : ∀ x ∈ As.flatten, F' x = H x) : Sl K F' H' (ω.map fun _ => .fz) ρ σ (As.map fun _ => []) := by
  induction h with
  | nil => exact .nil
  | none _ ih => exact .none (ih fun x hx => hB x (by simpa using hx))
  | some r _ ih =>
    rw [List.flatten_cons] at hB
    exact .some ⟨RepO.thaw _ _ _ _ e (fun x hx => hB x (List.mem_append_left _ hx)) r, rfl⟩ (ih fun x hx => hB x (List.mem_append_right _ hx))
theorem Stt.grow (S : Stt K ω ρ σ F H As) (g : Grow F H F' H') : Stt K ω ρ σ F' H' As :=
  ⟨g.fh, S.sl.keep g.ff fun x hx => by
    obtain ⟨h1, h2⟩ := S.sl.mem hx
    refine ⟨g.sep x h1 h2, ?_⟩
    cases q : H x with
    | none => exact absurd q h2
    | some u => exact g.hh _ _ q, S.nd⟩
/-- the owned things of the names counted as frozen -/
def thawed (F H : Hp) (A : List Addr) : Hp := fun x => if x ∈ A then H x else F x
theorem thawed_in {A : List Addr} {x : Addr} (h : x ∈ A) : thawed F H A x = H x := by
  unfold thawed
  rw [if_pos h]
theorem thawed_out {A : List Addr} {x : Addr} (h : x ∉ A) : thawed F H A x = F x := by
  unfold thawed
  rw [if_neg h]
theorem thawed_same {A : List Addr} (hA : ∀ x ∈ A, F x = Option.none) : Same F (thawed F H A) := fun x o e => by
  by_cases h : x ∈ A
  · rw [hA x h] at e
    cases e
  · rw [thawed_out h]
    exact e
theorem thawed_heap {A : List Addr} (e : Same F H) : Same (thawed F H A) H := fun x o q => by
  by_cases h : x ∈ A
  · rw [thawed_in h] at q
    exact q
  · rw [thawed_out h] at q
    exact e _ _ q
theorem Stt.thaw (S : Stt K ω ρ σ F H As) : Stt K (ω.map fun _ => .fz) ρ σ (thawed F H As.flatten) H (As.map fun _ => []) :=
  ⟨thawed_heap S.ex, S.sl.thaw (thawed_same fun x hx => (S.sl.mem hx).1) fun x hx => thawed_in hx, by
    have e : (As.map fun _ => ([] : List Addr)).flatten = [] := by
      generalize As = L
      induction L with
      | nil => rfl
      | cons a r ih => rw [List.map_cons, List.flatten_cons, ih]; rfl
    rw [e]
    exact List.nodup_nil⟩
end
end Dn

/-! tuple * int, text * int. -/
namespace Dn
open PySem L2 PyProof.Rows
theorem tupMul_same (l : Addr) (items : Array Value) (n : Nat) (dd : Option Addr) (sl : Array (Option Value)) (x : Int) (u : Tok) (c0 : (decide (x < -(2 ^ 63)) || decide (x ≥ 2 ^ 63)) = false) (c1 : (items.isEmpty || x == 1) = true) :
    Meets (Builtin.«tuple.__mul__» ⟨[.ref l, .int x u], []⟩) (fun _ R s => s.heap.get? l = some { cls := .type "tuple", dict := dd, data := .seq items n, slots := sl } ∧ R (.ok (.ret (Value.ref l))) { s with heap := s.heap, toks := s.toks }) :=
  .of_wp fun prog w A R s h => by
    obtain ⟨hp, g, d, tk, os⟩ := s
    obtain ⟨hl, h⟩ := h
    have f1 := AutoSeq1.idx_int
    wp_walk using wpAny_loadPart' hl
    repeat (first
      | (refine wpAny_ite_false (decide_eq_false (by rw [c0]; exact Bool.false_ne_true)) ?_; wp_walk using wpAny_loadPart' hl)
      | (refine wpAny_ite_true (decide_eq_true c1) ?_; wp_walk using wpAny_loadPart' hl))
    exact ⟨_, rfl, h⟩
theorem tupMul_none (l : Addr) (items : Array Value) (n : Nat) (dd : Option Addr) (sl : Array (Option Value)) (x : Int) (u : Tok) (c0 : (decide (x < -(2 ^ 63)) || decide (x ≥ 2 ^ 63)) = false) (c1 : (items.isEmpty || x == 1) = false) (c2 : (decide (x ≤ 0) || items.isEmpty) = true) :
    Meets (Builtin.«tuple.__mul__» ⟨[.ref l, .int x u], []⟩) (fun _ R s => s.heap.get? l = some { cls := .type "tuple", dict := dd, data := .seq items n, slots := sl } ∧
      R (.ok (.ret (Value.ref s.heap.objs.size))) { s with heap := s.heap.push { cls := Value.type "tuple", data := Data.seq #[] }, toks := s.toks }) :=
  .of_wp fun prog w A R s h => by
    obtain ⟨hp, g, d, tk, os⟩ := s
    obtain ⟨hl, h⟩ := h
    have f1 := AutoSeq1.idx_int
    wp_walk using wpAny_loadPart' hl
    repeat (first
      | (refine wpAny_ite_false (decide_eq_false (by rw [c0]; exact Bool.false_ne_true)) ?_; wp_walk using wpAny_loadPart' hl)
      | (refine wpAny_ite_false (decide_eq_false (by rw [c1]; exact Bool.false_ne_true)) ?_; wp_walk using wpAny_loadPart' hl)
      | (refine wpAny_ite_true (decide_eq_true c2) ?_; wp_walk using wpAny_loadPart' hl))
    exact ⟨_, rfl, h⟩
/-- tuple * k, k = 1 or nothing in it: the same; k up to 0: () -/
def rTupS (K : PySem.W.Frag) : R2 := fun x y H Q => ∃ l k xs, x = .ref l ∧ y = .int k ∧ SqT K H l xs ∧ (xs = [] ∨ k = 1) ∧ -(2 ^ 63) ≤ k ∧ k < 2 ^ 63 ∧ Q (.ref l) H
def rTupN (K : PySem.W.Frag) : R2 := fun x y H Q => ∃ l k xs, x = .ref l ∧ y = .int k ∧ SqT K H l xs ∧ xs ≠ [] ∧ k ≤ 0 ∧ -(2 ^ 63) ≤ k ∧ ∀ p, H p = none → Q (.ref p) (upd H p (.tup []))
section
variable {X : Cx}
theorem op_tupS : OpR X (binaryOp .Mult) (rTupS X.K) := by
  intro pins s σ H x y v u Q I rx ry h
  obtain ⟨l, k, xs, rfl, rfl, hT, hne, h1, h2, q⟩ := h
  cases rx
  obtain ⟨t, rfl⟩ := ry
  obtain ⟨its, r, ⟨⟨cls, dd, data, sl⟩, ho, hc, n, hd⟩, hs⟩ := I.tuple hT
  simp only at hc hd
  subst hc hd
  have c0 : (decide (k < -(2 ^ 63)) || decide (k ≥ 2 ^ 63)) = false := by
    rw [decide_eq_false (by omega), decide_eq_false (by omega)] <;> rfl
  have c1 : (its.toArray.isEmpty || k == 1) = true := by
    rcases hne with rfl | rfl
    · have : its = [] := List.eq_nil_of_length_eq_zero (by rw [← r.length]; rfl)
      subst this
      rfl
    · simp
  refine wpAny_binaryOp_repeat_ref (T := "tuple") (U := "int") (by decide) ⟨_, ho, rfl⟩ (fun s' => typeIs_int s' k t) noFill_tuple_mul F.fills_int_mul F.slot_int_rmul repeat_tuple F.slot_int_index.lookup
    (call_meets F.slot_int_rmul (typeIs_int s k t) F.entry_int_rmul (F.args_int_rmul_2 _ _) (int_rmul_tuple k t l its.toArray n dd sl)
      ⟨ho, rfl, ⟨_, ho, rfl⟩, call_meets F.slot_tuple_mul ⟨_, ho, rfl⟩ F.entry_tuple_mul (F.args_tuple_mul_2 _ _) (tupMul_same l its.toArray n dd sl k t c0 c1) ⟨ho, ⟨.ref l, H, I.tok s.toks, rfl, q⟩⟩⟩)
theorem op_tupN : OpR X (binaryOp .Mult) (rTupN X.K) := by
  intro pins s σ H x y v u Q I rx ry h
  obtain ⟨l, k, xs, rfl, rfl, hT, hne, h1, h2, q⟩ := h
  cases rx
  obtain ⟨t, rfl⟩ := ry
  obtain ⟨its, r, ⟨⟨cls, dd, data, sl⟩, ho, hc, n, hd⟩, hs⟩ := I.tuple hT
  simp only at hc hd
  subst hc hd
  have hn : its ≠ [] := fun e => hne (by
    subst e
    exact List.eq_nil_of_length_eq_zero (by rw [r.length]; rfl))
  have hi : its.toArray.isEmpty = false := by
    cases its with
    | nil => exact absurd rfl hn
    | cons a b => rfl
  have c0 : (decide (k < -(2 ^ 63)) || decide (k ≥ 2 ^ 63)) = false := by
    rw [decide_eq_false (by omega), decide_eq_false (by omega)] <;> rfl
  have c1 : (its.toArray.isEmpty || k == 1) = false := by
    rw [hi, Bool.false_or]
    exact beq_eq_false_iff_ne.mpr (by omega)
  have c2 : (decide (k ≤ 0) || its.toArray.isEmpty) = true := by
    rw [decide_eq_true h1] <;> rfl
  refine wpAny_binaryOp_repeat_ref (T := "tuple") (U := "int") (by decide) ⟨_, ho, rfl⟩ (fun s' => typeIs_int s' k t) noFill_tuple_mul F.fills_int_mul F.slot_int_rmul repeat_tuple F.slot_int_index.lookup
    (call_meets F.slot_int_rmul (typeIs_int s k t) F.entry_int_rmul (F.args_int_rmul_2 _ _) (int_rmul_tuple k t l its.toArray n dd sl)
      ⟨ho, rfl, ⟨_, ho, rfl⟩, call_meets F.slot_tuple_mul ⟨_, ho, rfl⟩ F.entry_tuple_mul (F.args_tuple_mul_2 _ _) (tupMul_none l its.toArray n dd sl k t c0 c1 c2) ⟨ho, ?_⟩⟩)
  refine ⟨.ref s.heap.objs.size, _, I.laid (t' := s.toks) (o := .tup []) (fun b ob q => Heap.get?_push_of_some _ q) (Nat.le_refl _) ?_, rfl, q _ (I.hok.fresh (Nat.le_refl _))⟩
  exact ⟨by rw [sizeLine_eq]; decide, [], .nil, IsTup.new _ _⟩
/-- a text so many times -/
def repS (z : Str) (n : Nat) : Str := ⟨(List.replicate n z.cps.toList).flatten.toArray⟩
theorem fold_app (z : Array Nat) : ∀ (n : Nat) (a : Array Nat), (List.foldl (fun x y => x ++ y) a (List.replicate n z)) = a ++ (List.replicate n z.toList).flatten.toArray
  | 0, a => by simp
  | n + 1, a => by
    rw [List.replicate_succ, List.foldl_cons, fold_app z n, List.replicate_succ, List.flatten_cons]
    apply Array.ext'
    simp
def rStrM : R2 := fun x y H Q => ∃ z k, x = .str z ∧ y = .int k ∧ -(2 ^ 63) ≤ k ∧ k < 1000000 ∧ z.length ≤ 1000000 ∧ z.length * k.toNat ≤ 1000000 ∧ Q (.str (repS z k.toNat)) H
theorem op_strM : OpR X (binaryOp .Mult) rStrM := by
  intro pins s σ H x y v u Q I rx ry h
  obtain ⟨z, k, rfl, rfl, h1, h2, h3, h4, q⟩ := h
  obtain ⟨t, rfl⟩ := rx
  obtain ⟨t2, rfl⟩ := ry
  have c0 : (decide (k < -(2 ^ 63 : Int)) || decide (k ≥ 2 ^ 63)) = false := by
    rw [decide_eq_false (by omega), decide_eq_false (by omega)] <;> rfl
  refine PySem.P.mul_str c0 (fun h5 h6 h7 => ?_) (fun h5 h6 => ?_) ?_
  · have a1 : (1000000 : Int) * 1000000 ≤ 2 ^ 63 - 1 := by decide
    have a2 : (1000000 : Int) ≤ (2 ^ 63 - 1) / k := (Int.le_ediv_iff_mul_le (by omega)).mpr (Int.le_trans (Int.mul_le_mul_of_nonneg_left (by omega) (by omega)) a1)
    omega
  · show decide _ = false
    refine decide_eq_false ?_
    have := sizeLine_eq
    omega
  · by_cases h5 : k < 1
    · rw [if_pos h5]
      have e : k.toNat = 0 := by omega
      rw [e] at q
      exact ⟨by decide, ⟨.str (repS z 0), H, I.tok _, ⟨s.toks, rfl⟩, q⟩⟩
    · rw [if_neg h5]
      by_cases h6 : (k == 1 || z.length == 0) = true
      · rw [if_pos h6]
        have e : repS z k.toNat = z := by
          rcases Bool.or_eq_true_iff.mp h6 with h7 | h7
          · have e1 : k = 1 := by simpa using h7
            subst e1
            show repS z 1 = z
            unfold repS
            simp
          · have e1 : z.length = 0 := of_decide_eq_true h7
            have e2 : z.cps = #[] := Array.eq_empty_of_size_eq_zero e1
            obtain ⟨c⟩ := z
            simp only at e2
            subst e2
            unfold repS
            simp
        rw [e] at q
        exact ⟨.str z, H, I, ⟨t, rfl⟩, q⟩
      · rw [if_neg h6]
        have e : (⟨(List.replicate k.toNat z.cps).foldl (· ++ ·) #[]⟩ : Str) = repS z k.toNat := by
          unfold repS
          rw [fold_app]
          simp
        rw [e]
        refine ⟨?_, ⟨.str (repS z k.toNat), H, I.tok _, ⟨s.toks, rfl⟩, q⟩⟩
        have : (repS z k.toNat).length = k.toNat * z.length := by
          show (repS z k.toNat).cps.size = _
          unfold repS
          rw [List.size_toArray, PyProof.Rows.lm_len_rep_flat, Array.length_toList]
          rfl
        have hs := sizeLine_eq
        show _ ≤ _
        rw [this, Nat.mul_comm]
        omega
end
end Dn

/-! What a reading gives, told by a function over data. -/
namespace Dn
open PySem L2

def clsOf (mg : Str → Option Value) (c : Str) : Value := (mg c).getD .none
/-- x is an owned thing of one of the names M -/
def OfM (As : List (List Addr)) (M : List Nat) (x : Addr) : Prop := ∃ i ∈ M, ∃ B, As[i]? = some B ∧ x ∈ B
theorem OfM.nil {As : List (List Addr)} {x : Addr} (h : OfM As [] x) : False := by
  obtain ⟨i, hi, _⟩ := h
  simp at hi
theorem OfM.flat {As : List (List Addr)} {M : List Nat} {x : Addr} (h : OfM As M x) : x ∈ As.flatten := by
  obtain ⟨i, _, B, hB, hx⟩ := h
  exact List.mem_flatten.mpr ⟨B, List.mem_of_getElem? hB, hx⟩
theorem OfM.imp {As : List (List Addr)} {M M' : List Nat} {x : Addr} (h : OfM As M x) (hM : ∀ i ∈ M, i ∈ M') : OfM As M' x := by
  obtain ⟨i, hi, q⟩ := h
  exact ⟨i, hM i hi, q⟩
theorem flat_apart {As : List (List Addr)} (nd : As.flatten.Nodup) {i j : Nat} {B C : List Addr} {x : Addr} (hi : As[i]? = some B) (hj : As[j]? = some C) (hB : x ∈ B) (hC : x ∈ C) : i = j := by
  induction As generalizing i j with
  | nil => simp at hi
  | cons a r ih =>
    rw [List.flatten_cons] at nd
    obtain ⟨_, n2, n3⟩ := List.nodup_append.mp nd
    cases i with
    | zero =>
      cases j with
      | zero => rfl
      | succ j =>
        simp at hi hj
        subst hi
        exact absurd rfl (n3 x hB x (List.mem_flatten.mpr ⟨C, List.mem_of_getElem? hj, hC⟩))
    | succ i =>
      cases j with
      | zero =>
        simp at hi hj
        subst hj
        exact absurd rfl (n3 x hC x (List.mem_flatten.mpr ⟨B, List.mem_of_getElem? hi, hB⟩))
      | succ j => exact congrArg Nat.succ (ih n2 (by simpa using hi) (by simpa using hj))
theorem flat_part {As : List (List Addr)} (nd : As.flatten.Nodup) {i : Nat} {B : List Addr} (hi : As[i]? = some B) : B.Nodup := by
  induction As generalizing i with
  | nil => simp at hi
  | cons a r ih =>
    rw [List.flatten_cons] at nd
    obtain ⟨n1, n2, _⟩ := List.nodup_append.mp nd
    cases i with
    | zero =>
      simp at hi
      subst hi
      exact n1
    | succ i => exact ih n2 (by simpa using hi)

section
variable (mg : Str → Option Value) (E : XK) (K : PySem.W.Frag)
def Pst (o : O) (As : List (List Addr)) (M : List Nat) (F H : Hp) (Q : VK) : R D → Prop
  | .ok d => ∀ v F' H' B, Grow F H F' H' → RepO K F' H' o d v B → (∀ x ∈ B, H x = none ∨ OfM As M x) → B.Nodup → Q v H'
  | .exc c => ∀ H', Same H H' → E (clsOf mg c) none H'
  | .no => False
def PstT (F H : Hp) (Q : Bool → Hp → Prop) : R Bool → Prop
  | .ok b => ∀ F' H', Grow F H F' H' → Q b H'
  | .exc c => ∀ H', Same H H' → E (clsOf mg c) none H'
  | .no => False
def PstA (os : List O) (As : List (List Addr)) (M : List Nat) (F H : Hp) (Q : List V → Hp → Prop) : R (List D) → Prop
  | .ok ds => ∀ vs F' H' B, Grow F H F' H' → RepT K F' H' os ds vs B → (∀ x ∈ B, H x = none ∨ OfM As M x) → B.Nodup → Q vs H'
  | .exc c => ∀ H', Same H H' → E (clsOf mg c) none H'
  | .no => False
def Sem (ω : List O) (t : TE) (f : Env → R D) (o : O) (M : List Nat) : Prop := ∀ σ ρ F H As Q, Stt K ω ρ σ F H As → Pst mg E K o As M F H Q (f ρ) → t σ H Q
def SemT (ω : List O) (t : TT) (f : Env → R Bool) : Prop := ∀ σ ρ F H As Q, Stt K ω ρ σ F H As → PstT mg E F H Q (f ρ) → t σ H Q
def SemA (ω : List O) (t : TA) (f : Env → R (List D)) (os : List O) (M : List Nat) : Prop := ∀ σ ρ F H As Q, Stt K ω ρ σ F H As → PstA mg E K os As M F H Q (f ρ) → t σ H Q
end
structure DE (X : Cx) (E : XK) (ω : List O) (e : Expr) (t : TE) (f : Env → R D) (o : O) (M : List Nat) : Prop where
  pe : PE X e t
  sem : Sem X.mg E X.K ω t f o M
structure DT (X : Cx) (E : XK) (ω : List O) (e : Expr) (t : TT) (f : Env → R Bool) : Prop where
  pt : PT X e t
  sem : SemT X.mg E X.K ω t f
structure DA (X : Cx) (E : XK) (ω : List O) (es : List Expr) (t : TA) (f : Env → R (List D)) (os : List O) (M : List Nat) : Prop where
  pa : PA X es t
  sem : SemA X.mg E X.K ω t f os M

section
variable {mg : Str → Option Value} {E : XK} {K : PySem.W.Frag} {F F' H H' F1 H1 : Hp} {ω : List O} {ρ : Env} {σ : L2.St} {As : List (List Addr)} {o o' : O} {M M' : List Nat}
theorem fresh_of {H H1 : Hp} {x : Addr} (e : Same H H1) (h : H1 x = none) : H x = none := e.free h
theorem Pst.grow {Q : VK} {r : R D} (g : Grow F H F1 H1) (p : Pst mg E K o As M F H Q r) : Pst mg E K o As M F1 H1 Q r := by
  cases r with
  | ok d => exact fun v F' H' B g' r hB nd => p v F' H' B (g.trans g') r (fun x hx => (hB x hx).imp (fresh_of g.hh) id) nd
  | exc c => exact fun H' e => p H' (g.hh.trans e)
  | no => exact p
theorem PstT.grow {Q : Bool → Hp → Prop} {r : R Bool} (g : Grow F H F1 H1) (p : PstT mg E F H Q r) : PstT mg E F1 H1 Q r := by
  cases r with
  | ok d => exact fun F' H' g' => p F' H' (g.trans g')
  | exc c => exact fun H' e => p H' (g.hh.trans e)
  | no => exact p
theorem PstA.grow {Q : List V → Hp → Prop} {os : List O} {r : R (List D)} (g : Grow F H F1 H1) (p : PstA mg E K os As M F H Q r) : PstA mg E K os As M F1 H1 Q r := by
  cases r with
  | ok d => exact fun v F' H' B g' r hB nd => p v F' H' B (g.trans g') r (fun x hx => (hB x hx).imp (fresh_of g.hh) id) nd
  | exc c => exact fun H' e => p H' (g.hh.trans e)
  | no => exact p
/-- an expression, then something of its value -/
theorem Sem.go {t : TE} {f : Env → R D} {Q1 : VK} {α : Type} {P : Hp → Hp → R α → Prop} {k : D → R α} (h : Sem mg E K ω t f o M) (S : Stt K ω ρ σ F H As)
    (hx : ∀ c, P F H (.exc c) → ∀ H', Same H H' → E (clsOf mg c) none H') (hn : P F H .no → False) (hg : ∀ d F1 H1, Grow F H F1 H1 → P F H (k d) → P F1 H1 (k d)) (p : P F H (f ρ >>= k))
    (n : ∀ d v F1 H1 B, Grow F H F1 H1 → Stt K ω ρ σ F1 H1 As → RepO K F1 H1 o d v B → (∀ x ∈ B, H x = none ∨ OfM As M x) → B.Nodup → P F1 H1 (k d) → Q1 v H1) : t σ H Q1 := by
  refine h σ ρ F H As Q1 S ?_
  cases hf : f ρ with
  | ok d =>
    rw [hf] at p
    exact fun v F1 H1 B g r hB nd => n d v F1 H1 B g (S.grow g) r hB nd (hg d F1 H1 g p)
  | exc c =>
    rw [hf] at p
    exact hx c p
  | no =>
    rw [hf] at p
    exact hn p
/-- the same into a value -/
theorem Sem.then {t : TE} {f : Env → R D} {Q Q1 : VK} {k : D → R D} (h : Sem mg E K ω t f o M) (S : Stt K ω ρ σ F H As) (p : Pst mg E K o' As M' F H Q (f ρ >>= k))
    (n : ∀ d v F1 H1 B, Grow F H F1 H1 → Stt K ω ρ σ F1 H1 As → RepO K F1 H1 o d v B → (∀ x ∈ B, H x = none ∨ OfM As M x) → B.Nodup → Pst mg E K o' As M' F1 H1 Q (k d) → Q1 v H1) : t σ H Q1 :=
  h.go S (P := fun F H r => Pst mg E K o' As M' F H Q r) (fun _ q => q) (fun q => q) (fun _ _ _ g q => q.grow g) p n
theorem Sem.thenT {t : TE} {f : Env → R D} {Q : Bool → Hp → Prop} {Q1 : VK} {k : D → R Bool} (h : Sem mg E K ω t f o M) (S : Stt K ω ρ σ F H As) (p : PstT mg E F H Q (f ρ >>= k))
    (n : ∀ d v F1 H1 B, Grow F H F1 H1 → Stt K ω ρ σ F1 H1 As → RepO K F1 H1 o d v B → (∀ x ∈ B, H x = none ∨ OfM As M x) → B.Nodup → PstT mg E F1 H1 Q (k d) → Q1 v H1) : t σ H Q1 :=
  h.go S (P := fun F H r => PstT mg E F H Q r) (fun _ q => q) (fun q => q) (fun _ _ _ g q => q.grow g) p n
theorem Sem.thenA {t : TE} {f : Env → R D} {os : List O} {Q : List V → Hp → Prop} {Q1 : VK} {k : D → R (List D)} (h : Sem mg E K ω t f o M) (S : Stt K ω ρ σ F H As) (p : PstA mg E K os As M' F H Q (f ρ >>= k))
    (n : ∀ d v F1 H1 B, Grow F H F1 H1 → Stt K ω ρ σ F1 H1 As → RepO K F1 H1 o d v B → (∀ x ∈ B, H x = none ∨ OfM As M x) → B.Nodup → PstA mg E K os As M' F1 H1 Q (k d) → Q1 v H1) : t σ H Q1 :=
  h.go S (P := fun F H r => PstA mg E K os As M' F H Q r) (fun _ q => q) (fun q => q) (fun _ _ _ g q => q.grow g) p n
theorem SemA.then {t : TA} {f : Env → R (List D)} {os : List O} {Q : VK} {Q1 : List V → Hp → Prop} {k : List D → R D} (h : SemA mg E K ω t f os M) (S : Stt K ω ρ σ F H As) (p : Pst mg E K o' As M' F H Q (f ρ >>= k))
    (n : ∀ d v F1 H1 B, Grow F H F1 H1 → Stt K ω ρ σ F1 H1 As → RepT K F1 H1 os d v B → (∀ x ∈ B, H x = none ∨ OfM As M x) → B.Nodup → Pst mg E K o' As M' F1 H1 Q (k d) → Q1 v H1) : t σ H Q1 := by
  refine h σ ρ F H As Q1 S ?_
  cases hf : f ρ with
  | ok d =>
    rw [hf] at p
    exact fun v F1 H1 B g r hB nd => n d v F1 H1 B g (S.grow g) r hB nd (Pst.grow g p)
  | exc c =>
    rw [hf] at p
    exact p
  | no =>
    rw [hf] at p
    exact p
theorem SemT.then {t : TT} {f : Env → R Bool} {Q : VK} {Q1 : Bool → Hp → Prop} {k : Bool → R D} (h : SemT mg E K ω t f) (S : Stt K ω ρ σ F H As) (p : Pst mg E K o' As M' F H Q (f ρ >>= k))
    (n : ∀ b F1 H1, Grow F H F1 H1 → Stt K ω ρ σ F1 H1 As → Pst mg E K o' As M' F1 H1 Q (k b) → Q1 b H1) : t σ H Q1 := by
  refine h σ ρ F H As Q1 S ?_
  cases hf : f ρ with
  | ok d =>
    rw [hf] at p
    exact fun F1 H1 g => n d F1 H1 g (S.grow g) (Pst.grow g p)
  | exc c =>
    rw [hf] at p
    exact p
  | no =>
    rw [hf] at p
    exact p
theorem SemT.thenT {t : TT} {f : Env → R Bool} {Q Q1 : Bool → Hp → Prop} {k : Bool → R Bool} (h : SemT mg E K ω t f) (S : Stt K ω ρ σ F H As) (p : PstT mg E F H Q (f ρ >>= k))
    (n : ∀ b F1 H1, Grow F H F1 H1 → Stt K ω ρ σ F1 H1 As → PstT mg E F1 H1 Q (k b) → Q1 b H1) : t σ H Q1 := by
  refine h σ ρ F H As Q1 S ?_
  cases hf : f ρ with
  | ok d =>
    rw [hf] at p
    exact fun F1 H1 g => n d F1 H1 g (S.grow g) (PstT.grow g p)
  | exc c =>
    rw [hf] at p
    exact p
  | no =>
    rw [hf] at p
    exact p
/-- ends: a value that is there -/
theorem Pst.fin {Q : VK} {d : D} {v : V} (p : Pst mg E K .fz As M F H Q (.ok d)) (e : Same F H) (r : Rep K F d v) : Q v H := p v F H [] (Grow.refl e) ⟨r, rfl⟩ (fun _ h => by simp at h) List.nodup_nil
/-- .. a new object, frozen -/
theorem Grow.new {p : Addr} {u : HO} (e : Same F H) (hp : H p = none) : Grow F H (upd F p u) (upd H p u) := by
  have fp : F p = none := e.free hp
  refine ⟨fun x q hx => ?_, fun x q hx => ?_, fun x q hx => ?_, fun x h1 h2 => ?_⟩
  · rw [upd_ne (ne_of_none hx fp)]; exact hx
  · rw [upd_ne (ne_of_none hx hp)]; exact hx
  · by_cases h : x = p
    · subst h
      rw [upd_same] at hx ⊢
      exact hx
    · rw [upd_ne h] at hx ⊢
      exact e _ _ hx
  · have : x ≠ p := fun q => by subst q; exact h2 hp
    rw [upd_ne this]; exact h1
/-- .. a new object, owned -/
theorem Grow.newO {p : Addr} {u : HO} (e : Same F H) (hp : H p = none) : Grow F H F (upd H p u) := by
  refine ⟨Same.refl _, fun x q hx => ?_, fun x q hx => ?_, fun x h1 _ => h1⟩
  · rw [upd_ne (ne_of_none hx hp)]; exact hx
  · rw [upd_ne (ne_of_none (e _ _ hx) hp)]; exact e _ _ hx
theorem Pst.newL {Q : VK} {ds : List D} {vs : List V} {p : Addr} (q : Pst mg E K (.own .fz) As M F H Q (.ok (.lst ds))) (e : Same F H) (hp : H p = none) (r : Reps K F ds vs) : Q (.ref p) (upd H p (.lst vs)) := by
  refine q (.ref p) F _ [p] (Grow.newO e hp) (.inl ⟨ds, p, vs, [], rfl, rfl, e.free hp, upd_same, rfl, ?_⟩) (fun x hx => .inl (by rw [List.mem_singleton.mp hx]; exact hp)) (by simp)
  clear q
  induction ds generalizing vs with
  | nil => exact ⟨r, rfl⟩
  | cons d ds ih =>
    obtain ⟨v, vr, rfl, h2, h3⟩ := r
    exact ⟨v, vr, [], [], rfl, rfl, ⟨h2, rfl⟩, ih h3⟩
theorem Pst.newD {Q : VK} {es : List (L2.Key × D)} {kvs : List (L2.Key × V)} {p : Addr} (q : Pst mg E K (.own .fz) As M F H Q (.ok (.dic es))) (e : Same F H) (hp : H p = none) (r : RepK K F es kvs) : Q (.ref p) (upd H p (.dK kvs)) :=
  q (.ref p) F _ [p] (Grow.newO e hp) (.inr (.inl ⟨es, p, kvs, rfl, rfl, e.free hp, upd_same, r, rfl⟩)) (fun x hx => .inl (by rw [List.mem_singleton.mp hx]; exact hp)) (by simp)
theorem Pst.newT {Q : VK} {ds : List D} {vs : List V} {p : Addr} (q : Pst mg E K .fz As M F H Q (.ok (.tup ds))) (e : Same F H) (hp : H p = none) (r : Reps K F ds vs) : Q (.ref p) (upd H p (.tup vs)) :=
  q (.ref p) _ _ [] (Grow.new e hp) ⟨⟨p, vs, rfl, upd_same, Reps.mono (Grow.new e hp).ff ds vs r⟩, rfl⟩ (fun _ h => by simp at h) List.nodup_nil
end

/-! ### names, constants -/
def eVar (i : Nat) (ρ : Env) : R D := match ρ[i]? with
  | some (some d) => .ok d
  | _ => .no
def eC (d : D) (_ : Env) : R D := .ok d
section
variable {X : Cx} {E : XK} {ω : List O} {e a b : Expr} {t ta tb : TE} {f fa fb : Env → R D} {o : O} {M : List Nat} {pos : Pos}
theorem sem_var {mg : Str → Option Value} {K : PySem.W.Frag} {i : Nat} {o : O} {M : List Nat} (h : ω[i]? = some o) (hM : o = .fz ∨ i ∈ M) : Sem mg E K ω (tVar i) (eVar i) o M := fun σ ρ F H As Q S p => by
  unfold eVar at p
  cases q : ρ[i]? with
  | none => rw [q] at p; exact p.elim
  | some u =>
    rw [q] at p
    cases u with
    | none => exact p.elim
    | some d =>
      obtain ⟨v, B, h1, h2, h3⟩ := S.sl.get h q
      refine ⟨v, h1, p v F H B (Grow.refl S.ex) h3 (fun x hx => ?_) (flat_part S.nd h2)⟩
      rcases hM with rfl | hM
      · rw [h3.2] at hx; simp at hx
      · exact .inr ⟨i, hM, B, h2, hx⟩
theorem de_var (i : Nat) {x : Str} (h : ω[i]? = some .fz := by rfl) (hN : X.N[i]? = some x := by rfl) (hv : Vis X.env.scope x := by first | exact Or.inl rfl | exact Or.inr (Or.inl rfl) | exact Or.inr (Or.inr rfl)) (hd : (x == ("__debug__" : Str)) = false := by decide)
    (hcd : (x == ("__classdict__" : Str)) = false := by decide) : DE X E ω (.Name x pos) (tVar i) (eVar i) .fz [] := ⟨pe_var hN hv hd hcd, sem_var h (.inl rfl)⟩
theorem de_move (i : Nat) {o : O} {x : Str} (h : ω[i]? = some o := by rfl) (hN : X.N[i]? = some x := by rfl) (hv : Vis X.env.scope x := by first | exact Or.inl rfl | exact Or.inr (Or.inl rfl) | exact Or.inr (Or.inr rfl)) (hd : (x == ("__debug__" : Str)) = false := by decide)
    (hcd : (x == ("__classdict__" : Str)) = false := by decide) : DE X E ω (.Name x pos) (tVar i) (eVar i) o [i] := ⟨pe_var hN hv hd hcd, sem_var h (.inr (by simp))⟩
theorem sem_c {mg : Str → Option Value} {K : PySem.W.Frag} {v : V} {d : D} (h : ∀ F, Rep K F d v) : Sem mg E K ω (tC v) (eC d) .fz [] := fun σ ρ F H As Q S p => p.fin S.ex (h F)
theorem de_int {i j} : DE X E ω (.Constant (.int i) j pos) (tC (.int i)) (eC (.int i)) .fz [] := ⟨pe_int, sem_c fun _ => rfl⟩
theorem de_bl {i j} : DE X E ω (.Constant (.bool i) j pos) (tC (.bl i)) (eC (.bl i)) .fz [] := ⟨pe_bl, sem_c fun _ => rfl⟩
theorem de_non {j} : DE X E ω (.Constant .none j pos) (tC .non) (eC .non) .fz [] := ⟨pe_non, sem_c fun _ => rfl⟩
theorem de_str {s j} : DE X E ω (.Constant (.str s) j pos) (tC (.str s)) (eC (.str s)) .fz [] := ⟨pe_str, sem_c fun _ => rfl⟩
/-- a module's constant, an int or a text -/
theorem de_gint {x : Str} {i : Int} (hm : ∃ t, X.mg x = some (.int i t)) (hg : Gl X x := by rfl) (hd : (x == ("__debug__" : Str)) = false := by decide) : DE X E ω (.Name x pos) (tC (.int i)) (eC (.int i)) .fz [] := by
  obtain ⟨t, hm⟩ := hm
  exact ⟨pe_glob hg hm ⟨t, rfl⟩ hd, sem_c fun _ => rfl⟩
theorem de_gstr {x : Str} {i : Str} (hm : ∃ t, X.mg x = some (.str i t)) (hg : Gl X x := by rfl) (hd : (x == ("__debug__" : Str)) = false := by decide) : DE X E ω (.Name x pos) (tC (.str i)) (eC (.str i)) .fz [] := by
  obtain ⟨t, hm⟩ := hm
  exact ⟨pe_glob hg hm ⟨t, rfl⟩ hd, sem_c fun _ => rfl⟩

/-! ### freezing a result; looking at what is owned -/
theorem sem_frz {mg : Str → Option Value} {K : PySem.W.Frag} {t : TE} {f : Env → R D} {o : O} (h : Sem mg E K ω t f o []) : Sem mg E K ω t f .fz [] := fun σ ρ F H As Q S p => by
  refine h σ ρ F H As Q S ?_
  cases hf : f ρ with
  | ok d =>
    rw [hf] at p
    intro v F' H' B g r hB nd
    have hB0 : ∀ x ∈ B, F' x = none := fun x hx => (RepO.mem o d v B r hx).1
    refine p v (thawed F' H' B) H' [] ⟨g.ff.trans (thawed_same hB0), g.hh, thawed_heap g.fh, fun x h1 h2 => ?_⟩ ⟨RepO.thaw o d v B (thawed_same hB0) (fun x hx => thawed_in hx) r, rfl⟩ (fun _ h => by simp at h) List.nodup_nil
    have : x ∉ B := fun hx => by
      rcases hB x hx with q | q
      · exact h2 q
      · exact q.nil.elim
    rw [thawed_out this]
    exact g.sep x h1 h2
  | exc c => rw [hf] at p; exact p
  | no => rw [hf] at p; exact p
theorem de_frz (h : DE X E ω e t f o []) : DE X E ω e t f .fz [] := ⟨h.pe, sem_frz h.sem⟩
def isScal : D → Bool
  | .non => true | .bl _ => true | .int _ => true | .str _ => true
  | _ => false
def scal1 (d : D) : R D := if isScal d = true then .ok d else .no
/-- a value that is no object, found by looking at what is owned, too -/
def eLook (f : Env → R D) (ρ : Env) : R D := f ρ >>= scal1
theorem rep_scal {K : PySem.W.Frag} {F F' : Hp} {d : D} {v : V} (h : isScal d = true) (r : Rep K F d v) : Rep K F' d v := by
  cases d <;> first | exact r | (exact absurd h (by simp [isScal]))
theorem sem_look {mg : Str → Option Value} {K : PySem.W.Frag} {t : TE} {f : Env → R D} (h : Sem mg E K (ω.map fun _ => .fz) t f .fz []) : Sem mg E K ω t (eLook f) .fz [] := fun σ ρ F H As Q S p => by
  refine h σ ρ _ H _ Q S.thaw ?_
  unfold eLook at p
  cases hf : f ρ with
  | ok d =>
    rw [hf] at p
    intro v F' H' B g r hB nd
    by_cases hs : isScal d = true
    · have p' : Pst mg E K .fz As [] F H Q (.ok d) := by
        have e : (R.ok d >>= scal1) = R.ok d := by
          show scal1 d = _
          unfold scal1
          rw [if_pos hs]
        rw [e] at p
        exact p
      exact p' v F H' [] ⟨Same.refl _, g.hh, S.ex.trans g.hh, fun _ q _ => q⟩ ⟨rep_scal hs r.1, rfl⟩ (fun _ h => by simp at h) List.nodup_nil
    · have e : (R.ok d >>= scal1) = R.no := by
        show scal1 d = _
        unfold scal1
        rw [if_neg hs]
      rw [e] at p
      exact p.elim
  | exc c => rw [hf] at p; exact p
  | no => rw [hf] at p; exact p
theorem de_look (h : DE X E (ω.map fun _ => .fz) e t f .fz []) : DE X E ω e t (eLook f) .fz [] := ⟨h.pe, sem_look h.sem⟩
theorem semT_look {mg : Str → Option Value} {K : PySem.W.Frag} {t : TT} {f : Env → R Bool} (h : SemT mg E K (ω.map fun _ => .fz) t f) : SemT mg E K ω t f := fun σ ρ F H As Q S p => by
  refine h σ ρ _ H _ Q S.thaw ?_
  cases hf : f ρ with
  | ok d =>
    rw [hf] at p
    exact fun F' H' g => p F H' ⟨Same.refl _, g.hh, S.ex.trans g.hh, fun _ q _ => q⟩
  | exc c => rw [hf] at p; exact p
  | no => rw [hf] at p; exact p
theorem dt_look {c : Expr} {t : TT} {f : Env → R Bool} (h : DT X E (ω.map fun _ => .fz) c t f) : DT X E ω c t f := ⟨h.pt, semT_look h.sem⟩
/-- a new list of such values -/
def scalL (d : D) : R D := match d with
  | .lst ds => if ds.all isScal = true then .ok d else .no
  | _ => .no
def eLookL (f : Env → R D) (ρ : Env) : R D := f ρ >>= scalL
theorem reps_scal {K : PySem.W.Frag} {F F' : Hp} : ∀ {ds : List D} {vs : List V}, ds.all isScal = true → Reps K F ds vs → Reps K F' ds vs
  | [], _, _, r => r
  | d :: ds, _, h, r => by
    obtain ⟨v, vr, rfl, h2, h3⟩ := r
    rw [List.all_cons, Bool.and_eq_true] at h
    exact ⟨v, vr, rfl, rep_scal h.1 h2, reps_scal h.2 h3⟩
theorem allO_fz {K : PySem.W.Frag} {F H : Hp} : ∀ {ds : List D} {vs : List V} {B : List Addr}, AllO (RepO K F H .fz) ds vs B → Reps K F ds vs ∧ B = []
  | [], _, _, r => r
  | d :: ds, _, _, r => by
    obtain ⟨v, vr, B1, B2, rfl, rfl, h3, h4⟩ := r
    obtain ⟨h5, h6⟩ := allO_fz h4
    exact ⟨⟨v, vr, rfl, h3.1, h5⟩, by rw [h3.2, h6]; rfl⟩
theorem allO_of {K : PySem.W.Frag} {F H : Hp} : ∀ {ds : List D} {vs : List V}, Reps K F ds vs → AllO (RepO K F H .fz) ds vs []
  | [], _, r => ⟨r, rfl⟩
  | d :: ds, _, r => by
    obtain ⟨v, vr, rfl, h2, h3⟩ := r
    exact ⟨v, vr, [], [], rfl, rfl, ⟨h2, rfl⟩, allO_of h3⟩
theorem sem_lookL {mg : Str → Option Value} {K : PySem.W.Frag} {t : TE} {f : Env → R D} (h : Sem mg E K (ω.map fun _ => .fz) t f (.own .fz) []) : Sem mg E K ω t (eLookL f) (.own .fz) [] := fun σ ρ F H As Q S p => by
  refine h σ ρ _ H _ Q S.thaw ?_
  unfold eLookL at p
  cases hf : f ρ with
  | ok d =>
    rw [hf] at p
    intro v F' H' B g r hB nd
    have hB' : ∀ x ∈ B, H x = none := fun x hx => by
      rcases hB x hx with q | q
      · exact q
      · exact q.nil.elim
    rcases r with ⟨ds, a, vs, B', rfl, rfl, h1, h2, rfl, h6⟩ | ⟨es, a, kvs, rfl, rfl, h1, h2, h3, rfl⟩ | ⟨hb, _, rfl⟩
    · obtain ⟨h7, rfl⟩ := allO_fz h6
      by_cases hs : ds.all isScal = true
      · have e : (R.ok (D.lst ds) >>= scalL) = R.ok (.lst ds) := by
          show scalL (.lst ds) = _
          unfold scalL
          exact if_pos hs
        rw [e] at p
        refine p (.ref a) F H' [a] ⟨Same.refl _, g.hh, S.ex.trans g.hh, fun _ q _ => q⟩ (.inl ⟨ds, a, vs, [], rfl, rfl, S.ex.free (hB' a (by simp)), h2, rfl, allO_of (reps_scal hs h7)⟩) (fun x hx => .inl (hB' x hx)) nd
      · have e : (R.ok (D.lst ds) >>= scalL) = R.no := by
          show scalL (.lst ds) = _
          unfold scalL
          exact if_neg hs
        rw [e] at p
        exact p.elim
    · exact (show False from p).elim
    · cases d <;> first
        | exact (show False from p).elim
        | exact absurd hb (by simp [isBox])
  | exc c => rw [hf] at p; exact p
  | no => rw [hf] at p; exact p
theorem de_lookL (h : DE X E (ω.map fun _ => .fz) e t f (.own .fz) []) : DE X E ω e t (eLookL f) (.own .fz) [] := ⟨h.pe, sem_lookL h.sem⟩
end
end Dn

/-! Operators over data. -/
namespace Dn
open PySem L2 PyProof.Rows

def most : Nat := 16777216
theorem dget_rd {H : Hp} {a : Addr} {kvs : List (L2.Key × V)} {k : L2.Key} (h : Rd H a (.dK kvs)) : DGet H a (kV k) (valV kvs k) := .inl ⟨kvs, k, h, rfl, rfl⟩
theorem most_eq : most = sizeLine := by rw [sizeLine_eq]; rfl
/-! ### what the operators give -/
def addD : D → D → R D
  | .int i, .int j => .ok (.int (i + j))
  | .str a, .str b => if a.length + b.length ≤ most then .ok (.str (a ++ b)) else .no
  | .lst a, .lst b => if a.length + b.length ≤ most then .ok (.lst (a ++ b)) else .no
  | .tup a, .tup b => if a.length + b.length ≤ most then .ok (.tup (a ++ b)) else .no
  | _, _ => .no
def subD : D → D → R D
  | .int i, .int j => .ok (.int (i - j))
  | _, _ => .no
def fits64 (i : Int) : Bool := decide (-18446744073709551616 < i) && decide (i < 18446744073709551616)
def mulD : D → D → R D
  | .int i, .int j => if (fits64 i || fits64 j || decide (i.natAbs.log2 + j.natAbs.log2 < 1000000)) = true then .ok (.int (i * j)) else .no
  | .lst xs, .int k => if -9223372036854775808 ≤ k ∧ k < 9223372036854775808 ∧ xs.length * k.toNat ≤ most then .ok (.lst (List.replicate k.toNat xs).flatten) else .no
  | .tup xs, .int k => if -9223372036854775808 ≤ k ∧ k < 9223372036854775808 ∧ (k ≤ 1000 ∧ xs.length ≤ 1000 ∨ xs = [] ∨ k = 1) then .ok (.tup (List.replicate k.toNat xs).flatten) else .no
  | .str z, .int k => if -9223372036854775808 ≤ k ∧ k < 1000000 ∧ z.length ≤ 1000000 ∧ z.length * k.toNat ≤ 1000000 then .ok (.str (repS z k.toNat)) else .no
  | _, _ => .no
def modD : D → D → R D
  | .int i, .int j => if 0 < j then .ok (.int (i % j)) else .no
  | _, _ => .no
def divD : D → D → R D
  | .int i, .int j => if 0 < j ∧ j < 1073741824 then .ok (.int (i / j)) else .no
  | _, _ => .no
def powD : D → D → R D
  | .int i, .int j => if 0 ≤ j ∧ j ≤ 1000000 ∧ fits64 i = true then .ok (.int (i ^ j.toNat)) else .no
  | _, _ => .no
def negD : D → R D
  | .int i => .ok (.int (-i))
  | _ => .no
def ltD : D → D → R D
  | .int i, .int j => .ok (.bl (decide (i < j)))
  | _, _ => .no
def leD : D → D → R D
  | .int i, .int j => .ok (.bl (decide (i ≤ j)))
  | _, _ => .no
def gtD : D → D → R D
  | .int i, .int j => .ok (.bl (decide (j < i)))
  | _, _ => .no
def geD : D → D → R D
  | .int i, .int j => .ok (.bl (decide (j ≤ i)))
  | _, _ => .no
mutual
def toP : D → PyData
  | .non => .none
  | .bl b => .bool b
  | .int i => .int i
  | .str s => .str s
  | .tup xs => .tuple (toPs xs)
  | .lst xs => .list (toPs xs)
  | .scr ns => .list (ns.map .int)
  | .dic _ => .dict []
  | .err _ _ => .dict []
def toPs : List D → List PyData
  | [] => []
  | d :: ds => toP d :: toPs ds
end
def sameFl : D → D → Bool
  | .non, .non => true
  | .bl a, .bl b => a == b
  | .int a, .int b => a == b
  | .str a, .str b => a == b
  | _, _ => false
def lookB (fs : List (L2.Key × D)) (k : L2.Key) (d : D) : Bool := match (fs.find? fun kv => decide (kv.1 = k)).map (·.2) with
  | some e => sameFl d e
  | none => false
/-- dicts of flat values that are equal -/
def dicB (es fs : List (L2.Key × D)) : Bool := es.length == fs.length && es.all fun kv => lookB fs kv.1 kv.2
def eqD : D → D → R D
  | .dic es, .dic fs => if dicB es fs = true then .ok (.bl true) else .no
  | .int i, .int j => .ok (.bl (decide (i = j)))
  | .str a, .str b => .ok (.bl (decide (a = b)))
  | .bl a, .bl b => .ok (.bl (a == b))
  | .non, .non => .ok (.bl true)
  | d, e => if (SeqAt.shaped (toP d) && SeqAt.shaped (toP e)) = true then .ok (.bl (PyData.eqv (toP d) (toP e))) else .no
def notD : D → R D
  | .bl b => .ok (.bl (!b))
  | _ => .no
def neD (d e : D) : R D := eqD d e >>= notD
def isNone : D → Bool
  | .non => true
  | _ => false
def isND (d : D) : R D := .ok (.bl (isNone d))
def isD : D → D → R D
  | d, .non => isND d
  | _, _ => .no
def isNotD (d e : D) : R D := isD d e >>= notD
def keyD : D → Option L2.Key
  | .int i => some (.inl i)
  | .str s => some (.inr s)
  | _ => none
def valK (es : List (L2.Key × D)) (k : L2.Key) : Option D := (es.find? fun kv => decide (kv.1 = k)).map (·.2)
def flatD : D → Bool
  | .non => true | .bl _ => true | .int _ => true | .str _ => true
  | _ => false
def toV : D → V
  | .bl b => .bl b | .int i => .int i | .str s => .str s
  | _ => .non
def seqD : D → Option (List D)
  | .tup xs => some xs
  | .lst xs => some xs
  | _ => none
/-- x in y -/
def inD (x y : D) : R D := match y with
  | .str z => match x with
    | .str a => if a.length = 1 then .ok (.bl (decide (a.cps.getD 0 0 ∈ z.cps.toList))) else .no
    | _ => .no
  | .dic es => match keyD x with
    | some k => .ok (.bl (valK es k).isSome)
    | none => .no
  | .tup xs => if (flatD x && xs.all flatD) = true then .ok (.bl (inV (toV x) (xs.map toV))) else .no
  | .lst xs => if (flatD x && xs.all flatD) = true then .ok (.bl (inV (toV x) (xs.map toV))) else .no
  | _ => .no
def notInD (x y : D) : R D := inD x y >>= notD
def ixD (x y : D) : R D := match x, y with
  | .lst xs, .int i => match atI xs i with
    | some d => .ok d
    | none => .no
  | .tup xs, .int i => match atI xs i with
    | some d => .ok d
    | none => .no
  | .scr xs, .int i => match atI xs i with
    | some d => .ok (.int d)
    | none => .no
  | .str z, .int i => if z.length ≤ most then (match atI z.cps.toList i with
    | some c => .ok (.str ⟨#[c]⟩)
    | none => .no) else .no
  | .dic es, k => match keyD k with
    | some k => (match valK es k with
      | some d => .ok d
      | none => .no)
    | none => .no
  | _, _ => .no

/-! ### the same of values -/
section
variable {mg : Str → Option Value} {E : XK} {K : PySem.W.Frag}
def OpD (mg : Str → Option Value) (E : XK) (K : PySem.W.Frag) (r : R2) (g : D → D → R D) (o : O) : Prop :=
  ∀ F H As x y dx dy Q, Same F H → Rep K F dx x → Rep K F dy y → Pst mg E K o As [] F H Q (g dx dy) → r x y H Q
theorem Pst.own {o : O} {F H : Hp} {As : List (List Addr)} {Q : VK} {d : D} {v : V} (p : Pst mg E K (.own .fz) As [] F H Q (.ok d)) (hb : isBox d = false) (e : Same F H) (r : Rep K F d v) : Q v H :=
  p v F H [] (Grow.refl e) (.inr (.inr ⟨hb, r, rfl⟩)) (fun _ h => by simp at h) List.nodup_nil
/-- a new tuple, as what is or is not one's own -/
theorem Pst.ownT {F H : Hp} {As : List (List Addr)} {Q : VK} {ds : List D} {vs : List V} {p : Addr} (q : Pst mg E K (.own .fz) As [] F H Q (.ok (.tup ds))) (e : Same F H) (hp : H p = none) (r : Reps K F ds vs) : Q (.ref p) (upd H p (.tup vs)) :=
  q (.ref p) _ _ [] (Grow.new e hp) (.inr (.inr ⟨rfl, ⟨p, vs, rfl, upd_same, Reps.mono (Grow.new e hp).ff ds vs r⟩, rfl⟩)) (fun _ h => by simp at h) List.nodup_nil
def rAddD (K : PySem.W.Frag) : R2 := fun x y H Q => rI0 (fun i j => .int (i + j)) x y H Q ∨ ((∃ i j, x = .str i ∧ y = .str j ∧ i.length + j.length ≤ sizeLine ∧ Q (.str (i ++ j)) H) ∨ (rCat x y H Q ∨ rCatA K x y H Q))
theorem or_add {X : Cx} : OpR X (binaryOp .Add) (rAddD X.K) := op_add.or (op_add_str.or (op_cat.or op_catA))
theorem reps_nil {K : PySem.W.Frag} {F : Hp} {ds : List D} {vs : List V} (r : Reps K F ds vs) : vs = [] ↔ ds = [] := by
  have h := r.length
  constructor
  · intro e
    subst e
    exact List.eq_nil_of_length_eq_zero h.symm
  · intro e
    subst e
    exact List.eq_nil_of_length_eq_zero h
theorem od_add : OpD mg E K (rAddD K) addD (.own .fz) := fun F H As x y dx dy Q e rx ry p => by
  cases dx <;> cases dy <;> first
    | exact (show False from p).elim
    | skip
  · exact .inl ⟨_, _, rx, ry, p.own (o := .fz) rfl e rfl⟩
  · rename_i a b
    unfold addD at p
    dsimp only at p
    by_cases h : a.length + b.length ≤ most
    · rw [if_pos h] at p
      exact .inr (.inl ⟨_, _, rx, ry, by rw [← most_eq]; exact h, p.own (o := .fz) rfl e rfl⟩)
    · rw [if_neg h] at p
      exact p.elim
  · rename_i a b
    unfold addD at p
    dsimp only at p
    by_cases h : a.length + b.length ≤ most
    · rw [if_pos h] at p
      obtain ⟨p1, vs, rfl, h1, r1⟩ := rx
      obtain ⟨p2, ws, rfl, h2, r2⟩ := ry
      refine .inr (.inr (.inr ⟨p1, p2, vs, ws, rfl, rfl, .of (e _ _ h1), .of (e _ _ h2), by rw [r1.length, r2.length, ← most_eq]; exact h, fun z => ?_, fun _ z => ?_, fun z1 z2 q hq => ?_⟩))
      · subst z
        have ea : a = [] := (reps_nil r1).mp rfl
        subst ea
        exact p.own (o := .fz) rfl e ⟨p2, ws, rfl, h2, r2⟩
      · subst z
        have eb : b = [] := (reps_nil r2).mp rfl
        subst eb
        rw [List.append_nil] at p
        exact p.own (o := .fz) rfl e ⟨p1, vs, rfl, h1, r1⟩
      · exact p.ownT e hq (r1.append r2)
    · rw [if_neg h] at p
      exact p.elim
  · rename_i a b
    unfold addD at p
    dsimp only at p
    by_cases h : a.length + b.length ≤ most
    · rw [if_pos h] at p
      obtain ⟨p1, vs, rfl, h1, r1⟩ := rx
      obtain ⟨p2, ws, rfl, h2, r2⟩ := ry
      exact .inr (.inr (.inl ⟨p1, p2, vs, ws, rfl, rfl, e _ _ h1, e _ _ h2, by rw [r1.length, r2.length, ← most_eq]; exact h, fun q hq => p.newL e hq (r1.append r2)⟩))
    · rw [if_neg h] at p
      exact p.elim
theorem od_sub : OpD mg E K (rI0 fun i j => .int (i - j)) subD .fz := fun F H As x y dx dy Q e rx ry p => by
  cases dx <;> cases dy <;> first
    | exact (show False from p).elim
    | exact ⟨_, _, rx, ry, p.fin e rfl⟩
theorem fits64_iff {i : Int} (h : fits64 i = true) : -(2 ^ 64) < i ∧ i < 2 ^ 64 := by
  unfold fits64 at h
  rw [Bool.and_eq_true, decide_eq_true_eq, decide_eq_true_eq] at h
  omega
def rMulD (K : PySem.W.Frag) : R2 := fun x y H Q => (rI (fun i j => CMul i j ∨ CMulW i j) (fun i j => .int (i * j)) x y H Q ∨ rRep x y H Q) ∨ ((rTupS K x y H Q ∨ rTupN K x y H Q) ∨ (rRepT K x y H Q ∨ rStrM x y H Q))
theorem or_mul {X : Cx} : OpR X (binaryOp .Mult) (rMulD X.K) := OpR.or (OpR.or (fun pins s σ H x y v u Q I rx ry h => by
  obtain ⟨i, j, ex, ey, c, q⟩ := h
  rcases c with c | c
  · exact op_mul pins s σ H x y v u Q I rx ry ⟨i, j, ex, ey, c, q⟩
  · exact op_mulW pins s σ H x y v u Q I rx ry ⟨i, j, ex, ey, c, q⟩) op_rep) ((op_tupS.or op_tupN).or (op_repT.or op_strM))
theorem od_mul : OpD mg E K (rMulD K) mulD (.own .fz) := fun F H As x y dx dy Q e rx ry p => by
  cases dx <;> cases dy <;> first
    | exact (show False from p).elim
    | skip
  · rename_i i j
    unfold mulD at p
    dsimp only at p
    by_cases h : (fits64 i || fits64 j || decide (i.natAbs.log2 + j.natAbs.log2 < 1000000)) = true
    · rw [if_pos h] at p
      refine .inl (.inl ⟨_, _, rx, ry, ?_, p.own (o := .fz) rfl e rfl⟩)
      rcases Bool.or_eq_true_iff.mp h with h | h
      · rcases Bool.or_eq_true_iff.mp h with h | h
        · exact .inl (.inl (fits64_iff h))
        · exact .inl (.inr (fits64_iff h))
      · exact .inr (show i.natAbs.log2 + j.natAbs.log2 < 1000000 from of_decide_eq_true h)
    · rw [if_neg h] at p
      exact p.elim
  · rename_i z k
    unfold mulD at p
    dsimp only at p
    by_cases h : -9223372036854775808 ≤ k ∧ k < 1000000 ∧ z.length ≤ 1000000 ∧ z.length * k.toNat ≤ 1000000
    · rw [if_pos h] at p
      exact .inr (.inr (.inr ⟨z, k, rx, ry, by omega, h.2.1, h.2.2.1, h.2.2.2, p.own (o := .fz) rfl e rfl⟩))
    · rw [if_neg h] at p
      exact p.elim
  · rename_i xs k
    unfold mulD at p
    dsimp only at p
    by_cases h : -9223372036854775808 ≤ k ∧ k < 9223372036854775808 ∧ (k ≤ 1000 ∧ xs.length ≤ 1000 ∨ xs = [] ∨ k = 1)
    · rw [if_pos h] at p
      obtain ⟨p1, vs, rfl, h1, r1⟩ := rx
      have hT : SqT K H p1 vs := .of (e _ _ h1)
      by_cases hs : vs = [] ∨ k = 1
      · refine .inr (.inl (.inl ⟨p1, k, vs, rfl, ry, hT, hs, by omega, by omega, p.own (o := .fz) rfl e ⟨p1, vs, rfl, h1, ?_⟩⟩))
        rcases hs with rfl | rfl
        · have : xs = [] := List.eq_nil_of_length_eq_zero (by rw [← r1.length]; rfl)
          subst this
          have q := Reps.rep r1 k.toNat
          have e0 : (List.replicate k.toNat ([] : List V)).flatten = [] := by simp
          rw [e0] at q
          exact q
        · have q : (List.replicate (1 : Int).toNat xs).flatten = xs := by simp
          rw [q]
          exact r1
      · rw [not_or] at hs
        have hx : ¬ xs = [] := fun e0 => hs.1 (by subst e0; exact List.eq_nil_of_length_eq_zero (by rw [r1.length]; rfl))
        obtain ⟨h2, h3, h4⟩ := h
        have h5 : k ≤ 1000 ∧ xs.length ≤ 1000 := by
          rcases h4 with h4 | h4 | h4
          · exact h4
          · exact absurd h4 hx
          · exact absurd h4 hs.2
        by_cases h0 : k ≤ 0
        · refine .inr (.inl (.inr ⟨p1, k, vs, rfl, ry, hT, hs.1, h0, by omega, fun q hq => ?_⟩))
          have e0 : (List.replicate k.toNat xs).flatten = [] := by
            have : k.toNat = 0 := by omega
            rw [this]; rfl
          rw [e0] at p
          exact p.ownT e hq rfl
        · exact .inr (.inr (.inl ⟨p1, k, vs, rfl, ry, hT, hs.1, by omega, h5.1, by rw [r1.length]; exact h5.2, fun q hq => p.ownT e hq (r1.rep _)⟩))
    · rw [if_neg h] at p
      exact p.elim
  · rename_i xs k
    unfold mulD at p
    dsimp only at p
    by_cases h : -9223372036854775808 ≤ k ∧ k < 9223372036854775808 ∧ xs.length * k.toNat ≤ most
    · rw [if_pos h] at p
      obtain ⟨p1, vs, rfl, h1, r1⟩ := rx
      exact .inl (.inr ⟨p1, k, vs, rfl, ry, e _ _ h1, by omega, by omega, by rw [r1.length, ← most_eq]; exact h.2.2, fun q hq => p.newL e hq (r1.rep _)⟩)
    · rw [if_neg h] at p
      exact p.elim
theorem od_mod : OpD mg E K (rI (fun _ j => 0 < j) fun i j => .int (i % j)) modD .fz := fun F H As x y dx dy Q e rx ry p => by
  cases dx <;> cases dy <;> first
    | exact (show False from p).elim
    | skip
  unfold modD at p
  dsimp only at p
  split at p
  · rename_i h
    exact ⟨_, _, rx, ry, h, p.fin e rfl⟩
  · exact p.elim
theorem od_div : OpD mg E K (rI CDiv fun i j => .int (i / j)) divD .fz := fun F H As x y dx dy Q e rx ry p => by
  cases dx <;> cases dy <;> first
    | exact (show False from p).elim
    | skip
  unfold divD at p
  dsimp only at p
  split at p
  · rename_i h
    exact ⟨_, _, rx, ry, h, p.fin e rfl⟩
  · exact p.elim
theorem od_pow : OpD mg E K (rI CPow fun i j => .int (i ^ j.toNat)) powD .fz := fun F H As x y dx dy Q e rx ry p => by
  cases dx <;> cases dy <;> first
    | exact (show False from p).elim
    | skip
  unfold powD at p
  dsimp only at p
  split at p
  · rename_i h
    refine ⟨_, _, rx, ry, ⟨h.1, h.2.1, ?_⟩, p.fin e rfl⟩
    have := fits64_iff h.2.2
    omega
  · exact p.elim
theorem od_lt : OpD mg E K (rI0 fun i j => .bl (decide (i < j))) ltD .fz := fun F H As x y dx dy Q e rx ry p => by
  cases dx <;> cases dy <;> first
    | exact (show False from p).elim
    | exact ⟨_, _, rx, ry, p.fin e rfl⟩
theorem od_le : OpD mg E K (rI0 fun i j => .bl (decide (i ≤ j))) leD .fz := fun F H As x y dx dy Q e rx ry p => by
  cases dx <;> cases dy <;> first
    | exact (show False from p).elim
    | exact ⟨_, _, rx, ry, p.fin e rfl⟩
theorem od_gt : OpD mg E K (rI0 fun i j => .bl (decide (j < i))) gtD .fz := fun F H As x y dx dy Q e rx ry p => by
  cases dx <;> cases dy <;> first
    | exact (show False from p).elim
    | exact ⟨_, _, rx, ry, p.fin e rfl⟩
theorem od_ge : OpD mg E K (rI0 fun i j => .bl (decide (j ≤ i))) geD .fz := fun F H As x y dx dy Q e rx ry p => by
  cases dx <;> cases dy <;> first
    | exact (show False from p).elim
    | exact ⟨_, _, rx, ry, p.fin e rfl⟩

/-! ### == -/
def noDic : D → Bool
  | .dic _ => false
  | _ => true
mutual
theorem rep_dp {F H : Hp} (e : Same F H) : ∀ (d : D) (v : V), Rep K F d v → PyData.canLay0 (toP d) = true → Dp K H v (toP d)
  | .non, v, h, _ => by rw [show v = .non from h]; exact .non
  | .bl b, v, h, _ => by rw [show v = .bl b from h]; exact .bl b
  | .int i, v, h, _ => by rw [show v = .int i from h]; exact .int i
  | .str s, v, h, _ => by rw [show v = .str s from h]; exact .str s
  | .scr ns, v, h, cc => by
    obtain ⟨a, rfl, h⟩ := h
    refine .lst (e.seq h) ?_
    clear h cc
    induction ns with
    | nil => exact .nil
    | cons n r ih => exact .cons (.int n) ih
  | .dic es, v, h, c => by
    rw [show toP (.dic es) = .dict [] from rfl] at c
    exact absurd c (by simp [PyData.canLay0])
  | .err a b, v, h, c => by
    rw [show toP (.err a b) = .dict [] from rfl] at c
    exact absurd c (by simp [PyData.canLay0])
  | .tup ds, v, h, c => by
    obtain ⟨a, vs, rfl, h1, h2⟩ := h
    exact .tup (.of (e _ _ h1)) (reps_dp e ds vs h2 (by simpa [toP, PyData.canLay0] using c))
  | .lst ds, v, h, c => by
    obtain ⟨a, vs, rfl, h1, h2⟩ := h
    exact .lst (.of (e _ _ h1)) (reps_dp e ds vs h2 (by simpa [toP, PyData.canLay0] using c))
theorem reps_dp {F H : Hp} (e : Same F H) : ∀ (ds : List D) (vs : List V), Reps K F ds vs → PyData.canLayAll0 (toPs ds) = true → DpAll K H vs (toPs ds)
  | [], vs, h, _ => by rw [show vs = [] from h]; exact .nil
  | d :: ds, vs, h, c => by
    obtain ⟨v, vr, rfl, h2, h3⟩ := h
    have c' : PyData.canLay0 (toP d) = true ∧ PyData.canLayAll0 (toPs ds) = true := by simpa [toPs, PyData.canLayAll0] using c
    exact .cons (rep_dp e d v h2 c'.1) (reps_dp e ds vr h3 c'.2)
end
def rDic (r : Bool) : R2 := fun x y H Q => ∃ a b ks ls, x = .ref a ∧ y = .ref b ∧ Rd H a (.dK ks) ∧ Rd H b (.dK ls) ∧ ks.length = ls.length ∧ (∀ p ∈ ks, valV ls p.1 = some p.2 ∧ flatB p.2 = true) ∧ Q (.bl r) H
theorem op_eqDic {X : Cx} (hu : X.A.units < cLine) : OpR X (compareOp .Eq) (rDic true) := by
  intro pins s σ H x y v u Q I rx ry h
  obtain ⟨a, b, ks, ls, rfl, rfl, ea, eb, hlen, hp, q⟩ := h
  obtain rfl : v = Value.ref a := rx
  obtain rfl : u = Value.ref b := ry
  obtain ⟨_, ya, va, ra, da⟩ := dk_rd I.hok ea
  obtain ⟨_, yb, vb, rb, db⟩ := dk_rd I.hok eb
  have hl : va.length = vb.length := by rw [← ra.length, ← rb.length]; exact hlen
  exact PySem.W.keq_eq (knd := mixKind X.prog X.w) (r := true) ya yb da db hu (fun _ => hits_all rb ra hp) (fin_bl I q (by simp [hl]))
theorem op_neDic {X : Cx} (hu : X.A.units < cLine) : OpR X (compareOp .NotEq) (rDic false) := by
  intro pins s σ H x y v u Q I rx ry h
  obtain ⟨a, b, ks, ls, rfl, rfl, ea, eb, hlen, hp, q⟩ := h
  obtain rfl : v = Value.ref a := rx
  obtain rfl : u = Value.ref b := ry
  obtain ⟨_, ya, va, ra, da⟩ := dk_rd I.hok ea
  obtain ⟨_, yb, vb, rb, db⟩ := dk_rd I.hok eb
  have hl : va.length = vb.length := by rw [← ra.length, ← rb.length]; exact hlen
  exact PySem.W.keq_ne (knd := mixKind X.prog X.w) (r := true) ya yb da db hu (fun _ => hits_all rb ra hp) (fin_bl I q (by simp [hl]))
def rEqA (K : PySem.W.Frag) : R2 := fun x y H Q => (rEq x y H Q ∨ rEqD K x y H Q) ∨ rDic true x y H Q
def rNeA (K : PySem.W.Frag) : R2 := fun x y H Q => (rNe x y H Q ∨ rNeD K x y H Q) ∨ rDic false x y H Q
theorem or_eq {X : Cx} {k : Nat} (hr : Room k X.A) : OpR X (compareOp .Eq) (rEqA X.K) := (op_eq.or (op_eqD hr.units)).or (op_eqDic (by have := hr.units; omega))
theorem or_ne {X : Cx} {k : Nat} (hr : Room k X.A) : OpR X (compareOp .NotEq) (rNeA X.K) := (op_ne.or (op_neD hr.units)).or (op_neDic (by have := hr.units; omega))
theorem flat_same {F : Hp} {d e : D} {v w : V} (h : sameFl d e = true) (r : Rep K F d v) (q : Rep K F e w) : w = v ∧ flatB v = true := by
  have key : ∀ x : V, flatB x = true → v = x → w = x → w = v ∧ flatB v = true := fun x h1 h2 h3 => by subst h2; subst h3; exact ⟨rfl, h1⟩
  unfold sameFl at h
  split at h
  · exact key .non rfl r q
  · rw [eq_of_beq h] at r; exact key _ rfl r q
  · rw [eq_of_beq h] at r; exact key _ rfl r q
  · rw [eq_of_beq h] at r; exact key _ rfl r q
  · cases h
theorem repK_find {F : Hp} {k : L2.Key} : ∀ {fs : List (L2.Key × D)} {ls : List (L2.Key × V)}, RepK K F fs ls → ∀ e, (fs.find? fun kv => decide (kv.1 = k)).map (·.2) = some e → ∃ w, valV ls k = some w ∧ Rep K F e w
  | [], _, _, e, h => by cases h
  | (k', d) :: fs, ls, r, e, h => by
    obtain ⟨v, vr, rfl, h2, h3⟩ := r
    by_cases q : k' = k
    · subst q
      rw [List.find?_cons_of_pos (by simp)] at h
      cases h
      exact ⟨v, valV_pos rfl, h2⟩
    · rw [List.find?_cons_of_neg (by simpa using q)] at h
      obtain ⟨w, h4, h5⟩ := repK_find h3 e h
      exact ⟨w, by rw [valV_neg q]; exact h4, h5⟩
theorem dic_same {F : Hp} {fs : List (L2.Key × D)} {ls : List (L2.Key × V)} (q : RepK K F fs ls) : ∀ {es : List (L2.Key × D)} {ks : List (L2.Key × V)}, RepK K F es ks → (es.all fun kv => lookB fs kv.1 kv.2) = true → ∀ p ∈ ks, valV ls p.1 = some p.2 ∧ flatB p.2 = true
  | [], ks, r, _, p, hp => by rw [show ks = [] from r] at hp; cases hp
  | (k, d) :: es, ks, r, h, p, hp => by
    obtain ⟨v, vr, rfl, h2, h3⟩ := r
    rw [List.all_cons, Bool.and_eq_true] at h
    rcases List.mem_cons.mp hp with rfl | hp
    · have h4 : lookB fs k d = true := h.1
      unfold lookB at h4
      split at h4
      · rename_i e he
        obtain ⟨w, h5, h6⟩ := repK_find q e he
        obtain ⟨h7, h8⟩ := flat_same h4 h2 h6
        exact ⟨by rw [h5, h7], h8⟩
      · cases h4
    · exact dic_same q h3 h.2 p hp
theorem repK_length {F : Hp} : ∀ {es : List (L2.Key × D)} {ks : List (L2.Key × V)}, RepK K F es ks → ks.length = es.length
  | [], ks, r => by rw [show ks = [] from r]; rfl
  | (k, d) :: es, ks, r => by
    obtain ⟨v, vr, rfl, h2, h3⟩ := r
    simp [repK_length h3]
theorem rDic_of {F H : Hp} {x y : V} {es fs : List (L2.Key × D)} {Q : VK} {r : Bool} (e : Same F H) (rx : Rep K F (.dic es) x) (ry : Rep K F (.dic fs) y) (h : dicB es fs = true) (q : Q (.bl r) H) : rDic r x y H Q := by
  obtain ⟨a, ks, rfl, h1, h2⟩ := rx
  obtain ⟨b, ls, rfl, h3, h4⟩ := ry
  unfold dicB at h
  rw [Bool.and_eq_true] at h
  exact ⟨a, b, ks, ls, rfl, rfl, rd_mono e h1, rd_mono e h3, by rw [repK_length h2, repK_length h4]; exact eq_of_beq h.1, dic_same h4 h2 h.2, q⟩
theorem eq_gen {F H : Hp} {As : List (List Addr)} {x y : V} {dx dy : D} {Q : VK} (e : Same F H) (rx : Rep K F dx x) (ry : Rep K F dy y)
    (p : Pst mg E K .fz As [] F H Q (if (SeqAt.shaped (toP dx) && SeqAt.shaped (toP dy)) = true then .ok (.bl (PyData.eqv (toP dx) (toP dy))) else .no)) : rEqA K x y H Q := by
  by_cases h : (SeqAt.shaped (toP dx) && SeqAt.shaped (toP dy)) = true
  · rw [if_pos h] at p
    rw [Bool.and_eq_true] at h
    exact .inl (.inr ⟨_, _, rep_dp e dx x rx (SeqAt.canLay_of_shaped h.1), rep_dp e dy y ry (SeqAt.canLay_of_shaped h.2), h.1, h.2, p.fin e rfl⟩)
  · rw [if_neg h] at p
    exact p.elim
theorem ne_gen {F H : Hp} {As : List (List Addr)} {x y : V} {dx dy : D} {Q : VK} (e : Same F H) (rx : Rep K F dx x) (ry : Rep K F dy y)
    (p : Pst mg E K .fz As [] F H Q ((if (SeqAt.shaped (toP dx) && SeqAt.shaped (toP dy)) = true then .ok (.bl (PyData.eqv (toP dx) (toP dy))) else .no) >>= notD)) : rNeA K x y H Q := by
  by_cases h : (SeqAt.shaped (toP dx) && SeqAt.shaped (toP dy)) = true
  · rw [if_pos h] at p
    rw [Bool.and_eq_true] at h
    exact .inl (.inr ⟨_, _, rep_dp e dx x rx (SeqAt.canLay_of_shaped h.1), rep_dp e dy y ry (SeqAt.canLay_of_shaped h.2), h.1, h.2, p.fin e rfl⟩)
  · rw [if_neg h] at p
    exact p.elim
theorem od_eq : OpD mg E K (rEqA K) eqD .fz := fun F H As x y dx dy Q e rx ry p => by
  unfold eqD at p
  split at p
  · split at p
    · rename_i h
      exact .inr (rDic_of e rx ry h (p.fin e rfl))
    · exact (show False from p).elim
  · obtain rfl := (show x = _ from rx)
    obtain rfl := (show y = _ from ry)
    exact .inl (.inl ⟨rfl, by have := p.fin e (v := .bl _) rfl; rw [dec_int, Bool.beq_eq_decide_eq]; exact this⟩)
  · obtain rfl := (show x = _ from rx)
    obtain rfl := (show y = _ from ry)
    exact .inl (.inl ⟨rfl, by have := p.fin e (v := .bl _) rfl; rw [dec_str, Bool.beq_eq_decide_eq]; exact this⟩)
  · obtain rfl := (show x = _ from rx)
    obtain rfl := (show y = _ from ry)
    exact .inl (.inl ⟨rfl, by have := p.fin e (v := .bl _) rfl; rw [dec_bl]; exact this⟩)
  · obtain rfl := (show x = _ from rx)
    obtain rfl := (show y = _ from ry)
    exact .inl (.inl ⟨rfl, by have := p.fin e (v := .bl _) rfl; simpa using this⟩)
  · exact eq_gen e rx ry p
theorem od_ne : OpD mg E K (rNeA K) neD .fz := fun F H As x y dx dy Q e rx ry p => by
  unfold neD eqD at p
  split at p
  · split at p
    · rename_i h
      exact .inr (rDic_of e rx ry h (p.fin e rfl))
    · exact (show False from p).elim
  · obtain rfl := (show x = _ from rx)
    obtain rfl := (show y = _ from ry)
    exact .inl (.inl ⟨rfl, by have := p.fin e (v := .bl _) rfl; rw [dec_int, Bool.beq_eq_decide_eq]; exact this⟩)
  · obtain rfl := (show x = _ from rx)
    obtain rfl := (show y = _ from ry)
    exact .inl (.inl ⟨rfl, by have := p.fin e (v := .bl _) rfl; rw [dec_str, Bool.beq_eq_decide_eq]; exact this⟩)
  · obtain rfl := (show x = _ from rx)
    obtain rfl := (show y = _ from ry)
    exact .inl (.inl ⟨rfl, by have := p.fin e (v := .bl _) rfl; rw [dec_bl]; exact this⟩)
  · obtain rfl := (show x = _ from rx)
    obtain rfl := (show y = _ from ry)
    exact .inl (.inl ⟨rfl, by have := p.fin e (v := .bl _) rfl; simpa using this⟩)
  · exact ne_gen e rx ry p
theorem rep_non {F : Hp} {d : D} {v : V} (r : Rep K F d v) : decide (v = .non) = isNone d := by
  cases d with
  | non => rw [show v = .non from r]; rfl
  | bl b => rw [show v = .bl b from r]; rfl
  | int b => rw [show v = .int b from r]; rfl
  | str b => rw [show v = .str b from r]; rfl
  | tup b => obtain ⟨a, _, rfl, _⟩ := r; rfl
  | lst b => obtain ⟨a, _, rfl, _⟩ := r; rfl
  | dic b => obtain ⟨a, _, rfl, _⟩ := r; rfl
  | scr b => obtain ⟨a, rfl, _⟩ := r; rfl
  | err a b => rw [show v = .ref a from r]; rfl
theorem od_is : OpD mg E K (fun x y H Q => y = .non ∧ Q (.bl (decide (x = .non))) H) isD .fz := fun F H As x y dx dy Q e rx ry p => by
  cases dy with
  | non =>
    refine ⟨ry, ?_⟩
    rw [rep_non rx]
    exact Pst.fin (K := K) (d := .bl _) (by unfold isD isND at p; exact p) e rfl
  | _ => exact (show False from p).elim
theorem od_isNot : OpD mg E K (fun x y H Q => y = .non ∧ Q (.bl (!decide (x = .non))) H) isNotD .fz := fun F H As x y dx dy Q e rx ry p => by
  cases dy with
  | non =>
    refine ⟨ry, ?_⟩
    rw [rep_non rx]
    exact Pst.fin (K := K) (d := .bl _) (by unfold isNotD isD isND at p; exact p) e rfl
  | _ => exact (show False from p).elim

/-! ### in -/
theorem rep_flat {F : Hp} {d : D} {v : V} (h : flatD d = true) (r : Rep K F d v) : v = toV d ∧ flatV v = true := by
  cases d <;> first
    | exact ⟨r, by rw [show _ = _ from r]; rfl⟩
    | exact absurd h (by simp [flatD])
theorem reps_flat {F : Hp} : ∀ {ds : List D} {vs : List V}, ds.all flatD = true → Reps K F ds vs → vs = ds.map toV ∧ vs.all flatV = true
  | [], vs, _, r => by rw [show vs = [] from r]; exact ⟨rfl, rfl⟩
  | d :: ds, _, h, r => by
    obtain ⟨v, vr, rfl, h2, h3⟩ := r
    rw [List.all_cons, Bool.and_eq_true] at h
    obtain ⟨h4, h5⟩ := rep_flat h.1 h2
    obtain ⟨h6, h7⟩ := reps_flat h.2 h3
    exact ⟨by rw [List.map_cons, ← h4, ← h6], by rw [List.all_cons, h5, h7]; rfl⟩
theorem repK_val {F : Hp} {k : L2.Key} : ∀ {es : List (L2.Key × D)} {kvs : List (L2.Key × V)}, RepK K F es kvs → (valV kvs k = none ∧ valK es k = none) ∨ ∃ d v, valV kvs k = some v ∧ valK es k = some d ∧ Rep K F d v
  | [], kvs, r => by rw [show kvs = [] from r]; exact .inl ⟨rfl, rfl⟩
  | (k', d) :: es, kvs, r => by
    obtain ⟨v, vr, rfl, h2, h3⟩ := r
    by_cases h : k' = k
    · subst h
      exact .inr ⟨d, v, valV_pos rfl, by unfold valK; rw [List.find?_cons_of_pos (by simp)]; rfl, h2⟩
    · have e1 : valV ((k', v) :: vr) k = valV vr k := valV_neg h
      have e2 : valK ((k', d) :: es) k = valK es k := by unfold valK; rw [List.find?_cons_of_neg (by simpa using h)]
      rw [e1, e2]
      exact repK_val h3
theorem key_rep {F : Hp} {d : D} {v : V} {k : L2.Key} (h : keyD d = some k) (r : Rep K F d v) : v = kV k := by
  cases d with
  | int i =>
    have h' : Sum.inl i = k := Option.some.inj h
    subst h'
    exact r
  | str i =>
    have h' : Sum.inr i = k := Option.some.inj h
    subst h'
    exact r
  | _ => exact absurd h (by simp [keyD])
def rInS : R2 := fun x y H Q => ∃ (c : Nat) (z : Str), x = .str ⟨#[c]⟩ ∧ y = .str z ∧ Q (.bl (decide (c ∈ z.cps.toList))) H
def rNotInS : R2 := fun x y H Q => ∃ (c : Nat) (z : Str), x = .str ⟨#[c]⟩ ∧ y = .str z ∧ Q (.bl (!decide (c ∈ z.cps.toList))) H
def rInDk : R2 := fun x y H Q => ∃ a o, y = .ref a ∧ DGet H a x o ∧ Q (.bl o.isSome) H
def rNotInDk : R2 := fun x y H Q => ∃ a o, y = .ref a ∧ DGet H a x o ∧ Q (.bl (!o.isSome)) H
theorem or_inDk {X : Cx} (hu : X.A.units + 1 < cLine) : OpR X (compareOp .In) rInDk := fun pins s σ H x y v u Q I rx ry h => by
  obtain ⟨a, o, rfl, g, q⟩ := h
  cases ry
  exact d_in hu I g rx fun s' I' => ⟨.bl _, H, I', rfl, q⟩
theorem or_notInDk {X : Cx} (hu : X.A.units + 1 < cLine) : OpR X (compareOp .NotIn) rNotInDk := fun pins s σ H x y v u Q I rx ry h => by
  obtain ⟨a, o, rfl, g, q⟩ := h
  cases ry
  exact d_notIn hu I g rx fun s' I' => ⟨.bl _, H, I', rfl, q⟩
def rInA (K : PySem.W.Frag) : R2 := fun x y H Q => rIn K false x y H Q ∨ (rInS x y H Q ∨ rInDk x y H Q)
def rNotInA (K : PySem.W.Frag) : R2 := fun x y H Q => rIn K true x y H Q ∨ (rNotInS x y H Q ∨ rNotInDk x y H Q)
theorem or_in {X : Cx} {k : Nat} (hr : Room k X.A) : OpR X (compareOp .In) (rInA X.K) := op_in_seq.or (op_in_sign.or (or_inDk (hu_of hr)))
theorem or_notIn {X : Cx} {k : Nat} (hr : Room k X.A) : OpR X (compareOp .NotIn) (rNotInA X.K) := OpR.or op_notIn_seq (op_notIn_sign.or (or_notInDk (hu_of hr)))
theorem str_one {a : Str} (h : a.length = 1) : a = ⟨#[a.cps.getD 0 0]⟩ := by
  obtain ⟨⟨l⟩⟩ := a
  have h' : l.length = 1 := h
  match l, h' with
  | [c], _ => rfl
theorem od_in : OpD mg E K (rInA K) inD .fz := fun F H As x y dx dy Q e rx ry p => by
  cases dy with
  | str z =>
    cases dx with
    | str a =>
      unfold inD at p
      dsimp only at p
      split at p
      · rename_i h
        refine .inr (.inl ⟨a.cps.getD 0 0, z, ?_, ry, p.fin e rfl⟩)
        rw [show x = .str a from rx]
        exact congrArg V.str (str_one h)
      · exact p.elim
    | _ => exact (show False from p).elim
  | dic es =>
    unfold inD at p
    dsimp only at p
    split at p
    · rename_i k hk
      obtain ⟨a, kvs, rfl, h1, h2⟩ := ry
      refine .inr (.inr ⟨a, valV kvs k, rfl, ?_, ?_⟩)
      · rw [key_rep hk rx]
        exact dget_rd (rd_mono e h1)
      · rcases repK_val (k := k) h2 with ⟨q1, q2⟩ | ⟨d, v, q1, q2, _⟩
        · rw [q2] at p
          rw [q1]
          exact p.fin e rfl
        · rw [q2] at p
          rw [q1]
          exact p.fin e rfl
    · exact p.elim
  | tup xs =>
    unfold inD at p
    dsimp only at p
    split at p
    · rename_i h
      rw [Bool.and_eq_true] at h
      obtain ⟨a, vs, rfl, h1, h2⟩ := ry
      obtain ⟨e1, f1⟩ := rep_flat h.1 rx
      obtain ⟨e2, f2⟩ := reps_flat h.2 h2
      exact .inl ⟨a, vs, rfl, .inr (.of (e _ _ h1)), f1, f2, by rw [e1, e2]; exact p.fin e rfl⟩
    · exact p.elim
  | lst xs =>
    unfold inD at p
    dsimp only at p
    split at p
    · rename_i h
      rw [Bool.and_eq_true] at h
      obtain ⟨a, vs, rfl, h1, h2⟩ := ry
      obtain ⟨e1, f1⟩ := rep_flat h.1 rx
      obtain ⟨e2, f2⟩ := reps_flat h.2 h2
      exact .inl ⟨a, vs, rfl, .inl (.of (e _ _ h1)), f1, f2, by rw [e1, e2]; exact p.fin e rfl⟩
    · exact p.elim
  | _ => exact (show False from p).elim
theorem od_notIn : OpD mg E K (rNotInA K) notInD .fz := fun F H As x y dx dy Q e rx ry p => by
  unfold notInD at p
  cases dy with
  | str z =>
    cases dx with
    | str a =>
      unfold inD at p
      dsimp only at p
      split at p
      · rename_i h
        refine .inr (.inl ⟨a.cps.getD 0 0, z, ?_, ry, Pst.fin (K := K) (d := .bl _) p e rfl⟩)
        rw [show x = .str a from rx]
        exact congrArg V.str (str_one h)
      · exact (show False from p).elim
    | _ => exact (show False from p).elim
  | dic es =>
    unfold inD at p
    dsimp only at p
    split at p
    · rename_i k hk
      obtain ⟨a, kvs, rfl, h1, h2⟩ := ry
      refine .inr (.inr ⟨a, valV kvs k, rfl, ?_, ?_⟩)
      · rw [key_rep hk rx]
        exact dget_rd (rd_mono e h1)
      · rcases repK_val (k := k) h2 with ⟨q1, q2⟩ | ⟨d, v, q1, q2, _⟩
        · rw [q2] at p
          rw [q1]
          exact Pst.fin (K := K) (d := .bl _) p e rfl
        · rw [q2] at p
          rw [q1]
          exact Pst.fin (K := K) (d := .bl _) p e rfl
    · exact (show False from p).elim
  | tup xs =>
    unfold inD at p
    dsimp only at p
    split at p
    · rename_i h
      rw [Bool.and_eq_true] at h
      obtain ⟨a, vs, rfl, h1, h2⟩ := ry
      obtain ⟨e1, f1⟩ := rep_flat h.1 rx
      obtain ⟨e2, f2⟩ := reps_flat h.2 h2
      exact .inl ⟨a, vs, rfl, .inr (.of (e _ _ h1)), f1, f2, by rw [e1, e2]; exact Pst.fin (K := K) (d := .bl _) p e rfl⟩
    · exact (show False from p).elim
  | lst xs =>
    unfold inD at p
    dsimp only at p
    split at p
    · rename_i h
      rw [Bool.and_eq_true] at h
      obtain ⟨a, vs, rfl, h1, h2⟩ := ry
      obtain ⟨e1, f1⟩ := rep_flat h.1 rx
      obtain ⟨e2, f2⟩ := reps_flat h.2 h2
      exact .inl ⟨a, vs, rfl, .inl (.of (e _ _ h1)), f1, f2, by rw [e1, e2]; exact Pst.fin (K := K) (d := .bl _) p e rfl⟩
    · exact (show False from p).elim
  | _ => exact (show False from p).elim

/-! ### x[i] -/
def rIxDk : R2 := fun x y H Q => ∃ a v, x = .ref a ∧ DGet H a y (some v) ∧ Q v H
theorem ix_dict {X : Cx} (hu : X.A.units + 1 < cLine) : IxR X rIxDk := by
  intro value slice pins s σ H x y v u Q I rx ry h hs
  obtain ⟨a, w, rfl, g, q⟩ := h
  cases rx
  exact tail_any (dict_typeIs I g) slot_dict_getitem.lookup (d_getItem hu I g ry fun w' s' I' r' => ⟨w, H, I', r', q⟩) hs
def rIxA (K : PySem.W.Frag) : R2 := fun x y H Q => rIx K x y H Q ∨ rIxDk x y H Q
theorem ix_any {X : Cx} {k : Nat} (hr : Room k X.A) : IxR X (rIxA X.K) := ix_seq.or (ix_dict (hu_of hr))
theorem atI_reps {F : Hp} {ds : List D} {vs : List V} {i : Int} {d : D} (r : Reps K F ds vs) (h : atI ds i = some d) : ∃ v, atI vs i = some v ∧ Rep K F d v := by
  unfold atI at h ⊢
  rw [r.length]
  cases q : ixN ds.length i with
  | none => rw [q] at h; cases h
  | some j =>
    rw [q] at h
    exact r.get h
theorem od_ix : OpD mg E K (rIxA K) ixD .fz := fun F H As x y dx dy Q e rx ry p => by
  cases dx with
  | lst xs =>
    cases dy with
    | int i =>
      unfold ixD at p
      dsimp only at p
      split at p
      · rename_i d h
        obtain ⟨a, vs, rfl, h1, h2⟩ := rx
        obtain ⟨v, h3, h4⟩ := atI_reps h2 h
        exact .inl (.inl ⟨a, vs, i, v, rfl, ry, .of (e _ _ h1), h3, p.fin e h4⟩)
      · exact p.elim
    | _ => exact (show False from p).elim
  | tup xs =>
    cases dy with
    | int i =>
      unfold ixD at p
      dsimp only at p
      split at p
      · rename_i d h
        obtain ⟨a, vs, rfl, h1, h2⟩ := rx
        obtain ⟨v, h3, h4⟩ := atI_reps h2 h
        exact .inl (.inr (.inl ⟨a, vs, i, v, rfl, ry, .of (e _ _ h1), h3, p.fin e h4⟩))
      · exact p.elim
    | _ => exact (show False from p).elim
  | scr xs =>
    cases dy with
    | int i =>
      unfold ixD at p
      dsimp only at p
      split at p
      · rename_i d h
        obtain ⟨a, rfl, h1⟩ := rx
        refine .inl (.inl ⟨a, xs.map V.int, i, .int d, rfl, ry, e.seq h1, ?_, p.fin e rfl⟩)
        unfold atI at h ⊢
        rw [List.length_map]
        cases q : ixN xs.length i with
        | none => rw [q] at h; cases h
        | some j =>
          rw [q] at h
          have h' : xs[j]? = some d := h
          show (xs.map V.int)[j]? = _
          rw [List.getElem?_map, h']
          rfl
      · exact p.elim
    | _ => exact (show False from p).elim
  | str z =>
    cases dy with
    | int i =>
      unfold ixD at p
      dsimp only at p
      split at p
      · rename_i hz
        split at p
        · rename_i c h
          exact .inl (.inr (.inr ⟨z, i, c, rx, ry, by rw [← most_eq]; exact hz, h, p.fin e rfl⟩))
        · exact p.elim
      · exact p.elim
    | _ => exact (show False from p).elim
  | dic es =>
    unfold ixD at p
    dsimp only at p
    split at p
    · rename_i k hk
      obtain ⟨a, kvs, rfl, h1, h2⟩ := rx
      split at p
      · rename_i d hd
        rcases repK_val (k := k) h2 with ⟨q1, q2⟩ | ⟨d', v, q1, q2, r⟩
        · rw [hd] at q2
          cases q2
        · rw [hd] at q2
          cases q2
          refine .inr ⟨a, v, rfl, ?_, p.fin e r⟩
          rw [key_rep hk ry, ← q1]
          exact dget_rd (rd_mono e h1)
      · exact p.elim
    · exact p.elim
  | _ => exact (show False from p).elim
end

/-! ### the rules -/
def eOp (g : D → D → R D) (fa fb : Env → R D) (ρ : Env) : R D := fa ρ >>= fun x => fb ρ >>= fun y => g x y
def eUn (g : D → R D) (fa : Env → R D) (ρ : Env) : R D := fa ρ >>= g
def asB : D → R Bool
  | .bl b => .ok b
  | _ => .no
def tB' (f : Env → R D) (ρ : Env) : R Bool := f ρ >>= asB
section
variable {X : Cx} {E : XK} {ω : List O} {e a b : Expr} {t ta tb : TE} {f fa fb : Env → R D} {o : O} {M : List Nat} {pos : Pos} {g : D → D → R D} {r : R2}
theorem sem_op {mg : Str → Option Value} {K : PySem.W.Frag} (hd : OpD mg E K r g o) (ha : Sem mg E K ω ta fa .fz []) (hb : Sem mg E K ω tb fb .fz []) : Sem mg E K ω (tOp r ta tb) (eOp g fa fb) o [] := fun σ ρ F H As Q S p => by
  refine ha.then S p fun x v F1 H1 B1 g1 S1 r1 _ _ p1 => ?_
  refine hb.then S1 p1 fun y u F2 H2 B2 g2 S2 r2 _ _ p2 => ?_
  exact hd F2 H2 As v u x y Q S2.ex (Rep.mono g2.ff x v r1.1) r2.1 p2
theorem de_op {op : Operator} (ho : OpR X (binaryOp op) r) (hd : OpD X.mg E X.K r g o) (ha : DE X E ω a ta fa .fz []) (hb : DE X E ω b tb fb .fz []) : DE X E ω (.BinOp a op b pos) (tOp r ta tb) (eOp g fa fb) o [] :=
  ⟨pe_op ho ha.pe hb.pe, sem_op hd ha.sem hb.sem⟩
theorem de_add (ha : DE X E ω a ta fa .fz []) (hb : DE X E ω b tb fb .fz []) : DE X E ω (.BinOp a .Add b pos) (tOp (rAddD X.K) ta tb) (eOp addD fa fb) (.own .fz) [] := de_op or_add od_add ha hb
theorem de_sub (ha : DE X E ω a ta fa .fz []) (hb : DE X E ω b tb fb .fz []) : DE X E ω (.BinOp a .Sub b pos) (tOp (rI0 fun i j => .int (i - j)) ta tb) (eOp subD fa fb) .fz [] := de_op op_sub od_sub ha hb
theorem de_mul (ha : DE X E ω a ta fa .fz []) (hb : DE X E ω b tb fb .fz []) : DE X E ω (.BinOp a .Mult b pos) (tOp (rMulD X.K) ta tb) (eOp mulD fa fb) (.own .fz) [] := de_op or_mul od_mul ha hb
theorem de_mod (ha : DE X E ω a ta fa .fz []) (hb : DE X E ω b tb fb .fz []) : DE X E ω (.BinOp a .Mod b pos) (tOp (rI (fun _ j => 0 < j) fun i j => .int (i % j)) ta tb) (eOp modD fa fb) .fz [] := de_op op_mod od_mod ha hb
theorem de_div (ha : DE X E ω a ta fa .fz []) (hb : DE X E ω b tb fb .fz []) : DE X E ω (.BinOp a .FloorDiv b pos) (tOp (rI CDiv fun i j => .int (i / j)) ta tb) (eOp divD fa fb) .fz [] := de_op op_fdiv od_div ha hb
theorem de_pow (ha : DE X E ω a ta fa .fz []) (hb : DE X E ω b tb fb .fz []) : DE X E ω (.BinOp a .Pow b pos) (tOp (rI CPow fun i j => .int (i ^ j.toNat)) ta tb) (eOp powD fa fb) .fz [] := de_op op_pow od_pow ha hb
theorem de_neg (ha : DE X E ω a ta fa .fz []) : DE X E ω (.UnaryOp .USub a pos) (tUn (rU fun i => .int (-i)) ta) (eUn negD fa) .fz [] :=
  ⟨pe_un un_neg ha.pe, fun σ ρ F H As Q S p => ha.sem.then S p fun x v F1 H1 B1 g1 S1 r1 _ _ p1 => by
    cases x <;> first
      | exact (show False from p1).elim
      | exact ⟨_, r1.1, p1.fin S1.ex rfl⟩⟩
theorem de_cmp {op : CmpOp} (ho : OpR X (compareOp op) r) (hd : OpD X.mg E X.K r g .fz) (ha : DE X E ω a ta fa .fz []) (hb : DE X E ω b tb fb .fz []) (hm : behindInMarks op b = false) : DE X E ω (.Compare a [op] [b] pos) (tOp r ta tb) (eOp g fa fb) .fz [] :=
  ⟨pe_cmpR ho ha.pe hb.pe hm, sem_op hd ha.sem hb.sem⟩
theorem semT_test {mg : Str → Option Value} {K : PySem.W.Frag} (h : Sem mg E K ω t f .fz []) : SemT mg E K ω (tTest t) (tB' f) := fun σ ρ F H As Q S p => by
  refine h.thenT S p fun d v F1 H1 B g S1 r _ _ q => ?_
  cases d <;> first
    | exact (show False from q).elim
    | exact ⟨_, r.1, q F1 H1 (Grow.refl S1.ex)⟩
theorem dt_cmp {op : CmpOp} (ho : OpR X (compareOp op) r) (hd : OpD X.mg E X.K r g .fz) (ha : DE X E ω a ta fa .fz []) (hb : DE X E ω b tb fb .fz []) (hm : behindInMarks op b = false) : DT X E ω (.Compare a [op] [b] pos) (tTest (tOp r ta tb)) (tB' (eOp g fa fb)) :=
  ⟨pt_cmpR ho ha.pe hb.pe hm, semT_test (sem_op hd ha.sem hb.sem)⟩
/-- a call or a name, True or False, as a test -/
theorem dt_val (h : DE X E ω e t f .fz []) (he : ∀ whole, isTrue e X.env whole = (do let v ← whole; standAt e.pos; holding [v] (truthy v)) := by intro _; rfl) : DT X E ω e (tB t) (tB' f) := ⟨pt_val h.pe he, semT_test h.sem⟩
def eAndT (f g : Env → R Bool) (ρ : Env) : R Bool := f ρ >>= fun b => if b = true then g ρ else .ok false
def eOrT (f g : Env → R Bool) (ρ : Env) : R Bool := f ρ >>= fun b => if b = true then .ok true else g ρ
def eNotT (f : Env → R Bool) (ρ : Env) : R Bool := f ρ >>= fun b => .ok (!b)
variable {tt tu : TT} {ft fu : Env → R Bool}
structure DW (X : Cx) (E : XK) (ω : List O) (e : Expr) (t : TT) (f : Env → R Bool) : Prop where
  pw : PW X e t
  sem : SemT X.mg E X.K ω t f
theorem dt_of (h : DW X E ω e tt ft) : DT X E ω e tt ft := ⟨h.pw.pt, h.sem⟩
theorem dw_and1 (h : DT X E ω a tt ft) : DW X E ω (.BoolOp .And [a] pos) tt ft := ⟨pw_and1 h.pt, h.sem⟩
theorem dw_or1 (h : DT X E ω a tt ft) : DW X E ω (.BoolOp .Or [a] pos) tt ft := ⟨pw_or1 h.pt, h.sem⟩
theorem dw_and {rest : List Expr} (h : DT X E ω a tt ft) (h' : DW X E ω (.BoolOp .And (b :: rest) pos) tu fu) : DW X E ω (.BoolOp .And (a :: b :: rest) pos) (tAnd tt tu) (eAndT ft fu) :=
  ⟨pw_and h.pt h'.pw, fun σ ρ F H As Q S p => h.sem.thenT S p fun c F1 H1 g S1 q => by
    cases c with
    | true => exact h'.sem σ ρ F1 H1 As Q S1 q
    | false => exact q F1 H1 (Grow.refl S1.ex)⟩
theorem dw_or {rest : List Expr} (h : DT X E ω a tt ft) (h' : DW X E ω (.BoolOp .Or (b :: rest) pos) tu fu) : DW X E ω (.BoolOp .Or (a :: b :: rest) pos) (tOr tt tu) (eOrT ft fu) :=
  ⟨pw_or h.pt h'.pw, fun σ ρ F H As Q S p => h.sem.thenT S p fun c F1 H1 g S1 q => by
    cases c with
    | true => exact q F1 H1 (Grow.refl S1.ex)
    | false => exact h'.sem σ ρ F1 H1 As Q S1 q⟩
theorem dt_not (h : DT X E ω a tt ft) : DT X E ω (.UnaryOp .Not a pos) (tNot tt) (eNotT ft) :=
  ⟨pt_not h.pt, fun σ ρ F H As Q S p => h.sem.thenT S p fun c F1 H1 g S1 q => q F1 H1 (Grow.refl S1.ex)⟩
/-- and, or, not as values -/
def eAndV (f g : Env → R D) (ρ : Env) : R D := f ρ >>= fun d => match d with
  | .bl true => g ρ
  | .bl false => .ok (.bl false)
  | _ => .no
def eOrV (f g : Env → R D) (ρ : Env) : R D := f ρ >>= fun d => match d with
  | .bl true => .ok (.bl true)
  | .bl false => g ρ
  | _ => .no
theorem de_one {op} (h : DE X E ω a t f o M) : DE X E ω (.BoolOp op [a] pos) t f o M := ⟨pe_one h.pe, h.sem⟩
theorem de_and {rest : List Expr} (h : DE X E ω a ta fa .fz []) (h' : DE X E ω (.BoolOp .And (b :: rest) pos) tb fb .fz []) : DE X E ω (.BoolOp .And (a :: b :: rest) pos) (tAndV ta tb) (eAndV fa fb) .fz [] :=
  ⟨pe_and h.pe h'.pe, fun σ ρ F H As Q S p => h.sem.then S p fun d v F1 H1 B g S1 r _ _ q => by
    cases d with
    | bl c =>
      refine ⟨c, r.1, ?_⟩
      cases c with
      | true => exact h'.sem σ ρ F1 H1 As Q S1 q
      | false => exact q.fin S1.ex rfl
    | _ => exact (show False from q).elim⟩
theorem de_or {rest : List Expr} (h : DE X E ω a ta fa .fz []) (h' : DE X E ω (.BoolOp .Or (b :: rest) pos) tb fb .fz []) : DE X E ω (.BoolOp .Or (a :: b :: rest) pos) (tOrV ta tb) (eOrV fa fb) .fz [] :=
  ⟨pe_or h.pe h'.pe, fun σ ρ F H As Q S p => h.sem.then S p fun d v F1 H1 B g S1 r _ _ q => by
    cases d with
    | bl c =>
      refine ⟨c, r.1, ?_⟩
      cases c with
      | true => exact q.fin S1.ex rfl
      | false => exact h'.sem σ ρ F1 H1 As Q S1 q
    | _ => exact (show False from q).elim⟩
theorem de_not (h : DE X E ω a ta fa .fz []) : DE X E ω (.UnaryOp .Not a pos) (tNotV ta) (eUn notD fa) .fz [] :=
  ⟨pe_not h.pe, fun σ ρ F H As Q S p => h.sem.then S p fun d v F1 H1 B g S1 r _ _ q => by
    cases d <;> first
      | exact (show False from q).elim
      | exact ⟨_, r.1, q.fin S1.ex rfl⟩⟩
/-- a if c else b -/
def eIf (c : Env → R Bool) (f g : Env → R D) (ρ : Env) : R D := c ρ >>= fun b => if b = true then f ρ else g ρ
theorem de_ifExp {c : Expr} (hc : DT X E ω c tt ft) (ha : DE X E ω a ta fa o []) (hb : DE X E ω b tb fb o []) : DE X E ω (.IfExp c a b pos) (tIf tt ta tb) (eIf ft fa fb) o [] :=
  ⟨pe_ifExp hc.pt ha.pe hb.pe, fun σ ρ F H As Q S p => hc.sem.then S p fun c F1 H1 g S1 q => by
    cases c with
    | true => exact ha.sem σ ρ F1 H1 As Q S1 q
    | false => exact hb.sem σ ρ F1 H1 As Q S1 q⟩
theorem de_ix {k : Nat} (hr : Room k X.A) (ha : DE X E ω a ta fa .fz []) (hb : DE X E ω b tb fb .fz []) (hs : PlainIx b := by intro _ _; rfl) : DE X E ω (.Subscript a b pos) (tOp (rIxA X.K) ta tb) (eOp ixD fa fb) .fz [] :=
  ⟨pe_ix (ix_any hr) ha.pe hb.pe hs, sem_op od_ix ha.sem hb.sem⟩
end
end Dn

/-! Displays, slices, calls, comprehensions over data. -/
namespace Dn
open PySem L2 PyProof.Rows

/-! ### argument lists, displays -/
def aNil (_ : Env) : R (List D) := .ok []
def aCons (f : Env → R D) (g : Env → R (List D)) (ρ : Env) : R (List D) := f ρ >>= fun d => g ρ >>= fun ds => .ok (d :: ds)
def eTup (g : Env → R (List D)) (ρ : Env) : R D := g ρ >>= fun ds => .ok (.tup ds)
def eLst (g : Env → R (List D)) (ρ : Env) : R D := g ρ >>= fun ds => .ok (.lst ds)
def O.isFz : O → Bool
  | .fz => true
  | _ => false
section
variable {K : PySem.W.Frag} {F H : Hp}
theorem repT_fz : ∀ {os : List O} {ds : List D} {vs : List V} {B : List Addr}, os.all O.isFz = true → RepT K F H os ds vs B → Reps K F ds vs ∧ B = []
  | [], ds, vs, B, _, h => by
    obtain ⟨rfl, rfl, rfl⟩ := h
    exact ⟨rfl, rfl⟩
  | o :: os, ds, vs, B, hf, h => by
    obtain ⟨d, dr, v, vr, B1, B2, rfl, rfl, rfl, h1, h2⟩ := h
    rw [List.all_cons, Bool.and_eq_true] at hf
    obtain ⟨h3, h4⟩ := repT_fz hf.2 h2
    cases o with
    | fz => exact ⟨⟨v, vr, rfl, h1.1, h3⟩, by rw [h1.2, h4]; rfl⟩
    | _ => exact absurd hf.1 (by simp [O.isFz])
theorem repT_len : ∀ {os : List O} {ds : List D} {vs : List V} {B : List Addr}, RepT K F H os ds vs B → vs.length = os.length ∧ ds.length = os.length
  | [], ds, vs, B, h => by
    obtain ⟨rfl, rfl, rfl⟩ := h
    exact ⟨rfl, rfl⟩
  | o :: os, ds, vs, B, h => by
    obtain ⟨d, dr, v, vr, B1, B2, rfl, rfl, rfl, h1, h2⟩ := h
    obtain ⟨h3, h4⟩ := repT_len h2
    exact ⟨congrArg Nat.succ h3, congrArg Nat.succ h4⟩
def O.isO (o : O) (o' : O) : Prop := o' = o
theorem repT_all {o : O} : ∀ {os : List O} {ds : List D} {vs : List V} {B : List Addr}, (∀ o' ∈ os, o' = o) → RepT K F H os ds vs B → AllO (RepO K F H o) ds vs B
  | [], ds, vs, B, _, h => by
    obtain ⟨rfl, rfl, rfl⟩ := h
    exact ⟨rfl, rfl⟩
  | o' :: os, ds, vs, B, hf, h => by
    obtain ⟨d, dr, v, vr, B1, B2, rfl, rfl, rfl, h1, h2⟩ := h
    have e : o' = o := hf o' (by simp)
    subst e
    exact ⟨v, vr, B1, B2, rfl, rfl, h1, repT_all (fun o'' h => hf o'' (by simp [h])) h2⟩
end
section
variable {X : Cx} {E : XK} {ω : List O} {e a b : Expr} {es : List Expr} {t ta tb : TE} {tas : TA} {f fa fb : Env → R D} {fas : Env → R (List D)} {o : O} {os : List O} {M M' : List Nat} {pos : Pos}
theorem da_nil : DA X E ω [] tNil aNil [] [] := ⟨pa_nil, fun σ ρ F H As Q S p => p [] F H [] (Grow.refl S.ex) ⟨rfl, rfl, rfl⟩ (fun _ h => by simp at h) List.nodup_nil⟩
theorem da_cons (h : DE X E ω e t f o M) (h' : DA X E ω es tas fas os M') (hM : ∀ i ∈ M, i ∉ M' := by decide) (hs : starEach (e :: es) X.env = (false, eval e X.env) :: starEach es X.env := by rfl) :
    DA X E ω (e :: es) (tCons t tas) (aCons f fas) (o :: os) (M ++ M') := by
  refine ⟨pa_cons h.pe h'.pa hs, fun σ ρ F H As Q S p => ?_⟩
  refine h.sem σ ρ F H As _ S ?_
  unfold aCons at p
  cases hf : f ρ with
  | ok d =>
    rw [hf] at p
    intro v F1 H1 B1 g1 r1 b1 n1
    have S1 := S.grow g1
    refine h'.sem σ ρ F1 H1 As _ S1 ?_
    cases hfs : fas ρ with
    | ok ds =>
      rw [ok_bind, hfs] at p
      intro vs F2 H2 B2 g2 r2 b2 n2
      refine p (v :: vs) F2 H2 (B1 ++ B2) (g1.trans g2) ⟨d, ds, v, vs, B1, B2, rfl, rfl, rfl, r1.grow g2, r2⟩ (fun x hx => ?_) ?_
      · rcases List.mem_append.mp hx with hx | hx
        · exact (b1 x hx).imp id fun q => q.imp fun i hi => List.mem_append_left _ hi
        · exact (b2 x hx).imp (fresh_of g1.hh) fun q => q.imp fun i hi => List.mem_append_right _ hi
      · refine List.nodup_append.mpr ⟨n1, n2, fun x hx y hy e => ?_⟩
        subst e
        have q1 := (RepO.mem _ _ _ _ r1 hx).2
        rcases b2 x hy with q2 | q2
        · exact q1 q2
        · have q3 := (S.sl.mem q2.flat).2
          rcases b1 x hx with q4 | q4
          · exact q3 q4
          · obtain ⟨i, hi, C, hC, xC⟩ := q4
            obtain ⟨j, hj, D', hD, xD⟩ := q2
            have := flat_apart S.nd hC hD xC xD
            subst this
            exact hM i hi hj
    | exc c =>
      rw [ok_bind, hfs] at p
      exact fun H' q => p H' (g1.hh.trans q)
    | no => rw [ok_bind, hfs] at p; exact p
  | exc c => rw [hf] at p; exact p
  | no => rw [hf] at p; exact p
/-- (a, b, ..), nothing of it one's own -/
theorem de_tup {k} (h : DA X E ω es tas fas os []) (hf : os.all O.isFz = true := by rfl) (hl : os.length ≤ 1000 := by decide) : DE X E ω (.Tuple es k pos) (tTup tas) (eTup fas) .fz [] :=
  ⟨pe_tup h.pa, fun σ ρ F H As Q S p => h.sem.then S p fun ds vs F1 H1 B g S1 r _ _ q => by
    obtain ⟨r', _⟩ := repT_fz hf r
    refine ⟨by rw [(repT_len r).1, ← most_eq]; exact Nat.le_trans hl (by decide), fun l hl => ?_⟩
    exact q.newT S1.ex hl r'⟩
/-- .. what is one's own in it stays so -/
theorem de_tupO {k} (h : DA X E ω es tas fas os M) (hl : os.length ≤ 1000 := by decide) : DE X E ω (.Tuple es k pos) (tTup tas) (eTup fas) (.tup os) M :=
  ⟨pe_tup h.pa, fun σ ρ F H As Q S p => by
    refine h.sem σ ρ F H As _ S ?_
    unfold eTup at p
    cases hf : fas ρ with
    | ok ds =>
      rw [hf] at p
      intro vs F1 H1 B g r b n
      refine ⟨by rw [(repT_len r).1, ← most_eq]; exact Nat.le_trans hl (by decide), fun l hl => ?_⟩
      have g' := Grow.new (u := .tup vs) g.fh hl
      exact p (.ref l) _ _ B (g.trans g') ⟨ds, l, vs, rfl, rfl, upd_same, r.grow g'⟩ b n
    | exc c => rw [hf] at p; exact p
    | no => rw [hf] at p; exact p⟩
/-- [a, b, ..], a new list of what is not one's own -/
theorem de_lst (h : DA X E ω es tas fas os []) (hf : os.all O.isFz = true := by rfl) (hl : os.length ≤ 1000 := by decide) : DE X E ω (.List es pos) (tLst tas) (eLst fas) (.own .fz) [] :=
  ⟨pe_lst h.pa, fun σ ρ F H As Q S p => h.sem.then S p fun ds vs F1 H1 B g S1 r _ _ q => by
    obtain ⟨r', _⟩ := repT_fz hf r
    refine ⟨by rw [(repT_len r).1, ← most_eq]; exact Nat.le_trans hl (by decide), fun l hl => ?_⟩
    exact q.newL S1.ex hl r'⟩
theorem de_dic0 : DE X E ω (.Dict [] [] pos) tDNewK (eC (.dic [])) (.own .fz) [] :=
  ⟨pe_dnewK, fun σ ρ F H As Q S p l hl => p.newD S.ex hl rfl⟩

/-! ### slices -/
def PstO (mg : Str → Option Value) (E : XK) (F H : Hp) (Q : Option Int → Hp → Prop) : R (Option Int) → Prop
  | .ok b => ∀ F' H', Grow F H F' H' → Q b H'
  | .exc c => ∀ H', Same H H' → E (clsOf mg c) none H'
  | .no => False
def SemO (mg : Str → Option Value) (E : XK) (K : PySem.W.Frag) (ω : List O) (t : TO) (f : Env → R (Option Int)) : Prop := ∀ σ ρ F H As Q, Stt K ω ρ σ F H As → PstO mg E F H Q (f ρ) → t σ H Q
structure DO (X : Cx) (E : XK) (ω : List O) (e : Option Expr) (t : TO) (f : Env → R (Option Int)) : Prop where
  po : PO X e t
  sem : SemO X.mg E X.K ω t f
def oNone (_ : Env) : R (Option Int) := .ok none
def asI : D → R (Option Int)
  | .int i => .ok (some i)
  | _ => .no
def oSome (f : Env → R D) (ρ : Env) : R (Option Int) := f ρ >>= asI
theorem do_none : DO X E ω none tNoPart oNone := ⟨po_none, fun σ ρ F H As Q S p => p F H (Grow.refl S.ex)⟩
theorem do_some (h : DE X E ω e t f .fz []) : DO X E ω (some e) (tPart t) (oSome f) := by
  refine ⟨po_some h.pe, fun σ ρ F H As Q S p => ?_⟩
  refine h.sem σ ρ F H As _ S ?_
  unfold oSome at p
  cases hf : f ρ with
  | ok d =>
    rw [hf] at p
    intro v F1 H1 B g r b n
    cases d <;> first
      | exact (show False from p).elim
      | exact ⟨_, r.1, p F1 H1 g⟩
  | exc c => rw [hf] at p; exact p
  | no => rw [hf] at p; exact p
/-- the part of n things from lo to hi -/
def cut {α : Type} (xs : List α) (lo hi : Option Int) : List α := (xs.drop (HT.sIx xs.length 0 lo)).take (HT.sIx xs.length xs.length hi - HT.sIx xs.length 0 lo)
def slD : D → Option Int → Option Int → R D
  | .lst xs, lo, hi => .ok (.lst (cut xs lo hi))
  | .tup xs, lo, hi => .ok (.tup (cut xs lo hi))
  | .str z, lo, hi => if z.length ≤ most then .ok (.str (cutS z lo hi)) else .no
  | _, _, _ => .no
def eSl (f : Env → R D) (l h : Env → R (Option Int)) (ρ : Env) : R D := f ρ >>= fun d => l ρ >>= fun lo => h ρ >>= fun hi => slD d lo hi
def rSlAll (K : PySem.W.Frag) : V → Option Int → Option Int → Hp → VK → Prop := fun x lo hi H Q => rSlL K x lo hi H Q ∨ (rSlA K x lo hi H Q ∨ rSlS x lo hi H Q)
theorem cut_whole {α : Type} {xs : List α} {lo hi : Option Int} (h : HT.sIx xs.length 0 lo = 0 ∧ HT.sIx xs.length xs.length hi = xs.length) : cut xs lo hi = xs := by
  unfold cut
  rw [h.1, h.2]
  simp
theorem reps_cut {K : PySem.W.Frag} {F : Hp} {ds : List D} {vs : List V} (r : Reps K F ds vs) (lo hi : Option Int) : Reps K F (cut ds lo hi) (cutV vs lo hi) := by
  unfold cut cutV
  rw [r.length]
  exact (r.drop _).take _
theorem de_slice {lo hi : Option Expr} {tl th : TO} {fl fh : Env → R (Option Int)} {p2 : Pos} (ha : DE X E ω a ta fa .fz []) (hl : DO X E ω lo tl fl) (hh : DO X E ω hi th fh) :
    DE X E ω (.Subscript a (.Slice lo hi none p2) pos) (tSl (rSlAll X.K) ta tl th) (eSl fa fl fh) (.own .fz) [] := by
  refine ⟨pe_slice (sl_list.or (sl_tupA.or sl_str)) ha.pe hl.po hh.po, fun σ ρ F H As Q S p => ?_⟩
  refine ha.sem.then S p fun d v F1 H1 B g S1 r _ _ p1 => ?_
  refine hl.sem σ ρ F1 H1 As _ S1 ?_
  cases hfl : fl ρ with
  | ok lo =>
    rw [hfl] at p1
    intro F2 H2 g2
    have S2 := S1.grow g2
    refine hh.sem σ ρ F2 H2 As _ S2 ?_
    cases hfh : fh ρ with
    | ok hi =>
      rw [ok_bind, hfh, ok_bind] at p1
      intro F3 H3 g3
      have S3 := S2.grow g3
      have r3 := Rep.mono (g2.trans g3).ff d v r.1
      have p3 := p1.grow (g2.trans g3)
      cases d with
      | lst xs =>
        obtain ⟨l, vs, rfl, h1, h2⟩ := r3
        exact .inl ⟨l, vs, rfl, .of (S3.ex _ _ h1), fun q hq => p3.newL S3.ex hq (reps_cut h2 _ _)⟩
      | tup xs =>
        obtain ⟨l, vs, rfl, h1, h2⟩ := r3
        refine .inr (.inl ⟨l, vs, rfl, .of (S3.ex _ _ h1), fun hw => ?_, fun _ q hq => p3.ownT S3.ex hq (reps_cut h2 _ _)⟩)
        rw [h2.length] at hw
        have p3' : Pst X.mg E X.K (.own .fz) As [] F3 H3 Q (.ok (.tup (cut xs lo hi))) := p3
        rw [cut_whole hw] at p3'
        exact p3'.own (o := .fz) rfl S3.ex ⟨l, vs, rfl, h1, h2⟩
      | str z =>
        unfold slD at p3
        dsimp only at p3
        by_cases hz : z.length ≤ most
        · rw [if_pos hz] at p3
          exact .inr (.inr ⟨z, r3, by rw [← most_eq]; exact hz, p3.own (o := .fz) rfl S3.ex rfl⟩)
        · rw [if_neg hz] at p3
          exact p3.elim
      | _ => exact (show False from p3).elim
    | exc c =>
      rw [ok_bind, hfh] at p1
      exact fun H' q => p1 H' (g2.hh.trans q)
    | no => rw [ok_bind, hfh] at p1; exact p1
  | exc c => rw [hfl] at p1; exact p1
  | no => rw [hfl] at p1; exact p1

/-! ### calls of built-ins -/
def CallD (mg : Str → Option Value) (E : XK) (K : PySem.W.Frag) (r : List V → Hp → VK → Prop) (g : List D → R D) (o : O) : Prop :=
  ∀ F H As vs ds Q, Same F H → Reps K F ds vs → Pst mg E K o As [] F H Q (g ds) → r vs H Q
def eCall (g : List D → R D) (fas : Env → R (List D)) (ρ : Env) : R D := fas ρ >>= g
theorem sem_call {mg : Str → Option Value} {K : PySem.W.Frag} {r : List V → Hp → VK → Prop} {g : List D → R D} (hd : CallD mg E K r g o) (h : SemA mg E K ω tas fas os []) (hf : os.all O.isFz = true) : Sem mg E K ω (tCB r tas) (eCall g fas) o [] := fun σ ρ F H As Q S p =>
  h.then S p fun ds vs F1 H1 B g1 S1 r1 _ _ q => hd F1 H1 As vs ds Q S1.ex (repT_fz hf r1).1 q
theorem de_callB {id : String} {x : Str} {p : Pos} {r : List V → Hp → VK → Prop} {g : List D → R D} (hc : CallR X (.builtin id) r) (hd : CallD X.mg E X.K r g o) (hm : X.mg x = none) (hv : bootBuiltins x = some (.builtin id)) (ha : DA X E ω (e :: es) tas fas os [])
    (hg : Gl X x := by rfl) (hf : os.all O.isFz = true := by rfl) (hn : x ≠ "__name__" := by decide) (hdb : (x == ("__debug__" : Str)) = false := by decide)
    (he : starEach (e :: es) X.env = (false, eval e X.env) :: starEach es X.env := by rfl) (hpl : (backTo pos (starEach es X.env)).any (·.1) = false := by rfl) : DE X E ω (.Call (.Name x p) (e :: es) [] pos) (tCB r tas) (eCall g fas) o [] :=
  ⟨pe_callB hc hg hm hv ha.pa hn hdb he hpl, sem_call hd ha.sem hf⟩
theorem de_callTy {T : String} {x : Str} {p : Pos} {r : List V → Hp → VK → Prop} {g : List D → R D} (hc : CallR X (.type T) r) (hd : CallD X.mg E X.K r g o) (hm : X.mg x = none) (hv : bootBuiltins x = some (.type T)) (ha : DA X E ω (e :: es) tas fas os [])
    (hg : Gl X x := by rfl) (hf : os.all O.isFz = true := by rfl) (hn : x ≠ "__name__" := by decide) (hdb : (x == ("__debug__" : Str)) = false := by decide)
    (he : starEach (e :: es) X.env = (false, eval e X.env) :: starEach es X.env := by rfl) (hpl : (backTo pos (starEach es X.env)).any (·.1) = false := by rfl) : DE X E ω (.Call (.Name x p) (e :: es) [] pos) (tCB r tas) (eCall g fas) o [] :=
  ⟨pe_callTy hc hg hm hv ha.pa hn hdb he hpl, sem_call hd ha.sem hf⟩
end
section
variable {mg : Str → Option Value} {E : XK} {K : PySem.W.Frag}
theorem reps1 {F : Hp} {d : D} {vs : List V} (r : Reps K F [d] vs) : ∃ v, vs = [v] ∧ Rep K F d v := by
  obtain ⟨v, vr, rfl, h, h'⟩ := r
  exact ⟨v, by rw [show vr = [] from h'], h⟩
theorem reps2 {F : Hp} {d d' : D} {vs : List V} (r : Reps K F [d, d'] vs) : ∃ v w, vs = [v, w] ∧ Rep K F d v ∧ Rep K F d' w := by
  obtain ⟨v, vr, rfl, h, h'⟩ := r
  obtain ⟨w, rfl, h2⟩ := reps1 h'
  exact ⟨v, w, rfl, h, h2⟩
def lenD : List D → R D
  | [.lst xs] => .ok (.int xs.length)
  | [.tup xs] => .ok (.int xs.length)
  | [.scr xs] => .ok (.int xs.length)
  | [.dic xs] => .ok (.int xs.length)
  | [.str z] => if z.length ≤ most then .ok (.int z.length) else .no
  | _ => .no
def rLenA (K : PySem.W.Frag) : List V → Hp → VK → Prop := fun xs H Q => (∃ p ys, xs = [.ref p] ∧ (SqL K H p ys ∨ SqT K H p ys) ∧ Q (.int ys.length) H) ∨ ((∃ z, xs = [.str z] ∧ z.length ≤ sizeLine ∧ Q (.int z.length) H) ∨ (∃ a kvs, xs = [V.ref a] ∧ Rd H a (.dK kvs) ∧ Q (.int kvs.length) H))
theorem call_lenR {X : Cx} : CallR X (.builtin "len") (fun xs H Q => ∃ a kvs, xs = [V.ref a] ∧ Rd H a (.dK kvs) ∧ Q (.int kvs.length) H) := by
  intro pins s σ H xs us Q I r h
  obtain ⟨a, kvs, rfl, ha, q⟩ := h
  obtain ⟨u, rfl, ru⟩ := vals1 r
  cases ru
  exact d_len I ha fun t s' I' => ⟨.int kvs.length, H, I', ⟨t, rfl⟩, q⟩
theorem cr_len {X : Cx} : CallR X (.builtin "len") (rLenA X.K) := call_len_seq.or (call_len_str.or call_lenR)
theorem repK_len : ∀ {F : Hp} {es : List (L2.Key × D)} {kvs : List (L2.Key × V)}, RepK K F es kvs → kvs.length = es.length
  | _, [], kvs, r => by rw [show kvs = [] from r]; rfl
  | _, (k, d) :: es, kvs, r => by
    obtain ⟨v, vr, rfl, _, h3⟩ := r
    exact congrArg Nat.succ (repK_len h3)
theorem cd_len : CallD mg E K (rLenA K) lenD .fz := fun F H As vs ds Q e r p => by
  unfold lenD at p
  split at p
  · rename_i xs
    obtain ⟨v, rfl, r1⟩ := reps1 r
    obtain ⟨a, ws, rfl, h1, h2⟩ := r1
    exact .inl ⟨a, ws, rfl, .inl (.of (e _ _ h1)), by rw [h2.length]; exact p.fin e rfl⟩
  · rename_i xs
    obtain ⟨v, rfl, r1⟩ := reps1 r
    obtain ⟨a, ws, rfl, h1, h2⟩ := r1
    exact .inl ⟨a, ws, rfl, .inr (.of (e _ _ h1)), by rw [h2.length]; exact p.fin e rfl⟩
  · rename_i xs
    obtain ⟨v, rfl, r1⟩ := reps1 r
    obtain ⟨a, rfl, h1⟩ := r1
    exact .inl ⟨a, xs.map V.int, rfl, .inl (e.seq h1), by rw [List.length_map]; exact p.fin e rfl⟩
  · rename_i xs
    obtain ⟨v, rfl, r1⟩ := reps1 r
    obtain ⟨a, ws, rfl, h1, h2⟩ := r1
    exact .inr (.inr ⟨a, ws, rfl, rd_mono e h1, by rw [repK_len h2]; exact p.fin e rfl⟩)
  · rename_i z
    obtain ⟨v, rfl, r1⟩ := reps1 r
    split at p
    · rename_i hz
      exact .inr (.inl ⟨z, by rw [show v = .str z from r1], by rw [← most_eq]; exact hz, p.fin e rfl⟩)
    · exact (show False from p).elim
  · exact (show False from p).elim
def intD : List D → R D
  | [.int i] => .ok (.int i)
  | [.bl b] => .ok (.int (if b then 1 else 0))
  | [.str z] => match PySem.intText? z with
    | some n => if z.length ≤ 640 then .ok (.int n) else .no
    | none => .no
  | _ => .no
def rIntA : List V → Hp → VK → Prop := fun xs H Q => ((∃ i, xs = [.int i] ∧ Q (.int i) H) ∨ ∃ k, xs = [.bl k] ∧ Q (.int (if k then 1 else 0)) H) ∨ (∃ a n, xs = [.str a] ∧ PySem.intText? a = some n ∧ a.length ≤ 640 ∧ Q (.int n) H)
theorem cr_int {X : Cx} : CallR X (.type "int") rIntA := call_int1.or call_int_str
theorem cd_int : CallD mg E K rIntA intD .fz := fun F H As vs ds Q e r p => by
  unfold intD at p
  split at p
  · obtain ⟨v, rfl, r1⟩ := reps1 r
    exact .inl (.inl ⟨_, by rw [show v = .int _ from r1], p.fin e rfl⟩)
  · obtain ⟨v, rfl, r1⟩ := reps1 r
    exact .inl (.inr ⟨_, by rw [show v = .bl _ from r1], p.fin e rfl⟩)
  · obtain ⟨v, rfl, r1⟩ := reps1 r
    split at p
    · rename_i n hn
      split at p
      · rename_i hz
        exact .inr ⟨_, n, by rw [show v = .str _ from r1], hn, hz, p.fin e rfl⟩
      · exact (show False from p).elim
    · exact (show False from p).elim
  · exact (show False from p).elim
def strD : List D → R D
  | [.int i] => if i.natAbs.log2 < 1920 then .ok (.str (toString i)) else .no
  | [.str s] => .ok (.str s)
  | _ => .no
def rStrA : List V → Hp → VK → Prop := fun xs H Q => (∃ i, xs = [.int i] ∧ i.natAbs.log2 < 1920 ∧ Q (.str (toString i)) H) ∨ ∃ a, xs = [.str a] ∧ Q (.str a) H
theorem cr_str {X : Cx} : CallR X (.type "str") rStrA := call_str_int.or SkE.call_str_str
theorem cd_str : CallD mg E K rStrA strD .fz := fun F H As vs ds Q e r p => by
  unfold strD at p
  split at p
  · rename_i i
    obtain ⟨v, rfl, r1⟩ := reps1 r
    split at p
    · rename_i hz
      exact .inl ⟨i, by rw [show v = .int _ from r1], hz, p.fin e rfl⟩
    · exact (show False from p).elim
  · obtain ⟨v, rfl, r1⟩ := reps1 r
    exact .inr ⟨_, by rw [show v = .str _ from r1], p.fin e rfl⟩
  · exact (show False from p).elim
def dKey : L2.Key → D
  | .inl i => .int i
  | .inr s => .str s
def listD : List D → R D
  | [.lst xs] => .ok (.lst xs)
  | [.tup xs] => .ok (.lst xs)
  | [.scr xs] => .ok (.lst (xs.map .int))
  | [.dic es] => .ok (.lst (es.map fun kv => dKey kv.1))
  | _ => .no
def rListA (K : PySem.W.Frag) : List V → Hp → VK → Prop := fun xs H Q => (∃ p ys, xs = [.ref p] ∧ (SqL K H p ys ∨ SqT K H p ys) ∧ ∀ l, H l = none → Q (.ref l) (upd H l (.lst ys))) ∨ ∃ (a : Addr) (kvs : List (L2.Key × V)), xs = [.ref a] ∧ Rd H a (.dK kvs) ∧ ∀ p, H p = none → Q (.ref p) (upd H p (.lst (kvs.map fun kv => kV kv.1)))
theorem cr_list {X : Cx} (hc : X.calm = true) : CallR X (.type "list") (rListA X.K) := call_list_of.or (call_listD hc)
theorem reps_ints {F : Hp} : ∀ ns : List Int, Reps K F (ns.map .int) (ns.map V.int)
  | [] => rfl
  | n :: ns => ⟨.int n, ns.map V.int, rfl, rfl, reps_ints ns⟩
theorem reps_keys {F : Hp} : ∀ {es : List (L2.Key × D)} {kvs : List (L2.Key × V)}, RepK K F es kvs → Reps K F (es.map fun kv => dKey kv.1) (kvs.map fun kv => kV kv.1)
  | [], kvs, r => by rw [show kvs = [] from r]; exact rfl
  | (k, d) :: es, kvs, r => by
    obtain ⟨v, vr, rfl, _, h3⟩ := r
    refine ⟨kV k, _, rfl, ?_, reps_keys h3⟩
    cases k <;> exact rfl
theorem cd_list : CallD mg E K (rListA K) listD (.own .fz) := fun F H As vs ds Q e r p => by
  unfold listD at p
  split at p
  · obtain ⟨v, rfl, r1⟩ := reps1 r
    obtain ⟨a, ws, rfl, h1, h2⟩ := r1
    exact .inl ⟨a, ws, rfl, .inl (.of (e _ _ h1)), fun l hl => p.newL e hl h2⟩
  · obtain ⟨v, rfl, r1⟩ := reps1 r
    obtain ⟨a, ws, rfl, h1, h2⟩ := r1
    exact .inl ⟨a, ws, rfl, .inr (.of (e _ _ h1)), fun l hl => p.newL e hl h2⟩
  · rename_i xs
    obtain ⟨v, rfl, r1⟩ := reps1 r
    obtain ⟨a, rfl, h1⟩ := r1
    exact .inl ⟨a, xs.map V.int, rfl, .inl (e.seq h1), fun l hl => p.newL e hl (reps_ints xs)⟩
  · obtain ⟨v, rfl, r1⟩ := reps1 r
    obtain ⟨a, ws, rfl, h1, h2⟩ := r1
    exact .inr ⟨a, ws, rfl, rd_mono e h1, fun l hl => p.newL e hl (reps_keys h2)⟩
  · exact (show False from p).elim
def tupleD : List D → R D
  | [.lst xs] => .ok (.tup xs)
  | [.tup xs] => .ok (.tup xs)
  | _ => .no
def rTupA (K : PySem.W.Frag) : List V → Hp → VK → Prop := fun xs H Q => ∃ p ys, xs = [.ref p] ∧ ((SqL K H p ys ∧ ∀ l, H l = none → Q (.ref l) (upd H l (.tup ys))) ∨ (SqT K H p ys ∧ Q (.ref p) H))
theorem cr_tup {X : Cx} : CallR X (.type "tuple") (rTupA X.K) := call_tuple_of
theorem cd_tup : CallD mg E K (rTupA K) tupleD .fz := fun F H As vs ds Q e r p => by
  unfold tupleD at p
  split at p
  · obtain ⟨v, rfl, r1⟩ := reps1 r
    obtain ⟨a, ws, rfl, h1, h2⟩ := r1
    exact ⟨a, ws, rfl, .inl ⟨.of (e _ _ h1), fun l hl => p.newT e hl h2⟩⟩
  · obtain ⟨v, rfl, r1⟩ := reps1 r
    obtain ⟨a, ws, rfl, h1, h2⟩ := r1
    exact ⟨a, ws, rfl, .inr ⟨.of (e _ _ h1), p.fin e ⟨a, ws, rfl, h1, h2⟩⟩⟩
  · exact (show False from p).elim
/-- dict(d), a new one; dict([(k, v), ..]) -/
def putD (es : List (L2.Key × D)) (k : L2.Key) (d : D) : List (L2.Key × D) :=
  if (es.any fun kv => decide (kv.1 = k)) = true then es.map (fun kv => if kv.1 = k then (kv.1, d) else kv) else es ++ [(k, d)]
def pairsD : List D → Option (List (L2.Key × D))
  | [] => some []
  | .tup [k, d] :: r => match keyD k, pairsD r with
    | some k, some es => some ((k, d) :: es)
    | _, _ => none
  | _ => none
def dictD : List D → R D
  | [.dic es] => .ok (.dic es)
  | [.lst xs] => match pairsD xs with
    | some es => .ok (.dic (es.foldl (fun acc kv => putD acc kv.1 kv.2) []))
    | none => .no
  | _ => .no
def rDictA (K : PySem.W.Frag) : List V → Hp → VK → Prop := fun xs H Q => (∃ (a : Addr) (kvs : List (L2.Key × V)), xs = [.ref a] ∧ Rd H a (.dK kvs) ∧ ∀ p, H p = none → Q (.ref p) (upd H p (.dK kvs))) ∨
  (∃ (a : Addr) (ps : List Addr) (kvs : List (L2.Key × V)), xs = [.ref a] ∧ SqL K H a (ps.map V.ref) ∧ Paired (fun p kv => SqT K H p [kV kv.1, kv.2]) ps kvs ∧ ∀ p, H p = none → Q (.ref p) (upd H p (.dK (mergeK [] kvs))))
theorem cr_dict {X : Cx} (hc : X.calm = true) : CallR X (.type "dict") (rDictA X.K) := call_dictD.or (call_dictP hc)
theorem repK_any {F : Hp} {k : L2.Key} : ∀ {es : List (L2.Key × D)} {kvs : List (L2.Key × V)}, RepK K F es kvs → (kvs.any fun kv => decide (kv.1 = k)) = es.any fun kv => decide (kv.1 = k)
  | [], kvs, r => by rw [show kvs = [] from r]; rfl
  | (k', d) :: es, kvs, r => by
    obtain ⟨v, vr, rfl, _, h3⟩ := r
    rw [List.any_cons, List.any_cons, repK_any h3]
theorem repK_map {F : Hp} {k : L2.Key} {d : D} {v : V} (hd : Rep K F d v) : ∀ {es : List (L2.Key × D)} {kvs : List (L2.Key × V)}, RepK K F es kvs → RepK K F (es.map fun kv => if kv.1 = k then (kv.1, d) else kv) (kvs.map fun kv => if kv.1 = k then (kv.1, v) else kv)
  | [], kvs, r => by rw [show kvs = [] from r]; exact rfl
  | (k', d') :: es, kvs, r => by
    obtain ⟨v', vr, rfl, h2, h3⟩ := r
    rw [List.map_cons, List.map_cons]
    by_cases h : k' = k
    · rw [if_pos (show (k', d').1 = k from h), if_pos (show (k', v').1 = k from h)]
      exact ⟨v, _, rfl, hd, repK_map hd h3⟩
    · rw [if_neg (show ¬ (k', d').1 = k from h), if_neg (show ¬ (k', v').1 = k from h)]
      exact ⟨v', _, rfl, h2, repK_map hd h3⟩
theorem repK_app {F : Hp} : ∀ {es es' : List (L2.Key × D)} {kvs kvs' : List (L2.Key × V)}, RepK K F es kvs → RepK K F es' kvs' → RepK K F (es ++ es') (kvs ++ kvs')
  | [], es', kvs, kvs', r, r' => by rw [show kvs = [] from r]; exact r'
  | (k, d) :: es, es', kvs, kvs', r, r' => by
    obtain ⟨v, vr, rfl, h2, h3⟩ := r
    exact ⟨v, vr ++ kvs', rfl, h2, repK_app h3 r'⟩
theorem repK_put {F : Hp} {k : L2.Key} {d : D} {v : V} {es : List (L2.Key × D)} {kvs : List (L2.Key × V)} (hd : Rep K F d v) (r : RepK K F es kvs) : RepK K F (putD es k d) (putK kvs k v) := by
  unfold putD putK
  rw [repK_any r]
  split
  · exact repK_map hd r
  · exact repK_app r ⟨v, [], rfl, hd, rfl⟩
theorem repK_fold {F : Hp} : ∀ {es acc : List (L2.Key × D)} {kvs acc' : List (L2.Key × V)}, RepK K F es kvs → RepK K F acc acc' → RepK K F (es.foldl (fun acc kv => putD acc kv.1 kv.2) acc) (mergeK acc' kvs)
  | [], acc, kvs, acc', r, q => by rw [show kvs = [] from r]; exact q
  | (k, d) :: es, acc, kvs, acc', r, q => by
    obtain ⟨v, vr, rfl, h2, h3⟩ := r
    have z := repK_fold (es := es) (acc := putD acc k d) (kvs := vr) (acc' := putK acc' k v) h3 (repK_put h2 q)
    exact z
theorem pairs_rep {F H : Hp} (e : Same F H) : ∀ {xs : List D} {es : List (L2.Key × D)} {vs : List V}, pairsD xs = some es → Reps K F xs vs → ∃ ps kvs, vs = ps.map V.ref ∧ RepK K F es kvs ∧ Paired (fun p kv => SqT K H p [kV kv.1, kv.2]) ps kvs
  | [], es, vs, h, r => by
    cases h
    exact ⟨[], [], r, rfl, .nil⟩
  | x :: xs, es, vs, h, r => by
    obtain ⟨v, vr, rfl, h2, h3⟩ := r
    unfold pairsD at h
    split at h
    · rename_i heq
      cases heq
    · rename_i k d r' heq
      cases heq
      split at h
      · rename_i k' es' hk hp
        cases h
        obtain ⟨ps, kvs, rfl, h4, h5⟩ := pairs_rep e hp h3
        obtain ⟨a, ws, rfl, h6, h7⟩ := h2
        obtain ⟨w1, w2, rfl, h8, h9⟩ := reps2 h7
        refine ⟨a :: ps, (k', w2) :: kvs, rfl, ⟨w2, kvs, rfl, h9, h4⟩, .cons ?_ h5⟩
        rw [key_rep hk h8] at h6
        exact .of (e _ _ h6)
      · cases h
    · cases h
theorem cd_dict : CallD mg E K (rDictA K) dictD (.own .fz) := fun F H As vs ds Q e r p => by
  unfold dictD at p
  split at p
  · obtain ⟨v, rfl, r1⟩ := reps1 r
    obtain ⟨a, ws, rfl, h1, h2⟩ := r1
    exact .inl ⟨a, ws, rfl, rd_mono e h1, fun l hl => p.newD e hl h2⟩
  · obtain ⟨v, rfl, r1⟩ := reps1 r
    split at p
    · rename_i es hp
      obtain ⟨a, ws, rfl, h1, h2⟩ := r1
      obtain ⟨ps, kvs, rfl, h3, h4⟩ := pairs_rep e hp h2
      exact .inr ⟨a, ps, kvs, rfl, .of (e _ _ h1), h4, fun l hl => p.newD e hl (repK_fold (acc := []) (acc' := []) h3 rfl)⟩
    · exact (show False from p).elim
  · exact (show False from p).elim
def absD : List D → R D
  | [.int i] => .ok (.int (if i < 0 then -i else i))
  | _ => .no
def rAbsA : List V → Hp → VK → Prop := fun xs H Q => ∃ i, xs = [.int i] ∧ Q (.int (if i < 0 then -i else i)) H
theorem cd_abs : CallD mg E K rAbsA absD .fz := fun F H As vs ds Q e r p => by
  unfold absD at p
  split at p
  · rename_i i
    obtain ⟨v, rfl, r1⟩ := reps1 r
    exact ⟨i, by rw [show v = .int _ from r1], p.fin e rfl⟩
  · exact (show False from p).elim
def max2D : List D → R D
  | [.int i, .int j] => .ok (.int (if j > i then j else i))
  | _ => .no
def rMax2A : List V → Hp → VK → Prop := fun xs H Q => ∃ i j, xs = [.int i, .int j] ∧ Q (.int (if j > i then j else i)) H
theorem cd_max2 : CallD mg E K rMax2A max2D .fz := fun F H As vs ds Q e r p => by
  unfold max2D at p
  split at p
  · rename_i i j
    obtain ⟨v, w, rfl, r1, r2⟩ := reps2 r
    exact ⟨i, j, by rw [show v = .int _ from r1, show w = .int _ from r2], p.fin e rfl⟩
  · exact (show False from p).elim
def min2D : List D → R D
  | [.int i, .int j] => .ok (.int (if j < i then j else i))
  | _ => .no
def rMin2A : List V → Hp → VK → Prop := fun xs H Q => ∃ i j, xs = [.int i, .int j] ∧ Q (.int (if j < i then j else i)) H
theorem cd_min2 : CallD mg E K rMin2A min2D .fz := fun F H As vs ds Q e r p => by
  unfold min2D at p
  split at p
  · rename_i i j
    obtain ⟨v, w, rfl, r1, r2⟩ := reps2 r
    exact ⟨i, j, by rw [show v = .int _ from r1, show w = .int _ from r2], p.fin e rfl⟩
  · exact (show False from p).elim
def blsD : List D → Option (List Bool)
  | [] => some []
  | .bl b :: r => (blsD r).map (b :: ·)
  | _ => none
theorem bls_rep {F : Hp} : ∀ {ds : List D} {bs : List Bool} {vs : List V}, blsD ds = some bs → Reps K F ds vs → vs = bs.map V.bl
  | [], bs, vs, h, r => by
    cases h
    exact r
  | x :: xs, bs, vs, h, r => by
    obtain ⟨v, vr, rfl, h2, h3⟩ := r
    cases x with
    | bl b =>
      have h' : (blsD xs).map (b :: ·) = some bs := h
      cases hq : blsD xs with
      | none => rw [hq] at h'; cases h'
      | some bs' =>
        rw [hq] at h'
        cases h'
        rw [show v = .bl b from h2, bls_rep hq h3]
        rfl
    | _ => exact absurd h (by simp [blsD])
def anyD : List D → R D
  | [.lst xs] => match blsD xs with
    | some bs => .ok (.bl (bs.any id))
    | none => .no
  | _ => .no
def allD : List D → R D
  | [.lst xs] => match blsD xs with
    | some bs => .ok (.bl (bs.all id))
    | none => .no
  | _ => .no
theorem cd_any : CallD mg E K (rAny K) anyD .fz := fun F H As vs ds Q e r p => by
  unfold anyD at p
  split at p
  · obtain ⟨v, rfl, r1⟩ := reps1 r
    split at p
    · rename_i bs hb
      obtain ⟨a, ws, rfl, h1, h2⟩ := r1
      rw [bls_rep hb h2] at h1
      exact ⟨a, bs, rfl, .of (e _ _ h1), p.fin e rfl⟩
    · exact (show False from p).elim
  · exact (show False from p).elim
theorem cd_all : CallD mg E K (rAll K) allD .fz := fun F H As vs ds Q e r p => by
  unfold allD at p
  split at p
  · obtain ⟨v, rfl, r1⟩ := reps1 r
    split at p
    · rename_i bs hb
      obtain ⟨a, ws, rfl, h1, h2⟩ := r1
      rw [bls_rep hb h2] at h1
      exact ⟨a, bs, rfl, .of (e _ _ h1), p.fin e rfl⟩
    · exact (show False from p).elim
  · exact (show False from p).elim
end
end Dn

/-! isinstance, own defs, comprehensions over data. -/
namespace Dn
open PySem L2 PyProof.Rows

/-! ### isinstance -/
def tyName : D → String
  | .non => "NoneType" | .bl _ => "bool" | .int _ => "int" | .str _ => "str" | .tup _ => "tuple" | .lst _ => "list" | .scr _ => "list" | .dic _ => "dict" | .err _ _ => "list"
def notErr : D → Bool
  | .err _ _ => false
  | _ => true
def isiB (T : String) (d : D) : Bool := tyName d == T || (T == "int" && tyName d == "bool")
def isiD (T : String) (d : D) : R D := if notErr d = true then .ok (.bl (isiB T d)) else .no
def isi2D (T U : String) (d : D) : R D := if notErr d = true then .ok (.bl (isiB T d || isiB U d)) else .no
theorem isiD_of {T : String} {d : D} (h : notErr d = true) : isiD T d = .ok (.bl (isiB T d)) := if_pos h
theorem isi2D_of {T U : String} {d : D} (h : notErr d = true) : isi2D T U d = .ok (.bl (isiB T d || isiB U d)) := if_pos h
theorem isiD_no {T : String} {d : D} (h : notErr d = false) : isiD T d = .no := if_neg (by rw [h]; decide)
theorem isi2D_no {T U : String} {d : D} (h : notErr d = false) : isi2D T U d = .no := if_neg (by rw [h]; decide)
def KitOk (T : String) : Prop := ∀ a ∈ ["NoneType", "bool", "int", "str", "tuple", "list", "dict"], kitB a T = some (a == T || (T == "int" && a == "bool"))
theorem kit_int : KitOk "int" := by unfold KitOk; decide +kernel
theorem kit_bool : KitOk "bool" := by unfold KitOk; decide +kernel
theorem kit_tuple : KitOk "tuple" := by unfold KitOk; decide +kernel
theorem kit_list : KitOk "list" := by unfold KitOk; decide +kernel
theorem kit_dict : KitOk "dict" := by unfold KitOk; decide +kernel
theorem kit_str : KitOk "str" := by unfold KitOk; decide +kernel
theorem kit_of' {T : String} (h : KitOk T) (d : D) : kitB (tyName d) T = some (isiB T d) := h _ (by cases d <;> simp [tyName])
section
variable {X : Cx} {E : XK} {ω : List O} {e a b : Expr} {es : List Expr} {t ta tb : TE} {tas : TA} {f fa fb : Env → R D} {fas : Env → R (List D)} {o : O} {os : List O} {M M' : List Nat} {pos : Pos}
theorem rep_ty {K : PySem.W.Frag} {F H : Hp} {d : D} {v : V} (he : notErr d = true) (e : Same F H) (r : Rep K F d v) : TyX K H v (.type (tyName d)) := by
  cases d with
  | non => rw [show v = .non from r]; exact .base .non
  | bl b => rw [show v = .bl b from r]; exact .base (.bl b)
  | int b => rw [show v = .int b from r]; exact .base (.int b)
  | str b => rw [show v = .str b from r]; exact .base (.str b)
  | tup ds => obtain ⟨a, vs, rfl, h1, _⟩ := r; exact .base (.tup (e _ _ h1))
  | lst ds => obtain ⟨a, vs, rfl, h1, _⟩ := r; exact .base (.lst (e _ _ h1))
  | dic es =>
    obtain ⟨a, vs, rfl, h1, _⟩ := r
    rcases h1 with h1 | ⟨o, h1⟩
    · exact .base (.dK (e _ _ h1))
    · exact .fDict (e _ _ h1)
  | scr ns =>
    obtain ⟨a, rfl, h1⟩ := r
    rcases e.seq h1 with (h | ⟨o, h⟩) | ⟨o, its, n, h, hc, _⟩
    · exact .base (.lst h)
    · exact .base (.frz h)
    · exact .kList h hc
  | err a c => cases he
theorem de_isi {T : String} {x : Str} {p p2 : Pos} (hT : KitOk T) (hm : X.mg "isinstance" = none) (hm2 : X.mg x = none) (hv : bootBuiltins x = some (.type T)) (ha : DE X E ω a ta fa .fz []) (hg : Gl X "isinstance" := by rfl) (hg2 : Gl X x := by rfl) (hn : x ≠ "__name__" := by decide) (hd : (x == ("__debug__" : Str)) = false := by decide)
    (hs : starEach [a, .Name x p2] X.env = (false, eval a X.env) :: starEach [.Name x p2] X.env := by rfl) (hs2 : starEach [.Name x p2] X.env = (false, eval (.Name x p2) X.env) :: starEach [] X.env := by rfl) (hpl : (backTo pos (starEach [.Name x p2] X.env)).any (·.1) = false := by rfl) :
    DE X E ω (.Call (.Name "isinstance" p) [a, .Name x p2] [] pos) (tCB (rIsi X.K) (tCons ta (tCons (tC (.ty T)) tNil))) (eUn (isiD T) fa) .fz [] :=
  ⟨pe_callB call_isi hg hm boot_isinstance (pa_cons ha.pe (pa_cons (pe_bltn (v := .ty T) hg2 hm2 hv rfl hn hd) pa_nil hs2) hs) (by decide) (by decide) hs hpl, fun σ ρ F H As Q S p =>
    ha.sem.then S p fun d v F1 H1 B g S1 r _ _ q => by
      cases he : notErr d with
      | false => rw [isiD_no he] at q; exact q.elim
      | true =>
        rw [isiD_of he] at q
        exact ⟨v, .ty T, _, _, _, rfl, .ty T, rep_ty he S1.ex r.1, kit_ty (kit_of' hT d), q.fin S1.ex rfl⟩⟩
theorem de_isi2 {T U : String} {x y : Str} {k} {p p2 p3 p4 : Pos} (hT : KitOk T) (hU : KitOk U) (hm : X.mg "isinstance" = none) (hm2 : X.mg x = none) (hm3 : X.mg y = none) (hv : bootBuiltins x = some (.type T)) (hv2 : bootBuiltins y = some (.type U)) (ha : DE X E ω a ta fa .fz [])
    (hg : Gl X "isinstance" := by rfl) (hg2 : Gl X x := by rfl) (hg3 : Gl X y := by rfl) (hn : x ≠ "__name__" := by decide) (hd : (x == ("__debug__" : Str)) = false := by decide) (hn2 : y ≠ "__name__" := by decide) (hd2 : (y == ("__debug__" : Str)) = false := by decide)
    (hs : starEach [a, .Tuple [.Name x p2, .Name y p3] k p4] X.env = (false, eval a X.env) :: starEach [.Tuple [.Name x p2, .Name y p3] k p4] X.env := by rfl) (hs2 : starEach [.Tuple [.Name x p2, .Name y p3] k p4] X.env = (false, eval (.Tuple [.Name x p2, .Name y p3] k p4) X.env) :: starEach [] X.env := by rfl)
    (hpl : (backTo pos (starEach [.Tuple [.Name x p2, .Name y p3] k p4] X.env)).any (·.1) = false := by rfl)
    (hs3 : starEach [.Name x p2, .Name y p3] X.env = (false, eval (.Name x p2) X.env) :: starEach [.Name y p3] X.env := by rfl) (hs4 : starEach [.Name y p3] X.env = (false, eval (.Name y p3) X.env) :: starEach [] X.env := by rfl) :
    DE X E ω (.Call (.Name "isinstance" p) [a, .Tuple [.Name x p2, .Name y p3] k p4] [] pos) (tCB (rIsiT X.K) (tCons ta (tCons (tTup (tCons (tC (.ty T)) (tCons (tC (.ty U)) tNil))) tNil))) (eUn (isi2D T U) fa) .fz [] :=
  ⟨pe_callB call_isiT hg hm boot_isinstance (pa_cons ha.pe (pa_cons (pe_tup (pa_cons (pe_bltn (v := .ty T) hg2 hm2 hv rfl hn hd) (pa_cons (pe_bltn (v := .ty U) hg3 hm3 hv2 rfl hn2 hd2) pa_nil hs4) hs3)) pa_nil hs2) hs) (by decide) (by decide) hs hpl, fun σ ρ F H As Q S p =>
    ha.sem.then S p fun d v F1 H1 B g S1 r _ _ q => ⟨by rw [← most_eq]; show 2 ≤ most; decide, fun l hl => by
      have he : notErr d = true := by
        cases he : notErr d with
        | false => rw [isi2D_no he] at q; exact q.elim
        | true => rfl
      rw [isi2D_of he] at q
      have g2 := Grow.new (u := .tup [.ty T, .ty U]) S1.ex hl
      refine ⟨v, l, _, _, _, isiB T d || isiB U d, rfl, upd_same, .cons (.ty T) (.cons (.ty U) .nil), rep_ty he (S1.ex.trans g2.hh) r.1, ?_, (Pst.grow g2 q).fin g2.fh rfl⟩
      refine kitAny_cons (kit_ty (kit_of' hT d)) (fun h => kitAny_cons (kit_ty (kit_of' hU d)) (fun h2 => ?_) fun h2 => ?_) fun h => ?_
      · rw [h, h2]; exact kitAny_nil
      · rw [h, h2]; rfl
      · rw [h]; rfl⟩⟩

/-! ### own defs -/
/-- a def's promise: what it gives of data -/
def spD (K : PySem.W.Frag) (mg : Str → Option Value) (n : Nat) (g : List D → R D) (o : O) : Sp := fun vs H Q E => ∃ ds F, Same F H ∧ Reps K F ds vs ∧ ds.length = n ∧ Pst mg E K o [] [] F H Q (g ds)
structure DFn (P : Program) (w : World) (K : PySem.W.Frag) (mg : Str → Option Value) (base : Heap) (CX : CXT) (k : Nat) (x : Str) (n : Nat) (g : List D → R D) (o : O) : Prop where
  ex : ∃ f fd ps, mg x = some (.ref f) ∧ PySem.W.keepIn K (.ref f) = true ∧ Binds K fd ps [] ∧ FnOk P w K mg base CX k f fd ps (spD K mg n g o)
theorem DFn.mono {P : Program} {w : World} {K : PySem.W.Frag} {mg : Str → Option Value} {base : Heap} {CX : CXT} {j k : Nat} {x : Str} {n : Nat} {g : List D → R D} (C : DFn P w K mg base CX j x n g o) (h : j ≤ k) : DFn P w K mg base CX k x n g o := by
  obtain ⟨f, fd, ps, h1, h2, h3, h4⟩ := C.ex
  exact ⟨⟨f, fd, ps, h1, h2, h3, h4.mono h⟩⟩
theorem sem_own {mg : Str → Option Value} {K : PySem.W.Frag} {n : Nat} {g : List D → R D} (h : SemA mg E K ω tas fas os []) (hf : os.all O.isFz = true) (hn : os.length = n) : Sem mg E K ω (tCall (spD K mg n g o) [] E tas) (eCall g fas) o [] := fun σ ρ F H As Q S p =>
  h.then S p fun ds vs F1 H1 B g1 S1 r1 _ _ q => by
    refine ⟨ds, F1, S1.ex, by rw [List.append_nil]; exact (repT_fz hf r1).1, by rw [(repT_len r1).2, hn], ?_⟩
    cases hg : g ds with
    | ok d =>
      rw [hg] at q
      exact fun v F' H' B g r b n => q v F' H' B g r (fun x hx => (b x hx).imp id fun z => z.nil.elim) n
    | exc c => rw [hg] at q; exact q
    | no => rw [hg] at q; exact q
theorem de_call {CX : CXT} {k n : Nat} {x : Str} {p : Pos} {g : List D → R D} (C : DFn X.prog X.w X.K X.mg X.base CX k x n g o) (hr : Room k X.A) (hx : Passes CX X E) (ha : DA X E ω (e :: es) tas fas os []) (hg : Gl X x := by rfl) (hf : os.all O.isFz = true := by rfl) (hn : os.length = n := by rfl)
    (hdb : (x == ("__debug__" : Str)) = false := by decide) (he : starEach (e :: es) X.env = (false, eval e X.env) :: starEach es X.env := by rfl) (hpl : (backTo pos (starEach es X.env)).any (·.1) = false := by rfl) :
    DE X E ω (.Call (.Name x p) (e :: es) [] pos) (tCall (spD X.K X.mg n g o) [] E tas) (eCall g fas) o [] := by
  obtain ⟨f, fd, ps, h1, h2, h3, h4⟩ := C.ex
  exact ⟨pe_call h4 hr hg h1 h2 h3 .nil hx ha.pa hdb he hpl, sem_own ha.sem hf hn⟩
theorem de_call0 {CX : CXT} {k : Nat} {x : Str} {p : Pos} {g : List D → R D} (C : DFn X.prog X.w X.K X.mg X.base CX k x 0 g o) (hr : Room k X.A) (hx : Passes CX X E) (hg : Gl X x := by rfl) (hdb : (x == ("__debug__" : Str)) = false := by decide) :
    DE X E ω (.Call (.Name x p) [] [] pos) (tCall (spD X.K X.mg 0 g o) [] E tNil) (eCall g aNil) o [] := by
  obtain ⟨f, fd, ps, h1, h2, h3, h4⟩ := C.ex
  exact ⟨pe_call0 h4 hr hg h1 h2 h3 .nil hx hdb, sem_own (os := []) (da_nil (X := X) (E := E) (ω := ω)).sem rfl rfl⟩

/-! ### what is walked -/
/-- the iterator gives what stands for ds, whatever is made meanwhile -/
def ItOk (K : PySem.W.Frag) (J : It) (F : Hp) (ds : List D) : Prop := ∃ vs, Reps K F ds vs ∧ (∀ i H, Same F H → i < vs.length → J.go i H ∧ ∀ x H', J.yld i H x H' → H' = H ∧ vs[i]? = some x) ∧ ∀ i H, Same F H → vs.length ≤ i → J.stop i H
theorem ItOk.mono {K : PySem.W.Frag} {J : It} {F F' : Hp} {ds : List D} (e : Same F F') (h : ItOk K J F ds) : ItOk K J F' ds := by
  obtain ⟨vs, h1, h2, h3⟩ := h
  exact ⟨vs, Reps.mono e ds vs h1, fun i H q => h2 i H (e.trans q), fun i H q => h3 i H (e.trans q)⟩
def PstI (mg : Str → Option Value) (E : XK) (K : PySem.W.Frag) (F H : Hp) (Q : It → Hp → Prop) : R (List D) → Prop
  | .ok ds => ∀ J F' H', Grow F H F' H' → ItOk K J F' ds → Q J H'
  | .exc c => ∀ H', Same H H' → E (clsOf mg c) none H'
  | .no => False
def SemI (mg : Str → Option Value) (E : XK) (K : PySem.W.Frag) (ω : List O) (t : TI) (f : Env → R (List D)) : Prop := ∀ σ ρ F H As Q, Stt K ω ρ σ F H As → PstI mg E K F H Q (f ρ) → t σ H Q
structure DI (X : Cx) (E : XK) (ω : List O) (tg iter : Expr) (t : TI) (f : Env → R (List D)) : Prop where
  pi : PI X tg iter t
  sem : SemI X.mg E X.K ω t f
def signsD (z : Str) : List D := z.cps.toList.map fun c => .str ⟨#[c]⟩
def walkD : D → R (List D)
  | .lst xs => .ok xs
  | .tup xs => .ok xs
  | .scr ns => .ok (ns.map .int)
  | .str z => .ok (signsD z)
  | _ => .no
def iWalk (f : Env → R D) (ρ : Env) : R (List D) := f ρ >>= walkD
def iAny (K : PySem.W.Frag) (tl : TE) : TI := fun σ H R => tl σ H fun x H1 => (∃ a, x = .ref a ∧ (∃ xs, SqL K H1 a xs) ∧ R (Itl K a) H1) ∨ ((∃ a, x = .ref a ∧ (∃ xs, SqT K H1 a xs) ∧ R (Itt K a) H1) ∨ ∃ z, x = .str z ∧ R (Its z) H1)
theorem pi_any {tg l : Expr} {tl : TE} (hl : PE X l tl) : PI X tg l (iAny X.K tl) := by
  refine ⟨fun pins s σ H R I h => ?_⟩
  refine thn (hl.run pins s σ H _ I h) fun v s1 ⟨x, H1, I1, r1, q1⟩ => ?_
  rcases q1 with ⟨a, e, ⟨xs, hq⟩, q⟩ | ⟨a, e, ⟨xs, hq⟩, q⟩ | ⟨z, e, q⟩
  · subst e
    cases r1
    obtain ⟨its, rv, p, hz⟩ := I1.list hq
    refine wpAny_pyIter_list p.isList ?_
    refine ⟨s1.heap.objs.size, [s1.heap.objs.size], _, _, H1, rfl, I1.kept (t' := s1.toks) fun b o e => Heap.get?_push_of_some _ e, turn_list a _, ⟨_, Heap.get?_push_size _ rfl, rfl, rfl⟩, fun b hb => ?_, q⟩
    have e : b = s1.heap.objs.size := by simpa using hb
    subst e
    exact I1.fpOk (Nat.le_refl _) (I1.hok.fresh (Nat.le_refl _))
  · subst e
    cases r1
    obtain ⟨its, rv, p, hz⟩ := I1.tuple hq
    refine wpAny_pyIter_tuple (show s1.heap.IsTuple a its.toArray from p) ?_
    refine ⟨s1.heap.objs.size, [s1.heap.objs.size], _, _, H1, rfl, I1.kept (t' := s1.toks) fun b o e => Heap.get?_push_of_some _ e, turn_tuple a _, ⟨_, Heap.get?_push_size _ rfl, rfl, rfl⟩, fun b hb => ?_, q⟩
    have e : b = s1.heap.objs.size := by simpa using hb
    subst e
    exact I1.fpOk (Nat.le_refl _) (I1.hok.fresh (Nat.le_refl _))
  · subst e
    obtain ⟨t, rfl⟩ := r1
    cases ha : z.cps.all (· < 128)
    · exact wpAny_pyIter_wide ha (pi_one (tk := s1.toks) I1 _ (turn_str _ z t "str_iterator" (.inr rfl)) ⟨_, Heap.get?_push_size _ rfl, rfl, rfl⟩ q)
    · exact wpAny_pyIter_ascii ha (pi_one (tk := s1.toks) I1 _ (turn_str _ z t "str_ascii_iterator" (.inl rfl)) ⟨_, Heap.get?_push_size _ rfl, rfl, rfl⟩ q)
theorem itOk_l {K : PySem.W.Frag} {F : Hp} {a : Addr} {ds : List D} {vs : List V} (h : SqL K F a vs) (r : Reps K F ds vs) : ItOk K (Itl K a) F ds :=
  ⟨vs, r, fun i H e hi => ⟨⟨vs, vs[i], e.seq h, List.getElem?_eq_getElem hi⟩, fun x H' ⟨h1, h2⟩ => ⟨h1, h2 vs (e.seq h)⟩⟩, fun i H e hi => ⟨vs, e.seq h, hi⟩⟩
theorem itOk_t {K : PySem.W.Frag} {F : Hp} {a : Addr} {ds : List D} {vs : List V} (h : F a = some (.tup vs)) (r : Reps K F ds vs) : ItOk K (Itt K a) F ds :=
  ⟨vs, r, fun i H e hi => ⟨⟨vs, vs[i], .of (e _ _ h), List.getElem?_eq_getElem hi⟩, fun x H' ⟨h1, h2⟩ => ⟨h1, h2 vs (.of (e _ _ h))⟩⟩, fun i H e hi => ⟨vs, .of (e _ _ h), hi⟩⟩
theorem reps_signs {K : PySem.W.Frag} {F : Hp} : ∀ l : List Nat, Reps K F (l.map fun c => D.str ⟨#[c]⟩) (l.map fun c => V.str ⟨#[c]⟩)
  | [] => rfl
  | c :: l => ⟨_, _, rfl, rfl, reps_signs l⟩
theorem itOk_s {K : PySem.W.Frag} {F : Hp} (z : Str) : ItOk K (Its z) F (signsD z) := by
  refine ⟨z.cps.toList.map fun c => V.str ⟨#[c]⟩, reps_signs _, fun i H e hi => ?_, fun i H e hi => ?_⟩
  · rw [List.length_map, Array.length_toList] at hi
    refine ⟨hi, fun x H' ⟨h1, c, h2, h3⟩ => ⟨h1, ?_⟩⟩
    rw [List.getElem?_map, Array.getElem?_toList, h2, h3]
    rfl
  · rw [List.length_map, Array.length_toList] at hi
    exact hi
theorem di_any {tg : Expr} (h : DE X E ω e t f .fz []) : DI X E ω tg e (iAny X.K t) (iWalk f) := by
  refine ⟨pi_any h.pe, fun σ ρ F H As Q S p => ?_⟩
  refine h.sem σ ρ F H As _ S ?_
  unfold iWalk at p
  cases hf : f ρ with
  | ok d =>
    rw [hf] at p
    intro v F1 H1 B g r _ _
    cases d with
    | lst xs =>
      obtain ⟨a, vs, rfl, h1, h2⟩ := r.1
      exact .inl ⟨a, rfl, ⟨vs, .of (g.fh _ _ h1)⟩, p _ F1 H1 g (itOk_l (.of h1) h2)⟩
    | tup xs =>
      obtain ⟨a, vs, rfl, h1, h2⟩ := r.1
      exact .inr (.inl ⟨a, rfl, ⟨vs, .of (g.fh _ _ h1)⟩, p _ F1 H1 g (itOk_t h1 h2)⟩)
    | scr ns =>
      obtain ⟨a, rfl, h1⟩ := r.1
      exact .inl ⟨a, rfl, ⟨_, g.fh.seq h1⟩, p _ F1 H1 g (itOk_l h1 (reps_ints ns))⟩
    | str z => exact .inr (.inr ⟨z, r.1, p _ F1 H1 g (itOk_s z)⟩)
    | _ => exact (show False from p).elim
  | exc c => rw [hf] at p; exact p
  | no => rw [hf] at p; exact p
def rangeD (lo : Int) (n : Nat) : List D := (List.range n).map fun i : Nat => .int (lo + (i : Int))
def rng1 : D → R (List D)
  | .int n => if -4611686018427387904 ≤ n ∧ n < 4611686018427387904 then .ok (rangeD 0 n.toNat) else .no
  | _ => .no
def rng2 : D → D → R (List D)
  | .int m, .int n => if -4611686018427387904 ≤ m ∧ m < 4611686018427387904 ∧ -4611686018427387904 ≤ n ∧ n < 4611686018427387904 then .ok (rangeD m (n - m).toNat) else .no
  | _, _ => .no
def iRange1 (f : Env → R D) (ρ : Env) : R (List D) := f ρ >>= rng1
def iRange2 (f g : Env → R D) (ρ : Env) : R (List D) := f ρ >>= fun x => g ρ >>= fun y => rng2 x y
theorem reps_range {K : PySem.W.Frag} {F : Hp} (lo : Int) : ∀ l : List Nat, Reps K F (l.map fun i : Nat => D.int (lo + (i : Int))) (l.map fun i : Nat => V.int (lo + (i : Int)))
  | [] => rfl
  | c :: l => ⟨_, _, rfl, rfl, reps_range lo l⟩
theorem itOk_r {K : PySem.W.Frag} {F : Hp} (lo : Int) (n : Nat) : ItOk K (Itr lo n) F (rangeD lo n) := by
  refine ⟨(List.range n).map fun i : Nat => V.int (lo + (i : Int)), reps_range lo _, fun i H e hi => ?_, fun i H e hi => ?_⟩
  · rw [List.length_map, List.length_range] at hi
    refine ⟨hi, fun x H' ⟨h1, h2⟩ => ⟨h1, ?_⟩⟩
    rw [List.getElem?_map, List.getElem?_range hi, h2]
    rfl
  · rw [List.length_map, List.length_range] at hi
    exact hi
theorem di_range1 {tg : Expr} {p : Pos} (hm : X.mg "range" = none) (h : DE X E ω e t f .fz []) (hg : Gl X "range" := by rfl) (hs : starEach [e] X.env = [(false, eval e X.env)] := by rfl) : DI X E ω tg (.Call (.Name "range" p) [e] [] pos) (iRng1 (tCons t tNil)) (iRange1 f) := by
  refine ⟨pi_range1 hg hm (pa_cons h.pe pa_nil hs) hs, fun σ ρ F H As Q S p => ?_⟩
  refine h.sem σ ρ F H As _ S ?_
  unfold iRange1 at p
  cases hf : f ρ with
  | ok d =>
    rw [hf] at p
    intro v F1 H1 B g r _ _
    cases d with
    | int n =>
      have p' : PstI X.mg E X.K F H Q (if -4611686018427387904 ≤ n ∧ n < 4611686018427387904 then .ok (rangeD 0 n.toNat) else .no) := p
      by_cases hn : -4611686018427387904 ≤ n ∧ n < 4611686018427387904
      · rw [if_pos hn] at p'
        exact ⟨n, by rw [show v = .int n from r.1], by omega, by omega, p' _ F1 H1 g (itOk_r 0 _)⟩
      · rw [if_neg hn] at p'
        exact (show False from p').elim
    | _ => exact (show False from p).elim
  | exc c => rw [hf] at p; exact p
  | no => rw [hf] at p; exact p
theorem di_range2 {tg : Expr} {p : Pos} (hm : X.mg "range" = none) (ha : DE X E ω a ta fa .fz []) (hb : DE X E ω b tb fb .fz []) (hg : Gl X "range" := by rfl) (hs : starEach [a, b] X.env = [(false, eval a X.env), (false, eval b X.env)] := by rfl) (hs2 : starEach [b] X.env = [(false, eval b X.env)] := by rfl) :
    DI X E ω tg (.Call (.Name "range" p) [a, b] [] pos) (iRng2 (tCons ta (tCons tb tNil))) (iRange2 fa fb) := by
  refine ⟨pi_range2 hg hm (pa_cons ha.pe (pa_cons hb.pe pa_nil hs2) (by rw [hs, hs2])) hs hs2, fun σ ρ F H As Q S p => ?_⟩
  refine ha.sem σ ρ F H As _ S ?_
  unfold iRange2 at p
  cases hf : fa ρ with
  | ok d =>
    rw [hf] at p
    intro v F1 H1 B g r _ _
    refine hb.sem σ ρ F1 H1 As _ (S.grow g) ?_
    cases hf2 : fb ρ with
    | ok d2 =>
      rw [ok_bind, hf2] at p
      intro v2 F2 H2 B2 g2 r2 _ _
      cases d with
      | int m =>
        cases d2 with
        | int n =>
          have p' : PstI X.mg E X.K F H Q (if -4611686018427387904 ≤ m ∧ m < 4611686018427387904 ∧ -4611686018427387904 ≤ n ∧ n < 4611686018427387904 then .ok (rangeD m (n - m).toNat) else .no) := p
          by_cases hn : -4611686018427387904 ≤ m ∧ m < 4611686018427387904 ∧ -4611686018427387904 ≤ n ∧ n < 4611686018427387904
          · rw [if_pos hn] at p'
            exact ⟨m, n, by rw [show v = .int m from r.1, show v2 = .int n from r2.1], ⟨by omega, by omega, by omega, by omega⟩, p' _ F2 H2 (g.trans g2) (itOk_r m _)⟩
          · rw [if_neg hn] at p'
            exact (show False from p').elim
        | _ => exact (show False from p).elim
      | _ => exact (show False from p).elim
    | exc c =>
      rw [ok_bind, hf2] at p
      exact fun H' q => p H' (g.hh.trans q)
    | no => rw [ok_bind, hf2] at p; exact p
  | exc c => rw [hf] at p; exact p
  | no => rw [hf] at p; exact p
end
end Dn

/-! List comprehensions over data. -/
namespace Dn
open PySem L2 PyProof.Rows

def wipeE (ρ : Env) : List Nat → Env
  | [] => ρ
  | v :: vs => (wipeE ρ vs).set v none
/-- the turns of a comprehension -/
def lcD (set : D → Env → R Env) (fc : Env → R Bool) (fe : Env → R D) (ρ : Env) : List D → R (List D)
  | [] => .ok []
  | x :: xs => set x ρ >>= fun ρ' => fc ρ' >>= fun b => if b = true then fe ρ' >>= fun d => lcD set fc fe ρ xs >>= fun ds => .ok (d :: ds) else lcD set fc fe ρ xs
def setN (i : Nat) (d : D) (ρ : Env) : R Env := .ok (ρ.set i (some d))
def eLc (fi : Env → R (List D)) (vs : List Nat) (set : D → Env → R Env) (fc : Env → R Bool) (fe : Env → R D) (ρ : Env) : R D :=
  fi ρ >>= fun xs => if xs.length ≤ 1000000 then lcD set fc fe (wipeE ρ vs) xs >>= fun ds => .ok (.lst ds) else .no
def cYes (_ : Env) : R Bool := .ok true
section
variable {K : PySem.W.Frag} {F H : Hp} {ω : List O} {ρ : Env} {σ : L2.St} {As : List (List Addr)}
theorem Sl.setNone (h : Sl K F H ω ρ σ As) (i : Nat) : ∃ As', Sl K F H ω (ρ.set i Option.none) (σ.set i Option.none) As' ∧ As'.flatten.Sublist As.flatten := by
  induction h generalizing i with
  | nil => exact ⟨[], .nil, .refl _⟩
  | @none o ω ρ x σ As h ih =>
    cases i with
    | zero => exact ⟨[] :: As, .none h, .refl _⟩
    | succ i =>
      obtain ⟨As', h1, h2⟩ := ih i
      exact ⟨[] :: As', .none h1, h2⟩
  | @some o ω d ρ v σ B As r h ih =>
    cases i with
    | zero => exact ⟨[] :: As, .none h, by rw [List.flatten_cons, List.flatten_cons]; exact List.sublist_append_right B As.flatten⟩
    | succ i =>
      obtain ⟨As', h1, h2⟩ := ih i
      exact ⟨B :: As', .some r h1, by rw [List.flatten_cons, List.flatten_cons]; exact List.Sublist.append_left h2 B⟩
theorem Stt.wipe (S : Stt K ω ρ σ F H As) (vs : List Nat) : ∃ As', Stt K ω (wipeE ρ vs) (L2.wipe σ vs) F H As' := by
  induction vs with
  | nil => exact ⟨As, S⟩
  | cons v vs ih =>
    obtain ⟨A1, S1⟩ := ih
    obtain ⟨A2, h1, h2⟩ := S1.sl.setNone v
    exact ⟨A2, S1.ex, h1, h2.nodup S1.nd⟩
/-- a name takes what is not one's own -/
theorem Sl.setFz (h : Sl K F H ω ρ σ As) {i : Nat} {d : D} {v : V} (r : Rep K F d v) (hi : ω[i]? = Option.some .fz) : Sl K F H ω (ρ.set i (Option.some d)) (σ.set i (Option.some v)) As := by
  induction h generalizing i with
  | nil => exact .nil
  | @none o ω ρ x σ As h ih =>
    cases i with
    | zero =>
      simp at hi
      subst hi
      exact .some ⟨r, rfl⟩ h
    | succ i => exact .none (ih (by simpa using hi))
  | @some o ω d ρ v σ B As r' h ih =>
    cases i with
    | zero =>
      simp at hi
      subst hi
      obtain ⟨_, rfl⟩ := r'
      exact .some ⟨r, rfl⟩ h
    | succ i => exact .some r' (ih (by simpa using hi))
theorem Stt.setFz (S : Stt K ω ρ σ F H As) {i : Nat} {d : D} {v : V} (r : Rep K F d v) (hi : ω[i]? = some .fz) : Stt K ω (ρ.set i (some d)) (σ.set i (some v)) F H As := ⟨S.ex, S.sl.setFz r hi, S.nd⟩
end
/-- what a target does in a comprehension or a loop: all that it stores is not one's own -/
def SemG (mg : Str → Option Value) (E : XK) (K : PySem.W.Frag) (W : List Nat) (ω : List O) (g : TG) (set : D → Env → R Env) : Prop :=
  ∀ σ ρ F H As d v (Q : L2.St → Hp → Prop), Stt K ω ρ σ F H As → Rep K F d v → (match set d ρ with
    | .ok ρ' => ∀ σ', Stt K ω ρ' σ' F H As → (∀ j, j ∉ W → σ'[j]? = σ[j]?) → Q σ' H
    | .exc _ => False
    | .no => False) → g v σ H Q
structure DG (X : Cx) (E : XK) (W : List Nat) (ω : List O) (tg : Expr) (g : TG) (set : D → Env → R Env) : Prop where
  pg : PG X tg g
  sem : SemG X.mg E X.K W ω g set
  nex : ∀ d ρ c, set d ρ ≠ .exc c
theorem set_off {W : List Nat} {σ : L2.St} {i : Nat} {v : Option V} (hW : W.contains i = true) : ∀ j, j ∉ W → (σ.set i v)[j]? = σ[j]? := fun j hj => by
  rw [List.getElem?_set_ne]
  intro e
  subst e
  exact hj (List.contains_iff_mem.mp hW)
theorem semG_name {mg : Str → Option Value} {E : XK} {K : PySem.W.Frag} {W : List Nat} {ω : List O} {i : Nat} (hi : ω[i]? = some .fz) (hW : W.contains i = true) : SemG mg E K W ω (gName i) (setN i) := fun σ ρ F H As d v Q S r p => p _ (S.setFz r hi) (set_off hW)
section
variable {X : Cx} {E : XK} {ω : List O} {elt tg iter : Expr} {ifs : List Expr} {scope : Scope} {own : List (Str × Nat)} {pos : Pos} {wi : TI} {tt : TT} {te : TE} {fi : Env → R (List D)} {fc : Env → R Bool} {fe : Env → R D} {i : Nat}
structure DTs (X : Cx) (E : XK) (ω : List O) (ifs : List Expr) (t : TT) (f : Env → R Bool) : Prop where
  pts : PTs X ifs t
  sem : SemT X.mg E X.K ω t f
theorem dts_nil : DTs X E ω [] tYes cYes := ⟨pts_nil, fun σ ρ F H As Q S p => p F H (Grow.refl S.ex)⟩
theorem dts_one {c : Expr} (h : DT X E ω c tt fc) : DTs X E ω [c] tt fc := ⟨pts_one h.pt, h.sem⟩

theorem lc_sem {mg : Str → Option Value} {K : PySem.W.Frag} (hi : ω[i]? = some .fz) (hvs : (own.map (·.2)).contains i = true) (hw : ∀ (σ : L2.St) x, L2.wipe ((L2.wipe σ (own.map (·.2))).set i (some x)) (own.map (·.2)) = L2.wipe σ (own.map (·.2)))
    (ti : SemI mg E K ω wi fi) (tc : SemT mg E K ω tt fc) (tel : Sem mg E K ω te fe .fz []) : Sem mg E K ω (tLc wi (gName i) tt te (own.map (·.2))) (eLc fi (own.map (·.2)) (setN i) fc fe) (.own .fz) [] := fun σ ρ F H As Q S p => by
  refine ti σ ρ F H As _ S ?_
  unfold eLc at p
  cases hfi : fi ρ with
  | exc c => rw [hfi] at p; exact p
  | no => rw [hfi] at p; exact p
  | ok xs =>
    rw [hfi] at p
    intro J F1 H1 g1 it Ld hD
    have hz : xs.length ≤ 1000000 := by
      by_cases h : xs.length ≤ 1000000
      · exact h
      · rw [ok_bind, if_neg h] at p
        exact p.elim
    rw [ok_bind, if_pos hz] at p
    obtain ⟨vs, hr, hgo, hst⟩ := it
    have hn := hr.length
    obtain ⟨As', S'⟩ := (S.grow g1).wipe (own.map (·.2))
    have FD : F1 Ld = none := g1.fh.free hD
    -- the invariant: what is made stands at Ld, the rest is to come
    refine ⟨fun n m H' => m = xs.length - n ∧ n ≤ xs.length ∧ ∃ F' acc ws, Same F1 F' ∧ Same F' H' ∧ (∀ x o, x ≠ Ld → H1 x = some o → H' x = some o) ∧ (∀ x, F1 x = none → H1 x ≠ none → F' x = none) ∧ F' Ld = none ∧ H' Ld = some (.lst ws) ∧ Reps K F' acc ws ∧ acc.length ≤ n ∧
      Pst mg E K (.own .fz) As [] F1 H1 Q (lcD (setN i) fc fe (wipeE ρ (own.map (·.2))) (xs.drop n) >>= fun ds => .ok (.lst (acc ++ ds))), ⟨xs.length, rfl, Nat.zero_le _, F1, [], [], Same.refl _, (Grow.newO g1.fh hD).fh, fun x o hx h => by rw [upd_ne hx]; exact h, fun x h _ => h, FD, upd_same, rfl, Nat.le_refl _, ?_⟩, ?_⟩
    · simpa using p.grow g1
    · rintro j m H' ⟨rfl, hj, F', acc, ws, e1, e2, e3, e4, e5, e6, e7, e8, p'⟩
      have exH : Same F1 H' := e1.trans e2
      have growJ : Grow F1 H1 F' H' := ⟨e1, fun x o h => e3 x o (fun q => by subst q; rw [hD] at h; cases h) h, e2, e4⟩
      by_cases hlt : j < xs.length
      · refine .inr ⟨(hgo j H' exH (by rw [hn]; exact hlt)).1, _, fun H'' q => q, fun x H'' y => ?_⟩
        obtain ⟨rfl, hx⟩ := (hgo j H' exH (by rw [hn]; exact hlt)).2 x H'' y
        obtain ⟨d, hd, rd⟩ := hr.get' hx
        have hdrop : xs.drop j = d :: xs.drop (j + 1) := by
          rw [List.drop_eq_getElem_cons hlt]
          congr 1
          rw [List.getElem?_eq_getElem hlt] at hd
          exact Option.some.inj hd
        rw [hdrop] at p'
        -- the frame as it stands in this turn: the list at Ld is nobody's
        have S1 : Stt K ω (wipeE ρ (own.map (·.2))) (L2.wipe σ (own.map (·.2))) F' H'' As' := S'.grow growJ
        have S2 := S1.setFz (i := i) (Rep.mono e1 d x rd) hi
        refine ⟨hw σ x, ?_⟩
        -- p' : set, test, element, rest
        have p2 : Pst mg E K (.own .fz) As [] F1 H1 Q (fc ((wipeE ρ (own.map (·.2))).set i (some d)) >>= fun b => (if b = true then fe ((wipeE ρ (own.map (·.2))).set i (some d)) >>= fun d' => lcD (setN i) fc fe (wipeE ρ (own.map (·.2))) (xs.drop (j + 1)) >>= fun ds => .ok (d' :: ds) else lcD (setN i) fc fe (wipeE ρ (own.map (·.2))) (xs.drop (j + 1))) >>= fun ds => .ok (.lst (acc ++ ds))) := by
          have e : (lcD (setN i) fc fe (wipeE ρ (own.map (·.2))) (d :: xs.drop (j + 1)) >>= fun ds => R.ok (Dn.D.lst (acc ++ ds))) = _ := rfl
          cases hc : fc ((wipeE ρ (own.map (·.2))).set i (some d)) with
          | ok b =>
            have e' : lcD (setN i) fc fe (wipeE ρ (own.map (·.2))) (d :: xs.drop (j + 1)) = (if b = true then fe ((wipeE ρ (own.map (·.2))).set i (some d)) >>= fun d' => lcD (setN i) fc fe (wipeE ρ (own.map (·.2))) (xs.drop (j + 1)) >>= fun ds => .ok (d' :: ds) else lcD (setN i) fc fe (wipeE ρ (own.map (·.2))) (xs.drop (j + 1))) := by
              show (setN i d (wipeE ρ (own.map (·.2))) >>= fun ρ' => fc ρ' >>= fun b => _) = _
              unfold setN
              rw [ok_bind, hc, ok_bind]
            rw [e'] at p'
            exact p'
          | exc c =>
            have e' : lcD (setN i) fc fe (wipeE ρ (own.map (·.2))) (d :: xs.drop (j + 1)) = .exc c := by
              show (setN i d (wipeE ρ (own.map (·.2))) >>= fun ρ' => fc ρ' >>= fun b => _) = _
              unfold setN
              rw [ok_bind, hc, exc_bind]
            rw [e'] at p'
            exact p'
          | no =>
            have e' : lcD (setN i) fc fe (wipeE ρ (own.map (·.2))) (d :: xs.drop (j + 1)) = .no := by
              show (setN i d (wipeE ρ (own.map (·.2))) >>= fun ρ' => fc ρ' >>= fun b => _) = _
              unfold setN
              rw [ok_bind, hc, no_bind]
            rw [e'] at p'
            exact p'
        refine tc _ _ F' H'' As' _ S2 ?_
        cases hc : fc ((wipeE ρ (own.map (·.2))).set i (some d)) with
        | exc c =>
          rw [hc] at p2
          exact fun H3 q => p2 H3 (growJ.hh.trans q)
        | no => rw [hc] at p2; exact p2.elim
        | ok b =>
          rw [hc, ok_bind] at p2
          intro F3 H3 g3
          cases b with
          | false =>
            rw [if_neg Bool.false_ne_true] at p2 ⊢
            exact ⟨_, Nat.sub_lt_sub_left hlt (Nat.lt_succ_self j), rfl, hlt, F3, acc, ws, e1.trans g3.ff, g3.fh, fun x o h1 h2 => g3.hh _ _ (e3 x o h1 h2), fun x h1 h2 => g3.sep x (e4 x h1 h2) (there growJ.hh h2), g3.sep Ld e5 (by rw [e6]; simp), g3.hh _ _ e6, Reps.mono g3.ff _ _ e7, Nat.le_succ_of_le e8, p2⟩
          | true =>
            rw [if_pos rfl] at p2 ⊢
            refine tel _ _ F3 H3 As' _ (S2.grow g3) ?_
            cases hfe : fe ((wipeE ρ (own.map (·.2))).set i (some d)) with
            | exc c =>
              rw [hfe] at p2
              exact fun H4 q => p2 H4 ((growJ.hh.trans g3.hh).trans q)
            | no => rw [hfe] at p2; exact p2.elim
            | ok d' =>
              rw [hfe, ok_bind] at p2
              intro y' F4 H4 B4 g4 r4 _ _
              have e64 : H4 Ld = some (.lst ws) := g4.hh _ _ (g3.hh _ _ e6)
              have F4D : F4 Ld = none := g4.sep Ld (g3.sep Ld e5 (by rw [e6]; simp)) (by rw [g3.hh _ _ e6]; simp)
              have len : ws.length ≤ j := by rw [e7.length]; exact e8
              refine ⟨ws, e64, by rw [← most_eq]; exact Nat.lt_of_le_of_lt len (Nat.lt_of_lt_of_le hlt (Nat.le_trans hz (by decide))), _, Nat.sub_lt_sub_left hlt (Nat.lt_succ_self j), rfl, hlt, F4, acc ++ [d'], ws ++ [y'], (e1.trans g3.ff).trans g4.ff, fun x o h => ?_, fun x o h1 h2 => ?_, fun x h1 h2 => ?_, F4D, upd_same, (Reps.mono (g3.ff.trans g4.ff) _ _ e7).snoc r4.1, ?_, ?_⟩
              · have : x ≠ Ld := fun q => by subst q; rw [F4D] at h; cases h
                rw [upd_ne this]
                exact g4.fh _ _ h
              · rw [upd_ne h1]
                exact g4.hh _ _ (g3.hh _ _ (e3 x o h1 h2))
              · exact g4.sep x (g3.sep x (e4 x h1 h2) (there growJ.hh h2)) (there (growJ.hh.trans g3.hh) h2)
              · rw [List.length_append]
                exact Nat.succ_le_succ e8
              · have e : (lcD (setN i) fc fe (wipeE ρ (own.map (·.2))) (xs.drop (j + 1)) >>= fun ds => R.ok (Dn.D.lst (acc ++ [d'] ++ ds))) = ((lcD (setN i) fc fe (wipeE ρ (own.map (·.2))) (xs.drop (j + 1)) >>= fun ds => R.ok (d' :: ds)) >>= fun ds => R.ok (Dn.D.lst (acc ++ ds))) := by
                  cases lcD (setN i) fc fe (wipeE ρ (own.map (·.2))) (xs.drop (j + 1)) with
                  | ok ds => simp
                  | exc c => rfl
                  | no => rfl
                rw [e]
                exact p2
      · have ej : j = xs.length := by omega
        subst ej
        refine .inl ⟨hst _ H' exH (by rw [hn]; exact Nat.le_refl _), ?_⟩
        rw [List.drop_length] at p'
        have p2 : Pst mg E K (.own .fz) As [] F1 H1 Q (.ok (.lst acc)) := by
          have e : (lcD (setN i) fc fe (wipeE ρ (own.map (·.2))) [] >>= fun ds => R.ok (Dn.D.lst (acc ++ ds))) = R.ok (.lst acc) := by
            show R.ok (Dn.D.lst (acc ++ [])) = _
            rw [List.append_nil]
          rw [e] at p'
          exact p'
        exact p2 (.ref Ld) F' H' [Ld] growJ (.inl ⟨acc, Ld, ws, [], rfl, rfl, e5, e6, rfl, allO_of e7⟩) (fun x hx => .inl (by rw [List.mem_singleton.mp hx]; exact hD)) (by simp)
/-- [elt for x in iter if ..] -/
theorem de_lc (hc : X.calm = true) (hN : X.N.Nodup) (hi : ω[i]? = some .fz) (hvs : (own.map (·.2)).contains i = true) (hw : ∀ (σ : L2.St) x, L2.wipe ((L2.wipe σ (own.map (·.2))).set i (some x)) (own.map (·.2)) = L2.wipe σ (own.map (·.2))) (ti : DI X E ω tg iter wi fi) (ok : BlkOk X.N X.env.scope scope own)
    (hg : ∀ (s : Shared) (H : Hp) (C : Addr) (cl : List (Str × Addr)) (fp : List Addr), PG (X.blk s H scope (compEnvC scope cl C X.env) fp) tg (gName i)) (ht : ∀ (s : Shared) (H : Hp) (C : Addr) (cl : List (Str × Addr)) (fp : List Addr), DTs (X.blk s H scope (compEnvC scope cl C X.env) fp) E ω ifs tt fc)
    (he : ∀ (s : Shared) (H : Hp) (C : Addr) (cl : List (Str × Addr)) (fp : List Addr), DE (X.blk s H scope (compEnvC scope cl C X.env) fp) E ω elt te fe .fz []) (hs : ∀ x, foldedSetIterable iter X.env x = pure x := by intro _; rfl) :
    DE X E ω (.ListComp elt [⟨tg, iter, ifs, 0⟩] scope pos) (tLc wi (gName i) tt te (own.map (·.2))) (eLc fi (own.map (·.2)) (setN i) fc fe) (.own .fz) [] := by
  refine ⟨pe_lc hc hN ti.pi ok hg (fun s H C cl fp => (ht s H C cl fp).pts) (fun s H C cl fp => (he s H C cl fp).pe) hs, ?_⟩
  exact lc_sem hi hvs hw ti.sem (ht {} (fun _ => none) 0 [] []).sem (he {} (fun _ => none) 0 [] []).sem
end
end Dn

/-! Statements over data. -/
namespace Dn
open PySem L2 PyProof.Rows

inductive Fl where
  | nx (ρ : Env) | rt (d : D) (ρ : Env)
/-- the names that a def stores; those of its arguments that it changes -/
structure Cfg where
  W : List Nat
  io : List Nat
def O.isOwn : O → Bool
  | .own .fz => true
  | _ => false
def ioOk (io : List Nat) (ω : List O) : Bool := io.all fun i => match ω[i]? with
  | some o => o.isOwn
  | none => false
/-- grown, where what was owned may have changed -/
structure GrowA (A : List Addr) (F H F' H' : Hp) (A' : List Addr) : Prop where
  ff : Same F F'
  fh : Same F' H'
  keep : ∀ x o, H x = some o → x ∉ A → H' x = some o
  th : ∀ x, H x ≠ none → H' x ≠ none
  sep : ∀ x, F x = none → H x ≠ none → x ∉ A → F' x = none
  new : ∀ x ∈ A', x ∈ A ∨ H x = none
section
variable {mg : Str → Option Value} {E : XK} {K : PySem.W.Frag} {F F' H H' F1 H1 F2 H2 : Hp} {ω ω' : List O} {ρ : Env} {σ : L2.St} {As : List (List Addr)} {A A1 A2 : List Addr} {o o' : O} {M M' : List Nat}
theorem GrowA.of (g : Grow F H F1 H1) (h : ∀ x ∈ A1, x ∈ A ∨ H x = none) : GrowA A F H F1 H1 A1 := ⟨g.ff, g.fh, fun x o q _ => g.hh x o q, fun x q => there g.hh q, fun x q1 q2 _ => g.sep x q1 q2, h⟩
theorem GrowA.refl (e : Same F H) : GrowA A F H F H A := .of (Grow.refl e) fun _ h => .inl h
theorem GrowA.trans (a : GrowA A F H F1 H1 A1) (b : GrowA A1 F1 H1 F2 H2 A2) : GrowA A F H F2 H2 A2 := by
  have nA : ∀ x, H x ≠ none → x ∉ A → x ∉ A1 := fun x h1 h2 h3 => by
    rcases a.new x h3 with q | q
    · exact h2 q
    · exact h1 q
  refine ⟨a.ff.trans b.ff, b.fh, fun x o q h => b.keep x o (a.keep x o q h) (nA x (by rw [q]; simp) h), fun x q => b.th x (a.th x q), fun x h1 h2 h3 => b.sep x (a.sep x h1 h2 h3) (a.th x h2) (nA x h2 h3), fun x h => ?_⟩
  rcases b.new x h with q | q
  · exact a.new x q
  · cases hx : H x with
    | none => exact .inr rfl
    | some o => exact absurd q (a.th x (by rw [hx]; simp))
theorem GrowA.sub {A' : List Addr} (a : GrowA A F H F1 H1 A1) (h : ∀ x ∈ A', x ∈ A1) : GrowA A F H F1 H1 A' := ⟨a.ff, a.fh, a.keep, a.th, a.sep, fun x q => a.new x (h x q)⟩
/-- with nothing owned at the start nothing has changed -/
theorem GrowA.grow (a : GrowA [] F H F1 H1 A1) : Grow F H F1 H1 := ⟨a.ff, fun x o q => a.keep x o q (by simp), a.fh, fun x h1 h2 => a.sep x h1 h2 (by simp)⟩

/-- .. the names' values, but for those stored, as they were -/
structure GS (W : List Nat) (σ : L2.St) (A : List Addr) (F H : Hp) (σ' : L2.St) (F' H' : Hp) (A' : List Addr) : Prop where
  g : GrowA A F H F' H' A'
  ag : ∀ i, i ∉ W → σ'[i]? = σ[i]?
theorem GS.same {W : List Nat} {A' : List Addr} (g : GrowA A F H F' H' A') : GS W σ A F H σ F' H' A' := ⟨g, fun _ _ => rfl⟩
theorem GS.trans {W : List Nat} {σ1 σ2 : L2.St} (a : GS W σ A F H σ1 F1 H1 A1) (b : GS W σ1 A1 F1 H1 σ2 F2 H2 A2) : GS W σ A F H σ2 F2 H2 A2 := ⟨a.g.trans b.g, fun i hi => (b.ag i hi).trans (a.ag i hi)⟩
def PstS (mg : Str → Option Value) (E : XK) (K : PySem.W.Frag) (c : Cfg) (ω' : List O) (or : O) (σ : L2.St) (A : List Addr) (F H : Hp) (Dd : Ends) : R Fl → Prop
  | .ok (.nx ρ') => ∀ σ' F' H' As', Stt K ω' ρ' σ' F' H' As' → GS c.W σ A F H σ' F' H' As'.flatten → Dd.nx σ' H'
  | .ok (.rt d ρ') => ∀ v σ' F' H' B As' ω'', RepO K F' H' or d v B → B.Nodup → (∀ x ∈ B, x ∉ As'.flatten) → Stt K ω'' ρ' σ' F' H' As' → ioOk c.io ω'' = true → GS c.W σ A F H σ' F' H' (B ++ As'.flatten) → Dd.rt v H'
  | .exc e => ∀ H', (∀ x o, H x = some o → x ∉ A → H' x = some o) → E (clsOf mg e) none H'
  | .no => False
def SemS (mg : Str → Option Value) (E : XK) (K : PySem.W.Frag) (c : Cfg) (ω : List O) (t : TS) (f : Env → R Fl) (ω' : List O) (or : O) : Prop := ∀ σ ρ F H As Dd, Stt K ω ρ σ F H As → PstS mg E K c ω' or σ As.flatten F H Dd (f ρ) → t Dd σ H
theorem PstS.grow {c : Cfg} {Dd : Ends} {r : R Fl} {σ1 : L2.St} (g : GS c.W σ A F H σ1 F1 H1 A1) (p : PstS mg E K c ω o σ A F H Dd r) : PstS mg E K c ω o σ1 A1 F1 H1 Dd r := by
  cases r with
  | ok fl =>
    cases fl with
    | nx ρ' => exact fun σ' F' H' As' S q => p σ' F' H' As' S (g.trans q)
    | rt d ρ' => exact fun v σ' F' H' B As' w r n ap S i q => p v σ' F' H' B As' w r n ap S i (g.trans q)
  | exc e =>
    refine fun H' q => p H' fun x o h1 h2 => q x o (g.g.keep x o h1 h2) fun h3 => ?_
    rcases g.g.new x h3 with z | z
    · exact h2 z
    · rw [h1] at z; cases z
  | no => exact p
theorem PstS.growG {c : Cfg} {Dd : Ends} {r : R Fl} (g : Grow F H F1 H1) (p : PstS mg E K c ω o σ A F H Dd r) : PstS mg E K c ω o σ A F1 H1 Dd r := p.grow (.same (.of g fun x h => .inl h))
end
structure DS (X : Cx) (E : XK) (c : Cfg) (ω : List O) (st : Stmt) (t : TS) (f : Env → R Fl) (ω' : List O) (or : O) : Prop where
  ps : PS X st t
  sem : SemS X.mg E X.K c ω t f ω' or
structure DSs (X : Cx) (E : XK) (c : Cfg) (ω : List O) (st : List Stmt) (t : TS) (f : Env → R Fl) (ω' : List O) (or : O) : Prop where
  pss : PSs X st t
  sem : SemS X.mg E X.K c ω t f ω' or

/-! ### one after another -/
def sNext (ρ : Env) : R Fl := .ok (.nx ρ)
def sSeq (f g : Env → R Fl) (ρ : Env) : R Fl := f ρ >>= fun fl => match fl with
  | .nx ρ' => g ρ'
  | .rt d ρ' => .ok (.rt d ρ')
section
variable {X : Cx} {E : XK} {c : Cfg} {ω ω1 ω' : List O} {st : Stmt} {sts : List Stmt} {e a b : Expr} {es : List Expr} {t u : TS} {te ta tb : TE} {f g : Env → R Fl} {fe fa fb : Env → R D} {o or : O} {M : List Nat} {pos : Pos}
theorem sem_seq {mg : Str → Option Value} {K : PySem.W.Frag} (h : SemS mg E K c ω t f ω1 or) (h' : SemS mg E K c ω1 u g ω' or) : SemS mg E K c ω (tSeq t u) (sSeq f g) ω' or := fun σ ρ F H As Dd S p => by
  refine h σ ρ F H As _ S ?_
  unfold sSeq at p
  cases hf : f ρ with
  | ok fl =>
    rw [hf] at p
    cases fl with
    | nx ρ' => exact fun σ' F' H' As' S' q => h' σ' ρ' F' H' As' Dd S' (PstS.grow q p)
    | rt d ρ' => exact p
  | exc c => rw [hf] at p; exact p
  | no => rw [hf] at p; exact p
theorem dss_cons (h : DS X E c ω st t f ω1 or) (h' : DSs X E c ω1 sts u g ω' or) : DSs X E c ω (st :: sts) (tSeq t u) (sSeq f g) ω' or := ⟨pss_cons h.ps h'.pss, sem_seq h.sem h'.sem⟩
theorem dss_one (h : DS X E c ω st t f ω' or) : DSs X E c ω [st] t f ω' or := ⟨pss_one h.ps, h.sem⟩
theorem sem_next {mg : Str → Option Value} {K : PySem.W.Frag} : SemS mg E K c ω tNext sNext ω or := fun σ ρ F H As Dd S p => p σ F H As S (.same (GrowA.refl S.ex))
theorem dss_nil : DSs X E c ω [] tNext sNext ω or := ⟨pss_nil, sem_next⟩
theorem ds_pass : DS X E c ω (.Pass pos) tNext sNext ω or := ⟨ps_pass, sem_next⟩
theorem ds_doc {x j pos'} : DS X E c ω (.Expr (.Constant (.str x) j pos) pos') tNext sNext ω or := ⟨ps_doc, sem_next⟩

/-! ### what is owned counted as frozen from here on -/
/-- fewer things owned -/
inductive Froze : List O → List O → Prop where
  | nil : Froze [] []
  | same {o' : O} {r r' : List O} : Froze r r' → Froze (o' :: r) (o' :: r')
  | fz {o' : O} {r r' : List O} : Froze r r' → Froze (o' :: r) (.fz :: r')
theorem Sl.froze {K : PySem.W.Frag} {F H : Hp} {ω ω' : List O} {ρ : Env} {σ : L2.St} {As : List (List Addr)} (z : Froze ω ω') (S : Sl K F H ω ρ σ As) (e : Same F H) (nd : As.flatten.Nodup) :
    ∃ C As', (∀ x ∈ C, x ∈ As.flatten) ∧ (∀ x ∈ As'.flatten, x ∈ As.flatten ∧ x ∉ C) ∧ As'.flatten.Nodup ∧ Sl K (thawed F H C) H ω' ρ σ As' := by
  induction z generalizing ρ σ As with
  | nil =>
    cases S
    exact ⟨[], [], by simp, by simp, List.nodup_nil, .nil⟩
  | @same o ω ω' z ih =>
    cases S with
    | none S =>
      obtain ⟨C, As', h1, h2, h3, h4⟩ := ih S nd
      exact ⟨C, [] :: As', h1, h2, h3, .none h4⟩
    | @some _ _ d ρ v σ B As r S =>
      rw [List.flatten_cons] at nd
      obtain ⟨n1, n2, n3⟩ := List.nodup_append.mp nd
      obtain ⟨C, As', h1, h2, h3, h4⟩ := ih S n2
      have nB : ∀ x ∈ B, x ∉ C := fun x hx hc => n3 x hx x (h1 x hc) rfl
      have hC : ∀ x ∈ C, F x = Option.none := fun x hx => (S.mem (h1 x hx)).1
      refine ⟨C, B :: As', fun x hx => ?_, fun x hx => ?_, ?_, .some (RepO.keep o d v B (thawed_same hC) (fun x hx => ⟨?_, rfl⟩) r) h4⟩
      · rw [List.flatten_cons]; exact List.mem_append_right _ (h1 x hx)
      · rw [List.flatten_cons] at hx ⊢
        rcases List.mem_append.mp hx with hx | hx
        · exact ⟨List.mem_append_left _ hx, nB x hx⟩
        · exact ⟨List.mem_append_right _ (h2 x hx).1, (h2 x hx).2⟩
      · rw [List.flatten_cons]
        exact List.nodup_append.mpr ⟨n1, h3, fun x hx y hy => n3 x hx y (h2 y hy).1⟩
      · rw [thawed_out (nB x hx)]
        exact (RepO.mem _ _ _ _ r hx).1
  | @fz o ω ω' z ih =>
    cases S with
    | none S =>
      obtain ⟨C, As', h1, h2, h3, h4⟩ := ih S nd
      exact ⟨C, [] :: As', h1, h2, h3, .none h4⟩
    | @some _ _ d ρ v σ B As r S =>
      rw [List.flatten_cons] at nd
      obtain ⟨n1, n2, n3⟩ := List.nodup_append.mp nd
      obtain ⟨C, As', h1, h2, h3, h4⟩ := ih S n2
      have hC : ∀ x ∈ C, F x = Option.none := fun x hx => (S.mem (h1 x hx)).1
      have hBC : ∀ x ∈ B ++ C, F x = Option.none := fun x hx => by
        rcases List.mem_append.mp hx with hx | hx
        · exact (RepO.mem _ _ _ _ r hx).1
        · exact hC x hx
      refine ⟨B ++ C, [] :: As', fun x hx => ?_, fun x hx => ?_, by simpa using h3, .some ⟨RepO.thaw o d v B (thawed_same hBC) (fun x hx => thawed_in (List.mem_append_left _ hx)) r, rfl⟩ (h4.keep (fun x o q => ?_) fun x hx => ⟨?_, rfl⟩)⟩
      · rw [List.flatten_cons]
        rcases List.mem_append.mp hx with hx | hx
        · exact List.mem_append_left _ hx
        · exact List.mem_append_right _ (h1 x hx)
      · have hx' : x ∈ As'.flatten := by simpa using hx
        rw [List.flatten_cons]
        refine ⟨List.mem_append_right _ (h2 x hx').1, fun hc => ?_⟩
        rcases List.mem_append.mp hc with hc | hc
        · exact n3 x hc x (h2 x hx').1 rfl
        · exact (h2 x hx').2 hc
      · by_cases hc : x ∈ C
        · rw [thawed_in hc] at q
          rw [thawed_in (List.mem_append_right _ hc)]
          exact q
        · rw [thawed_out hc] at q
          by_cases hb : x ∈ B
          · rw [(RepO.mem _ _ _ _ r hb).1] at q
            cases q
          · rw [thawed_out (fun h => (List.mem_append.mp h).elim hb hc)]
            exact q
      · have q := h4.mem hx
        have nc := (h2 x hx).2
        have nb : x ∉ B := fun hb => n3 x hb x (h2 x hx).1 rfl
        rw [thawed_out (fun h => (List.mem_append.mp h).elim nb nc)]
        rw [thawed_out nc] at q
        exact q.1
theorem Stt.froze {K : PySem.W.Frag} {F H : Hp} {ω ω' : List O} {ρ : Env} {σ : L2.St} {As : List (List Addr)} (z : Froze ω ω') (S : Stt K ω ρ σ F H As) : ∃ F' As', Stt K ω' ρ σ F' H As' ∧ GrowA As.flatten F H F' H As'.flatten := by
  obtain ⟨C, As', h1, h2, h3, h4⟩ := S.sl.froze z S.ex S.nd
  have hC : ∀ x ∈ C, F x = none := fun x hx => (S.sl.mem (h1 x hx)).1
  refine ⟨thawed F H C, As', ⟨thawed_heap S.ex, h4, h3⟩, thawed_same hC, thawed_heap S.ex, fun x o q _ => q, fun x q => q, fun x q1 q2 q3 => ?_, fun x hx => .inl (h2 x hx).1⟩
  rw [thawed_out (fun hc => q3 (h1 x hc))]
  exact q1
theorem sem_froze {mg : Str → Option Value} {K : PySem.W.Frag} (z : Froze ω ω1) (h : SemS mg E K c ω1 t f ω' or) : SemS mg E K c ω t f ω' or := fun σ ρ F H As Dd S p => by
  obtain ⟨F', As', S', g⟩ := S.froze z
  exact h σ ρ F' H As' Dd S' (PstS.grow (.same g) p)
theorem dss_froze (z : Froze ω ω1) (h : DSs X E c ω1 sts t f ω' or) : DSs X E c ω sts t f ω' or := ⟨h.pss, sem_froze z h.sem⟩
theorem ds_froze (z : Froze ω ω1) (h : DS X E c ω1 st t f ω' or) : DS X E c ω st t f ω' or := ⟨h.ps, sem_froze z h.sem⟩

/-! ### name = value -/
def hideE (ρ : Env) : List Nat → Env
  | [] => ρ
  | v :: vs => (hideE ρ vs).set v none
def sAsg (i : Nat) (M : List Nat) (f : Env → R D) (ρ : Env) : R Fl := f ρ >>= fun d => .ok (.nx ((hideE ρ M).set i (some d)))
theorem Sl.hide {K : PySem.W.Frag} {F H : Hp} {ω : List O} {ρ : Env} {σ : L2.St} {As : List (List Addr)} (h : Sl K F H ω ρ σ As) (i : Nat) : Sl K F H ω (ρ.set i Option.none) σ (As.set i []) := by
  induction h generalizing i with
  | nil => exact .nil
  | none h ih =>
    cases i with
    | zero => exact .none h
    | succ i => exact .none (ih i)
  | some r h ih =>
    cases i with
    | zero => exact .none h
    | succ i => exact .some r (ih i)
def emptied (As : List (List Addr)) : List Nat → List (List Addr)
  | [] => As
  | v :: vs => (emptied As vs).set v []
theorem Sl.hides {K : PySem.W.Frag} {F H : Hp} {ω : List O} {ρ : Env} {σ : L2.St} {As : List (List Addr)} (h : Sl K F H ω ρ σ As) : ∀ M, Sl K F H ω (hideE ρ M) σ (emptied As M)
  | [] => h
  | i :: M => (Sl.hides h M).hide i
theorem flat_set {As : List (List Addr)} {i : Nat} {C : List Addr} {x : Addr} (h : x ∈ (As.set i C).flatten) : x ∈ C ∨ ∃ j B, j ≠ i ∧ As[j]? = some B ∧ x ∈ B := by
  induction As generalizing i with
  | nil => simp at h
  | cons a r ih =>
    cases i with
    | zero =>
      rw [List.set_cons_zero, List.flatten_cons] at h
      rcases List.mem_append.mp h with h | h
      · exact .inl h
      · obtain ⟨B, hB, hx⟩ := List.mem_flatten.mp h
        obtain ⟨j, hj⟩ := List.getElem?_of_mem hB
        exact .inr ⟨j + 1, B, by simp, by simpa using hj, hx⟩
    | succ i =>
      rw [List.set_cons_succ, List.flatten_cons] at h
      rcases List.mem_append.mp h with h | h
      · exact .inr ⟨0, a, by simp, rfl, h⟩
      · rcases ih h with q | ⟨j, B, h1, h2, h3⟩
        · exact .inl q
        · exact .inr ⟨j + 1, B, by simpa using h1, by simpa using h2, h3⟩
theorem flat_set_nd {As : List (List Addr)} {i : Nat} {C : List Addr} (nd : As.flatten.Nodup) (nC : C.Nodup) (ap : ∀ x ∈ C, ∀ j B, j ≠ i → As[j]? = some B → x ∉ B) : (As.set i C).flatten.Nodup := by
  induction As generalizing i with
  | nil => simpa using nd
  | cons a r ih =>
    rw [List.flatten_cons] at nd
    obtain ⟨n1, n2, n3⟩ := List.nodup_append.mp nd
    cases i with
    | zero =>
      rw [List.set_cons_zero, List.flatten_cons]
      refine List.nodup_append.mpr ⟨nC, n2, fun x hx y hy e => ?_⟩
      subst e
      obtain ⟨B, hB, hx'⟩ := List.mem_flatten.mp hy
      obtain ⟨j, hj⟩ := List.getElem?_of_mem hB
      exact ap x hx (j + 1) B (by simp) (by simpa using hj) hx'
    | succ i =>
      rw [List.set_cons_succ, List.flatten_cons]
      refine List.nodup_append.mpr ⟨n1, ih n2 fun x hx j B h1 h2 => ap x hx (j + 1) B (by simpa using h1) (by simpa using h2), fun x hx y hy e => ?_⟩
      subst e
      rcases flat_set hy with q | ⟨j, B, h1, h2, h3⟩
      · exact ap x q 0 a (by simp) rfl hx
      · exact n3 x hx x (List.mem_flatten.mpr ⟨B, List.mem_of_getElem? h2, h3⟩) rfl
theorem emptied_get {As : List (List Addr)} : ∀ {M : List Nat} {j : Nat} {B : List Addr} {x : Addr}, (emptied As M)[j]? = some B → x ∈ B → j ∉ M ∧ As[j]? = some B
  | [], j, B, x, h, hx => ⟨by simp, h⟩
  | i :: M, j, B, x, h, hx => by
    have h' : ((emptied As M).set i [])[j]? = some B := h
    by_cases e : i = j
    · subst e
      rw [List.getElem?_set] at h'
      rw [if_pos rfl] at h'
      split at h'
      · cases h'
        simp at hx
      · cases h'
    · rw [List.getElem?_set_ne e] at h'
      obtain ⟨h1, h2⟩ := emptied_get h' hx
      exact ⟨by simp [Ne.symm e, h1], h2⟩
theorem emptied_nd {As : List (List Addr)} (nd : As.flatten.Nodup) : ∀ M, (emptied As M).flatten.Nodup
  | [] => nd
  | i :: M => flat_set_nd (emptied_nd nd M) List.nodup_nil (by simp)
theorem Sl.put {K : PySem.W.Frag} {F H : Hp} {ω : List O} {ρ : Env} {σ : L2.St} {As : List (List Addr)} (h : Sl K F H ω ρ σ As) {i : Nat} {o : O} {d : D} {v : V} {B : List Addr} (r : RepO K F H o d v B) : Sl K F H (ω.set i o) (ρ.set i (Option.some d)) (σ.set i (Option.some v)) (As.set i B) := by
  induction h generalizing i with
  | nil => exact .nil
  | none h ih =>
    cases i with
    | zero => exact .some r h
    | succ i => exact .none ih
  | some r' h ih =>
    cases i with
    | zero => exact .some r h
    | succ i => exact .some r' ih
/-- a name takes a value, what the value was made of is given away -/
theorem Stt.take {K : PySem.W.Frag} {F H F1 H1 : Hp} {ω : List O} {ρ : Env} {σ : L2.St} {As : List (List Addr)} (S : Stt K ω ρ σ F H As) (g : Grow F H F1 H1) {i : Nat} {o : O} {d : D} {v : V} {B : List Addr} {M : List Nat} (r : RepO K F1 H1 o d v B) (hB : ∀ x ∈ B, H x = none ∨ OfM As M x) (nB : B.Nodup) :
    ∃ As', Stt K (ω.set i o) ((hideE ρ M).set i (some d)) (σ.set i (some v)) F1 H1 As' ∧ GrowA As.flatten F H F1 H1 As'.flatten := by
  have S1 := S.grow g
  refine ⟨(emptied As M).set i B, ⟨g.fh, (S1.sl.hides M).put r, flat_set_nd (emptied_nd S.nd M) nB fun x hx j C h1 h2 h3 => ?_⟩, .of g fun x hx => ?_⟩
  · obtain ⟨h4, h5⟩ := emptied_get h2 h3
    have hf : x ∈ As.flatten := List.mem_flatten.mpr ⟨C, List.mem_of_getElem? h5, h3⟩
    rcases hB x hx with q | ⟨k, hk, C', hC, xC⟩
    · exact (S.sl.mem hf).2 q
    · have := flat_apart S.nd hC h5 xC h3
      subst this
      exact h4 hk
  · rcases flat_set hx with q | ⟨j, C, h1, h2, h3⟩
    · exact (hB x q).elim (fun z => .inr z) fun z => .inl z.flat
    · exact .inl (List.mem_flatten.mpr ⟨C, List.mem_of_getElem? (emptied_get h2 h3).2, h3⟩)
theorem sem_asg {mg : Str → Option Value} {K : PySem.W.Frag} {i : Nat} (hW : c.W.contains i = true) (h : Sem mg E K ω te fe o M) : SemS mg E K c ω (tAsg te (gName i)) (sAsg i M fe) (ω.set i o) or := fun σ ρ F H As Dd S p => by
  refine h σ ρ F H As _ S ?_
  unfold sAsg at p
  cases hf : fe ρ with
  | ok d =>
    rw [hf] at p
    intro v F1 H1 B g r b n
    obtain ⟨As', S', g'⟩ := S.take g (i := i) r b n
    exact p _ F1 H1 As' S' ⟨g', set_off hW⟩
  | exc c => rw [hf] at p; exact fun H' q => p H' fun x o h1 _ => q x o h1
  | no => rw [hf] at p; exact p
theorem ds_set {i : Nat} {x : Str} {pos' : Pos} (hN : X.N.Nodup) (he : DE X E ω e te fe o M) (hx : Loc X.env.scope x := by first | exact Or.inl rfl | exact Or.inr rfl) (hi : X.N[i]? = some x := by rfl) (hs : swapsWith e (some (.Name x pos')) pos.line X.env = pure false := by rfl)
    (hf : X.fn x = true ∨ X.env.scope.names.lookup x = some .local := by first | exact .inl rfl | exact .inr rfl | assumption) (hW : c.W.contains i = true := by rfl) : DS X E c ω (.Assign [.Name x pos'] e pos) (tAsg te (gName i)) (sAsg i M fe) (ω.set i o) or :=
  ⟨ps_set hN hi hx he.pe hs hf, sem_asg hW he.sem⟩
/-- y = [elt for x in iter if ..] -/
theorem ds_setLc {i j : Nat} {y : Str} {py : Pos} {elt tg iter : Expr} {ifs : List Expr} {scope : Scope} {own : List (Str × Nat)} {spos : Pos} {wi : TI} {tt : TT} {te : TE} {fi : Env → R (List D)} {fc : Env → R Bool} {fe : Env → R D} (hc : X.calm = true) (hN : X.N.Nodup) (hi : ω[i]? = some .fz)
    (hvs : (own.map (·.2)).contains i = true) (hw : ∀ (σ : L2.St) x, L2.wipe ((L2.wipe σ (own.map (·.2))).set i (some x)) (own.map (·.2)) = L2.wipe σ (own.map (·.2))) (ti : DI X E ω tg iter wi fi) (ok : BlkOk X.N X.env.scope scope own)
    (hg : ∀ (s : Shared) (H : Hp) (C : Addr) (cl : List (Str × Addr)) (fp : List Addr), PG (X.blk s H scope (compEnvC scope cl C X.env) fp) tg (gName i)) (ht : ∀ (s : Shared) (H : Hp) (C : Addr) (cl : List (Str × Addr)) (fp : List Addr), DTs (X.blk s H scope (compEnvC scope cl C X.env) fp) E ω ifs tt fc)
    (he : ∀ (s : Shared) (H : Hp) (C : Addr) (cl : List (Str × Addr)) (fp : List Addr), DE (X.blk s H scope (compEnvC scope cl C X.env) fp) E ω elt te fe .fz []) (hy : X.N[j]? = some y := by rfl) (hyl : X.env.scope.names.lookup y = some .local := by rfl)
    (hsw : swapsWith (.ListComp elt [⟨tg, iter, ifs, 0⟩] scope pos) (some (.Name y py)) spos.line X.env = pure true := by exact sw_true rfl rfl rfl (by decide +kernel)) (hs : ∀ x, foldedSetIterable iter X.env x = pure x := by intro _; rfl) (hW : c.W.contains j = true := by rfl) :
    DS X E c ω (.Assign [.Name y py] (.ListComp elt [⟨tg, iter, ifs, 0⟩] scope pos) spos) (tAsg (tLc wi (gName i) tt te (own.map (·.2))) (gName j)) (sAsg j [] (eLc fi (own.map (·.2)) (setN i) fc fe)) (ω.set j (.own .fz)) or :=
  ⟨ps_setLc hc hN hy hyl hsw ti.pi ok hg (fun s H C cl fp => (ht s H C cl fp).pts) (fun s H C cl fp => (he s H C cl fp).pe) hs, sem_asg hW (lc_sem hi hvs hw ti.sem (ht {} (fun _ => none) 0 [] []).sem (he {} (fun _ => none) 0 [] []).sem)⟩
/-- .. all of it frozen at once -/
theorem ds_setLcF {i j : Nat} {y : Str} {py : Pos} {elt tg iter : Expr} {ifs : List Expr} {scope : Scope} {own : List (Str × Nat)} {spos : Pos} {wi : TI} {tt : TT} {te : TE} {fi : Env → R (List D)} {fc : Env → R Bool} {fe : Env → R D} (hc : X.calm = true) (hN : X.N.Nodup) (hi : ω[i]? = some .fz)
    (hvs : (own.map (·.2)).contains i = true) (hw : ∀ (σ : L2.St) x, L2.wipe ((L2.wipe σ (own.map (·.2))).set i (some x)) (own.map (·.2)) = L2.wipe σ (own.map (·.2))) (ti : DI X E ω tg iter wi fi) (ok : BlkOk X.N X.env.scope scope own)
    (hg : ∀ (s : Shared) (H : Hp) (C : Addr) (cl : List (Str × Addr)) (fp : List Addr), PG (X.blk s H scope (compEnvC scope cl C X.env) fp) tg (gName i)) (ht : ∀ (s : Shared) (H : Hp) (C : Addr) (cl : List (Str × Addr)) (fp : List Addr), DTs (X.blk s H scope (compEnvC scope cl C X.env) fp) E ω ifs tt fc)
    (he : ∀ (s : Shared) (H : Hp) (C : Addr) (cl : List (Str × Addr)) (fp : List Addr), DE (X.blk s H scope (compEnvC scope cl C X.env) fp) E ω elt te fe .fz []) (hy : X.N[j]? = some y := by rfl) (hyl : X.env.scope.names.lookup y = some .local := by rfl)
    (hsw : swapsWith (.ListComp elt [⟨tg, iter, ifs, 0⟩] scope pos) (some (.Name y py)) spos.line X.env = pure true := by exact sw_true rfl rfl rfl (by decide +kernel)) (hs : ∀ x, foldedSetIterable iter X.env x = pure x := by intro _; rfl) (hW : c.W.contains j = true := by rfl) :
    DS X E c ω (.Assign [.Name y py] (.ListComp elt [⟨tg, iter, ifs, 0⟩] scope pos) spos) (tAsg (tLc wi (gName i) tt te (own.map (·.2))) (gName j)) (sAsg j [] (eLc fi (own.map (·.2)) (setN i) fc fe)) (ω.set j .fz) or :=
  ⟨ps_setLc hc hN hy hyl hsw ti.pi ok hg (fun s H C cl fp => (ht s H C cl fp).pts) (fun s H C cl fp => (he s H C cl fp).pe) hs, sem_asg hW (sem_frz (lc_sem hi hvs hw ti.sem (ht {} (fun _ => none) 0 [] []).sem (he {} (fun _ => none) 0 [] []).sem))⟩

/-! ### return, if -/
def sRet (M : List Nat) (f : Env → R D) (ρ : Env) : R Fl := f ρ >>= fun d => .ok (.rt d (hideE ρ M))
theorem emptied_sub {As : List (List Addr)} {M : List Nat} {x : Addr} (hx : x ∈ (emptied As M).flatten) : x ∈ As.flatten := by
  obtain ⟨C, hC, hx'⟩ := List.mem_flatten.mp hx
  obtain ⟨j, hj⟩ := List.getElem?_of_mem hC
  exact List.mem_flatten.mpr ⟨C, List.mem_of_getElem? (emptied_get hj hx').2, hx'⟩
theorem emptied_apart {K : PySem.W.Frag} {F H : Hp} {ω : List O} {ρ : Env} {σ : L2.St} {As : List (List Addr)} {M : List Nat} {B : List Addr} (S : Stt K ω ρ σ F H As) (b : ∀ x ∈ B, H x = none ∨ OfM As M x) : ∀ x ∈ B, x ∉ (emptied As M).flatten := fun x hx hf => by
  obtain ⟨C, hC, hx'⟩ := List.mem_flatten.mp hf
  obtain ⟨j, hj⟩ := List.getElem?_of_mem hC
  obtain ⟨h4, h5⟩ := emptied_get hj hx'
  rcases b x hx with q | ⟨m, hm, C', hC', xC⟩
  · exact (S.sl.mem (emptied_sub hf)).2 q
  · have := flat_apart S.nd hC' h5 xC hx'
    subst this
    exact h4 hm
theorem ds_ret (he : DE X E ω e te fe or M) (hio : ioOk c.io ω = true := by rfl) : DS X E c ω (.Return (some e) pos) (tRet te) (sRet M fe) ω' or :=
  ⟨ps_ret he.pe, fun σ ρ F H As Dd S p => by
    refine he.sem σ ρ F H As _ S ?_
    unfold sRet at p
    cases hf : fe ρ with
    | ok d =>
      rw [hf] at p
      intro v F1 H1 B g r b n
      have S1 := S.grow g
      exact p v σ F1 H1 B (emptied As M) ω r n (emptied_apart S b) ⟨g.fh, S1.sl.hides M, emptied_nd S.nd M⟩ hio (.same (.of g fun x hx => by
        rcases List.mem_append.mp hx with hx | hx
        · exact (b x hx).elim (fun z => .inr z) fun z => .inl z.flat
        · exact .inl (emptied_sub hx)))
    | exc c => rw [hf] at p; exact fun H' q => p H' fun x o h1 _ => q x o h1
    | no => rw [hf] at p; exact p⟩
def sIf (c : Env → R Bool) (f g : Env → R Fl) (ρ : Env) : R Fl := c ρ >>= fun b => if b = true then f ρ else g ρ
theorem ds_if {ce : Expr} {sa sb : List Stmt} {tc : TT} {fc : Env → R Bool} (hc : DT X E ω ce tc fc) (ha : DSs X E c ω sa t f ω' or) (hb : DSs X E c ω sb u g ω' or) : DS X E c ω (.If ce sa sb pos) (tIfS tc t u) (sIf fc f g) ω' or :=
  ⟨ps_if hc.pt ha.pss hb.pss, fun σ ρ F H As Dd S p => by
    refine hc.sem σ ρ F H As _ S ?_
    unfold sIf at p
    cases hf : fc ρ with
    | ok b =>
      rw [hf, ok_bind] at p
      intro F1 H1 g1
      have p1 := PstS.growG g1 p
      cases b with
      | true => exact ha.sem σ ρ F1 H1 As Dd (S.grow g1) p1
      | false => exact hb.sem σ ρ F1 H1 As Dd (S.grow g1) p1
    | exc c => rw [hf] at p; exact fun H' q => p H' fun x o h1 _ => q x o h1
    | no => rw [hf] at p; exact p⟩
end
end Dn

/-! Stores, loops, defs over data. -/
namespace Dn
open PySem L2 PyProof.Rows

section
variable {mg : Str → Option Value} {E : XK} {K : PySem.W.Frag} {F F' H H' F1 H1 F2 H2 : Hp} {ω ω' : List O} {ρ : Env} {σ : L2.St} {As : List (List Addr)} {A A1 A2 : List Addr} {o o' : O} {M M' : List Nat}
theorem list_set_self {α : Type} : ∀ {l : List α} {i : Nat} {x : α}, l[i]? = some x → l.set i x = l
  | [], i, x, h => by simp at h
  | a :: l, 0, x, h => by simp at h; subst h; rfl
  | a :: l, i + 1, x, h => by
    rw [List.set_cons_succ, list_set_self (by simpa using h)]
/-- what a name owns is changed -/
theorem Stt.change (S : Stt K ω ρ σ F H As) {i : Nat} {d' : D} {v : V} {a : Addr} {B B2 : List Addr} {u : HO} (hi : ω[i]? = some o) (hσ : σ[i]? = some (some v)) (hA : As[i]? = some B) (ha : a ∈ B)
    (r : RepO K F (upd H a u) o d' v B2) (hB : ∀ x ∈ B2, x ∈ B) (nB : B2.Nodup) : Stt K ω (ρ.set i (some d')) σ F (upd H a u) (As.set i B2) ∧ GrowA As.flatten F H F (upd H a u) (As.set i B2).flatten := by
  have Fa : F a = none ∧ H a ≠ none := S.sl.mem (List.mem_flatten.mpr ⟨B, List.mem_of_getElem? hA, ha⟩)
  have ap : ∀ x ∈ (As.set i []).flatten, x ≠ a := fun x hx e => by
    subst e
    rcases flat_set hx with q | ⟨j, C, h1, h2, h3⟩
    · simp at q
    · exact h1 (flat_apart S.nd h2 hA h3 ha)
  have S1 := (S.sl.hide i).keep (F' := F) (H' := upd H a u) (Same.refl F) fun x hx => ⟨((S.sl.hide i).mem hx).1, upd_ne (ap x hx)⟩
  have S2 := S1.put (i := i) r
  rw [list_set_self hi, list_set_self hσ, List.set_set, List.set_set] at S2
  refine ⟨⟨fun x q hx => ?_, S2, flat_set_nd S.nd nB fun x hx j C h1 h2 h3 => h1 (flat_apart S.nd h2 hA h3 (hB x hx))⟩, Same.refl F, fun x q hx => ?_, fun x q hx hn => ?_, fun x hx => ?_, fun x h1 _ _ => h1, fun x hx => ?_⟩
  · rw [upd_ne (ne_of_none hx Fa.1)]; exact S.ex _ _ hx
  · rw [upd_ne (ne_of_none hx Fa.1)]; exact S.ex _ _ hx
  · rw [upd_ne (fun e => hn (by rw [e]; exact List.mem_flatten.mpr ⟨B, List.mem_of_getElem? hA, ha⟩))]; exact hx
  · by_cases e : x = a
    · subst e; rw [upd_same]; simp
    · rw [upd_ne e]; exact hx
  · rcases flat_set hx with q | ⟨j, C, h1, h2, h3⟩
    · exact .inl (List.mem_flatten.mpr ⟨B, List.mem_of_getElem? hA, hB x q⟩)
    · exact .inl (List.mem_flatten.mpr ⟨C, List.mem_of_getElem? h2, h3⟩)
end

/-! ### x.append(e), x.reverse(), x.clear() -/
def putE (ρ : Env) (i : Nat) (r : R D) : R Fl := r >>= fun d => .ok (.nx (ρ.set i (some d)))
def appD (y : D) : D → R D
  | .lst xs => if xs.length < most then .ok (.lst (xs ++ [y])) else .no
  | _ => .no
def sApp (i : Nat) (fe : Env → R D) (ρ : Env) : R Fl := match ρ[i]? with
  | some (some (.lst ds)) => fe ρ >>= fun y => putE ρ i (appD y (.lst ds))
  | _ => .no
def revD : D → R D
  | .lst xs => .ok (.lst xs.reverse)
  | _ => .no
def clrD : D → R D
  | .lst _ => .ok (.lst [])
  | _ => .no
def sRev (i : Nat) (ρ : Env) : R Fl := match ρ[i]? with
  | some (some d) => putE ρ i (revD d)
  | _ => .no
section
variable {X : Cx} {E : XK} {c : Cfg} {ω ω1 ω' : List O} {st : Stmt} {sts : List Stmt} {e a b : Expr} {es : List Expr} {t u : TS} {te ta tb : TE} {f g : Env → R Fl} {fe fa fb : Env → R D} {o or : O} {M : List Nat} {pos cpos apos npos : Pos} {x : Str}
theorem list_at {K : PySem.W.Frag} {F H : Hp} {v : V} {B : List Addr} {ds : List D} (r : RepO K F H (.own .fz) (.lst ds) v B) : ∃ a vs, v = .ref a ∧ F a = none ∧ H a = some (.lst vs) ∧ B = [a] ∧ Reps K F ds vs := by
  rcases r with ⟨ds', a, vs, B', h1, h2, h3, h4, h5, h6⟩ | ⟨es, a, kvs, h1, _⟩ | ⟨h1, _⟩
  · cases h1
    obtain ⟨h7, rfl⟩ := allO_fz h6
    exact ⟨a, vs, h2, h3, h4, h5, h7⟩
  · cases h1
  · exact absurd h1 (by simp [isBox])
theorem dict_at {K : PySem.W.Frag} {F H : Hp} {v : V} {B : List Addr} {es : List (L2.Key × D)} (r : RepO K F H (.own .fz) (.dic es) v B) : ∃ a kvs, v = .ref a ∧ F a = none ∧ H a = some (.dK kvs) ∧ B = [a] ∧ RepK K F es kvs := by
  rcases r with ⟨ds', a, vs, B', h1, _⟩ | ⟨es, a, kvs, h1, h2, h3, h4, h5, h6⟩ | ⟨h1, _⟩
  · cases h1
  · cases h1
    exact ⟨a, kvs, h2, h3, h4, h6, h5⟩
  · exact absurd h1 (by simp [isBox])
theorem own_lst {K : PySem.W.Frag} {F H : Hp} {a : Addr} {ds : List D} {vs : List V} (h : F a = none) (h1 : H a = some (.lst vs)) (r : Reps K F ds vs) : RepO K F H (.own .fz) (.lst ds) (.ref a) [a] := .inl ⟨ds, a, vs, [], rfl, rfl, h, h1, rfl, allO_of r⟩
theorem own_dic {K : PySem.W.Frag} {F H : Hp} {a : Addr} {ds : List (L2.Key × D)} {vs : List (L2.Key × V)} (h : F a = none) (h1 : H a = some (.dK vs)) (r : RepK K F ds vs) : RepO K F H (.own .fz) (.dic ds) (.ref a) [a] := .inr (.inl ⟨ds, a, vs, rfl, rfl, h, h1, r, rfl⟩)
theorem ds_app {i : Nat} (he : DE X E ω e te fe .fz []) (hi : ω[i]? = some (.own .fz) := by rfl) (hN : X.N[i]? = some x := by rfl) (hv : Vis X.env.scope x := by first | exact Or.inl rfl | exact Or.inr (Or.inl rfl) | exact Or.inr (Or.inr rfl)) (hd : (x == ("__debug__" : Str)) = false := by decide)
    (hcd : (x == ("__classdict__" : Str)) = false := by decide) (hbase : attributeBase (.Name x npos) "append" X.env (eval (.Name x npos) X.env) = eval (.Name x npos) X.env := by rfl)
    (hfew : ((backTo cpos (starEach [e] X.env)).all (fun x => !x.1) && (backToKw cpos (keywordEach [] X.env)).all (fun x => x.1.isSome) && decide ([e].length + ([] : List Keyword).length + (if ([] : List Keyword).isEmpty then 0 else 1) < 30)) = true := by rfl) (hline : (apos.endLine == cpos.line) = true := by rfl)
    (hst : starEach (e :: []) X.env = (false, eval e X.env) :: starEach [] X.env := by rfl) (hpl : (backTo cpos (starEach [] X.env)).any (·.1) = false := by rfl) (hs : swapsWith (.Call (.Attribute (.Name x npos) "append" apos) [e] [] cpos) none pos.line X.env = pure false := by rfl) :
    DS X E c ω (.Expr (.Call (.Attribute (.Name x npos) "append" apos) [e] [] cpos) pos) (tDrop (tBM X.K "list" rAppend (tVar i) (tCons te tNil))) (sApp i fe) ω or :=
  ⟨ps_expr (pe_bm PySem.F.plainAttrs_list PySem.F.slot_list_append PySem.F.type_list_append mt_append (pe_var hN hv hd hcd) (pa_cons he.pe pa_nil hst) hbase hfew hline hst hpl) hs, fun σ ρ F H As Dd S p => by
    unfold sApp at p
    split at p
    · rename_i ds hρ
      obtain ⟨v, B, hσ, hA, r⟩ := S.sl.get hi hρ
      obtain ⟨a, vs, rfl, Fa, Ha, rfl, rs⟩ := list_at r
      refine ⟨.ref a, hσ, .inl ⟨rfl, vs, .of Ha⟩, ?_⟩
      refine he.sem σ ρ F H As _ S ?_
      cases hf : fe ρ with
      | ok y =>
        rw [hf, ok_bind] at p
        intro w F1 H1 B1 g1 r1 b1 n1
        have S1 := S.grow g1
        have Ha1 := g1.hh _ _ Ha
        have Fa1 := g1.sep a Fa (by rw [Ha]; simp)
        by_cases hl : ds.length < most
        · have e : appD y (.lst ds) = .ok (.lst (ds ++ [y])) := if_pos hl
          rw [e] at p
          refine ⟨a, vs, w, rfl, rfl, Ha1, by rw [rs.length, ← most_eq]; exact hl, ?_⟩
          obtain ⟨S2, g2⟩ := S1.change hi hσ hA (a := a) (by simp) (own_lst Fa1 upd_same ((Reps.mono g1.ff ds vs rs).snoc r1.1)) (fun x h => h) (by simp)
          exact p σ F1 _ _ S2 (.same ((GrowA.of g1 fun x h => .inl h).trans g2))
        · have e : appD y (.lst ds) = .no := if_neg hl
          rw [e] at p
          exact p.elim
      | exc c => rw [hf] at p; exact fun H' q => p H' fun x o h1 _ => q x o h1
      | no => rw [hf] at p; exact p
    · exact p.elim⟩
/-- x.reverse() -/
theorem ds_rev {i : Nat} (hi : ω[i]? = some (.own .fz) := by rfl) (hN : X.N[i]? = some x := by rfl) (hv : Vis X.env.scope x := by first | exact Or.inl rfl | exact Or.inr (Or.inl rfl) | exact Or.inr (Or.inr rfl)) (hd : (x == ("__debug__" : Str)) = false := by decide)
    (hcd : (x == ("__classdict__" : Str)) = false := by decide) (hbase : attributeBase (.Name x npos) "reverse" X.env (eval (.Name x npos) X.env) = eval (.Name x npos) X.env := by rfl)
    (hline : (apos.endLine == cpos.line) = true := by rfl) (hs : swapsWith (.Call (.Attribute (.Name x npos) "reverse" apos) [] [] cpos) none pos.line X.env = pure false := by rfl) :
    DS X E c ω (.Expr (.Call (.Attribute (.Name x npos) "reverse" apos) [] [] cpos) pos) (tDrop (tBM0 X.K "list" rReverse (tVar i))) (sRev i) ω or :=
  ⟨ps_expr (pe_bm0 PySem.F.plainAttrs_list PySem.F.slot_list_reverse PySem.F.type_list_reverse mt_reverse (pe_var hN hv hd hcd) hbase hline) hs, fun σ ρ F H As Dd S p => by
    unfold sRev at p
    split at p
    · rename_i d hρ
      obtain ⟨v, B, hσ, hA, r⟩ := S.sl.get hi hρ
      cases d with
      | lst ds =>
        obtain ⟨a, vs, rfl, Fa, Ha, rfl, rs⟩ := list_at r
        refine ⟨.ref a, hσ, .inl ⟨rfl, vs, .of Ha⟩, a, vs, rfl, rfl, Ha, ?_⟩
        obtain ⟨S2, g2⟩ := S.change hi hσ hA (a := a) (by simp) (own_lst Fa upd_same rs.reverse) (fun x h => h) (by simp)
        exact p σ F _ _ S2 (.same g2)
      | _ => exact (show False from p).elim
    · exact p.elim⟩
/-- x.clear() of a dict -/
def rClearD : V → List V → Hp → VK → Prop := fun x vs H Q => ∃ l kvs, x = .ref l ∧ vs = [] ∧ H l = some (.dK kvs) ∧ Q .non (upd H l (.dK []))
def storeD (d k y : D) : R D := match d with
  | .dic es => match keyD k with
    | some k => if es.length < most then .ok (.dic (putD es k y)) else .no
    | none => .no
  | .lst xs => match k with
    | .int k => match ixN xs.length k with
      | some j => .ok (.lst (xs.set j y))
      | none => .no
    | _ => .no
  | _ => .no
def sPut (i : Nat) (fk fe : Env → R D) (ρ : Env) : R Fl := fe ρ >>= fun y => match ρ[i]? with
  | some (some d) => fk ρ >>= fun k => putE ρ i (storeD d k y)
  | _ => .no
def rSetDk : V → V → V → Hp → (Hp → Prop) → Prop := fun o i v H Q => ∃ a H', o = .ref a ∧ DPut H a i v H' ∧ Q H'
theorem set_dk (hu : X.A.units + 1 < cLine) : PSet X rSetDk := by
  intro pins s σ H o i v ov iv u Q I ro ri rv h
  obtain ⟨a, H', rfl, g, q⟩ := h
  cases ro
  exact d_setItem hu I g ri rv fun s' I' => ⟨H', I', q⟩
def rSetA : V → V → V → Hp → (Hp → Prop) → Prop := fun o i v H Q => rSetL o i v H Q ∨ rSetDk o i v H Q
theorem set_any {k : Nat} (hr : Room k X.A) : PSet X rSetA := by
  intro pins s σ H o i v ov iv u Q I ro ri rv h
  rcases h with h | h
  · exact set_list pins s σ H o i v ov iv u Q I ro ri rv h
  · exact set_dk (hu_of hr) pins s σ H o i v ov iv u Q I ro ri rv h
/-- x[b] = e -/
theorem ds_put {i k : Nat} {spos : Pos} (hr : Room k X.A) (hk : DE X E ω b tb fb .fz []) (he : DE X E ω e te fe .fz []) (hi : ω[i]? = some (.own .fz) := by rfl) (hN : X.N[i]? = some x := by rfl) (hv : Vis X.env.scope x := by first | exact Or.inl rfl | exact Or.inr (Or.inl rfl) | exact Or.inr (Or.inr rfl)) (hd : (x == ("__debug__" : Str)) = false := by decide)
    (hcd : (x == ("__classdict__" : Str)) = false := by decide) (ha : ∀ v, assign (.Subscript (.Name x npos) b spos) X.env v = (do
      let ov ← holding [v] (eval (.Name x npos) X.env)
      let iv ← holding [v, ov] (eval b X.env)
      standAt spos
      holding [v, ov, iv] (setItem ov iv v)
      release [v, ov, iv] []) := by intro _; rfl) (hs : swapsWithSole [.Subscript (.Name x npos) b spos] e pos.line X.env = pure false := by rfl) (hw : swappedStores [.Subscript (.Name x npos) b spos] e X.env = pure none := by rfl)
    (h1 : (assignEach [.Subscript (.Name x npos) b spos] X.env).map (·.2) = [assign (.Subscript (.Name x npos) b spos) X.env] := by rfl) :
    DS X E c ω (.Assign [.Subscript (.Name x npos) b spos] e pos) (tAsg te (gSub (tVar i) tb rSetA)) (sPut i fb fe) ω or :=
  ⟨ps_asg he.pe (pg_sub (pe_var hN hv hd hcd) hk.pe (set_any hr) ha) hs hw h1, fun σ ρ F H As Dd S p => by
    refine he.sem σ ρ F H As _ S ?_
    unfold sPut at p
    cases hf : fe ρ with
    | ok y =>
      rw [hf, ok_bind] at p
      intro w F1 H1 B1 g1 r1 b1 n1
      have S1 := S.grow g1
      split at p
      · rename_i d hρ
        obtain ⟨v, B, hσ, hA, r⟩ := S1.sl.get hi hρ
        refine ⟨v, hσ, ?_⟩
        refine hk.sem σ ρ F1 H1 As _ S1 ?_
        cases hfk : fb ρ with
        | ok k =>
          rw [hfk, ok_bind] at p
          intro wk F2 H2 B2 g2 r2 b2 n2
          have S2 := S1.grow g2
          have r' := r.grow g2
          have rw' := Rep.mono g2.ff y w r1.1
          have gA : GrowA As.flatten F H F2 H2 As.flatten := GrowA.of (g1.trans g2) fun x h => .inl h
          cases d with
          | dic es =>
            obtain ⟨a, kvs, rfl, Fa, Ha, rfl, rs⟩ := dict_at r'
            have p' : PstS X.mg E X.K c ω or σ As.flatten F H Dd (putE ρ i (match keyD k with
              | some k => if es.length < most then .ok (.dic (putD es k y)) else .no
              | none => .no)) := p
            split at p'
            · rename_i k' hk'
              split at p'
              · rename_i hl
                refine .inr ⟨a, upd H2 a (.dK (putK kvs k' w)), rfl, ?_, ?_⟩
                · rw [key_rep hk' r2.1]
                  exact DPut.k Ha (by rw [repK_len rs, ← most_eq]; exact hl)
                · obtain ⟨S3, g3⟩ := S2.change hi hσ hA (a := a) (by simp) (own_dic Fa upd_same (repK_put (k := k') rw' rs)) (fun x h => h) (by simp)
                  exact p' σ F2 _ _ S3 (.same (gA.trans g3))
              · exact p'.elim
            · exact p'.elim
          | lst ds =>
            obtain ⟨a, vs, rfl, Fa, Ha, rfl, rs⟩ := list_at r'
            cases k with
            | int k =>
              have p' : PstS X.mg E X.K c ω or σ As.flatten F H Dd (putE ρ i (match ixN ds.length k with
                | some j => .ok (.lst (ds.set j y))
                | none => .no)) := p
              split at p'
              · rename_i j hj
                refine .inl ⟨a, vs, k, j, rfl, r2.1, Ha, by rw [rs.length]; exact hj, ?_⟩
                obtain ⟨S3, g3⟩ := S2.change hi hσ hA (a := a) (by simp) (own_lst Fa upd_same (rs.set j rw')) (fun x h => h) (by simp)
                exact p' σ F2 _ _ S3 (.same (gA.trans g3))
              · exact p'.elim
            | _ => exact (show False from p).elim
          | _ => exact (show False from p).elim
        | exc c => rw [hfk] at p; exact fun H' q => p H' fun x o h1 _ => q x o (g1.hh x o h1)
        | no => rw [hfk] at p; exact p
      · exact p.elim
    | exc c => rw [hf] at p; exact fun H' q => p H' fun x o h1 _ => q x o h1
    | no => rw [hf] at p; exact p⟩
end

/-! ### targets -/
def setsN : List Nat → List D → Env → R Env
  | [], [], ρ => .ok ρ
  | i :: is, d :: ds, ρ => setsN is ds (ρ.set i (some d))
  | _, _, _ => .no
/-- a, b, .. = a tuple -/
def setT (is : List Nat) (d : D) (ρ : Env) : R Env := match d with
  | .tup ds => setsN is ds ρ
  | _ => .no
section
variable {X : Cx} {E : XK} {c : Cfg} {ω ω1 ω' : List O} {st : Stmt} {sts : List Stmt} {e a b : Expr} {es : List Expr} {t u : TS} {te ta tb : TE} {f g : Env → R Fl} {fe fa fb : Env → R D} {o or : O} {M : List Nat} {pos cpos apos npos : Pos} {x : Str}
theorem dg_name {i : Nat} (hN : X.N.Nodup) (hi : X.N[i]? = some x := by rfl) (hx : Loc X.env.scope x := by first | exact Or.inl rfl | exact Or.inr rfl) (ho : ω[i]? = some .fz := by rfl) (hf : X.fn x = true ∨ X.env.scope.names.lookup x = some .local := by first | exact .inl rfl | exact .inr rfl | assumption) (hW : c.W.contains i = true := by rfl) :
    DG X E c.W ω (.Name x pos) (gName i) (setN i) := ⟨pg_name hN hi hx hf, semG_name ho hW, fun _ _ _ h => by cases h⟩
/-- several targets -/
structure DGs (X : Cx) (E : XK) (W : List Nat) (ω : List O) (es : List Expr) (g : TGs) (is : List Nat) : Prop where
  pgs : PGs X es g
  sem : ∀ σ ρ F H As ds vs (Q : L2.St → Hp → Prop), Stt X.K ω ρ σ F H As → Reps X.K F ds vs → (match setsN is ds ρ with
    | .ok ρ' => ∀ σ', Stt X.K ω ρ' σ' F H As → (∀ j, j ∉ W → σ'[j]? = σ[j]?) → Q σ' H
    | .exc _ => False
    | .no => False) → g vs σ H Q
theorem dgs_nil : DGs X E c.W ω [] gNil [] := ⟨pgs_nil, fun σ ρ F H As ds vs Q S r p => by
  cases ds with
  | nil => exact ⟨r, p σ S fun _ _ => rfl⟩
  | cons d ds => exact (show False from p).elim⟩
theorem dgs_cons {i : Nat} {es : List Expr} {g : TGs} {is : List Nat} (hN : X.N.Nodup) (h' : DGs X E c.W ω es g is) (hi : X.N[i]? = some x := by rfl) (hx : Loc X.env.scope x := by first | exact Or.inl rfl | exact Or.inr rfl) (ho : ω[i]? = some .fz := by rfl)
    (hf : X.fn x = true ∨ X.env.scope.names.lookup x = some .local := by first | exact .inl rfl | exact .inr rfl | assumption) (hs : (assignEach (.Name x pos :: es) X.env).map (·.2) = assign (.Name x pos) X.env :: (assignEach es X.env).map (·.2) := by rfl) (hW : c.W.contains i = true := by rfl) :
    DGs X E c.W ω (.Name x pos :: es) (gCons (gName i) g) (i :: is) := ⟨pgs_cons (pg_name hN hi hx hf) h'.pgs hs, fun σ ρ F H As ds vs Q S r p => by
  cases ds with
  | nil => exact (show False from p).elim
  | cons d ds =>
    obtain ⟨v, vr, rfl, h2, h3⟩ := r
    refine ⟨v, vr, rfl, h'.sem _ _ F H As ds vr Q (S.setFz h2 ho) h3 ?_⟩
    have p' : (match setsN is ds (ρ.set i (some d)) with
      | .ok ρ' => ∀ σ', Stt X.K ω ρ' σ' F H As → (∀ j, j ∉ c.W → σ'[j]? = σ[j]?) → Q σ' H
      | .exc _ => False
      | .no => False) := p
    split at p'
    · exact fun σ' S' ag => p' σ' S' fun j hj => (ag j hj).trans (set_off hW j hj)
    · exact p'.elim
    · exact p'.elim⟩
theorem setsN_len : ∀ {is : List Nat} {ds : List D} {ρ ρ' : Env}, setsN is ds ρ = .ok ρ' → ds.length = is.length
  | [], [], _, _, _ => rfl
  | i :: is, d :: ds, ρ, ρ', h => by
    have h' : setsN is ds (ρ.set i (some d)) = .ok ρ' := h
    exact congrArg Nat.succ (setsN_len h')
  | [], d :: ds, _, _, h => by cases h
  | i :: is, [], _, _, h => by cases h
theorem setsN_nex : ∀ {is : List Nat} {ds : List D} {ρ : Env} {c : Str}, setsN is ds ρ ≠ .exc c
  | [], [], _, _, h => by cases h
  | i :: is, d :: ds, ρ, c, h => setsN_nex (show setsN is ds (ρ.set i (some d)) = .exc c from h)
  | [], d :: ds, _, _, h => by cases h
  | i :: is, [], _, _, h => by cases h
theorem dg_tup {es : List Expr} {k : Nat} {g : TGs} {is : List Nat} (hc : X.calm = true) (h : DGs X E c.W ω es g is) (hn : (assignEach es X.env).length = is.length := by rfl) (hst : (assignEach es X.env).findIdx? (·.1) = none := by rfl) : DG X E c.W ω (.Tuple es k pos) (gTup X.K is.length g) (setT is) :=
  ⟨pg_tup hc h.pgs hn hst, fun σ ρ F H As d v Q S r p => by
    cases d with
    | tup ds =>
      obtain ⟨a, vs, rfl, h1, h2⟩ := r
      refine ⟨a, vs, rfl, .of (S.ex _ _ h1), ?_, h.sem σ ρ F H As ds vs Q S h2 p⟩
      rw [h2.length]
      have p' : (match setsN is ds ρ with
        | .ok ρ' => ∀ σ', Stt X.K ω ρ' σ' F H As → (∀ j, j ∉ c.W → σ'[j]? = σ[j]?) → Q σ' H
        | .exc _ => False
        | .no => False) := p
      split at p'
      · rename_i ρ' hq
        exact setsN_len hq
      · exact p'.elim
      · exact p'.elim
    | _ => exact (show False from p).elim, fun d ρ c h => by
      cases d with
      | tup ds => exact setsN_nex (show setsN is ds ρ = .exc c from h)
      | _ => cases h⟩
/-- target = e, what is stored is not one's own -/
def sAsgG (set : D → Env → R Env) (f : Env → R D) (ρ : Env) : R Fl := f ρ >>= fun d => set d ρ >>= fun ρ' => .ok (.nx ρ')
theorem ds_asgG {tg : Expr} {gt : TG} {set : D → Env → R Env} (he : DE X E ω e te fe .fz []) (hg : DG X E c.W ω tg gt set) (hs : swapsWithSole [tg] e pos.line X.env = pure false := by rfl) (hw : swappedStores [tg] e X.env = pure none := by rfl)
    (h1 : (assignEach [tg] X.env).map (·.2) = [assign tg X.env] := by rfl) : DS X E c ω (.Assign [tg] e pos) (tAsg te gt) (sAsgG set fe) ω or :=
  ⟨ps_asg he.pe hg.pg hs hw h1, fun σ ρ F H As Dd S p => by
    refine he.sem σ ρ F H As _ S ?_
    unfold sAsgG at p
    cases hf : fe ρ with
    | ok d =>
      rw [hf, ok_bind] at p
      intro v F1 H1 B g r b n
      have S1 := S.grow g
      refine hg.sem σ ρ F1 H1 As d v _ S1 r.1 ?_
      cases hq : set d ρ with
      | ok ρ' =>
        rw [hq] at p
        exact fun σ' S' ag => p σ' F1 H1 As S' ⟨GrowA.of g fun x h => .inl h, ag⟩
      | exc c => exact absurd hq (hg.nex d ρ c)
      | no => rw [hq] at p; exact p
    | exc c => rw [hf] at p; exact fun H' q => p H' fun x o h1 _ => q x o h1
    | no => rw [hf] at p; exact p⟩
end
end Dn

/-! Loops and defs over data. -/
namespace Dn
open PySem L2 PyProof.Rows

section
variable {X : Cx} {E : XK} {c : Cfg} {ω ω1 ω' : List O} {st : Stmt} {sts : List Stmt} {e a b : Expr} {es : List Expr} {t u : TS} {te ta tb : TE} {f g : Env → R Fl} {fe fa fb : Env → R D} {o or : O} {M : List Nat} {pos cpos apos npos : Pos} {x : Str}

/-! ### a, b = a tuple of which parts may be one's own -/
def setOs (ω : List O) : List Nat → List O → List O
  | i :: is, o :: os => setOs (ω.set i o) is os
  | _, _ => ω
def gNames : List Nat → TGs
  | [] => gNil
  | i :: is => gCons (gName i) (gNames is)
theorem takes {K : PySem.W.Frag} {F H : Hp} {Q : L2.St → Hp → Prop} : ∀ {is : List Nat} {os : List O} {ω : List O} {ρ ρ' : Env} {σ : L2.St} {As : List (List Addr)} {ds : List D} {vs : List V} {B : List Addr}, Stt K ω ρ σ F H As → RepT K F H os ds vs B → B.Nodup → (∀ x ∈ B, x ∉ As.flatten) → setsN is ds ρ = .ok ρ' →
    (∀ σ' As', Stt K (setOs ω is os) ρ' σ' F H As' → (∀ x ∈ As'.flatten, x ∈ As.flatten ∨ x ∈ B) → (∀ j, j ∉ is → σ'[j]? = σ[j]?) → Q σ' H) → gNames is vs σ H Q
  | [], os, ω, ρ, ρ', σ, As, ds, vs, B, S, r, nB, ap, hs, k => by
    cases ds with
    | cons d ds => cases hs
    | nil =>
      cases hs
      cases os with
      | cons o os =>
        obtain ⟨d, dr, v, vr, B1, B2, h, _⟩ := r
        cases h
      | nil =>
        obtain ⟨_, rfl, rfl⟩ := r
        exact ⟨rfl, k σ As S (fun x h => .inl h) fun _ _ => rfl⟩
  | i :: is, os, ω, ρ, ρ', σ, As, ds, vs, B, S, r, nB, ap, hs, k => by
    cases ds with
    | nil => cases hs
    | cons d ds =>
      have hs' : setsN is ds (ρ.set i (some d)) = .ok ρ' := hs
      cases os with
      | nil =>
        obtain ⟨h, _⟩ := r
        cases h
      | cons o os =>
        obtain ⟨d', dr, v, vr, B1, B2, h1, rfl, rfl, r1, r2⟩ := r
        cases h1
        obtain ⟨n1, n2, n3⟩ := List.nodup_append.mp nB
        have S1 : Stt K (ω.set i o) (ρ.set i (some d)) (σ.set i (some v)) F H (As.set i B1) := ⟨S.ex, S.sl.put r1, flat_set_nd S.nd n1 fun x hx j C h1 h2 h3 => ap x (List.mem_append_left _ hx) (List.mem_flatten.mpr ⟨C, List.mem_of_getElem? h2, h3⟩)⟩
        refine ⟨v, vr, rfl, takes S1 r2 n2 (fun x hx hf => ?_) hs' fun σ' As' S' hA ag => k σ' As' S' (fun x hx => ?_) fun j hj => ?_⟩
        · rcases flat_set hf with q | ⟨j, C, h1, h2, h3⟩
          · exact n3 x q x hx rfl
          · exact ap x (List.mem_append_right _ hx) (List.mem_flatten.mpr ⟨C, List.mem_of_getElem? h2, h3⟩)
        · rcases hA x hx with q | q
          · rcases flat_set q with q | ⟨j, C, h1, h2, h3⟩
            · exact .inr (List.mem_append_left _ q)
            · exact .inl (List.mem_flatten.mpr ⟨C, List.mem_of_getElem? h2, h3⟩)
          · exact .inr (List.mem_append_right _ q)
        · rw [ag j fun h => hj (List.mem_cons_of_mem _ h), List.getElem?_set_ne fun h => hj (by rw [h]; exact List.mem_cons_self)]
structure PGn (X : Cx) (es : List Expr) (is : List Nat) : Prop where
  pgs : PGs X es (gNames is)
theorem pgn_nil : PGn X [] [] := ⟨pgs_nil⟩
theorem pgn_cons {i : Nat} {es : List Expr} {is : List Nat} (hN : X.N.Nodup) (h' : PGn X es is) (hi : X.N[i]? = some x := by rfl) (hx : Loc X.env.scope x := by first | exact Or.inl rfl | exact Or.inr rfl)
    (hf : X.fn x = true ∨ X.env.scope.names.lookup x = some .local := by first | exact .inl rfl | exact .inr rfl | assumption) (hs : (assignEach (.Name x pos :: es) X.env).map (·.2) = assign (.Name x pos) X.env :: (assignEach es X.env).map (·.2) := by rfl) : PGn X (.Name x pos :: es) (i :: is) :=
  ⟨pgs_cons (pg_name hN hi hx hf) h'.pgs hs⟩
def sAsgT (is M : List Nat) (f : Env → R D) (ρ : Env) : R Fl := f ρ >>= fun d => setT is d (hideE ρ M) >>= fun ρ' => .ok (.nx ρ')
theorem ds_asgT {is : List Nat} {os : List O} {k : Nat} {tpos : Pos} (hc : X.calm = true) (he : DE X E ω e te fe (.tup os) M) (hg : PGn X es is) (hn : (assignEach es X.env).length = is.length := by rfl) (hst : (assignEach es X.env).findIdx? (·.1) = none := by rfl)
    (hs : swapsWithSole [.Tuple es k tpos] e pos.line X.env = pure false := by rfl) (hw : swappedStores [.Tuple es k tpos] e X.env = pure none := by rfl)
    (h1 : (assignEach [.Tuple es k tpos] X.env).map (·.2) = [assign (.Tuple es k tpos) X.env] := by rfl) (hW : is.all c.W.contains = true := by rfl) : DS X E c ω (.Assign [.Tuple es k tpos] e pos) (tAsg te (gTup X.K is.length (gNames is))) (sAsgT is M fe) (setOs ω is os) or :=
  ⟨ps_asg he.pe (pg_tup hc hg.pgs hn hst) hs hw h1, fun σ ρ F H As Dd S p => by
    refine he.sem σ ρ F H As _ S ?_
    unfold sAsgT at p
    cases hf : fe ρ with
    | ok d =>
      rw [hf, ok_bind] at p
      intro v F1 H1 B g r bB n
      obtain ⟨ds, l, vs, rfl, rfl, h1, h2⟩ := r
      have S1 := S.grow g
      cases hq : setsN is ds (hideE ρ M) with
      | ok ρ' =>
        have p' : PstS X.mg E X.K c (setOs ω is os) or σ As.flatten F H Dd (setsN is ds (hideE ρ M) >>= fun ρ' => .ok (.nx ρ')) := p
        rw [hq] at p'
        have S2 : Stt X.K ω (hideE ρ M) σ F1 H1 (emptied As M) := ⟨g.fh, S1.sl.hides M, emptied_nd S.nd M⟩
        have sub : ∀ x ∈ (emptied As M).flatten, x ∈ As.flatten := fun x hx => by
          obtain ⟨C, hC, hx'⟩ := List.mem_flatten.mp hx
          obtain ⟨j, hj⟩ := List.getElem?_of_mem hC
          exact List.mem_flatten.mpr ⟨C, List.mem_of_getElem? (emptied_get hj hx').2, hx'⟩
        refine ⟨l, vs, rfl, .of (g.fh _ _ h1), ?_, takes S2 h2 n (fun x hx hf => ?_) hq fun σ' As' S' hA ag => p' σ' F1 H1 As' S' ⟨GrowA.of g fun x hx => ?_, fun j hj => ag j fun h => hj (List.contains_iff_mem.mp (List.all_eq_true.mp hW j h))⟩⟩
        · have := setsN_len hq
          rw [(repT_len h2).1, ← (repT_len h2).2, this]
        · obtain ⟨C, hC, hx'⟩ := List.mem_flatten.mp hf
          obtain ⟨j, hj⟩ := List.getElem?_of_mem hC
          obtain ⟨h4, h5⟩ := emptied_get hj hx'
          rcases bB x hx with q | ⟨m, hm, C', hC', xC⟩
          · exact (S.sl.mem (sub x hf)).2 q
          · have := flat_apart S.nd hC' h5 xC hx'
            subst this
            exact h4 hm
        · rcases hA x hx with q | q
          · exact .inl (sub x q)
          · exact (bB x q).elim (fun z => .inr z) fun z => .inl z.flat
      | exc c => exact absurd hq setsN_nex
      | no =>
        have p' : PstS X.mg E X.K c (setOs ω is os) or σ As.flatten F H Dd (setsN is ds (hideE ρ M) >>= fun ρ' => .ok (.nx ρ')) := p
        rw [hq] at p'
        exact p'.elim
    | exc c => rw [hf] at p; exact fun H' q => p H' fun x o h1 _ => q x o h1
    | no => rw [hf] at p; exact p⟩

/-! ### for -/
def forD (set : D → Env → R Env) (body : Env → R Fl) : List D → Env → R Fl
  | [], ρ => .ok (.nx ρ)
  | x :: xs, ρ => set x ρ >>= fun ρ' => body ρ' >>= fun fl => match fl with
    | .nx ρ'' => forD set body xs ρ''
    | .rt d ρ' => .ok (.rt d ρ')
def sFor (fi : Env → R (List D)) (set : D → Env → R Env) (body : Env → R Fl) (ρ : Env) : R Fl := fi ρ >>= fun xs => forD set body xs ρ
theorem ds_for {tg iter : Expr} {wi : TI} {gt : TG} {fi : Env → R (List D)} {set : D → Env → R Env} {body : List Stmt} (hp : PassesOwn (model X.prog X.w) X.A X.env X.xe) (hc : X.calm = true) (hi : DI X E ω tg iter wi fi) (hg : DG X E c.W ω tg gt set) (hb : DSs X E c ω body t f ω or)
    (hs : ∀ x, foldedSetIterable iter X.env x = pure x := by intro _; rfl) : DS X E c ω (.For tg iter body [] pos) (tFor wi gt t) (sFor fi set f) ω or :=
  ⟨ps_for hp hc hi.pi hg.pg hb.pss hs, fun σ ρ F H As Dd S p => by
    refine hi.sem σ ρ F H As _ S ?_
    unfold sFor at p
    cases hfi : fi ρ with
    | exc c => rw [hfi] at p; exact fun H' q => p H' fun x o h1 _ => q x o h1
    | no => rw [hfi] at p; exact p
    | ok xs =>
      rw [hfi, ok_bind] at p
      intro J F1 H1 g1 it
      obtain ⟨vs, hr, hgo, hst⟩ := it
      have hn := hr.length
      refine ⟨fun i m σ' H' => m = xs.length - i ∧ i ≤ xs.length ∧ ∃ ρ' F' As', Stt X.K ω ρ' σ' F' H' As' ∧ Same F1 F' ∧ PstS X.mg E X.K c ω or σ' As'.flatten F' H' Dd (forD set f (xs.drop i) ρ'), ⟨xs.length, rfl, Nat.zero_le _, ρ, F1, As, S.grow g1, Same.refl _, by simpa using PstS.growG g1 p⟩, ?_⟩
      rintro j m σ' H' ⟨rfl, hj, ρ', F', As', S', e1, p'⟩
      have exH : Same F1 H' := e1.trans S'.ex
      by_cases hlt : j < xs.length
      · refine .inr ⟨(hgo j H' exH (by rw [hn]; exact hlt)).1, fun σ2 H2 => ∃ ρ2 F2 As2, Stt X.K ω ρ2 σ2 F2 H2 As2 ∧ Same F1 F2 ∧ PstS X.mg E X.K c ω or σ2 As2.flatten F2 H2 Dd (forD set f (xs.drop (j + 1)) ρ2), fun σ2 H2 q => ⟨_, Nat.sub_lt_sub_left hlt (Nat.lt_succ_self j), rfl, hlt, q⟩, fun v H2 y => ?_⟩
        obtain ⟨rfl, hx⟩ := (hgo j H' exH (by rw [hn]; exact hlt)).2 v H2 y
        obtain ⟨d, hd, rd⟩ := hr.get' hx
        have hdrop : xs.drop j = d :: xs.drop (j + 1) := by
          rw [List.drop_eq_getElem_cons hlt]
          congr 1
          rw [List.getElem?_eq_getElem hlt] at hd
          exact Option.some.inj hd
        rw [hdrop] at p'
        have p2 : PstS X.mg E X.K c ω or σ' As'.flatten F' H2 Dd (set d ρ' >>= fun ρ' => f ρ' >>= fun fl => match fl with
          | .nx ρ'' => forD set f (xs.drop (j + 1)) ρ''
          | .rt d ρ3 => .ok (.rt d ρ3)) := p'
        refine hg.sem σ' ρ' F' H2 As' d v _ S' (Rep.mono e1 d v rd) ?_
        cases hset : set d ρ' with
        | exc c => exact absurd hset (hg.nex d ρ' c)
        | no => rw [hset] at p2; exact p2.elim
        | ok ρ2 =>
          rw [hset, ok_bind] at p2
          intro σ2 S2 ag
          have p2 := PstS.grow (σ1 := σ2) (F1 := F') (H1 := H2) ⟨GrowA.refl S'.ex, ag⟩ p2
          refine hb.sem σ2 ρ2 F' H2 As' _ S2 ?_
          cases hf : f ρ2 with
          | exc c => rw [hf] at p2; exact p2
          | no => rw [hf] at p2; exact p2
          | ok fl =>
            rw [hf, ok_bind] at p2
            cases fl with
            | nx ρ3 => exact fun σ3 F3 H3 As3 S3 g3 => ⟨ρ3, F3, As3, S3, e1.trans g3.g.ff, PstS.grow g3 p2⟩
            | rt d ρ3 => exact p2
      · have ej : j = xs.length := by omega
        subst ej
        refine .inl ⟨hst _ H' exH (by rw [hn]; exact Nat.le_refl _), ?_⟩
        rw [List.drop_length] at p'
        exact p' σ' F' H' As' S' (.same (GrowA.refl S'.ex))⟩

/-! ### while -/
def whileD (c : Env → R Bool) (body : Env → R Fl) : Nat → Env → R Fl
  | 0, _ => .no
  | n + 1, ρ => c ρ >>= fun b => if b = true then body ρ >>= fun fl => (match fl with
    | .nx ρ' => whileD c body n ρ'
    | .rt d ρ' => .ok (.rt d ρ')) else .ok (.nx ρ)
def sWhile (n : Nat) (c : Env → R Bool) (body : Env → R Fl) (ρ : Env) : R Fl := whileD c body n ρ
theorem ds_while {ce : Expr} {tc : TT} {fc : Env → R Bool} {body : List Stmt} (n : Nat) (hp : PassesOwn (model X.prog X.w) X.A X.env X.xe) (hc : DT X E ω ce tc fc) (hb : DSs X E c ω body t f ω or) : DS X E c ω (.While ce body [] pos) (tWhile tc t) (sWhile n fc f) ω or :=
  ⟨ps_while hp hc.pt hb.pss, fun σ ρ F H As Dd S p => by
    refine ⟨fun m σ' H' => ∃ ρ' F' As', Stt X.K ω ρ' σ' F' H' As' ∧ PstS X.mg E X.K c ω or σ' As'.flatten F' H' Dd (whileD fc f m ρ'), ⟨n, ρ, F, As, S, p⟩, ?_⟩
    rintro m σ' H' ⟨ρ', F', As', S', p'⟩
    cases m with
    | zero => exact (show False from p').elim
    | succ m =>
      have p2 : PstS X.mg E X.K c ω or σ' As'.flatten F' H' Dd (fc ρ' >>= fun b => if b = true then f ρ' >>= fun fl => (match fl with
        | .nx ρ' => whileD fc f m ρ'
        | .rt d ρ3 => .ok (.rt d ρ3)) else .ok (.nx ρ')) := p'
      refine hc.sem σ' ρ' F' H' As' _ S' ?_
      cases hfc : fc ρ' with
      | exc c => rw [hfc] at p2; exact fun H' q => p2 H' fun x o h1 _ => q x o h1
      | no => rw [hfc] at p2; exact p2
      | ok b =>
        rw [hfc, ok_bind] at p2
        intro F1 H1 g1
        have S1 := S'.grow g1
        have p3 := PstS.growG g1 p2
        cases b with
        | false =>
          rw [if_neg Bool.false_ne_true] at p3 ⊢
          exact p3 σ' F1 H1 As' S1 (.same (GrowA.refl S1.ex))
        | true =>
          rw [if_pos rfl] at p3 ⊢
          refine ⟨fun σ2 H2 => ∃ ρ2 F2 As2, Stt X.K ω ρ2 σ2 F2 H2 As2 ∧ PstS X.mg E X.K c ω or σ2 As2.flatten F2 H2 Dd (whileD fc f m ρ2), fun σ2 H2 q => ⟨m, Nat.lt_succ_self m, q⟩, ?_⟩
          refine hb.sem σ' ρ' F1 H1 As' _ S1 ?_
          cases hf : f ρ' with
          | exc c => rw [hf] at p3; exact p3
          | no => rw [hf] at p3; exact p3
          | ok fl =>
            rw [hf, ok_bind] at p3
            cases fl with
            | nx ρ3 => exact fun σ3 F3 H3 As3 S3 g3 => ⟨ρ3, F3, As3, S3, PstS.grow g3 p3⟩
            | rt d ρ3 => exact p3⟩
/-- what the proof never comes to -/
def sNo (_ : Env) : R Fl := .no
theorem ds_never : DS X E c ω st tNever sNo ω' or := ⟨ps_never, fun σ ρ F H As Dd S p => p⟩
end

/-! ### a def -/
def enter (n : Nat) (ds : List D) : Env := ds.map some ++ List.replicate (n - ds.length) none
def leave : R Fl → R D
  | .ok (.rt d _) => .ok d
  | _ => .no
/-- what a def gives, by its body; n names in all -/
def fnD (n : Nat) (f : Env → R Fl) (ds : List D) : R D := leave (f (enter n ds))
theorem sl_enter {K : PySem.W.Frag} {F H : Hp} : ∀ {ds : List D} {vs : List V} {ωp : List O}, Reps K F ds vs → ωp.length = ds.length → ωp.all O.isFz = true → ∀ (ωl : List O), Sl K F H (ωp ++ ωl) (ds.map some ++ List.replicate ωl.length none) (vs.map some ++ List.replicate ωl.length none) (List.replicate (ωp.length + ωl.length) [])
  | [], vs, [], r, _, _, ωl => by
    rw [show vs = [] from r]
    induction ωl with
    | nil => exact .nil
    | cons o ωl ih => simpa [List.replicate_succ] using Sl.none (o := o) (x := none) ih
  | d :: ds, vs, o :: ωp, r, hl, hf, ωl => by
    obtain ⟨v, vr, rfl, h2, h3⟩ := r
    rw [List.all_cons, Bool.and_eq_true] at hf
    cases o with
    | fz =>
      have ih := sl_enter (H := H) h3 (Nat.succ.inj hl) hf.2 ωl
      have e : (List.replicate ((O.fz :: ωp).length + ωl.length) ([] : List Addr)) = [] :: List.replicate (ωp.length + ωl.length) [] := by
        rw [List.length_cons, Nat.succ_add, List.replicate_succ]
      rw [e]
      exact Sl.some ⟨h2, rfl⟩ ih
    | _ => exact absurd hf.1 (by simp [O.isFz])
  | [], _, _ :: _, _, hl, _, _ => by cases hl
  | _ :: _, _, [], _, hl, _, _ => by cases hl
theorem flat_nils (n : Nat) : (List.replicate n ([] : List Addr)).flatten = [] := by
  induction n with
  | zero => rfl
  | succ n ih => rw [List.replicate_succ, List.flatten_cons, ih]; rfl
/-- THE RULE for a def that raises nothing -/
theorem fn_ok {P : Program} {w : World} {K : PySem.W.Frag} {mg : Str → Option Value} {base : Heap} {x qual : Str} {st : Stmt} {f : Addr} {fd : FuncData} {N ps : List Str} {k : Nat} {fb : Env → R Fl} {ωp ωl : List O} {o : O} {W : List Nat} (Fn : Fun K x qual st f fd) (S : FnScope N ps (defScope st))
    (hp : ωp.length = ps.length) (hz : ωp.all O.isFz = true) (hl : ωp.length + ωl.length = N.length)
    (hbody : ∀ (cdv : Value) (A : Around) (outer : List PySem.Env) (s : Shared) (H : Hp) (E : XK), Room k (A.deeper (envOfC qual (defScope st) s.heap.objs.size f cdv)) →
      ∃ t ω', DSs (cxOf CX0 P w K mg base N qual (defScope st) f cdv A outer s H E).nox E0 ⟨W, []⟩ (ωp ++ ωl) (defBody st) t fb ω' o) : FnOk P w K mg base CX0 (k + 1) f fd ps (spD K mg ps.length (fnD N.length fb) o) := by
  refine Fn.ok S (fun vs H Q E h => ?_) (fun cdv A outer s H vs Q E hr h => ?_)
  · obtain ⟨ds, F, _, r, hn, _⟩ := h
    rw [r.length, hn]
  · obtain ⟨ds, F, e, r, hn, p⟩ := h
    obtain ⟨t, ω', B⟩ := hbody cdv A outer s H E hr
    refine ⟨t, B.pss, ?_⟩
    have hlen : ds.length = ωp.length := by rw [hn, hp]
    have e1 : enter N.length ds = ds.map some ++ List.replicate ωl.length none := by
      unfold enter
      rw [hlen, ← hl, Nat.add_sub_cancel_left]
    have e2 : L2.start N vs = vs.map some ++ List.replicate ωl.length none := by
      unfold L2.start
      rw [r.length, hlen, ← hl, Nat.add_sub_cancel_left]
    have S0 : Stt K (ωp ++ ωl) (enter N.length ds) (L2.start N vs) F H (List.replicate (ωp.length + ωl.length) []) := by
      refine ⟨e, ?_, by rw [flat_nils]; exact List.nodup_nil⟩
      rw [e1, e2]
      exact sl_enter r hlen.symm hz ωl
    refine B.sem _ _ F H _ _ S0 ?_
    rw [flat_nils]
    unfold fnD at p
    cases hf : fb (enter N.length ds) with
    | ok fl =>
      rw [hf] at p
      cases fl with
      | nx ρ' => exact (show False from p).elim
      | rt d ρ' => exact fun v σ' F' H' B As' w r n ap S i g => p v F' H' B g.g.grow r (fun x hx => .inl ((g.g.new x (List.mem_append_left _ hx)).resolve_left (by simp))) n
    | exc c => rw [hf] at p; exact (show False from p).elim
    | no => rw [hf] at p; exact (show False from p).elim
end Dn

/-! Looking at what is owned; defs that change their arguments. -/
namespace Dn
open PySem L2 PyProof.Rows

/-! ### a value without lists and dicts in what is not one's own -/
mutual
def noBox : D → Bool
  | .tup xs => noBoxs xs
  | .lst _ => false
  | .dic _ => false
  | .scr _ => false
  | _ => true
def noBoxs : List D → Bool
  | [] => true
  | d :: ds => noBox d && noBoxs ds
end
mutual
def chk : O → D → Bool
  | .fz, d => noBox d
  | .own o, .lst ds => ds.all (chk o)
  | .own _, .dic es => es.all fun kv => noBox kv.2
  | .own _, d => noBox d
  | .tup os, .tup ds => chks os ds
  | .tup _, _ => false
def chks : List O → List D → Bool
  | o :: os, d :: ds => chk o d && chks os ds
  | [], [] => true
  | _, _ => false
end
section
variable {K : PySem.W.Frag} {F F' H H' : Hp}
/-- the tuples stand -/
def Tups (F F' : Hp) : Prop := ∀ x vs, F x = some (.tup vs) → F' x = some (.tup vs)
mutual
theorem rep_tups (e : Tups F F') : ∀ (d : D) (v : V), noBox d = true → Rep K F d v → Rep K F' d v
  | .non, v, _, r => r
  | .bl _, v, _, r => r
  | .int _, v, _, r => r
  | .str _, v, _, r => r
  | .err _ _, v, _, r => r
  | .tup ds, v, h, r => by
    obtain ⟨a, vs, h1, h2, h3⟩ := r
    exact ⟨a, vs, h1, e _ _ h2, reps_tups e ds vs h h3⟩
  | .lst _, v, h, _ => absurd h (by simp [noBox])
  | .dic _, v, h, _ => absurd h (by simp [noBox])
  | .scr _, v, h, _ => absurd h (by simp [noBox])
theorem reps_tups (e : Tups F F') : ∀ (ds : List D) (vs : List V), noBoxs ds = true → Reps K F ds vs → Reps K F' ds vs
  | [], vs, _, r => r
  | d :: ds, vs, h, r => by
    obtain ⟨v, vr, h1, h2, h3⟩ := r
    have h' : noBox d = true ∧ noBoxs ds = true := by simpa [noBoxs] using h
    exact ⟨v, vr, h1, rep_tups e d v h'.1 h2, reps_tups e ds vr h'.2 h3⟩
end
theorem repK_tups (e : Tups F F') : ∀ (es : List (L2.Key × D)) (kvs : List (L2.Key × V)), (es.all fun kv => noBox kv.2) = true → RepK K F es kvs → RepK K F' es kvs
  | [], kvs, _, r => r
  | (k, d) :: es, kvs, h, r => by
    obtain ⟨v, vr, h1, h2, h3⟩ := r
    rw [List.all_cons, Bool.and_eq_true] at h
    exact ⟨v, vr, h1, rep_tups e d v h.1 h2, repK_tups e es vr h.2 h3⟩
theorem allO_imp {P P' : D → V → List Addr → Prop} {p : D → Bool} (h : ∀ d v B, p d = true → P d v B → P' d v B) : ∀ {ds : List D} {vs : List V} {B : List Addr}, ds.all p = true → AllO P ds vs B → AllO P' ds vs B
  | [], vs, B, _, q => q
  | d :: ds, vs, B, hp, q => by
    obtain ⟨v, vr, B1, B2, h1, h2, h3, h4⟩ := q
    rw [List.all_cons, Bool.and_eq_true] at hp
    exact ⟨v, vr, B1, B2, h1, h2, h d v B1 hp.1 h3, allO_imp h hp.2 h4⟩
mutual
theorem repO_tups (e : Tups F F') (n : ∀ x, F x = none → F' x = none) : ∀ (o : O) (d : D) (v : V) (B : List Addr), chk o d = true → RepO K F H o d v B → RepO K F' H o d v B
  | .fz, d, v, B, h, r => ⟨rep_tups e d v (by simpa [chk] using h) r.1, r.2⟩
  | .own o, d, v, B, h, r => by
    rcases r with ⟨ds, a, vs, B', rfl, h2, h3, h4, h5, h6⟩ | ⟨es, a, kvs, rfl, h2, h3, h4, h5, h6⟩ | ⟨h1, h2, h3⟩
    · exact .inl ⟨ds, a, vs, B', rfl, h2, n _ h3, h4, h5, allO_imp (fun d v B hd q => repO_tups e n o d v B hd q) (by simpa [chk] using h) h6⟩
    · exact .inr (.inl ⟨es, a, kvs, rfl, h2, n _ h3, h4, repK_tups e es kvs (by simpa [chk] using h) h5, h6⟩)
    · refine .inr (.inr ⟨h1, rep_tups e d v ?_ h2, h3⟩)
      cases d with
      | lst _ => exact absurd h1 (by simp [isBox])
      | dic _ => exact absurd h1 (by simp [isBox])
      | _ => exact h
  | .tup os, d, v, B, h, r => by
    obtain ⟨ds, a, vs, rfl, h2, h3, h4⟩ := r
    exact ⟨ds, a, vs, rfl, h2, e _ _ h3, repT_tups e n os ds vs B (by simpa [chk] using h) h4⟩
theorem repT_tups (e : Tups F F') (n : ∀ x, F x = none → F' x = none) : ∀ (os : List O) (ds : List D) (vs : List V) (B : List Addr), chks os ds = true → RepT K F H os ds vs B → RepT K F' H os ds vs B
  | [], ds, vs, B, h, r => r
  | o :: os, ds, vs, B, h, r => by
    obtain ⟨d, dr, v, vr, B1, B2, rfl, h2, h3, h4, h5⟩ := r
    have h' : chk o d = true ∧ chks os dr = true := by simpa [chks] using h
    exact ⟨d, dr, v, vr, B1, B2, rfl, h2, h3, repO_tups e n o d v B1 h'.1 h4, repT_tups e n os dr vr B2 h'.2 h5⟩
end
end
theorem own_box {K : PySem.W.Frag} {F H : Hp} {x : Addr} : ∀ (o : O) (d : D) (v : V) (B : List Addr), RepO K F H o d v B → x ∈ B → ∀ vs, H x ≠ some (.tup vs) := by
  have main : ∀ (n : Nat), (∀ (o : O), sizeOf o ≤ n → ∀ (d : D) (v : V) (B : List Addr), RepO K F H o d v B → x ∈ B → ∀ vs, H x ≠ some (.tup vs)) ∧ (∀ (os : List O), sizeOf os ≤ n → ∀ (ds : List D) (vs : List V) (B : List Addr), RepT K F H os ds vs B → x ∈ B → ∀ vs, H x ≠ some (.tup vs)) := by
    intro n
    induction n with
    | zero => exact ⟨fun o h => by cases o <;> simp at h, fun os h => by cases os <;> simp at h⟩
    | succ n ih =>
      refine ⟨fun o h d v B r hx ws => ?_, fun os h ds vs B r hx ws => ?_⟩
      · cases o with
        | fz => rw [r.2] at hx; simp at hx
        | own o =>
          rcases r with ⟨ds, a, vs, B', _, _, h1, h2, h3, h4⟩ | ⟨es, a, kvs, _, _, h1, h2, _, h3⟩ | ⟨_, _, h3⟩
          · subst h3
            rcases List.mem_cons.mp hx with rfl | hx
            · rw [h2]; intro q; cases q
            · exact h4.mem hx fun d v B1 q hx' => ih.1 o (by simp at h; omega) d v B1 q hx' ws
          · subst h3
            obtain rfl := List.mem_singleton.mp hx
            rw [h2]; intro q; cases q
          · subst h3; simp at hx
        | tup os =>
          obtain ⟨ds, a, vs, _, _, _, h4⟩ := r
          exact ih.2 os (by simp at h; omega) ds vs B h4 hx ws
      · cases os with
        | nil => rw [r.2.2] at hx; simp at hx
        | cons o os =>
          obtain ⟨d, dr, v, vr, B1, B2, _, _, h3, h4, h5⟩ := r
          subst h3
          rcases List.mem_append.mp hx with hx | hx
          · exact ih.1 o (by simp at h; omega) d v B1 h4 hx ws
          · exact ih.2 os (by simp at h; omega) dr vr B2 h5 hx ws
  exact fun o => (main _).1 o (Nat.le_refl _)
section
variable {X : Cx} {E : XK} {ω : List O} {e a b : Expr} {t ta tb : TE} {f fa fb : Env → R D} {o : O} {M : List Nat} {pos : Pos}
/-- found by looking at what is owned, too -/
def eChk (o : O) (f : Env → R D) (ρ : Env) : R D := f ρ >>= fun d => if chk o d = true then .ok d else .no
theorem sl_box {K : PySem.W.Frag} {F H : Hp} {ρ : Env} {σ : L2.St} {As : List (List Addr)} {x : Addr} (S : Sl K F H ω ρ σ As) (hx : x ∈ As.flatten) : ∀ vs, H x ≠ some (.tup vs) := by
  induction S with
  | nil => simp at hx
  | none _ ih => exact ih (by simpa using hx)
  | some r _ ih =>
    rw [List.flatten_cons] at hx
    rcases List.mem_append.mp hx with hx | hx
    · exact own_box _ _ _ _ r hx
    · exact ih hx
theorem sem_chk {mg : Str → Option Value} {K : PySem.W.Frag} (h : Sem mg E K (ω.map fun _ => .fz) t f o []) : Sem mg E K ω t (eChk o f) o [] := fun σ ρ F H As Q S p => by
  refine h σ ρ _ H _ Q S.thaw ?_
  unfold eChk at p
  cases hf : f ρ with
  | ok d =>
    rw [hf, ok_bind] at p
    intro v F1 H1 B g r hB nd
    by_cases hc : chk o d = true
    · rw [if_pos hc] at p
      have hB' : ∀ x ∈ B, H x = none := fun x hx => by
        rcases hB x hx with q | q
        · exact q
        · exact q.nil.elim
      refine p v (fun x => if x ∈ As.flatten then none else F1 x) H1 B ⟨fun x u q => ?_, g.hh, fun x u q => ?_, fun x h1 h2 => ?_⟩ (repO_tups (fun x vs q => ?_) (fun x q => ?_) o d v B hc r) (fun x hx => .inl (hB' x hx)) nd
      · have nx : x ∉ As.flatten := fun hx => by rw [(S.sl.mem hx).1] at q; cases q
        show (if x ∈ As.flatten then none else F1 x) = some u
        rw [if_neg nx]
        exact g.ff _ _ (by rw [thawed_out nx]; exact q)
      · have q' : (if x ∈ As.flatten then none else F1 x) = some u := q
        by_cases hx : x ∈ As.flatten
        · rw [if_pos hx] at q'; cases q'
        · rw [if_neg hx] at q'; exact g.fh _ _ q'
      · show (if x ∈ As.flatten then none else F1 x) = none
        by_cases hx : x ∈ As.flatten
        · rw [if_pos hx]
        · rw [if_neg hx]
          exact g.sep x (by rw [thawed_out hx]; exact h1) h2
      · show (if x ∈ As.flatten then none else F1 x) = some (.tup vs)
        have nx : x ∉ As.flatten := fun hx => by
          have q2 := g.fh _ _ q
          cases hH : H x with
          | none => exact (S.sl.mem hx).2 hH
          | some u =>
            rw [g.hh _ _ hH] at q2
            cases q2
            exact sl_box S.sl hx vs hH
        rw [if_neg nx]
        exact q
      · show (if x ∈ As.flatten then none else F1 x) = none
        by_cases hx : x ∈ As.flatten
        · rw [if_pos hx]
        · rw [if_neg hx]; exact q
    · rw [if_neg hc] at p
      exact p.elim
  | exc c => rw [hf] at p; exact p
  | no => rw [hf] at p; exact p
theorem de_chk (h : DE X E (ω.map fun _ => .fz) e t f o []) : DE X E ω e t (eChk o f) o [] := ⟨h.pe, sem_chk h.sem⟩
/-- x[b], x one's own -/
def eIxV (i : Nat) (fb : Env → R D) (ρ : Env) : R D := match ρ[i]? with
  | some (some d) => fb ρ >>= fun k => ixD d k
  | _ => .no
theorem de_ixV {i k : Nat} {x : Str} {npos : Pos} (hr : Room k X.A) (hb : DE X E ω b tb fb .fz []) (hi : ω[i]? = some (.own .fz) := by rfl) (hN : X.N[i]? = some x := by rfl) (hv : Vis X.env.scope x := by first | exact Or.inl rfl | exact Or.inr (Or.inl rfl) | exact Or.inr (Or.inr rfl)) (hd : (x == ("__debug__" : Str)) = false := by decide)
    (hcd : (x == ("__classdict__" : Str)) = false := by decide) (hs : PlainIx b := by intro _ _; rfl) : DE X E ω (.Subscript (.Name x npos) b pos) (tOp (rIxA X.K) (tVar i) tb) (eIxV i fb) .fz [] :=
  ⟨pe_ix (ix_any hr) (pe_var hN hv hd hcd) hb.pe hs, fun σ ρ F H As Q S p => by
    unfold eIxV at p
    split at p
    · rename_i d hρ
      obtain ⟨v, B, hσ, hA, r⟩ := S.sl.get hi hρ
      refine ⟨v, hσ, ?_⟩
      refine hb.sem.then S p fun kd kv F1 H1 B1 g1 S1 r1 _ _ p1 => ?_
      have r' := r.grow g1
      cases d with
      | lst ds =>
        obtain ⟨a, vs, rfl, Fa, Ha, rfl, rs⟩ := list_at r'
        cases kd with
        | int i =>
          have p2 : Pst X.mg E X.K .fz As [] F1 H1 Q (match atI ds i with
            | some d => .ok d
            | none => .no) := p1
          split at p2
          · rename_i d h
            obtain ⟨w, h3, h4⟩ := atI_reps rs h
            exact .inl (.inl ⟨a, vs, i, w, rfl, r1.1, .of Ha, h3, p2.fin S1.ex h4⟩)
          · exact p2.elim
        | _ => exact (show False from p1).elim
      | dic es =>
        obtain ⟨a, kvs, rfl, Fa, Ha, rfl, rs⟩ := dict_at r'
        have p2 : Pst X.mg E X.K .fz As [] F1 H1 Q (match keyD kd with
          | some k => (match valK es k with
            | some d => .ok d
            | none => .no)
          | none => .no) := p1
        split at p2
        · rename_i k hk
          split at p2
          · rename_i d hd
            rcases repK_val (k := k) rs with ⟨q1, q2⟩ | ⟨d', w, q1, q2, r3⟩
            · rw [hd] at q2; cases q2
            · rw [hd] at q2
              cases q2
              refine .inr ⟨a, w, rfl, ?_, p2.fin S1.ex r3⟩
              rw [key_rep hk r1.1, ← q1]
              exact DGet.k Ha
          · exact p2.elim
        · exact p2.elim
      | _ =>
        rcases r' with ⟨ds', a, vs, B', h1, _⟩ | ⟨es, a, kvs, h1, _⟩ | ⟨hb, rr, rfl⟩
        · cases h1
        · cases h1
        · exact od_ix F1 H1 As v kv _ kd Q S1.ex rr r1.1 p1
    · exact p.elim⟩
end
end Dn

/-! Expressions that change what names own: calls of defs that change their arguments. -/
namespace Dn
open PySem L2 PyProof.Rows

section
variable (mg : Str → Option Value) (E : XK) (K : PySem.W.Frag)
def PstX (ω : List O) (o : O) (σ : L2.St) (A : List Addr) (F H : Hp) (Q : VK) : R (D × Env) → Prop
  | .ok (d, ρ') => ∀ v F' H' As' B, Stt K ω ρ' σ F' H' As' → RepO K F' H' o d v B → B.Nodup → (∀ x ∈ B, x ∉ As'.flatten) → GrowA A F H F' H' (B ++ As'.flatten) → Q v H'
  | .exc c => ∀ H', (∀ x o, H x = some o → x ∉ A → H' x = some o) → E (clsOf mg c) none H'
  | .no => False
def SemX (ω : List O) (t : TE) (f : Env → R (D × Env)) (o : O) : Prop := ∀ σ ρ F H As Q, Stt K ω ρ σ F H As → PstX mg E K ω o σ As.flatten F H Q (f ρ) → t σ H Q
/-- arguments: none, frozen data; some i, the name i itself -/
def ArgR (F : Hp) (ρ : Env) (σ : L2.St) : List (Option Nat) → List D → List V → Prop
  | [], ds, vs => ds = [] ∧ vs = []
  | none :: ks, ds, vs => ∃ d dr v vr, ds = d :: dr ∧ vs = v :: vr ∧ Rep K F d v ∧ ArgR F ρ σ ks dr vr
  | some i :: ks, ds, vs => ∃ d dr v vr, ds = d :: dr ∧ vs = v :: vr ∧ σ[i]? = some (some v) ∧ ρ[i]? = some (some d) ∧ ArgR F ρ σ ks dr vr
def PstXA (ω : List O) (ks : List (Option Nat)) (σ : L2.St) (A : List Addr) (F H : Hp) (Q : List V → Hp → Prop) : R (List D × Env) → Prop
  | .ok (ds, ρ') => ∀ vs F' H' As', Stt K ω ρ' σ F' H' As' → ArgR K F' ρ' σ ks ds vs → GrowA A F H F' H' As'.flatten → Q vs H'
  | .exc c => ∀ H', (∀ x o, H x = some o → x ∉ A → H' x = some o) → E (clsOf mg c) none H'
  | .no => False
def SemXA (ω : List O) (t : TA) (f : Env → R (List D × Env)) (ks : List (Option Nat)) : Prop := ∀ σ ρ F H As Q, Stt K ω ρ σ F H As → PstXA mg E K ω ks σ As.flatten F H Q (f ρ) → t σ H Q
end
section
variable {mg : Str → Option Value} {E : XK} {K : PySem.W.Frag} {F F' H H' F1 H1 F2 H2 : Hp} {ω ω' : List O} {ρ : Env} {σ : L2.St} {As : List (List Addr)} {A A1 A2 : List Addr} {o o' : O} {ks : List (Option Nat)}
theorem exc_grow {A1 : List Addr} {Z : Hp → Prop} (g : GrowA A F H F1 H1 A1) (p : ∀ H', (∀ x o, H x = some o → x ∉ A → H' x = some o) → Z H') : ∀ H', (∀ x o, H1 x = some o → x ∉ A1 → H' x = some o) → Z H' := fun H' q => p H' fun x o h1 h2 => q x o (g.keep x o h1 h2) fun h3 => by
  rcases g.new x h3 with z | z
  · exact h2 z
  · rw [h1] at z; cases z
theorem PstX.grow {Q : VK} {r : R (D × Env)} (g : GrowA A F H F1 H1 A1) (p : PstX mg E K ω o σ A F H Q r) : PstX mg E K ω o σ A1 F1 H1 Q r := by
  cases r with
  | ok q => exact fun v F' H' As' B S r n ap g' => p v F' H' As' B S r n ap (g.trans g')
  | exc c => exact exc_grow g p
  | no => exact p
theorem PstXA.grow {Q : List V → Hp → Prop} {r : R (List D × Env)} (g : GrowA A F H F1 H1 A1) (p : PstXA mg E K ω ks σ A F H Q r) : PstXA mg E K ω ks σ A1 F1 H1 Q r := by
  cases r with
  | ok q => exact fun v F' H' As' S r g' => p v F' H' As' S r (g.trans g')
  | exc c => exact exc_grow g p
  | no => exact p
theorem PstX.growG {Q : VK} {r : R (D × Env)} (g : Grow F H F1 H1) (p : PstX mg E K ω o σ A F H Q r) : PstX mg E K ω o σ A F1 H1 Q r := p.grow (.of g fun x h => .inl h)
theorem ArgR.mono : ∀ {ks : List (Option Nat)} {ds : List D} {vs : List V}, Same F F' → ArgR K F ρ σ ks ds vs → ArgR K F' ρ σ ks ds vs
  | [], ds, vs, e, r => r
  | none :: ks, ds, vs, e, r => by
    obtain ⟨d, dr, v, vr, h1, h2, h3, h4⟩ := r
    exact ⟨d, dr, v, vr, h1, h2, Rep.mono e d v h3, ArgR.mono e h4⟩
  | some i :: ks, ds, vs, e, r => by
    obtain ⟨d, dr, v, vr, h1, h2, h3, h4, h5⟩ := r
    exact ⟨d, dr, v, vr, h1, h2, h3, h4, ArgR.mono e h5⟩
end
structure DX (X : Cx) (E : XK) (ω : List O) (e : Expr) (t : TE) (f : Env → R (D × Env)) (o : O) : Prop where
  pe : PE X e t
  sem : SemX X.mg E X.K ω t f o
structure DXA (X : Cx) (E : XK) (ω : List O) (es : List Expr) (t : TA) (f : Env → R (List D × Env)) (ks : List (Option Nat)) : Prop where
  pa : PA X es t
  sem : SemXA X.mg E X.K ω t f ks
def xPure (f : Env → R D) (ρ : Env) : R (D × Env) := f ρ >>= fun d => .ok (d, ρ)
def xaNil (ρ : Env) : R (List D × Env) := .ok ([], ρ)
def xaCons (f : Env → R (D × Env)) (g : Env → R (List D × Env)) (ρ : Env) : R (List D × Env) := f ρ >>= fun p => g p.2 >>= fun q => .ok (p.1 :: q.1, q.2)
def xaVar (i : Nat) (g : Env → R (List D × Env)) (ρ : Env) : R (List D × Env) := match ρ[i]? with
  | some (some _) => g ρ >>= fun q => (match q.2[i]? with
    | some (some d) => .ok (d :: q.1, q.2)
    | _ => .no)
  | _ => .no
section
variable {X : Cx} {E : XK} {c : Cfg} {ω ω1 ω' : List O} {st : Stmt} {sts : List Stmt} {e a b : Expr} {es : List Expr} {t u : TS} {te ta tb : TE} {tas : TA} {f g : Env → R (D × Env)} {fe fa fb : Env → R D} {fas : Env → R (List D × Env)} {o or : O} {M : List Nat} {ks : List (Option Nat)} {pos cpos apos npos : Pos} {x : Str}
theorem dx_pure (h : DE X E ω e te fe o []) : DX X E ω e te (xPure fe) o := ⟨h.pe, fun σ ρ F H As Q S p => by
  refine h.sem σ ρ F H As _ S ?_
  unfold xPure at p
  cases hf : fe ρ with
  | ok d =>
    rw [hf] at p
    intro v F1 H1 B g r b n
    have b' : ∀ x ∈ B, H x = none := fun x hx => (b x hx).resolve_right fun z => z.nil.elim
    exact p v F1 H1 As B (S.grow g) r n (fun x hx hf => (S.sl.mem hf).2 (b' x hx)) (.of g fun x hx => by
      rcases List.mem_append.mp hx with hx | hx
      · exact .inr (b' x hx)
      · exact .inl hx)
  | exc c => rw [hf] at p; exact fun H' q => p H' fun x o h1 _ => q x o h1
  | no => rw [hf] at p; exact p⟩
theorem sx_frz {mg : Str → Option Value} {K : PySem.W.Frag} (h : SemX mg E K ω te f o) : SemX mg E K ω te f .fz := fun σ ρ F H As Q S p => by
  refine h σ ρ F H As Q S ?_
  cases hf : f ρ with
  | ok q =>
    rw [hf] at p
    obtain ⟨d, ρ'⟩ := q
    intro v F' H' As' B S' r n ap g
    have hB0 : ∀ x ∈ B, F' x = none := fun x hx => (RepO.mem o d v B r hx).1
    have S2 : Stt K ω ρ' σ (thawed F' H' B) H' As' := ⟨thawed_heap S'.ex, S'.sl.keep (thawed_same hB0) fun x hx => ⟨by rw [thawed_out fun hb => ap x hb hx]; exact (S'.sl.mem hx).1, rfl⟩, S'.nd⟩
    refine p v _ H' As' [] S2 ⟨RepO.thaw o d v B (thawed_same hB0) (fun x hx => thawed_in hx) r, rfl⟩ List.nodup_nil (by simp) ⟨g.ff.trans (thawed_same hB0), thawed_heap g.fh, g.keep, g.th, fun x h1 h2 h3 => ?_, fun x hx => g.new x (List.mem_append_right _ hx)⟩
    have nb : x ∉ B := fun hb => by
      rcases g.new x (List.mem_append_left _ hb) with q | q
      · exact h3 q
      · exact h2 q
    rw [thawed_out nb]
    exact g.sep x h1 h2 h3
  | exc c => rw [hf] at p; exact p
  | no => rw [hf] at p; exact p
theorem dx_frz (h : DX X E ω e te f o) : DX X E ω e te f .fz := ⟨h.pe, sx_frz h.sem⟩
theorem dxa_nil : DXA X E ω [] tNil xaNil [] := ⟨pa_nil, fun σ ρ F H As Q S p => p [] F H As S ⟨rfl, rfl⟩ (GrowA.refl S.ex)⟩
theorem dxa_cons (h : DX X E ω e te f .fz) (h' : DXA X E ω es tas fas ks) (hs : starEach (e :: es) X.env = (false, eval e X.env) :: starEach es X.env := by rfl) : DXA X E ω (e :: es) (tCons te tas) (xaCons f fas) (none :: ks) :=
  ⟨pa_cons h.pe h'.pa hs, fun σ ρ F H As Q S p => by
    refine h.sem σ ρ F H As _ S ?_
    unfold xaCons at p
    cases hf : f ρ with
    | ok q =>
      rw [hf] at p
      obtain ⟨d, ρ'⟩ := q
      intro v F1 H1 As1 B S1 r n ap g
      obtain ⟨r, rfl⟩ := r
      have g' : GrowA As.flatten F H F1 H1 As1.flatten := g
      have p1 := PstXA.grow g' p
      refine h'.sem σ ρ' F1 H1 As1 _ S1 ?_
      cases hg : fas ρ' with
      | ok q =>
        obtain ⟨ds, ρ2⟩ := q
        rw [show (R.ok (d, ρ') >>= fun p => fas p.2 >>= fun q => R.ok (p.1 :: q.1, q.2)) = (fas ρ' >>= fun q => R.ok (d :: q.1, q.2)) from rfl, hg] at p1
        exact fun vs F2 H2 As2 S2 ar g2 => p1 (v :: vs) F2 H2 As2 S2 ⟨d, ds, v, vs, rfl, rfl, Rep.mono g2.ff d v r, ar⟩ g2
      | exc c =>
        rw [show (R.ok (d, ρ') >>= fun p => fas p.2 >>= fun q => R.ok (p.1 :: q.1, q.2)) = (fas ρ' >>= fun q => R.ok (d :: q.1, q.2)) from rfl, hg] at p1
        exact p1
      | no =>
        rw [show (R.ok (d, ρ') >>= fun p => fas p.2 >>= fun q => R.ok (p.1 :: q.1, q.2)) = (fas ρ' >>= fun q => R.ok (d :: q.1, q.2)) from rfl, hg] at p1
        exact p1
    | exc c => rw [hf] at p; exact p
    | no => rw [hf] at p; exact p⟩
theorem dxa_var {i : Nat} (h' : DXA X E ω es tas fas ks) (hN : X.N[i]? = some x := by rfl) (hv : Vis X.env.scope x := by first | exact Or.inl rfl | exact Or.inr (Or.inl rfl) | exact Or.inr (Or.inr rfl)) (hd : (x == ("__debug__" : Str)) = false := by decide)
    (hcd : (x == ("__classdict__" : Str)) = false := by decide) (hs : starEach (.Name x npos :: es) X.env = (false, eval (.Name x npos) X.env) :: starEach es X.env := by rfl) : DXA X E ω (.Name x npos :: es) (tCons (tVar i) tas) (xaVar i fas) (some i :: ks) :=
  ⟨pa_cons (pe_var hN hv hd hcd) h'.pa hs, fun σ ρ F H As Q S p => by
    unfold xaVar at p
    split at p
    · rename_i d0 hρ
      obtain ⟨o0, ho⟩ := S.sl.getO hρ
      obtain ⟨v, B, hσ, hA, r⟩ := S.sl.get ho hρ
      refine ⟨v, hσ, ?_⟩
      refine h'.sem σ ρ F H As _ S ?_
      cases hg : fas ρ with
      | ok q =>
        obtain ⟨ds, ρ'⟩ := q
        rw [hg] at p
        intro vs F1 H1 As1 S1 ar g1
        have p' : PstXA X.mg E X.K ω (some i :: ks) σ As.flatten F H Q (match ρ'[i]? with
          | some (some d) => .ok (d :: ds, ρ')
          | _ => .no) := p
        split at p'
        · rename_i d hd
          exact p' (v :: vs) F1 H1 As1 S1 ⟨d, ds, v, vs, rfl, rfl, hσ, hd, ar⟩ g1
        · exact p'.elim
      | exc c => rw [hg] at p; exact p
      | no => rw [hg] at p; exact p
    · exact p.elim⟩
end

/-! ### the promise of a def that changes its arguments -/
/-- the values of the arguments that are changed -/
def ioV {α : Type} : List Bool → List α → List α
  | true :: ib, v :: vs => v :: ioV ib vs
  | false :: ib, _ :: vs => ioV ib vs
  | _, _ => []
def oOf (b : Bool) : O := if b then .own .fz else .fz
def PstC (mg : Str → Option Value) (E : XK) (K : PySem.W.Frag) (o : O) (vio : List V) (A : List Addr) (F H : Hp) (Q : VK) : R (D × List D) → Prop
  | .ok (d, ds') => ∀ v F' H' B A', RepO K F' H' o d v B → B.Nodup → (∀ x ∈ B, x ∉ A') → AllO (RepO K F' H' (.own .fz)) ds' vio A' → A'.Nodup → GrowA A F H F' H' (B ++ A') → Q v H'
  | .exc c => ∀ H', (∀ x o, H x = some o → x ∉ A → H' x = some o) → E (clsOf mg c) none H'
  | .no => False
def spX (K : PySem.W.Frag) (mg : Str → Option Value) (ib : List Bool) (g : List D → R (D × List D)) (o : O) : Sp := fun vs H Q E => ∃ ds F A, Same F H ∧ RepT K F H (ib.map oOf) ds vs A ∧ A.Nodup ∧ PstC mg E K o (ioV ib vs) A F H Q (g ds)
structure XFn (P : Program) (w : World) (K : PySem.W.Frag) (mg : Str → Option Value) (base : Heap) (CX : CXT) (k : Nat) (x : Str) (ib : List Bool) (g : List D → R (D × List D)) (o : O) : Prop where
  ex : ∃ f fd ps, mg x = some (.ref f) ∧ PySem.W.keepIn K (.ref f) = true ∧ Binds K fd ps [] ∧ FnOk P w K mg base CX k f fd ps (spX K mg ib g o)
/-- names take new data -/
def putL (ρ : Env) : List Nat → List D → Env
  | i :: is, d :: ds => putL (ρ.set i (some d)) is ds
  | _, _ => ρ
def xCall (g : List D → R (D × List D)) (I : List Nat) (fas : Env → R (List D × Env)) (ρ : Env) : R (D × Env) := fas ρ >>= fun p => g p.1 >>= fun q => if q.2.length = I.length then .ok (q.1, putL p.2 I q.2) else .no
def slotsOf : List (Option Nat) → List Nat
  | [] => []
  | none :: ks => slotsOf ks
  | some i :: ks => i :: slotsOf ks
section
variable {K : PySem.W.Frag} {F F' H H' F1 H1 F2 H2 : Hp} {ω ω' : List O} {σ : L2.St}
/-- the arguments, as the callee has them -/
theorem args_in {ρ : Env} {As : List (List Addr)} (S : Stt K ω ρ σ F H As) : ∀ {ks : List (Option Nat)} {ds : List D} {vs : List V}, ArgR K F ρ σ ks ds vs → (∀ i ∈ slotsOf ks, ω[i]? = some (.own .fz)) →
    ∃ A, RepT K F H (ks.map fun k => oOf k.isSome) ds vs A ∧ (∀ x ∈ A, OfM As (slotsOf ks) x) ∧ ((slotsOf ks).Nodup → A.Nodup)
  | [], ds, vs, r, h => by
    obtain ⟨rfl, rfl⟩ := r
    exact ⟨[], ⟨rfl, rfl, rfl⟩, by simp, fun _ => List.nodup_nil⟩
  | none :: ks, ds, vs, r, h => by
    obtain ⟨d, dr, v, vr, rfl, rfl, h3, h4⟩ := r
    obtain ⟨A, h5, h6, h7⟩ := args_in S h4 h
    exact ⟨A, ⟨d, dr, v, vr, [], A, rfl, rfl, rfl, ⟨h3, rfl⟩, h5⟩, h6, h7⟩
  | some i :: ks, ds, vs, r, h => by
    obtain ⟨d, dr, v, vr, rfl, rfl, h3, h4, h5⟩ := r
    obtain ⟨A, h6, h7, h8⟩ := args_in S h5 fun j hj => h j (List.mem_cons_of_mem _ hj)
    obtain ⟨v', B, q1, q2, q3⟩ := S.sl.get (h i List.mem_cons_self) h4
    rw [h3] at q1
    cases q1
    refine ⟨B ++ A, ⟨d, dr, v, vr, B, A, rfl, rfl, rfl, q3, h6⟩, fun x hx => ?_, fun n => ?_⟩
    · rcases List.mem_append.mp hx with hx | hx
      · exact ⟨i, List.mem_cons_self, B, q2, hx⟩
      · exact (h7 x hx).imp fun j hj => List.mem_cons_of_mem _ hj
    · obtain ⟨n1, n2⟩ := List.nodup_cons.mp n
      refine List.nodup_append.mpr ⟨flat_part S.nd q2, h8 n2, fun x hx y hy e => ?_⟩
      subst e
      obtain ⟨j, hj, C, hC, xC⟩ := h7 x hy
      have := flat_apart S.nd q2 hC hx xC
      subst this
      exact n1 hj
theorem io_vals {ρ : Env} : ∀ {ks : List (Option Nat)} {ds : List D} {vs : List V}, ArgR K F ρ σ ks ds vs → ∀ (j : Nat) (i : Nat), (slotsOf ks)[j]? = some i → ∃ v, (ioV (ks.map (·.isSome)) vs)[j]? = some v ∧ σ[i]? = some (some v)
  | [], ds, vs, r, j, i, h => by simp [slotsOf] at h
  | none :: ks, ds, vs, r, j, i, h => by
    obtain ⟨d, dr, v, vr, rfl, rfl, h3, h4⟩ := r
    exact io_vals h4 j i h
  | some i' :: ks, ds, vs, r, j, i, h => by
    obtain ⟨d, dr, v, vr, rfl, rfl, h3, h4, h5⟩ := r
    cases j with
    | zero =>
      simp [slotsOf] at h
      subst h
      exact ⟨v, rfl, h3⟩
    | succ j => exact io_vals h5 j i (by simpa [slotsOf] using h)
/-- names that own nothing take what is owned anew -/
theorem puts_back : ∀ {I : List Nat} {ds : List D} {vs : List V} {A : List Addr} {ρ : Env} {As : List (List Addr)}, Stt K ω ρ σ F H As → AllO (RepO K F H (.own .fz)) ds vs A → ds.length = I.length → A.Nodup → (∀ x ∈ A, x ∉ As.flatten) → (∀ i ∈ I, ω[i]? = some (.own .fz)) → (∀ (j : Nat) (i : Nat), I[j]? = some i → ∃ v, vs[j]? = some v ∧ σ[i]? = some (some v)) →
    ∃ As', Stt K ω (putL ρ I ds) σ F H As' ∧ ∀ x ∈ As'.flatten, x ∈ As.flatten ∨ x ∈ A
  | [], [], vs, A, ρ, As, S, r, hl, nA, ap, hω, hσ => ⟨As, S, fun x h => .inl h⟩
  | i :: I, d :: ds, vs, A, ρ, As, S, r, hl, nA, ap, hω, hσ => by
    obtain ⟨v, vr, B1, B2, rfl, rfl, r1, r2⟩ := r
    obtain ⟨n1, n2, n3⟩ := List.nodup_append.mp nA
    obtain ⟨v', h1, h2⟩ := hσ 0 i rfl
    simp at h1
    subst h1
    have hi := hω i List.mem_cons_self
    have S1 := S.sl.put (i := i) r1
    rw [list_set_self hi, list_set_self h2] at S1
    have S2 : Stt K ω (ρ.set i (some d)) σ F H (As.set i B1) := ⟨S.ex, S1, flat_set_nd S.nd n1 fun x hx j C _ h4 h5 => ap x (List.mem_append_left _ hx) (List.mem_flatten.mpr ⟨C, List.mem_of_getElem? h4, h5⟩)⟩
    obtain ⟨As', S3, h3⟩ := puts_back (I := I) S2 r2 (Nat.succ.inj hl) n2 (fun x hx hf => by
      rcases flat_set hf with q | ⟨j, C, _, h4, h5⟩
      · exact n3 x q x hx rfl
      · exact ap x (List.mem_append_right _ hx) (List.mem_flatten.mpr ⟨C, List.mem_of_getElem? h4, h5⟩)) (fun j hj => hω j (List.mem_cons_of_mem _ hj)) fun j i' h => by
        obtain ⟨w, q1, q2⟩ := hσ (j + 1) i' (by simpa using h)
        exact ⟨w, by simpa using q1, q2⟩
    refine ⟨As', S3, fun x hx => ?_⟩
    rcases h3 x hx with q | q
    · rcases flat_set q with q | ⟨j, C, _, h4, h5⟩
      · exact .inr (List.mem_append_left _ q)
      · exact .inl (List.mem_flatten.mpr ⟨C, List.mem_of_getElem? h4, h5⟩)
    · exact .inr (List.mem_append_right _ q)
  | [], d :: ds, _, _, _, _, _, _, hl, _, _, _, _ => by cases hl
  | i :: I, [], _, _, _, _, _, _, hl, _, _, _, _ => by cases hl
theorem hideE_get : ∀ {M : List Nat} {ρ : Env} {I : List Nat} {ds : List D}, (∀ i ∈ M, i ∈ I) → ds.length = I.length → (∀ i ∈ I, i < ρ.length) → putL (hideE ρ M) I ds = putL ρ I ds := by
  have main : ∀ (I : List Nat) (ds : List D) (ρ1 ρ2 : Env), ds.length = I.length → ρ1.length = ρ2.length → (∀ j, j ∉ I → ρ1[j]? = ρ2[j]?) → putL ρ1 I ds = putL ρ2 I ds := by
    intro I
    induction I with
    | nil =>
      intro ds ρ1 ρ2 hl hn h
      cases ds with
      | nil => exact List.ext_getElem? fun j => h j (by simp)
      | cons d ds => cases hl
    | cons i I ih =>
      intro ds ρ1 ρ2 hl hn h
      cases ds with
      | nil => cases hl
      | cons d ds =>
        refine ih ds _ _ (Nat.succ.inj hl) (by simp [hn]) fun j hj => ?_
        by_cases e : i = j
        · subst e
          rw [List.getElem?_set, List.getElem?_set, hn, if_pos rfl, if_pos rfl]
        · rw [List.getElem?_set_ne e, List.getElem?_set_ne e]
          exact h j (by simp [Ne.symm e, hj])
  intro M ρ I ds hM hl _
  refine main I ds _ _ hl ?_ fun j hj => ?_
  · clear hM
    induction M with
    | nil => rfl
    | cons m M ih => simp [hideE, ih]
  · induction M with
    | nil => rfl
    | cons m M ih =>
      have hm : m ≠ j := fun e => hj (by rw [← e]; exact hM m List.mem_cons_self)
      show ((hideE ρ M).set m none)[j]? = _
      rw [List.getElem?_set_ne hm]
      exact ih fun i hi => hM i (List.mem_cons_of_mem _ hi)
end
section
variable {X : Cx} {E : XK} {c : Cfg} {ω ω1 ω' : List O} {st : Stmt} {sts : List Stmt} {e a b : Expr} {es : List Expr} {t u : TS} {te ta tb : TE} {tas : TA} {f g : Env → R (D × Env)} {fe fa fb : Env → R D} {fas : Env → R (List D × Env)} {o or : O} {M : List Nat} {ks : List (Option Nat)} {pos cpos apos npos : Pos} {x : Str}
theorem ioOk_get {I : List Nat} {ω : List O} (h : ioOk I ω = true) : ∀ i ∈ I, ω[i]? = some (.own .fz) := fun i hi => by
  have q := List.all_eq_true.mp h i hi
  split at q
  · rename_i o ho
    rw [ho]
    cases o with
    | own o =>
      cases o with
      | fz => rfl
      | _ => exact absurd q (by simp [O.isOwn])
    | _ => exact absurd q (by simp [O.isOwn])
  · exact absurd q (by simp)
theorem sx_call {mg : Str → Option Value} {K : PySem.W.Frag} {gx : List D → R (D × List D)} {ib : List Bool} {I : List Nat} (h : SemXA mg E K ω tas fas ks) (hI : slotsOf ks = I) (hib : ks.map (·.isSome) = ib) (hω : ioOk I ω = true) (hn : I.Nodup) : SemX mg E K ω (tCall (spX K mg ib gx o) [] E tas) (xCall gx I fas) o := fun σ ρ F H As Q S p => by
  refine h σ ρ F H As _ S ?_
  unfold xCall at p
  cases hf : fas ρ with
  | exc c => rw [hf] at p; exact p
  | no => rw [hf] at p; exact p
  | ok q =>
    obtain ⟨ds, ρ1⟩ := q
    rw [hf] at p
    intro vs F1 H1 As1 S1 ar g1
    subst hI
    subst hib
    have hω' := ioOk_get hω
    obtain ⟨A, h5, h6, h7⟩ := args_in S1 ar hω'
    refine ⟨ds, F1, A, S1.ex, ?_, h7 hn, ?_⟩
    · rw [List.append_nil, List.map_map]
      exact h5
    rw [List.append_nil]
    have p1 : PstX mg E K ω o σ As.flatten F H Q (gx ds >>= fun q => if q.2.length = (slotsOf ks).length then .ok (q.1, putL ρ1 (slotsOf ks) q.2) else .no) := p
    have p2 := PstX.grow g1 p1
    have sub : ∀ x ∈ A, x ∈ As1.flatten := fun x hx => (h6 x hx).flat
    cases hg : gx ds with
    | no => rw [hg] at p2; exact p2
    | exc c =>
      rw [hg] at p2
      exact fun H' q => p2 H' fun x o h1 h2 => q x o h1 fun h3 => h2 (sub x h3)
    | ok q =>
      obtain ⟨d, ds'⟩ := q
      rw [hg, ok_bind] at p2
      by_cases hlen : ds'.length = (slotsOf ks).length
      · rw [if_pos hlen] at p2
        intro v F2 H2 B A' r nB apB rA nA g2
        -- the names that own none of it
        have E1 : Stt K ω (hideE ρ1 (slotsOf ks)) σ F2 H2 (emptied As1 (slotsOf ks)) := by
          refine ⟨g2.fh, (S1.sl.hides (slotsOf ks)).keep g2.ff fun x hx => ?_, emptied_nd S1.nd _⟩
          have xin := emptied_sub hx
          have nA : x ∉ A := fun hA => emptied_apart S1 (M := slotsOf ks) (B := A) (fun y hy => .inr (h6 y hy)) x hA hx
          have q := S1.sl.mem xin
          refine ⟨g2.sep x q.1 q.2 nA, ?_⟩
          cases hh : H1 x with
          | none => exact absurd hh q.2
          | some u => exact g2.keep x u hh nA
        have ap : ∀ x ∈ B ++ A', x ∉ (emptied As1 (slotsOf ks)).flatten := fun x hx hf => by
          rcases g2.new x hx with q | q
          · exact emptied_apart S1 (M := slotsOf ks) (B := A) (fun y hy => .inr (h6 y hy)) x q hf
          · exact (S1.sl.mem (emptied_sub hf)).2 q
        obtain ⟨As', S3, h3⟩ := puts_back (I := slotsOf ks) E1 rA hlen nA (fun x hx => ap x (List.mem_append_right _ hx)) hω' fun j i hj => by
          obtain ⟨w, q1, q2⟩ := io_vals ar j i hj
          exact ⟨w, q1, q2⟩
        rw [hideE_get (fun i h => h) hlen (fun i hi => by rw [S1.sl.lens.1]; exact (List.getElem?_eq_some_iff.mp (hω' i hi)).1)] at S3
        refine p2 v F2 H2 As' B S3 r nB (fun x hx hf => ?_) ⟨g2.ff, g2.fh, fun x u hx hn => g2.keep x u hx fun hA => hn (sub x hA), g2.th, fun x q1 q2 q3 => g2.sep x q1 q2 fun hA => q3 (sub x hA), fun x hx => ?_⟩
        · rcases h3 x hf with q | q
          · exact ap x (List.mem_append_left _ hx) q
          · exact apB x hx q
        · rcases List.mem_append.mp hx with hx | hx
          · exact (g2.new x (List.mem_append_left _ hx)).imp (sub x) id
          · rcases h3 x hx with q | q
            · exact .inl (emptied_sub q)
            · exact (g2.new x (List.mem_append_right _ q)).imp (sub x) id
      · rw [if_neg hlen] at p2
        exact p2.elim
theorem dx_call {CX : CXT} {k : Nat} {p : Pos} {gx : List D → R (D × List D)} {ib : List Bool} (C : XFn X.prog X.w X.K X.mg X.base CX k x ib gx o) (hr : Room k X.A) (hx : Passes CX X E) (ha : DXA X E ω (e :: es) tas fas ks) (I : List Nat) (hI : slotsOf ks = I := by rfl) (hib : ks.map (·.isSome) = ib := by rfl) (hω : ioOk I ω = true := by rfl) (hn : I.Nodup := by decide)
    (hg : Gl X x := by rfl) (hdb : (x == ("__debug__" : Str)) = false := by decide) (he : starEach (e :: es) X.env = (false, eval e X.env) :: starEach es X.env := by rfl) (hpl : (backTo pos (starEach es X.env)).any (·.1) = false := by rfl) :
    DX X E ω (.Call (.Name x p) (e :: es) [] pos) (tCall (spX X.K X.mg ib gx o) [] E tas) (xCall gx I fas) o := by
  obtain ⟨f, fd, ps, h1, h2, h3, h4⟩ := C.ex
  exact ⟨pe_call h4 hr hg h1 h2 h3 .nil hx ha.pa hdb he hpl, sx_call ha.sem hI hib hω hn⟩

/-! ### statements of such -/
def sAsgX (i : Nat) (f : Env → R (D × Env)) (ρ : Env) : R Fl := f ρ >>= fun q => .ok (.nx (q.2.set i (some q.1)))
def sRetX (f : Env → R (D × Env)) (ρ : Env) : R Fl := f ρ >>= fun q => .ok (.rt q.1 q.2)
theorem sem_asgX {mg : Str → Option Value} {K : PySem.W.Frag} {i : Nat} (hW : c.W.contains i = true) (h : SemX mg E K ω te f o) : SemS mg E K c ω (tAsg te (gName i)) (sAsgX i f) (ω.set i o) or := fun σ ρ F H As Dd S p => by
  refine h σ ρ F H As _ S ?_
  unfold sAsgX at p
  cases hf : f ρ with
  | ok q =>
    obtain ⟨d, ρ'⟩ := q
    rw [hf] at p
    intro v F1 H1 As1 B S1 r n ap g
    have S2 : Stt K (ω.set i o) (ρ'.set i (some d)) (σ.set i (some v)) F1 H1 (As1.set i B) := ⟨S1.ex, S1.sl.put r, flat_set_nd S1.nd n fun x hx j C _ h2 h3 => ap x hx (List.mem_flatten.mpr ⟨C, List.mem_of_getElem? h2, h3⟩)⟩
    refine p _ F1 H1 _ S2 ⟨g.sub fun x hx => ?_, set_off hW⟩
    rcases flat_set hx with q | ⟨j, C, _, h2, h3⟩
    · exact List.mem_append_left _ q
    · exact List.mem_append_right _ (List.mem_flatten.mpr ⟨C, List.mem_of_getElem? h2, h3⟩)
  | exc e => rw [hf] at p; exact p
  | no => rw [hf] at p; exact p
theorem ds_setX {i : Nat} {pos' : Pos} (hN : X.N.Nodup) (he : DX X E ω e te f o) (hx : Loc X.env.scope x := by first | exact Or.inl rfl | exact Or.inr rfl) (hi : X.N[i]? = some x := by rfl) (hs : swapsWith e (some (.Name x pos')) pos.line X.env = pure false := by rfl)
    (hf : X.fn x = true ∨ X.env.scope.names.lookup x = some .local := by first | exact .inl rfl | exact .inr rfl | assumption) (hW : c.W.contains i = true := by rfl) : DS X E c ω (.Assign [.Name x pos'] e pos) (tAsg te (gName i)) (sAsgX i f) (ω.set i o) or :=
  ⟨ps_set hN hi hx he.pe hs hf, sem_asgX hW he.sem⟩
theorem ds_retX (he : DX X E ω e te f or) (hio : ioOk c.io ω = true := by rfl) : DS X E c ω (.Return (some e) pos) (tRet te) (sRetX f) ω' or :=
  ⟨ps_ret he.pe, fun σ ρ F H As Dd S p => by
    refine he.sem σ ρ F H As _ S ?_
    unfold sRetX at p
    cases hf : f ρ with
    | ok q =>
      obtain ⟨d, ρ'⟩ := q
      rw [hf] at p
      exact fun v F1 H1 As1 B S1 r n ap g => p v σ F1 H1 B As1 ω r n ap S1 hio (.same g)
    | exc e => rw [hf] at p; exact p
    | no => rw [hf] at p; exact p⟩
end

/-! ### the rule for such a def -/
def outs (ρ : Env) : List Nat → Option (List D)
  | [] => some []
  | i :: is => match ρ[i]?, outs ρ is with
    | some (some d), some ds => some (d :: ds)
    | _, _ => none
def leaveX (I : List Nat) : R Fl → R (D × List D)
  | .ok (.rt d ρ) => match outs ρ I with
    | some ds => .ok (d, ds)
    | none => .no
  | _ => .no
def fnX (n : Nat) (I : List Nat) (f : Env → R Fl) (ds : List D) : R (D × List D) := leaveX I (f (enter n ds))
/-- the places of the arguments that are changed -/
def ioI : Nat → List Bool → List Nat
  | _, [] => []
  | n, true :: ib => n :: ioI (n + 1) ib
  | n, false :: ib => ioI (n + 1) ib
section
variable {K : PySem.W.Frag} {F F' H H' F1 H1 F2 H2 : Hp} {ω ω' : List O} {σ : L2.St}
theorem repT_split : ∀ {os : List O} {ds : List D} {vs : List V} {A : List Addr}, RepT K F H os ds vs A → ∃ Bs, Sl K F H os (ds.map some) (vs.map some) Bs ∧ Bs.flatten = A
  | [], ds, vs, A, r => by
    obtain ⟨rfl, rfl, rfl⟩ := r
    exact ⟨[], .nil, rfl⟩
  | o :: os, ds, vs, A, r => by
    obtain ⟨d, dr, v, vr, B1, B2, rfl, rfl, rfl, r1, r2⟩ := r
    obtain ⟨Bs, h1, h2⟩ := repT_split r2
    exact ⟨B1 :: Bs, .some r1 h1, by rw [List.flatten_cons, h2]⟩
theorem sl_more : ∀ {os : List O} {ρ : Env} {σ : L2.St} {Bs : List (List Addr)}, Sl K F H os ρ σ Bs → ∀ ωl : List O, Sl K F H (os ++ ωl) (ρ ++ List.replicate ωl.length none) (σ ++ List.replicate ωl.length none) (Bs ++ List.replicate ωl.length [])
  | _, _, _, _, .nil, ωl => by
    induction ωl with
    | nil => exact .nil
    | cons o ωl ih => simpa [List.replicate_succ] using Sl.none (o := o) (x := none) ih
  | _, _, _, _, .none S, ωl => .none (sl_more S ωl)
  | _, _, _, _, .some r S, ωl => .some r (sl_more S ωl)
theorem ioI_vals : ∀ {ib : List Bool} {vs : List V} {n : Nat}, vs.length = ib.length → ∀ (j i : Nat), (ioI n ib)[j]? = some i → n ≤ i ∧ ∃ v, (ioV ib vs)[j]? = some v ∧ vs[i - n]? = some v
  | [], vs, n, hl, j, i, h => by simp [ioI] at h
  | true :: ib, v :: vs, n, hl, j, i, h => by
    cases j with
    | zero =>
      simp [ioI] at h
      subst h
      exact ⟨Nat.le_refl _, v, rfl, by simp⟩
    | succ j =>
      obtain ⟨h1, w, h2, h3⟩ := ioI_vals (vs := vs) (n := n + 1) (Nat.succ.inj hl) j i (by simpa [ioI] using h)
      refine ⟨by omega, w, h2, ?_⟩
      have e : i - n = (i - (n + 1)) + 1 := by omega
      rw [e]
      exact h3
  | false :: ib, v :: vs, n, hl, j, i, h => by
    obtain ⟨h1, w, h2, h3⟩ := ioI_vals (vs := vs) (n := n + 1) (Nat.succ.inj hl) j i (by simpa [ioI] using h)
    refine ⟨by omega, w, h2, ?_⟩
    have e : i - n = (i - (n + 1)) + 1 := by omega
    rw [e]
    exact h3
  | _ :: ib, [], n, hl, j, i, h => by cases hl
theorem ioI_len {α : Type} : ∀ {ib : List Bool} {vs : List α} {n : Nat}, vs.length = ib.length → (ioV ib vs).length = (ioI n ib).length
  | [], vs, n, hl => by cases vs <;> rfl
  | true :: ib, v :: vs, n, hl => congrArg Nat.succ (ioI_len (n := n + 1) (Nat.succ.inj hl))
  | false :: ib, v :: vs, n, hl => ioI_len (n := n + 1) (Nat.succ.inj hl)
  | _ :: ib, [], n, hl => by cases hl
theorem ioI_lt : ∀ {ib : List Bool} {n i : Nat}, i ∈ ioI n ib → n ≤ i ∧ i < n + ib.length
  | [], n, i, h => by simp [ioI] at h
  | true :: ib, n, i, h => by
    rcases List.mem_cons.mp h with rfl | h
    · exact ⟨Nat.le_refl _, by simp⟩
    · obtain ⟨h1, h2⟩ := ioI_lt h
      exact ⟨by omega, by simp only [List.length_cons]; omega⟩
  | false :: ib, n, i, h => by
    obtain ⟨h1, h2⟩ := ioI_lt (ib := ib) (n := n + 1) h
    exact ⟨by omega, by simp only [List.length_cons]; omega⟩
theorem ioI_nd : ∀ {ib : List Bool} {n : Nat}, (ioI n ib).Nodup
  | [], n => List.nodup_nil
  | true :: ib, n => List.nodup_cons.mpr ⟨fun h => by have := (ioI_lt h).1; omega, ioI_nd⟩
  | false :: ib, n => ioI_nd (ib := ib) (n := n + 1)
/-- what the names hold at the end -/
theorem outs_rep {ρ : Env} {As : List (List Addr)} (S : Stt K ω ρ σ F H As) : ∀ {I : List Nat} {ds : List D} {vs : List V}, outs ρ I = some ds → vs.length = I.length → I.Nodup → (∀ i ∈ I, ω[i]? = some (.own .fz)) → (∀ (j i : Nat), I[j]? = some i → ∃ v, vs[j]? = some v ∧ σ[i]? = some (some v)) →
    ∃ A, AllO (RepO K F H (.own .fz)) ds vs A ∧ A.Nodup ∧ ∀ x ∈ A, OfM As I x
  | [], ds, vs, h, hl, n, hω, hσ => by
    cases h
    have : vs = [] := List.eq_nil_of_length_eq_zero hl
    subst this
    exact ⟨[], ⟨rfl, rfl⟩, List.nodup_nil, by simp⟩
  | i :: I, ds, vs, h, hl, n, hω, hσ => by
    unfold outs at h
    split at h
    · rename_i d ds' h1 h2
      cases h
      cases vs with
      | nil => cases hl
      | cons v vr =>
        obtain ⟨n1, n2⟩ := List.nodup_cons.mp n
        obtain ⟨v', q1, q2⟩ := hσ 0 i rfl
        simp at q1
        subst q1
        obtain ⟨v', B, q3, q4, q5⟩ := S.sl.get (hω i List.mem_cons_self) h1
        rw [q2] at q3
        cases q3
        obtain ⟨A, r1, r2, r3⟩ := outs_rep S (I := I) h2 (Nat.succ.inj hl) n2 (fun j hj => hω j (List.mem_cons_of_mem _ hj)) fun j i' hj => by
          obtain ⟨w, z1, z2⟩ := hσ (j + 1) i' (by simpa using hj)
          exact ⟨w, by simpa using z1, z2⟩
        refine ⟨B ++ A, ⟨v, vr, B, A, rfl, rfl, q5, r1⟩, List.nodup_append.mpr ⟨flat_part S.nd q4, r2, fun x hx y hy e => ?_⟩, fun x hx => ?_⟩
        · subst e
          obtain ⟨k, hk, C, hC, xC⟩ := r3 x hy
          have := flat_apart S.nd q4 hC hx xC
          subst this
          exact n1 hk
        · rcases List.mem_append.mp hx with hx | hx
          · exact ⟨i, List.mem_cons_self, B, q4, hx⟩
          · exact (r3 x hx).imp fun j hj => List.mem_cons_of_mem _ hj
    · cases h
end
theorem fn_okX {P : Program} {w : World} {K : PySem.W.Frag} {mg : Str → Option Value} {base : Heap} {x qual : Str} {st : Stmt} {f : Addr} {fd : FuncData} {N ps : List Str} {k : Nat} {fb : Env → R Fl} {ωl : List O} {o : O} {W : List Nat} {ib : List Bool} (Fn : Fun K x qual st f fd) (S : FnScope N ps (defScope st))
    (hp : ib.length = ps.length) (hl : ib.length + ωl.length = N.length) (hW : ((ioI 0 ib).all fun i => !W.contains i) = true)
    (hbody : ∀ (cdv : Value) (A : Around) (outer : List PySem.Env) (s : Shared) (H : Hp) (E : XK), Room k (A.deeper (envOfC qual (defScope st) s.heap.objs.size f cdv)) →
      ∃ t ω', DSs (cxOf CX0 P w K mg base N qual (defScope st) f cdv A outer s H E).nox E0 ⟨W, ioI 0 ib⟩ (ib.map oOf ++ ωl) (defBody st) t fb ω' o) : FnOk P w K mg base CX0 (k + 1) f fd ps (spX K mg ib (fnX N.length (ioI 0 ib) fb) o) := by
  refine Fn.ok S (fun vs H Q E h => ?_) (fun cdv A outer s H vs Q E hr h => ?_)
  · obtain ⟨ds, F, A, _, r, _⟩ := h
    rw [(repT_len r).1, List.length_map, hp]
  · obtain ⟨ds, F, A0, e, r, nA, p⟩ := h
    obtain ⟨t, ω', B⟩ := hbody cdv A outer s H E hr
    refine ⟨t, B.pss, ?_⟩
    have hlen : ds.length = ib.length := by rw [(repT_len r).2, List.length_map]
    have hlenv : vs.length = ib.length := by rw [(repT_len r).1, List.length_map]
    have e1 : enter N.length ds = ds.map some ++ List.replicate ωl.length none := by
      unfold enter
      rw [hlen, ← hl, Nat.add_sub_cancel_left]
    have e2 : L2.start N vs = vs.map some ++ List.replicate ωl.length none := by
      unfold L2.start
      rw [hlenv, ← hl, Nat.add_sub_cancel_left]
    obtain ⟨Bs, hB1, hB2⟩ := repT_split r
    have fl : (Bs ++ List.replicate ωl.length ([] : List Addr)).flatten = A0 := by
      rw [List.flatten_append, flat_nils, List.append_nil, hB2]
    have S0 : Stt K (ib.map oOf ++ ωl) (enter N.length ds) (L2.start N vs) F H (Bs ++ List.replicate ωl.length []) := by
      refine ⟨e, ?_, by rw [fl]; exact nA⟩
      rw [e1, e2]
      exact sl_more hB1 ωl
    refine B.sem _ _ F H _ _ S0 ?_
    rw [fl]
    unfold fnX at p
    cases hf : fb (enter N.length ds) with
    | ok fl =>
      rw [hf] at p
      cases fl with
      | nx ρ' => exact (show False from p).elim
      | rt d ρ' =>
        intro v σ' F' H' B As' w' rB nB ap S' io g
        have p' : PstC mg E K o (ioV ib vs) A0 F H Q (match outs ρ' (ioI 0 ib) with
          | some ds => .ok (d, ds)
          | none => .no) := p
        split at p'
        · rename_i ds' ho
          obtain ⟨A', h1, h2, h3⟩ := outs_rep S' (vs := ioV ib vs) ho (ioI_len hlenv) ioI_nd (ioOk_get io) fun j i hj => by
            obtain ⟨_, w0, q1, q2⟩ := ioI_vals hlenv j i hj
            refine ⟨w0, q1, ?_⟩
            have hi : i ∈ ioI 0 ib := List.mem_of_getElem? hj
            have nW : i ∉ W := fun h => by
              have z := List.all_eq_true.mp hW i hi
              rw [List.contains_iff_mem.mpr h] at z
              cases z
            rw [g.ag i nW, e2]
            rw [Nat.sub_zero] at q2
            rw [List.getElem?_append_left (by rw [List.length_map]; exact (List.getElem?_eq_some_iff.mp q2).1), List.getElem?_map, q2]
            rfl
          exact p' v F' H' B A' rB nB (fun x hx hA => ap x hx (h3 x hA).flat) h1 h2 (g.g.sub fun x hx => by
            rcases List.mem_append.mp hx with hx | hx
            · exact List.mem_append_left _ hx
            · exact List.mem_append_right _ (h3 x hx).flat)
        · exact p'.elim
    | exc c => rw [hf] at p; exact (show False from p).elim
    | no => rw [hf] at p; exact (show False from p).elim
end Dn

/-! What the printed walks lean on. -/
namespace Dn
open PySem L2 PyProof.Rows
theorem XFn.mono {P : Program} {w : World} {K : PySem.W.Frag} {mg : Str → Option Value} {base : Heap} {CX : CXT} {j k : Nat} {x : Str} {ib : List Bool} {g : List D → R (D × List D)} {o : O} (C : XFn P w K mg base CX j x ib g o) (h : j ≤ k) : XFn P w K mg base CX k x ib g o := by
  obtain ⟨f, fd, ps, h1, h2, h3, h4⟩ := C.ex
  exact ⟨⟨f, fd, ps, h1, h2, h3, h4.mono h⟩⟩
/-- a def of which nothing is said -/
theorem fn_no {P : Program} {w : World} {K : PySem.W.Frag} {mg : Str → Option Value} {base : Heap} {x qual : Str} {st : Stmt} {f : Addr} {fd : FuncData} {N ps : List Str} {k n : Nat} {o : O} (Fn : Fun K x qual st f fd) (S : FnScope N ps (defScope st)) :
    FnOk P w K mg base CX0 (k + 1) f fd ps (spD K mg n (fun _ => .no) o) := by
  refine Fn.ok S (fun vs H Q E h => ?_) (fun cdv A outer s H vs Q E hr h => ?_)
  · obtain ⟨ds, F, _, r, hn, p⟩ := h
    exact p.elim
  · obtain ⟨ds, F, _, r, hn, p⟩ := h
    exact p.elim
section
variable {P : Program} {w : World} {K : PySem.W.Frag} {mg : Str → Option Value} {base : Heap} {x : Str} {st : Stmt} {N ps : List Str} {k kk n nN : Nat} {fb : Env → R Fl} {g : List D → R D} {ωp ωl : List O} {o : O} {W : List Nat}
/-- what the top has written: a def -/
def Has (K : PySem.W.Frag) (mg : Str → Option Value) (x : Str) (st : Stmt) (ps : List Str) : Prop := ∃ f fd, mg x = some (.ref f) ∧ PySem.W.keepIn K (.ref f) = true ∧ Binds K fd ps [] ∧ Fun K x x st f fd
theorem dfn_ok (h : Has K mg x st ps) (S : FnScope N ps (defScope st)) (hg : g = fnD N.length fb) (hk : kk = k + 1) (hn : n = ps.length) (hp : ωp.length = ps.length) (hz : ωp.all O.isFz = true) (hl : ωp.length + ωl.length = N.length)
    (hbody : ∀ (f : Addr) (cdv : Value) (A : Around) (outer : List PySem.Env) (s : Shared) (H : Hp) (E : XK), Room k (A.deeper (envOfC x (defScope st) s.heap.objs.size f cdv)) →
      ∃ t ω', DSs (cxOf CX0 P w K mg base N x (defScope st) f cdv A outer s H E).nox E0 ⟨W, []⟩ (ωp ++ ωl) (defBody st) t fb ω' o) : DFn P w K mg base CX0 kk x n g o := by
  obtain ⟨f, fd, h1, h2, h3, h4⟩ := h
  subst hg hk hn
  exact ⟨⟨f, fd, ps, h1, h2, h3, fn_ok (W := W) h4 S hp hz hl (hbody f)⟩⟩
theorem dfn_no (h : Has K mg x st ps) (S : FnScope N ps (defScope st)) (hk : kk = k + 1) : DFn P w K mg base CX0 kk x n (fun _ => .no) o := by
  obtain ⟨f, fd, h1, h2, h3, h4⟩ := h
  subst hk
  exact ⟨⟨f, fd, ps, h1, h2, h3, fn_no h4 S⟩⟩
theorem xfn_ok {ib : List Bool} {g : List D → R (D × List D)} (h : Has K mg x st ps) (S : FnScope N ps (defScope st)) (hg : g = fnX N.length (ioI 0 ib) fb) (hk : kk = k + 1) (hp : ib.length = ps.length) (hl : ib.length + ωl.length = N.length) (hW : ((ioI 0 ib).all fun i => !W.contains i) = true)
    (hbody : ∀ (f : Addr) (cdv : Value) (A : Around) (outer : List PySem.Env) (s : Shared) (H : Hp) (E : XK), Room k (A.deeper (envOfC x (defScope st) s.heap.objs.size f cdv)) →
      ∃ t ω', DSs (cxOf CX0 P w K mg base N x (defScope st) f cdv A outer s H E).nox E0 ⟨W, ioI 0 ib⟩ (ib.map oOf ++ ωl) (defBody st) t fb ω' o) : XFn P w K mg base CX0 kk x ib g o := by
  obtain ⟨f, fd, h1, h2, h3, h4⟩ := h
  subst hg hk
  exact ⟨⟨f, fd, ps, h1, h2, h3, fn_okX (W := W) h4 S hp hl hW (hbody f)⟩⟩
end
/-! ### comprehensions, what is asked of the block told anew for each block -/
section
variable {X : Cx} {E : XK} {c : Cfg} {ω : List O} {o or : O} {elt tg iter : Expr} {ifs : List Expr} {scope : Scope} {own : List (Str × Nat)} {pos : Pos} {wi : TI} {fi : Env → R (List D)} {fc : Env → R Bool} {fe : Env → R D} {i : Nat}
theorem wipe_one (x : Str) (i : Nat) : ∀ (σ : L2.St) (v : V), L2.wipe ((L2.wipe σ ([(x, i)].map (·.2))).set i (some v)) ([(x, i)].map (·.2)) = L2.wipe σ ([(x, i)].map (·.2)) := fun σ v => by
  show ((σ.set i none).set i (some v)).set i none = σ.set i none
  rw [List.set_set, List.set_set]
abbrev ForBlk (X : Cx) (scope : Scope) (p : Cx → Prop) : Prop := ∀ (s : Shared) (H : Hp) (C : Addr) (cl : List (Str × Addr)) (fp : List Addr), p (X.blk s H scope (compEnvC scope cl C X.env) fp)
def teAll (X : Cx) (scope : Scope) (e : Expr) : TE := fun σ H Q => ForBlk X scope fun Y => ∃ te, PE Y e te ∧ te σ H Q
def ttAll (X : Cx) (scope : Scope) (ifs : List Expr) : TT := fun σ H Q => ForBlk X scope fun Y => ∃ tt, PTs Y ifs tt ∧ tt σ H Q
theorem de_all (h : ForBlk X scope fun Y => ∃ te, DE Y E ω elt te fe .fz []) : ForBlk X scope fun Y => DE Y E ω elt (teAll X scope elt) fe .fz [] := fun s H C cl fp =>
  ⟨⟨fun pins s' σ H' Q I q => by
    obtain ⟨te, h1, h2⟩ := q s H C cl fp
    exact h1.run pins s' σ H' Q I h2⟩, fun σ ρ F H As Q S p s' H' C' cl' fp' => by
    obtain ⟨te, h1⟩ := h s' H' C' cl' fp'
    exact ⟨te, h1.pe, h1.sem σ ρ F H As Q S p⟩⟩
theorem dts_all (h : ForBlk X scope fun Y => ∃ tt, DTs Y E ω ifs tt fc) : ForBlk X scope fun Y => DTs Y E ω ifs (ttAll X scope ifs) fc := fun s H C cl fp =>
  ⟨⟨fun pins s' σ H' Q I q => by
    obtain ⟨te, h1, h2⟩ := q s H C cl fp
    exact h1.run pins s' σ H' Q I h2⟩, fun σ ρ F H As Q S p s' H' C' cl' fp' => by
    obtain ⟨te, h1⟩ := h s' H' C' cl' fp'
    exact ⟨te, h1.pts, h1.sem σ ρ F H As Q S p⟩⟩
theorem de_lcE (hc : X.calm = true) (hN : X.N.Nodup) (hi : ω[i]? = some .fz) (hvs : (own.map (·.2)).contains i = true) (hw : ∀ (σ : L2.St) x, L2.wipe ((L2.wipe σ (own.map (·.2))).set i (some x)) (own.map (·.2)) = L2.wipe σ (own.map (·.2))) (ti : DI X E ω tg iter wi fi) (ok : BlkOk X.N X.env.scope scope own)
    (hg : ForBlk X scope fun Y => PG Y tg (gName i)) (ht : ForBlk X scope fun Y => ∃ tt, DTs Y E ω ifs tt fc) (he : ForBlk X scope fun Y => ∃ te, DE Y E ω elt te fe .fz []) (hs : ∀ x, foldedSetIterable iter X.env x = pure x := by intro _; rfl) :
    DE X E ω (.ListComp elt [⟨tg, iter, ifs, 0⟩] scope pos) (tLc wi (gName i) (ttAll X scope ifs) (teAll X scope elt) (own.map (·.2))) (eLc fi (own.map (·.2)) (setN i) fc fe) (.own .fz) [] :=
  de_lc hc hN hi hvs hw ti ok hg (dts_all ht) (de_all he) hs
theorem ds_setLcE {j : Nat} {y : Str} {py spos : Pos} (hc : X.calm = true) (hN : X.N.Nodup) (hi : ω[i]? = some .fz)
    (hvs : (own.map (·.2)).contains i = true) (hw : ∀ (σ : L2.St) x, L2.wipe ((L2.wipe σ (own.map (·.2))).set i (some x)) (own.map (·.2)) = L2.wipe σ (own.map (·.2))) (ti : DI X E ω tg iter wi fi) (ok : BlkOk X.N X.env.scope scope own)
    (hg : ForBlk X scope fun Y => PG Y tg (gName i)) (ht : ForBlk X scope fun Y => ∃ tt, DTs Y E ω ifs tt fc) (he : ForBlk X scope fun Y => ∃ te, DE Y E ω elt te fe .fz []) (hy : X.N[j]? = some y := by rfl) (hyl : X.env.scope.names.lookup y = some .local := by rfl)
    (hsw : swapsWith (.ListComp elt [⟨tg, iter, ifs, 0⟩] scope pos) (some (.Name y py)) spos.line X.env = pure true := by exact sw_true rfl rfl rfl (by decide +kernel)) (hs : ∀ x, foldedSetIterable iter X.env x = pure x := by intro _; rfl) (hW : c.W.contains j = true := by rfl) :
    DS X E c ω (.Assign [.Name y py] (.ListComp elt [⟨tg, iter, ifs, 0⟩] scope pos) spos) (tAsg (tLc wi (gName i) (ttAll X scope ifs) (teAll X scope elt) (own.map (·.2))) (gName j)) (sAsg j [] (eLc fi (own.map (·.2)) (setN i) fc fe)) (ω.set j (.own .fz)) or :=
  ds_setLc hc hN hi hvs hw ti ok hg (dts_all ht) (de_all he) hy hyl hsw hs hW
theorem ds_setLcFE {j : Nat} {y : Str} {py spos : Pos} (hc : X.calm = true) (hN : X.N.Nodup) (hi : ω[i]? = some .fz)
    (hvs : (own.map (·.2)).contains i = true) (hw : ∀ (σ : L2.St) x, L2.wipe ((L2.wipe σ (own.map (·.2))).set i (some x)) (own.map (·.2)) = L2.wipe σ (own.map (·.2))) (ti : DI X E ω tg iter wi fi) (ok : BlkOk X.N X.env.scope scope own)
    (hg : ForBlk X scope fun Y => PG Y tg (gName i)) (ht : ForBlk X scope fun Y => ∃ tt, DTs Y E ω ifs tt fc) (he : ForBlk X scope fun Y => ∃ te, DE Y E ω elt te fe .fz []) (hy : X.N[j]? = some y := by rfl) (hyl : X.env.scope.names.lookup y = some .local := by rfl)
    (hsw : swapsWith (.ListComp elt [⟨tg, iter, ifs, 0⟩] scope pos) (some (.Name y py)) spos.line X.env = pure true := by exact sw_true rfl rfl rfl (by decide +kernel)) (hs : ∀ x, foldedSetIterable iter X.env x = pure x := by intro _; rfl) (hW : c.W.contains j = true := by rfl) :
    DS X E c ω (.Assign [.Name y py] (.ListComp elt [⟨tg, iter, ifs, 0⟩] scope pos) spos) (tAsg (tLc wi (gName i) (ttAll X scope ifs) (teAll X scope elt) (own.map (·.2))) (gName j)) (sAsg j [] (eLc fi (own.map (·.2)) (setN i) fc fe)) (ω.set j .fz) or :=
  ds_setLcF hc hN hi hvs hw ti ok hg (dts_all ht) (de_all he) hy hyl hsw hs hW
end
end Dn

/-! Changing what is owned within a tuple: x[0][1].append(e), x[0][2][b] = e. -/
namespace Dn
open PySem L2 PyProof.Rows

/-! ### a place within tuples -/
def atP : O → D → List Nat → Option (O × D)
  | o, d, [] => some (o, d)
  | .tup os, .tup ds, j :: π => match os[j]?, ds[j]? with
    | some o, some d => atP o d π
    | _, _ => none
  | _, _, _ :: _ => none
def setP : D → List Nat → D → D
  | _, [], e => e
  | .tup ds, j :: π, e => match ds[j]? with
    | some d => .tup (ds.set j (setP d π e))
    | none => .tup ds
  | d, _ :: _, _ => d
def valP (F : Hp) : V → List Nat → V → Prop
  | v, [], w => w = v
  | v, j :: π, w => ∃ a vs u, v = .ref a ∧ F a = some (.tup vs) ∧ vs[j]? = some u ∧ valP F u π w
section
variable {K : PySem.W.Frag} {F H : Hp}
theorem repT_keepA {a : Addr} {u : HO} {os : List O} {ds : List D} {vs : List V} {B : List Addr} (r : RepT K F H os ds vs B) (h : a ∉ B) : RepT K F (upd H a u) os ds vs B :=
  RepT.keep os ds vs B (Same.refl F) (fun x hx => ⟨(RepT.mem os ds vs B r hx).1, upd_ne fun e => h (by rw [← e]; exact hx)⟩) r
theorem repO_keepA {a : Addr} {u : HO} {o : O} {d : D} {v : V} {B : List Addr} (r : RepO K F H o d v B) (h : a ∉ B) : RepO K F (upd H a u) o d v B :=
  RepO.keep o d v B (Same.refl F) (fun x hx => ⟨(RepO.mem o d v B r hx).1, upd_ne fun e => h (by rw [← e]; exact hx)⟩) r
theorem repT_at : ∀ {os : List O} {ds : List D} {vs : List V} {B : List Addr} {j : Nat} {o : O} {d : D}, RepT K F H os ds vs B → os[j]? = some o → ds[j]? = some d →
    ∃ v Bj, vs[j]? = some v ∧ RepO K F H o d v Bj ∧ (∀ x ∈ Bj, x ∈ B) ∧ (B.Nodup → Bj.Nodup) ∧ ∀ a u d2, a ∈ Bj → B.Nodup → RepO K F (upd H a u) o d2 v Bj → RepT K F (upd H a u) os (ds.set j d2) vs B
  | [], ds, vs, B, j, o, d, r, ho, hd => by simp at ho
  | o :: os, ds, vs, B, 0, o', d', r, ho, hd => by
    obtain ⟨d, dr, v, vr, B1, B2, rfl, rfl, rfl, h4, h5⟩ := r
    simp at ho hd
    subst ho hd
    exact ⟨v, B1, rfl, h4, fun x hx => List.mem_append_left _ hx, fun n => (List.nodup_append.mp n).1, fun a u d2 ha n r2 =>
      ⟨d2, dr, v, vr, B1, B2, rfl, rfl, rfl, r2, repT_keepA h5 fun h => (List.nodup_append.mp n).2.2 a ha a h rfl⟩⟩
  | o :: os, ds, vs, B, j + 1, o', d', r, ho, hd => by
    obtain ⟨d, dr, v, vr, B1, B2, rfl, rfl, rfl, h4, h5⟩ := r
    obtain ⟨w, Bj, q1, q2, q3, q4, q5⟩ := repT_at (j := j) h5 (by simpa using ho) (by simpa using hd)
    exact ⟨w, Bj, by simpa using q1, q2, fun x hx => List.mem_append_right _ (q3 x hx), fun n => q4 (List.nodup_append.mp n).2.1, fun a u d2 ha n r2 =>
      ⟨d, dr.set j d2, v, vr, B1, B2, rfl, rfl, rfl, repO_keepA h4 fun h => (List.nodup_append.mp n).2.2 a h a (q3 a ha) rfl, q5 a u d2 ha (List.nodup_append.mp n).2.1 r2⟩⟩
theorem repO_at : ∀ (π : List Nat) {o : O} {d : D} {v : V} {B : List Addr} {o' : O} {d' : D}, RepO K F H o d v B → atP o d π = some (o', d') →
    ∃ w B', valP F v π w ∧ RepO K F H o' d' w B' ∧ (∀ x ∈ B', x ∈ B) ∧ ∀ a u d2, a ∈ B' → B.Nodup → RepO K F (upd H a u) o' d2 w B' → RepO K F (upd H a u) o (setP d π d2) v B
  | [], o, d, v, B, o', d', r, h => by
    have e : (o, d) = (o', d') := Option.some.inj (by rw [← h]; cases o <;> cases d <;> rfl)
    cases e
    exact ⟨v, B, rfl, r, fun x h => h, fun a u d2 _ _ r2 => by
      have e : setP d [] d2 = d2 := by cases d <;> rfl
      rw [e]; exact r2⟩
  | j :: π, .tup os, d, v, B, o', d', r, h => by
    obtain ⟨ds, a, vs, rfl, rfl, hF, r⟩ := r
    have h' : (match os[j]?, ds[j]? with
      | some o, some d => atP o d π
      | _, _ => none) = some (o', d') := h
    split at h'
    · rename_i o1 d1 h1 h2
      obtain ⟨u, Bj, q1, q2, q3, q4, q5⟩ := repT_at r h1 h2
      obtain ⟨w, B', p1, p2, p3, p4⟩ := repO_at π q2 h'
      refine ⟨w, B', ⟨a, vs, u, rfl, hF, q1, p1⟩, p2, fun x hx => q3 x (p3 x hx), fun b z d2 hb n r2 => ?_⟩
      have n' : Bj.Nodup := q4 n
      have e : setP (.tup ds) (j :: π) d2 = .tup (ds.set j (setP d1 π d2)) := by
        show (match ds[j]? with
          | some d => D.tup (ds.set j (setP d π d2))
          | none => .tup ds) = _
        rw [h2]
      rw [e]
      exact ⟨_, a, vs, rfl, rfl, hF, q5 b z _ (p3 b hb) n (p4 b z d2 hb n' r2)⟩
    · cases h'
  | j :: π, .fz, d, v, B, o', d', r, h => by cases d <;> cases h
  | j :: π, .own _, d, v, B, o', d', r, h => by cases d <;> cases h
end

/-! ### an expression that leads to a place -/
structure DPl (X : Cx) (e : Expr) (te : TE) (i : Nat) (π : List Nat) : Prop where
  pe : PE X e te
  sem : ∀ (σ : L2.St) (F H : Hp) (v w : V) (Q : VK), Same F H → σ[i]? = some (some v) → valP F v π w → Q w H → te σ H Q
section
variable {X : Cx} {E : XK} {c : Cfg} {ω ω' : List O} {e b a : Expr} {te ta tb : TE} {fe fb : Env → R D} {o or : O} {i : Nat} {π : List Nat} {pos cpos apos npos : Pos} {x : Str}
theorem dpl_name (i : Nat) (hN : X.N[i]? = some x := by rfl) (hv : Vis X.env.scope x := by first | exact Or.inl rfl | exact Or.inr (Or.inl rfl) | exact Or.inr (Or.inr rfl)) (hd : (x == ("__debug__" : Str)) = false := by decide)
    (hcd : (x == ("__classdict__" : Str)) = false := by decide) : DPl X (.Name x npos) (tVar i) i [] := ⟨pe_var hN hv hd hcd, fun σ F H v w Q _ h1 h2 q => ⟨v, h1, by rw [← show w = v from h2]; exact q⟩⟩
theorem valP_snoc {F : Hp} {j : Nat} {a : Addr} {vs : List V} {u : V} : ∀ {π : List Nat} {v : V}, valP F v (π ++ [j]) u → ∃ a vs, valP F v π (.ref a) ∧ F a = some (.tup vs) ∧ vs[j]? = some u
  | [], v, h => by
    obtain ⟨a, vs, w, rfl, h1, h2, h3⟩ := h
    exact ⟨a, vs, rfl, h1, by rw [h2, show u = w from h3]⟩
  | k :: π, v, h => by
    obtain ⟨a, vs, w, rfl, h1, h2, h3⟩ := h
    obtain ⟨b, ws, q1, q2, q3⟩ := valP_snoc (a := a) (vs := vs) h3
    exact ⟨b, ws, ⟨a, vs, w, rfl, h1, h2, q1⟩, q2, q3⟩
theorem dpl_ix {k j : Nat} {p2 : Pos} {jj} (hr : Room k X.A) (h : DPl X e te i π) (hs : PlainIx (.Constant (.int (j : Int)) jj p2) := by intro _ _; rfl) :
    DPl X (.Subscript e (.Constant (.int (j : Int)) jj p2) pos) (tOp (rIxA X.K) te (tC (.int (j : Int)))) i (π ++ [j]) :=
  ⟨pe_ix (ix_any hr) h.pe pe_int hs, fun σ F H v w Q s h1 h2 q => by
    obtain ⟨a, vs, q1, q2, q3⟩ := valP_snoc (a := 0) (vs := []) h2
    refine h.sem σ F H v _ _ s h1 q1 ?_
    refine .inl (.inr (.inl ⟨a, vs, _, w, rfl, rfl, .of (s _ _ q2), ?_, q⟩))
    have hj : j < vs.length := (List.getElem?_eq_some_iff.mp q3).1
    unfold atI ixN
    rw [if_pos (Int.natCast_nonneg j), if_pos (by omega)]
    exact q3⟩
def sAtP (i : Nat) (o : O) (π : List Nat) (g : D → R D) (ρ : Env) : R Fl := match ρ[i]? with
  | some (some d) => (match atP o d π with
    | some (.own .fz, e) => g e >>= fun e' => .ok (.nx (ρ.set i (some (setP d π e'))))
    | _ => .no)
  | _ => .no
def noExc {α : Type} : R α → R α
  | .ok a => .ok a
  | _ => .no
def sAppP (i : Nat) (o : O) (π : List Nat) (fe : Env → R D) (ρ : Env) : R Fl := noExc (fe ρ) >>= fun y => sAtP i o π (appD y) ρ
def storeK (k y : D) : D → R D
  | .dic es => match keyD k with
    | some k => if es.length < most then .ok (.dic (putD es k y)) else .no
    | none => .no
  | _ => .no
def sPutP (i : Nat) (o : O) (π : List Nat) (fk fe : Env → R D) (ρ : Env) : R Fl := noExc (fe ρ) >>= fun y => noExc (fk ρ) >>= fun k => sAtP i o π (storeK k y) ρ
theorem valP_mono {F F' : Hp} (e : Same F F') : ∀ {π : List Nat} {v w : V}, valP F v π w → valP F' v π w
  | [], v, w, h => h
  | j :: π, v, w, h => by
    obtain ⟨a, vs, u, h1, h2, h3, h4⟩ := h
    exact ⟨a, vs, u, h1, e _ _ h2, h3, valP_mono e h4⟩
theorem valP_fun {F : Hp} : ∀ {π : List Nat} {v w w' : V}, valP F v π w → valP F v π w' → w = w'
  | [], v, w, w', h, h' => Eq.trans h (Eq.symm h')
  | j :: π, v, w, w', h, h' => by
    obtain ⟨a, vs, u, rfl, h2, h3, h4⟩ := h
    obtain ⟨b, ws, u', q1, q2, q3, q4⟩ := h'
    cases q1
    rw [h2] at q2
    cases q2
    rw [h3] at q3
    cases q3
    exact valP_fun h4 q4
/-- the change itself -/
theorem place_own {K : PySem.W.Frag} {F H : Hp} {ρ : Env} {σ : L2.St} {As : List (List Addr)} {d e : D} (hi : ω[i]? = some o) (S : Stt K ω ρ σ F H As) (hρ : ρ[i]? = some (some d)) (h : atP o d π = some (.own .fz, e)) :
    ∃ v w B', σ[i]? = some (some v) ∧ valP F v π w ∧ RepO K F H (.own .fz) e w B' ∧ ∀ a u d2, B' = [a] → RepO K F (upd H a u) (.own .fz) d2 w [a] →
      ∃ As', Stt K ω (ρ.set i (some (setP d π d2))) σ F (upd H a u) As' ∧ GrowA As.flatten F H F (upd H a u) As'.flatten := by
  obtain ⟨v, B, hσ, hA, r⟩ := S.sl.get hi hρ
  obtain ⟨w, B', h1, h2, h3, h4⟩ := repO_at π r h
  refine ⟨v, w, B', hσ, h1, h2, fun a u d2 hB r2 => ?_⟩
  subst hB
  have n := flat_part S.nd hA
  obtain ⟨q1, q2⟩ := S.change hi hσ hA (a := a) (h3 a (by simp)) (h4 a u d2 (by simp) n r2) (fun x h => h) n
  exact ⟨_, q1, q2⟩
/-- x[j1]..[jn].append(e) -/
theorem ds_appP (hp : DPl X a ta i π) (he : DE X E ω e te fe .fz []) (hi : ω[i]? = some o := by rfl) (hbase : attributeBase a "append" X.env (eval a X.env) = eval a X.env := by rfl)
    (hfew : ((backTo cpos (starEach [e] X.env)).all (fun x => !x.1) && (backToKw cpos (keywordEach [] X.env)).all (fun x => x.1.isSome) && decide ([e].length + ([] : List Keyword).length + (if ([] : List Keyword).isEmpty then 0 else 1) < 30)) = true := by rfl) (hline : (apos.endLine == cpos.line) = true := by rfl)
    (hst : starEach (e :: []) X.env = (false, eval e X.env) :: starEach [] X.env := by rfl) (hpl : (backTo cpos (starEach [] X.env)).any (·.1) = false := by rfl) (hs : swapsWith (.Call (.Attribute a "append" apos) [e] [] cpos) none pos.line X.env = pure false := by rfl) :
    DS X E c ω (.Expr (.Call (.Attribute a "append" apos) [e] [] cpos) pos) (tDrop (tBM X.K "list" rAppend ta (tCons te tNil))) (sAppP i o π fe) ω or :=
  ⟨ps_expr (pe_bm PySem.F.plainAttrs_list PySem.F.slot_list_append PySem.F.type_list_append mt_append hp.pe (pa_cons he.pe pa_nil hst) hbase hfew hline hst hpl) hs, fun σ ρ F H As Dd S p => by
    unfold sAppP at p
    -- what must be there already
    have key : ∀ y, PstS X.mg E X.K c ω or σ As.flatten F H Dd (sAtP i o π (appD y) ρ) → ∃ d ds, ρ[i]? = some (some d) ∧ atP o d π = some (.own .fz, .lst ds) ∧ ds.length < most ∧ PstS X.mg E X.K c ω or σ As.flatten F H Dd (.ok (.nx (ρ.set i (some (setP d π (.lst (ds ++ [y]))))))) := fun y p => by
      unfold sAtP at p
      split at p
      · rename_i d hd
        split at p
        · rename_i e0 h0
          cases e0 with
          | lst ds =>
            by_cases hl : ds.length < most
            · have e1 : appD y (.lst ds) = .ok (.lst (ds ++ [y])) := if_pos hl
              rw [e1, ok_bind] at p
              exact ⟨d, ds, hd, h0, hl, p⟩
            · have e1 : appD y (.lst ds) = .no := if_neg hl
              rw [e1] at p
              exact (show False from p).elim
          | _ => exact (show False from p).elim
        · exact (show False from p).elim
      · exact (show False from p).elim
    cases hf : fe ρ with
    | ok y =>
      rw [hf] at p
      obtain ⟨d, ds, hd, h0, hl, p⟩ := key y p
      obtain ⟨v, w, B', hσ, hv, hr, _⟩ := place_own hi S hd h0
      obtain ⟨a0, vs, rfl, Fa, Ha, rfl, rs⟩ := list_at hr
      refine hp.sem σ F H v _ _ S.ex hσ hv ?_
      refine ⟨.inl ⟨rfl, vs, .of Ha⟩, ?_⟩
      refine he.sem σ ρ F H As _ S ?_
      rw [hf]
      intro wy F1 H1 B1 g1 r1 b1 n1
      have S1 := S.grow g1
      obtain ⟨v1, w1, B1', hσ1, hv1, hr1, hc⟩ := place_own hi S1 hd h0
      rw [hσ] at hσ1
      cases hσ1
      have ew := valP_fun (valP_mono g1.ff hv) hv1
      subst ew
      obtain ⟨a1, vs1, e1, Fa1, Ha1, rfl, rs1⟩ := list_at hr1
      cases e1
      refine ⟨a0, vs1, wy, rfl, rfl, Ha1, by rw [rs1.length, ← most_eq]; exact hl, ?_⟩
      obtain ⟨As', S2, g2⟩ := hc a0 (.lst (vs1 ++ [wy])) (.lst (ds ++ [y])) rfl (own_lst Fa1 upd_same (rs1.snoc r1.1))
      exact p σ F1 _ _ S2 (.same ((GrowA.of g1 fun x h => .inl h).trans g2))
    | exc c => rw [hf] at p; exact (show False from p).elim
    | no => rw [hf] at p; exact (show False from p).elim⟩
/-- x[j1]..[jn][b] = e, of a dict -/
theorem ds_putP {k : Nat} {spos : Pos} (hr : Room k X.A) (hp : DPl X a ta i π) (hk : DE X E ω b tb fb .fz []) (he : DE X E ω e te fe .fz []) (hi : ω[i]? = some o := by rfl) (ha : ∀ v, assign (.Subscript a b spos) X.env v = (do
      let ov ← holding [v] (eval a X.env)
      let iv ← holding [v, ov] (eval b X.env)
      standAt spos
      holding [v, ov, iv] (setItem ov iv v)
      release [v, ov, iv] []) := by intro _; rfl) (hs : swapsWithSole [.Subscript a b spos] e pos.line X.env = pure false := by rfl) (hw : swappedStores [.Subscript a b spos] e X.env = pure none := by rfl)
    (h1 : (assignEach [.Subscript a b spos] X.env).map (·.2) = [assign (.Subscript a b spos) X.env] := by rfl) :
    DS X E c ω (.Assign [.Subscript a b spos] e pos) (tAsg te (gSub ta tb rSetA)) (sPutP i o π fb fe) ω or :=
  ⟨ps_asg he.pe (pg_sub hp.pe hk.pe (set_any hr) ha) hs hw h1, fun σ ρ F H As Dd S p => by
    unfold sPutP at p
    have key : ∀ y k, PstS X.mg E X.K c ω or σ As.flatten F H Dd (sAtP i o π (storeK k y) ρ) → ∃ d es k', ρ[i]? = some (some d) ∧ atP o d π = some (.own .fz, .dic es) ∧ keyD k = some k' ∧ es.length < most ∧ PstS X.mg E X.K c ω or σ As.flatten F H Dd (.ok (.nx (ρ.set i (some (setP d π (.dic (putD es k' y))))))) := fun y k p => by
      unfold sAtP at p
      split at p
      · rename_i d hd
        split at p
        · rename_i e0 h0
          cases e0 with
          | dic es =>
            have p2 : PstS X.mg E X.K c ω or σ As.flatten F H Dd ((match keyD k with
              | some k => if es.length < most then R.ok (.dic (putD es k y)) else .no
              | none => .no) >>= fun e' => .ok (.nx (ρ.set i (some (setP d π e'))))) := p
            split at p2
            · rename_i k' hk'
              split at p2
              · rename_i hl
                exact ⟨d, es, k', hd, h0, hk', hl, p2⟩
              · exact (show False from p2).elim
            · exact (show False from p2).elim
          | _ => exact (show False from p).elim
        · exact (show False from p).elim
      · exact (show False from p).elim
    refine he.sem σ ρ F H As _ S ?_
    cases hf : fe ρ with
    | ok y =>
      rw [hf] at p
      cases hfk : fb ρ with
      | ok kd =>
        rw [hfk] at p
        obtain ⟨d, es, k', hd, h0, hk', hl, p⟩ := key y kd p
        intro wy F1 H1 B1 g1 r1 b1 n1
        have S1 := S.grow g1
        obtain ⟨v, w, B', hσ, hv, hr1, _⟩ := place_own hi S1 hd h0
        obtain ⟨a0, vs, rfl, Fa, Ha, rfl, rs⟩ := dict_at hr1
        refine hp.sem σ F1 H1 v _ _ S1.ex hσ hv ?_
        refine hk.sem σ ρ F1 H1 As _ S1 ?_
        rw [hfk]
        intro wk F2 H2 B2 g2 r2 b2 n2
        have S2 := S1.grow g2
        obtain ⟨v1, w1, B1', hσ1, hv1, hr2, hc⟩ := place_own hi S2 hd h0
        rw [hσ] at hσ1
        cases hσ1
        have ew := valP_fun (valP_mono g2.ff hv) hv1
        subst ew
        obtain ⟨a1, vs1, e1, Fa1, Ha1, rfl, rs1⟩ := dict_at hr2
        cases e1
        refine .inr ⟨a0, upd H2 a0 (.dK (putK vs1 k' wy)), rfl, ?_, ?_⟩
        · rw [key_rep hk' r2.1]
          exact DPut.k Ha1 (by rw [repK_len rs1, ← most_eq]; exact hl)
        · obtain ⟨As', S3, g3⟩ := hc a0 (.dK (putK vs1 k' wy)) (.dic (putD es k' y)) rfl (own_dic Fa1 upd_same (repK_put (k := k') (Rep.mono g2.ff y wy r1.1) rs1))
          exact p σ F2 _ _ S3 (.same ((GrowA.of (g1.trans g2) fun x h => .inl h).trans g3))
      | exc c => rw [hfk] at p; exact (show False from p).elim
      | no => rw [hfk] at p; exact (show False from p).elim
    | exc c => rw [hf] at p; exact (show False from p).elim
    | no => rw [hf] at p; exact (show False from p).elim⟩
end
end Dn

/-! Methods as values: index. -/
namespace Dn
open PySem L2 PyProof.Rows
def isStr : D → Bool
  | .str _ => true
  | _ => false
def isTxt (s : Str) : D → Bool
  | .str t => t == s
  | _ => false
def indexD (d y : D) : R D := match d, y with
  | .lst ds, .str s => match ds.findIdx? (isTxt s) with
    | some j => if ds.all isStr = true then .ok (.int (j : Nat)) else .no
    | none => .no
  | _, _ => .no
def eIndex (fa fe : Env → R D) (ρ : Env) : R D := fa ρ >>= fun d => match d with
  | .lst ds => fe ρ >>= indexD (.lst ds)
  | _ => .no
theorem reps_strs {K : PySem.W.Frag} {F : Hp} : ∀ {ds : List D} {vs : List V}, Reps K F ds vs → ds.all isStr = true → vs.all flatV = true
  | [], vs, r, _ => by rw [show vs = [] from r]; rfl
  | d :: ds, vs, r, h => by
    obtain ⟨v, vr, rfl, h2, h3⟩ := r
    rw [List.all_cons, Bool.and_eq_true] at h
    rw [List.all_cons, reps_strs h3 h.2, Bool.and_true]
    cases d <;> first | (rw [show v = _ from h2]; rfl) | exact absurd h.1 (by simp [isStr])
theorem eqV_txt {K : PySem.W.Frag} {F : Hp} {d : D} {v : V} {s : Str} (r : Rep K F d v) (h : isStr d = true) : eqV v (.str s) = isTxt s d := by
  cases d <;> first | (rw [show v = _ from r]; rfl) | exact absurd h (by simp [isStr])
section
variable {X : Cx} {E : XK} {ω : List O} {e a : Expr} {te ta : TE} {fe fa : Env → R D} {cpos apos : Pos}
theorem de_index (ha : DE X E ω a ta fa (.own .fz) []) (he : DE X E ω e te fe .fz []) (hbase : attributeBase a "index" X.env (eval a X.env) = eval a X.env := by rfl)
    (hfew : ((backTo cpos (starEach [e] X.env)).all (fun x => !x.1) && (backToKw cpos (keywordEach [] X.env)).all (fun x => x.1.isSome) && decide ([e].length + ([] : List Keyword).length + (if ([] : List Keyword).isEmpty then 0 else 1) < 30)) = true := by rfl) (hline : (apos.endLine == cpos.line) = true := by rfl)
    (hst : starEach (e :: []) X.env = (false, eval e X.env) :: starEach [] X.env := by rfl) (hpl : (backTo cpos (starEach [] X.env)).any (·.1) = false := by rfl) :
    DE X E ω (.Call (.Attribute a "index" apos) [e] [] cpos) (tBM X.K "list" (rIndex X.K) ta (tCons te tNil)) (eIndex fa fe) .fz [] :=
  ⟨pe_bm PySem.F.plainAttrs_list PySem.F.slot_list_index PySem.F.type_list_index mt_index ha.pe (pa_cons he.pe pa_nil hst) hbase hfew hline hst hpl, fun σ ρ F H As Q S p => by
    refine (de_frz ha).sem.then S p fun d v F1 H1 B g S1 r _ _ p1 => ?_
    have ty : ∀ ds, d = .lst ds → tyV X.K "list" v H1 := fun ds e => by
      subst e
      obtain ⟨a, vs, rfl, h1, _⟩ := r.1
      exact .inl ⟨rfl, vs, .of (S1.ex _ _ h1)⟩
    by_cases hd : ∃ ds, d = .lst ds
    · obtain ⟨ds, rfl⟩ := hd
      refine ⟨ty ds rfl, ?_⟩
      refine he.sem.then S1 p1 fun y w F2 H2 B2 g2 S2 r2 _ _ p2 => ?_
      obtain ⟨a, vs, rfl, h1, h2⟩ := r.1
      cases y with
      | str s =>
        have p3 : Pst X.mg E X.K .fz As [] F2 H2 Q (match ds.findIdx? (isTxt s) with
          | some j => if ds.all isStr = true then .ok (.int (j : Nat)) else .no
          | none => .no) := p2
        split at p3
        · rename_i j hj
          split at p3
          · rename_i hall
            obtain ⟨hj1, hj2, hj3⟩ := List.findIdx?_eq_some_iff_getElem.mp hj
            have rs := Reps.mono g2.ff ds vs h2
            obtain ⟨z, hz, rz⟩ := rs.get (List.getElem?_eq_getElem hj1)
            refine ⟨a, vs, .str s, j, z, rfl, by rw [show w = .str s from r2.1], .of (S2.ex _ _ (g2.ff _ _ h1)), rfl, reps_strs rs hall, hz, ?_, ?_, p3.fin S2.ex rfl⟩
            · rw [eqV_txt rz (List.all_eq_true.mp hall _ (List.getElem_mem hj1))]
              exact hj2
            · intro m z' hm hz'
              obtain ⟨d', q1, q2⟩ := rs.get' hz'
              have hm' := List.getElem?_eq_some_iff.mp q1
              obtain ⟨hm1, hm2⟩ := hm'
              rw [eqV_txt q2 (List.all_eq_true.mp hall _ (by rw [← hm2]; exact List.getElem_mem hm1))]
              have := hj3 m hm
              rw [hm2] at this
              simpa using this
          · exact p3.elim
        · exact p3.elim
      | _ => exact (show False from p2).elim
    · cases d <;> first | exact (hd ⟨_, rfl⟩).elim | exact (show False from p1).elim⟩
end
end Dn

/-! The ends of a law. -/
namespace Dn
open PySem L2 PyProof.Rows
section
variable {P : Program} {w : World} {K : PySem.W.Frag} {mg : Str → Option Value} {base : Heap} {x : Str} {st : Stmt} {N ps : List Str} {k kk n nN : Nat} {fb : Env → R Fl} {g : List D → R D} {ωp ωl : List O} {o : O} {W : List Nat}
theorem fnok {f : Addr} {fd : FuncData} (h : Fun K x x st f fd) (S : FnScope N ps (defScope st)) (hg : g = fnD N.length fb) (hk : kk = k + 1) (hn : n = ps.length) (hp : ωp.length = ps.length) (hz : ωp.all O.isFz = true) (hl : ωp.length + ωl.length = N.length)
    (hbody : ∀ (f : Addr) (cdv : Value) (A : Around) (outer : List PySem.Env) (s : Shared) (H : Hp) (E : XK), Room k (A.deeper (envOfC x (defScope st) s.heap.objs.size f cdv)) →
      ∃ t ω', DSs (cxOf CX0 P w K mg base N x (defScope st) f cdv A outer s H E).nox E0 ⟨W, []⟩ (ωp ++ ωl) (defBody st) t fb ω' o) : FnOk P w K mg base CX0 kk f fd ps (spD K mg n g o) := by
  subst hg hk hn
  exact fn_ok (W := W) h S hp hz hl (hbody f)
abbrev fragOf {K : PySem.W.Frag} {h : Heap} (_ : K.In h) : PySem.W.Frag := K
theorem has_mk {h : Heap} {f : Addr} {oc : Value} {od an : Option Addr} {osl : Array (Option Value)} {kV doc pm cdv ct : Value} (X : K.In h) (G : h.Ns mainGlobals mg) (a : PySem.W.nsIn K mainGlobals x = some (some (.ref f)))
    (l : K.lookup f = some ⟨oc, od, .func (PySem.W.fnOf x x (defArgs st) (defBody st) (defScope st) .none kV doc pm an cdv ct), osl⟩) (c : PySem.W.codeIn K cdv x = true) (kp : PySem.W.keepIn K (.ref f) = true)
    (b : ∀ (kV doc pm : Value) (an : Option Addr) (cdv ct : Value) (us : List Value), us.length = ps.length → bindArgs (PySem.W.fnOf x x (defArgs st) (defBody st) (defScope st) .none kV doc pm an cdv ct) ⟨us, []⟩ = pure (ps.zip us)) : Has K mg x st ps :=
  ⟨f, _, PySem.W.mg_of X G a, kp, (fun_mk l c kp).binds b, fun_mk l c kp⟩
end
/-- the goal that the head leaves, from the law's data function; what is known of loose names is handed on -/
theorem walk_d {l : PySem.W.OpenLaw} {k : Nat} {q : Program} {loose : List Str} {XP : (Str → Option Value) → Heap → Prop} {YP : World → Heap → Prop} {d : DefRec} {K : Params → PySem.W.Frag} {g : List D → R D} {x : Str}
    (hn : l.most = some 63) (hdf : d.params.defaults = []) (hr : Room k callerA) (hY : ∀ (w : World) (h : Heap), YP w h → (K w.params).In h)
    (F : ∀ (w : World) (mg : Str → Option Value) (fa : Addr) (h : Heap), (K w.params).In h → h.Ns mainGlobals mg → XP mg h → mg d.name = some (.ref fa) →
      ∃ fd : FuncData, (∀ (s : Shared) (u : Value), BindsTo s fd ⟨[u], []⟩ [(x, u)]) ∧ ∀ base : Heap, (K w.params).In base → base.Ns mainGlobals mg → FnOk l.prog w (K w.params) mg base CX0 k fa fd [x] (spD (K w.params) mg 1 g .fz))
    (law : ∀ ns : List Int, ns.length ≤ 63 → g [.scr ns] = .ok (.bl true)) : PySem.W.WalkO q loose XP YP l.row.toRowW d [] (fun f vs => PySem.call f vs) := by
  refine Att.attach_call hn hdf fun w s₀ s₁ mg mb fa o pm cd doc a vs ns G Y ho hd hcd hmg hobj hints hlen hg => ?_
  have KX := hY w _ Y
  obtain ⟨fd, hb, hF⟩ := F w mg fa _ KX G.T.g G.X hmg
  refine law_call KX G.T.g G.T.b G.T.builtins G.T.nolimit hg hobj hints (Nat.le_trans hlen (by decide)) hr hF hb (fun H hO hS => ?_) fun H e s' h => h.elim
  refine ⟨[.scr ns], H, Same.refl H, ⟨_, [], rfl, ⟨a, rfl, hS⟩, rfl⟩, rfl, ?_⟩
  rw [law ns hlen]
  intro v F' H' B _ r _ _
  exact r.1
theorem loose_int {p : Program} {lv : List (Str × PySem.W.WData)} {mg : Str → Option Value} {h : Heap} {x : Str} {i : Int} (X : PySem.W.XL p lv mg h) (m : (x, PySem.W.WData.int i) ∈ lv) : ∃ t, mg x = some (.int i t) := by
  obtain ⟨v, h1, h2⟩ := X.2.val _ m
  cases h2
  exact ⟨_, h1⟩
theorem law_mk {P : Program} {w : World} {K : PySem.W.Frag} {mg : Str → Option Value} {h : Heap} {st : Stmt} {f fa : Addr} {oc : Value} {od an : Option Addr} {osl : Array (Option Value)} {kV doc pm cdv ct : Value} {x y : Str} {k : Nat} {sp : Sp} (X : K.In h) (G : h.Ns mainGlobals mg) (hfa : mg x = some (.ref fa)) (a : PySem.W.nsIn K mainGlobals x = some (some (.ref f)))
    (l : K.lookup f = some ⟨oc, od, .func (PySem.W.fnOf x x (defArgs st) (defBody st) (defScope st) .none kV doc pm an cdv ct), osl⟩) (c : PySem.W.codeIn K cdv x = true) (kp : PySem.W.keepIn K (.ref f) = true)
    (b : ∀ (s : Shared) (v : Value), BindsTo s (PySem.W.fnOf x x (defArgs st) (defBody st) (defScope st) .none kV doc pm an cdv ct) ⟨[v], []⟩ [(y, v)]) (F : ∀ (base : Heap) (fd : FuncData), Fun K x x st fa fd → FnOk P w K mg base CX0 k fa fd [y] sp) :
    ∃ fd : FuncData, (∀ (s : Shared) (u : Value), BindsTo s fd ⟨[u], []⟩ [(y, u)]) ∧ ∀ base : Heap, K.In base → base.Ns mainGlobals mg → FnOk P w K mg base CX0 k fa fd [y] sp := by
  have e := hfa.symm.trans (PySem.W.mg_of X G a)
  cases e
  exact ⟨_, b, fun base _ _ => F base _ (fun_mk l c kp)⟩
end Dn

/-! Defs that change nothing, called with arguments that change owned names while they are reckoned. -/
namespace Dn
open PySem L2 PyProof.Rows
section
variable {K : PySem.W.Frag} {F H : Hp} {σ : L2.St} {ρ : Env}
theorem argR_none : ∀ {ks : List (Option Nat)} {ds : List D} {vs : List V}, ArgR K F ρ σ ks ds vs → ks.all (·.isNone) = true → Reps K F ds vs ∧ ds.length = ks.length
  | [], ds, vs, r, _ => by
    rw [r.1, r.2]
    exact ⟨rfl, rfl⟩
  | none :: ks, ds, vs, r, h => by
    obtain ⟨d, dr, v, vr, rfl, rfl, h1, h2⟩ := r
    rw [List.all_cons, Bool.and_eq_true] at h
    obtain ⟨q1, q2⟩ := argR_none h2 h.2
    exact ⟨⟨v, vr, rfl, h1, q1⟩, by rw [List.length_cons, List.length_cons, q2]⟩
  | some i :: ks, ds, vs, r, h => by
    rw [List.all_cons, Bool.and_eq_true] at h
    exact absurd h.1 (by simp)
end
def xCallD (g : List D → R D) (fas : Env → R (List D × Env)) (ρ : Env) : R (D × Env) := fas ρ >>= fun p => g p.1 >>= fun d => .ok (d, p.2)
section
variable {X : Cx} {E : XK} {ω : List O} {e : Expr} {es : List Expr} {tas : TA} {fas : Env → R (List D × Env)} {o : O} {ks : List (Option Nat)} {pos : Pos} {x : Str}
theorem sx_callD {mg : Str → Option Value} {K : PySem.W.Frag} {g : List D → R D} {n : Nat} (h : SemXA mg E K ω tas fas ks) (hk : ks.all (·.isNone) = true) (hn : ks.length = n) : SemX mg E K ω (tCall (spD K mg n g o) [] E tas) (xCallD g fas) o := fun σ ρ F H As Q S p => by
  refine h σ ρ F H As _ S ?_
  unfold xCallD at p
  cases hf : fas ρ with
  | exc c => rw [hf] at p; exact p
  | no => rw [hf] at p; exact p
  | ok q =>
    obtain ⟨ds, ρ1⟩ := q
    rw [hf] at p
    intro vs F1 H1 As1 S1 ar g1
    obtain ⟨r1, r2⟩ := argR_none ar hk
    have p1 : PstX mg E K ω o σ As.flatten F H Q (g ds >>= fun d => .ok (d, ρ1)) := p
    have p2 := PstX.grow g1 p1
    refine ⟨ds, F1, S1.ex, by rw [List.append_nil]; exact r1, by rw [r2, hn], ?_⟩
    cases hg : g ds with
    | no => rw [hg] at p2; exact p2
    | exc c =>
      rw [hg] at p2
      exact fun H' q => p2 H' fun x o h1 _ => q x o h1
    | ok d =>
      rw [hg, ok_bind] at p2
      intro v F2 H2 B g2 r b nB
      have S2 := S1.grow g2
      have fresh : ∀ x ∈ B, H1 x = none := fun x hx => (b x hx).resolve_right fun z => z.nil.elim
      refine p2 v F2 H2 As1 B S2 r nB (fun x hx hf => ?_) (GrowA.of g2 fun x hx => ?_)
      · exact (S1.sl.mem hf).2 (fresh x hx)
      · rcases List.mem_append.mp hx with hx | hx
        · exact .inr (fresh x hx)
        · exact .inl hx
theorem dx_callD {CX : CXT} {k n : Nat} {p : Pos} {g : List D → R D} (C : DFn X.prog X.w X.K X.mg X.base CX k x n g o) (hr : Room k X.A) (hx : Passes CX X E) (ha : DXA X E ω (e :: es) tas fas ks) (hk : ks.all (·.isNone) = true := by rfl) (hn : ks.length = n := by rfl)
    (hg : Gl X x := by rfl) (hdb : (x == ("__debug__" : Str)) = false := by decide) (he : starEach (e :: es) X.env = (false, eval e X.env) :: starEach es X.env := by rfl) (hpl : (backTo pos (starEach es X.env)).any (·.1) = false := by rfl) :
    DX X E ω (.Call (.Name x p) (e :: es) [] pos) (tCall (spD X.K X.mg n g o) [] E tas) (xCallD g fas) o := by
  obtain ⟨f, fd, ps, h1, h2, h3, h4⟩ := C.ex
  exact ⟨pe_call h4 hr hg h1 h2 h3 .nil hx ha.pa hdb he hpl, sx_callD ha.sem hk hn⟩
end
end Dn

/-! max(xs, default=d) over ints. -/
namespace Dn
open PySem L2 PyProof.Rows
def maxZ (ns : List Int) (d : Int) : Int := match ns with
  | [] => d
  | n :: ns => ns.foldl (fun a y => if a < y then y else a) n
def rMaxDf (K : PySem.W.Frag) : List V → List V → Hp → VK → Prop := fun vs zs H Q => ∃ (a : Addr) (ns : List Int) (d : Int), vs = [.ref a] ∧ zs = [.int d] ∧ SqL K H a (ns.map V.int) ∧ Q (.int (maxZ ns d)) H
theorem reads_of_ints {h : Heap} : ∀ {ns : List Int} {vs : List Value}, IntsAre vs ns → ReadsAll h vs (ns.map PyData.int) []
  | [], vs, r => by cases r; exact .nil
  | n :: ns, vs, r => by
    cases r with
    | cons t rest q => exact .cons (.int _ _) (reads_of_ints q)
theorem maxD_ints (n : Int) (ns : List Int) : PySem.W.maxD (.int n) (ns.map PyData.int) = .int (ns.foldl (fun a y => if a < y then y else a) n) := by
  unfold PySem.W.maxD
  induction ns generalizing n with
  | nil => rfl
  | cons m ns ih =>
    rw [List.map_cons, List.foldl_cons, List.foldl_cons]
    have e : (if PySem.W.dataLt (.int n) (.int m) = true then PyData.int m else .int n) = .int (if n < m then m else n) := by
      rw [PySem.W.dataLt_int]
      by_cases h : n < m <;> simp [h]
    rw [e, ih]
theorem depth_ints : ∀ ns : List Int, PyData.depthAll (ns.map PyData.int) = 0
  | [] => rfl
  | n :: ns => by
    show max 0 (PyData.depthAll (ns.map PyData.int)) = 0
    rw [depth_ints ns]
    rfl
theorem alike_ints (ns : List Int) : PySem.W.AlikeAll (ns.map PyData.int) := by
  refine ⟨fun x hx y hy => ?_, fun x hx => ?_⟩
  · obtain ⟨n, _, rfl⟩ := List.mem_map.mp hx
    obtain ⟨m, _, rfl⟩ := List.mem_map.mp hy
    rfl
  · obtain ⟨n, _, rfl⟩ := List.mem_map.mp hx
    intro h
    cases h
theorem cr_maxDf {X : Cx} {k : Nat} (hc : X.calm = true) (hr : Room k X.A) : CallRK X (.builtin "max") [Str.ofString "default"] (rMaxDf X.K) := by
  intro pins s σ H vs zs us ws Q I r rz h
  obtain ⟨a, ns, d, rfl, rfl, hs, q⟩ := h
  obtain ⟨its, rv, hl, hz⟩ := I.list hs
  rw [Vals.ref1 r]
  obtain ⟨u, hu, rfl⟩ : ∃ u, RelV (.int d) u ∧ ws = [u] := by
    cases rz with
    | cons a b => cases b; exact ⟨_, a, rfl⟩
  refine PySem.W.max_list_default (I.ok.hd hc) hl.isList (reads_of_ints rv.ints) (alike_ints ns) (by rw [depth_ints]; exact hu_of hr) (fun he h' tk hk => ?_) fun y ys i v h' tk bs he hv rd hk => ?_
  · have : ns = [] := List.map_eq_nil_iff.mp he
    subst this
    exact ⟨.int d, H, I.kept hk, hu, q⟩
  · cases ns with
    | nil => cases he
    | cons n ns =>
      rw [List.map_cons] at he
      cases he
      rw [maxD_ints] at rd
      cases rd
      exact ⟨.int _, H, I.kept hk, ⟨_, rfl⟩, q⟩
/-! ### max(list(xs), default=d) -/
def intsD : List D → Option (List Int)
  | [] => some []
  | .int n :: r => (intsD r).map (n :: ·)
  | _ => none
theorem ints_rep {K : PySem.W.Frag} {F : Hp} : ∀ {ds : List D} {ns : List Int} {vs : List V}, intsD ds = some ns → Reps K F ds vs → vs = ns.map V.int
  | [], ns, vs, h, r => by
    cases h
    exact r
  | d :: ds, ns, vs, h, r => by
    obtain ⟨v, vr, rfl, h2, h3⟩ := r
    cases d with
    | int n =>
      have h' : (intsD ds).map (n :: ·) = some ns := h
      cases hq : intsD ds with
      | none => rw [hq] at h'; cases h'
      | some q =>
        rw [hq] at h'
        cases h'
        rw [show v = .int n from h2, ints_rep hq h3]
        rfl
    | _ => cases h
def maxDf (d e : D) : R D := match d, e with
  | .lst xs, .int i => match intsD xs with
    | some ns => .ok (.int (maxZ ns i))
    | none => .no
  | _, _ => .no
section
variable {X : Cx} {E : XK} {ω : List O} {a b : Expr} {ta tb : TE} {fa fb : Env → R D} {p pos kpos : Pos}
theorem de_maxDf {k : Nat} (hc : X.calm = true) (hr : Room k X.A) (hm : X.mg "max" = none) (ha : DE X E ω a ta fa .fz []) (hb : DE X E ω b tb fb .fz []) (hg : Gl X "max" := by rfl)
    (he : backTo pos (starEach [a] X.env) = (false, eval a X.env) :: backTo pos (starEach [] X.env) := by rfl) (hs : starEach [a] X.env = (false, eval a X.env) :: starEach [] X.env := by rfl) (hpl : (backTo pos (starEach [a] X.env)).any (·.1) = false := by rfl)
    (hall : (backToKw pos (keywordEach [⟨some "default", b, kpos⟩] X.env)).all (·.1.isSome) = true := by rfl) (hnone : (backToKw pos (keywordEach [⟨some "default", b, kpos⟩] X.env)).any (·.1.isNone) = false := by rfl) (hks : (backToKw pos (keywordEach [⟨some "default", b, kpos⟩] X.env)).filterMap (·.1) = [Str.ofString "default"] := by rfl) :
    DE X E ω (.Call (.Name "max" p) [a] [⟨some "default", b, kpos⟩] pos) (tCKw (rMaxDf X.K) (tCons ta tNil) (tCons tb tNil)) (eOp maxDf fa fb) .fz [] :=
  ⟨pe_callBK (cr_maxDf hc hr) hg hm PyProof.Rows.boot_max (pa_cons ha.pe pa_nil hs) (pk_cons hb.pe pk_nil) (by decide) (by decide) he hpl hall hnone hks, fun σ ρ F H As Q S q => by
    refine ha.sem.then S q fun d v F1 H1 B g S1 r _ _ q1 => ?_
    refine hb.sem.then S1 q1 fun e w F2 H2 B2 g2 S2 r2 _ _ q2 => ?_
    cases d with
    | lst xs =>
      cases e with
      | int i =>
        have q3 : Pst X.mg E X.K .fz As [] F2 H2 Q (match intsD xs with
          | some ns => .ok (.int (maxZ ns i))
          | none => .no) := q2
        split at q3
        · rename_i ns hns
          obtain ⟨a0, vs, rfl, h1, h2⟩ := r.1
          have hv := ints_rep hns h2
          subst hv
          exact ⟨a0, ns, i, rfl, by rw [show w = .int i from r2.1], .of (S2.ex _ _ (g2.ff _ _ h1)), q3.fin S2.ex rfl⟩
        · exact q3.elim
      | _ => exact (show False from q2).elim
    | _ => exact (show False from q2).elim⟩
end
end Dn

/-! index of any flat item. -/
namespace Dn
open PySem L2 PyProof.Rows
def indexF (d y : D) : R D := match d with
  | .lst ds => if (flatD y && ds.all flatD) = true then (match ds.findIdx? (fun d => eqV (toV d) (toV y)) with
    | some j => .ok (.int (j : Nat))
    | none => .no) else .no
  | _ => .no
def eIndexF (fa fe : Env → R D) (ρ : Env) : R D := fa ρ >>= fun d => match d with
  | .lst ds => fe ρ >>= indexF (.lst ds)
  | _ => .no
section
variable {X : Cx} {E : XK} {ω : List O} {e a : Expr} {te ta : TE} {fe fa : Env → R D} {cpos apos : Pos}
theorem de_indexF (ha : DE X E ω a ta fa .fz []) (he : DE X E ω e te fe .fz []) (hbase : attributeBase a "index" X.env (eval a X.env) = eval a X.env := by rfl)
    (hfew : ((backTo cpos (starEach [e] X.env)).all (fun x => !x.1) && (backToKw cpos (keywordEach [] X.env)).all (fun x => x.1.isSome) && decide ([e].length + ([] : List Keyword).length + (if ([] : List Keyword).isEmpty then 0 else 1) < 30)) = true := by rfl) (hline : (apos.endLine == cpos.line) = true := by rfl)
    (hst : starEach (e :: []) X.env = (false, eval e X.env) :: starEach [] X.env := by rfl) (hpl : (backTo cpos (starEach [] X.env)).any (·.1) = false := by rfl) :
    DE X E ω (.Call (.Attribute a "index" apos) [e] [] cpos) (tBM X.K "list" (rIndex X.K) ta (tCons te tNil)) (eIndexF fa fe) .fz [] :=
  ⟨pe_bm PySem.F.plainAttrs_list PySem.F.slot_list_index PySem.F.type_list_index mt_index ha.pe (pa_cons he.pe pa_nil hst) hbase hfew hline hst hpl, fun σ ρ F H As Q S p => by
    refine ha.sem.then S p fun d v F1 H1 B g S1 r _ _ p1 => ?_
    have ty : ∀ ds, d = .lst ds → tyV X.K "list" v H1 := fun ds e => by
      subst e
      obtain ⟨a, vs, rfl, h1, _⟩ := r.1
      exact .inl ⟨rfl, vs, .of (S1.ex _ _ h1)⟩
    by_cases hd : ∃ ds, d = .lst ds
    · obtain ⟨ds, rfl⟩ := hd
      refine ⟨ty ds rfl, ?_⟩
      refine he.sem.then S1 p1 fun y w F2 H2 B2 g2 S2 r2 _ _ p2 => ?_
      obtain ⟨a, vs, rfl, h1, h2⟩ := r.1
      have p3 : Pst X.mg E X.K .fz As [] F2 H2 Q (if (flatD y && ds.all flatD) = true then (match ds.findIdx? (fun d => eqV (toV d) (toV y)) with
        | some j => .ok (.int (j : Nat))
        | none => .no) else .no) := p2
      by_cases hf : (flatD y && ds.all flatD) = true
      · rw [if_pos hf] at p3
        rw [Bool.and_eq_true] at hf
        obtain ⟨e1, e2⟩ := rep_flat hf.1 r2.1
        obtain ⟨e3, e4⟩ := reps_flat hf.2 (Reps.mono g2.ff ds vs h2)
        split at p3
        · rename_i j hj
          obtain ⟨hj1, hj2, hj3⟩ := List.findIdx?_eq_some_iff_getElem.mp hj
          refine ⟨a, vs, w, j, toV ds[j], rfl, rfl, .of (S2.ex _ _ (g2.ff _ _ h1)), e2, e4, by rw [e3, List.getElem?_map, List.getElem?_eq_getElem hj1]; rfl, by rw [e1]; exact hj2, fun m z' hm hz' => ?_, p3.fin S2.ex rfl⟩
          rw [e3, List.getElem?_map, List.getElem?_eq_getElem (by omega)] at hz'
          cases hz'
          rw [e1]
          have := hj3 m hm
          simpa using this
        · exact p3.elim
      · rw [if_neg hf] at p3
        exact p3.elim
    · cases d <;> first | exact (hd ⟨_, rfl⟩).elim | exact (show False from p1).elim⟩
end
end Dn

/-! A loop over a dict's keys: the dict is locked meanwhile. -/
namespace Dn
open PySem L2 PyProof.Rows
/-- all is as it was, but that dicts may be locked, or no more -/
def LeD (F F' : Hp) : Prop := ∀ x o, F x = some o → F' x = some o ∨ ∃ kvs, (o = .dK kvs ∨ ∃ ob, o = .frz ob (.dK kvs)) ∧ Rd F' x (.dK kvs)
section
variable {K : PySem.W.Frag} {F F' H H' : Hp}
theorem LeD.of (e : Same F F') : LeD F F' := fun x o h => .inl (e x o h)
theorem LeD.tup (e : LeD F F') {a : Addr} {vs : List V} (h : F a = some (.tup vs)) : F' a = some (.tup vs) := by
  rcases e _ _ h with q | ⟨kvs, q, _⟩
  · exact q
  · rcases q with q | ⟨ob, q⟩ <;> cases q
theorem LeD.lst (e : LeD F F') {a : Addr} {vs : List V} (h : F a = some (.lst vs)) : F' a = some (.lst vs) := by
  rcases e _ _ h with q | ⟨kvs, q, _⟩
  · exact q
  · rcases q with q | ⟨ob, q⟩ <;> cases q
theorem LeD.rd (e : LeD F F') {a : Addr} {kvs : List (L2.Key × V)} (h : Rd F a (.dK kvs)) : Rd F' a (.dK kvs) := by
  rcases h with h | ⟨o, h⟩
  · rcases e _ _ h with q | ⟨kvs', q, r⟩
    · exact .inl q
    · rcases q with q | ⟨ob, q⟩
      · cases q; exact r
      · cases q
  · rcases e _ _ h with q | ⟨kvs', q, r⟩
    · exact .inr ⟨o, q⟩
    · rcases q with q | ⟨ob, q⟩
      · cases q
      · cases q; exact r
theorem LeD.seq (e : LeD F F') {a : Addr} {vs : List V} (h : SqL K F a vs) : SqL K F' a vs := by
  rcases h with (h | ⟨o, h⟩) | h
  · exact .inl (.inl (e.lst h))
  · rcases e _ _ h with q | ⟨kvs', q, r⟩
    · exact .inl (.inr ⟨o, q⟩)
    · rcases q with q | ⟨ob, q⟩ <;> cases q
  · exact .inr h
mutual
theorem Rep.monoD (e : LeD F F') : ∀ (d : D) (v : V), Rep K F d v → Rep K F' d v
  | .non, v, h => h
  | .bl b, v, h => h
  | .int i, v, h => h
  | .str i, v, h => h
  | .err a c, v, h => h
  | .scr ns, v, h => by
    obtain ⟨a, h1, h2⟩ := h
    exact ⟨a, h1, e.seq h2⟩
  | .tup ds, v, h => by
    obtain ⟨a, vs, h1, h2, h3⟩ := h
    exact ⟨a, vs, h1, e.tup h2, Reps.monoD e ds vs h3⟩
  | .lst ds, v, h => by
    obtain ⟨a, vs, h1, h2, h3⟩ := h
    exact ⟨a, vs, h1, e.lst h2, Reps.monoD e ds vs h3⟩
  | .dic ds, v, h => by
    obtain ⟨a, vs, h1, h2, h3⟩ := h
    exact ⟨a, vs, h1, e.rd h2, RepK.monoD e ds vs h3⟩
theorem Reps.monoD (e : LeD F F') : ∀ (ds : List D) (vs : List V), Reps K F ds vs → Reps K F' ds vs
  | [], vs, h => h
  | d :: ds, vs, h => by
    obtain ⟨v, vr, h1, h2, h3⟩ := h
    exact ⟨v, vr, h1, Rep.monoD e d v h2, Reps.monoD e ds vr h3⟩
theorem RepK.monoD (e : LeD F F') : ∀ (ds : List (L2.Key × D)) (vs : List (L2.Key × V)), RepK K F ds vs → RepK K F' ds vs
  | [], vs, h => h
  | (k, d) :: ds, vs, h => by
    obtain ⟨v, vr, h1, h2, h3⟩ := h
    exact ⟨v, vr, h1, Rep.monoD e d v h2, RepK.monoD e ds vr h3⟩
end
mutual
theorem RepO.keepD : ∀ (o : O) (d : D) (v : V) (B : List Addr), LeD F F' → (∀ x ∈ B, F' x = none ∧ H' x = H x) → RepO K F H o d v B → RepO K F' H' o d v B
  | .fz, d, v, B, e, hB, h => ⟨Rep.monoD e d v h.1, h.2⟩
  | .own o, d, v, B, e, hB, h => by
    rcases h with ⟨ds, a, vs, B', h1, h2, h3, h4, h5, h6⟩ | ⟨es, a, kvs, h1, h2, h3, h4, h5, h6⟩ | ⟨h1, h2, h3⟩
    · subst h5
      refine .inl ⟨ds, a, vs, B', h1, h2, (hB a (by simp)).1, by rw [(hB a (by simp)).2]; exact h4, rfl, h6.impB fun d v B1 hb q => RepO.keepD o d v B1 e (fun x hx => hB x (List.mem_cons_of_mem _ (hb x hx))) q⟩
    · subst h6
      exact .inr (.inl ⟨es, a, kvs, h1, h2, (hB a (by simp)).1, by rw [(hB a (by simp)).2]; exact h4, RepK.monoD e es kvs h5, rfl⟩)
    · exact .inr (.inr ⟨h1, Rep.monoD e d v h2, h3⟩)
  | .tup os, d, v, B, e, hB, h => by
    obtain ⟨ds, a, vs, h1, h2, h3, h4⟩ := h
    exact ⟨ds, a, vs, h1, h2, e.tup h3, RepT.keepD os ds vs B e hB h4⟩
theorem RepT.keepD : ∀ (os : List O) (ds : List D) (vs : List V) (B : List Addr), LeD F F' → (∀ x ∈ B, F' x = none ∧ H' x = H x) → RepT K F H os ds vs B → RepT K F' H' os ds vs B
  | [], ds, vs, B, e, hB, h => h
  | o :: os, ds, vs, B, e, hB, h => by
    obtain ⟨d, dr, v, vr, B1, B2, h1, h2, h3, h4, h5⟩ := h
    subst h3
    exact ⟨d, dr, v, vr, B1, B2, h1, h2, rfl, RepO.keepD o d v B1 e (fun x hx => hB x (List.mem_append_left _ hx)) h4, RepT.keepD os dr vr B2 e (fun x hx => hB x (List.mem_append_right _ hx)) h5⟩
end
theorem Sl.keepD {ω : List O} {ρ : Env} {σ : L2.St} {As : List (List Addr)} (h : Sl K F H ω ρ σ As) (e : LeD F F') (hB : ∀ x ∈ As.flatten, F' x = Option.none ∧ H' x = H x) : Sl K F' H' ω ρ σ As := by
  induction h with
  | nil => exact .nil
  | none _ ih => exact .none (ih fun x hx => hB x (by simpa using hx))
  | some r _ ih =>
    rw [List.flatten_cons] at hB
    exact .some (RepO.keepD _ _ _ _ e (fun x hx => hB x (List.mem_append_left _ hx)) r) (ih fun x hx => hB x (List.mem_append_right _ hx))
/-- one address told anew -/
theorem upd_le {a : Addr} {kvs : List (L2.Key × V)} {u : HO} (h : Rd F a (.dK kvs)) (hu : u = .dK kvs ∨ ∃ o, u = .frz o (.dK kvs)) : LeD F (upd F a u) := fun x o q => by
  by_cases e : x = a
  · subst e
    refine .inr ⟨kvs, ?_, ?_⟩
    · rcases h with h | ⟨o', h⟩
      · rw [q] at h; cases h; exact .inl rfl
      · rw [q] at h; cases h; exact .inr ⟨o', rfl⟩
    · rcases hu with rfl | ⟨o', rfl⟩
      · exact .inl upd_same
      · exact .inr ⟨o', upd_same⟩
  · exact .inl (by rw [upd_ne e]; exact q)
theorem Stt.told {ω : List O} {ρ : Env} {σ : L2.St} {As : List (List Addr)} {a : Addr} {kvs : List (L2.Key × V)} {u : HO} (S : Stt K ω ρ σ F H As) (h : Rd F a (.dK kvs)) (hu : u = .dK kvs ∨ ∃ o, u = .frz o (.dK kvs)) : Stt K ω ρ σ (upd F a u) (upd H a u) As := by
  have hne : F a ≠ none := by rcases h with h | ⟨o, h⟩ <;> rw [h] <;> simp
  refine ⟨fun x o q => ?_, S.sl.keepD (upd_le h hu) fun x hx => ?_, S.nd⟩
  · by_cases e : x = a
    · subst e; rw [upd_same] at q ⊢; exact q
    · rw [upd_ne e] at q ⊢; exact S.ex _ _ q
  · have e : x ≠ a := fun e => hne (by rw [← e]; exact (S.sl.mem hx).1)
    rw [upd_ne e, upd_ne e]
    exact ⟨(S.sl.mem hx).1, rfl⟩
end
/-- growth from a locked heap, seen from the unlocked one -/
theorem GrowA.unlock {F H F1 H1 : Hp} {A A1 : List Addr} {a : Addr} {u l : HO} (hF : F a = some u) (hA : a ∉ A) (g : GrowA A (upd F a l) (upd H a l) F1 H1 A1) (hH : H a = some u) : GrowA A F H (upd F1 a u) (upd H1 a u) A1 := by
  refine ⟨fun x o q => ?_, fun x o q => ?_, fun x o q hx => ?_, fun x q => ?_, fun x q1 q2 q3 => ?_, fun x q => ?_⟩
  · by_cases e : x = a
    · subst e; rw [upd_same]; rw [hF] at q; exact q
    · rw [upd_ne e]; exact g.ff _ _ (by rw [upd_ne e]; exact q)
  · by_cases e : x = a
    · subst e; rw [upd_same] at q ⊢; exact q
    · rw [upd_ne e] at q ⊢; exact g.fh _ _ q
  · by_cases e : x = a
    · subst e; rw [upd_same]; rw [hH] at q; exact q
    · rw [upd_ne e]; exact g.keep _ _ (by rw [upd_ne e]; exact q) hx
  · by_cases e : x = a
    · subst e; rw [upd_same]; simp
    · rw [upd_ne e]; exact g.th x (by rw [upd_ne e]; exact q)
  · have e : x ≠ a := fun e => by rw [e, hF] at q1; cases q1
    rw [upd_ne e]
    exact g.sep x (by rw [upd_ne e]; exact q1) (by rw [upd_ne e]; exact q2) q3
  · rcases g.new x q with h | h
    · exact .inl h
    · have e : x ≠ a := fun e => by rw [e, upd_same] at h; cases h
      rw [upd_ne e] at h
      exact .inr h
def tFrz (t : TS) : TS := fun D σ H => tLock t D σ H ∨ t D σ H
theorem ps_frz {X : Cx} {st : Stmt} {t : TS} (h : PS X st t) : PS X st (tFrz t) := ⟨fun pins s σ H D I hw => by
  rcases hw with hw | hw
  · exact (ps_lock h).run pins s σ H D I hw
  · exact h.run pins s σ H D I hw⟩
def noExcF : R Fl → R Fl
  | .ok fl => .ok fl
  | _ => .no
/-- for x in y[n], which is a dict: over its keys -/
def sForK (i : Nat) (n : Int) (set : D → Env → R Env) (body : Env → R Fl) (ρ : Env) : R Fl := match ρ[i]? with
  | some (some (.tup ds)) => (match atI ds n with
    | some (.dic es) => noExcF (forD set body (es.map fun kv => dKey kv.1) ρ)
    | _ => .no)
  | _ => .no
section
variable {X : Cx} {E : XK} {c : Cfg} {ω : List O} {body : List Stmt} {t : TS} {f : Env → R Fl} {or : O} {pos : Pos} {tg : Expr} {gt : TG} {set : D → Env → R Env}
theorem keys_loop {te : TE} {g : DG X E c.W ω tg gt set} (hb : DSs X E c ω body t f ω or) {σ : L2.St} {ρ : Env} {F H : Hp} {As : List (List Addr)} {Dd : Ends} {d : Addr} {o : Obj} {kvs : List (L2.Key × V)} {es : List (L2.Key × D)} (S : Stt X.K ω ρ σ F H As) (hd : F d = some (.frz o (.dK kvs))) (hr : RepK X.K F es kvs)
    (p : PstS X.mg E X.K c ω or σ As.flatten F H Dd (forD set f (es.map fun kv => dKey kv.1) ρ)) (ht : ∀ Q : VK, Q (.ref d) H → te σ H Q) : tFor (iKeys te) gt t Dd σ H := by
  refine ht _ ⟨d, o, rfl, .inl ⟨kvs, S.ex _ _ hd, ?_⟩⟩
  have hk : Reps X.K F (es.map fun kv => dKey kv.1) (kvs.map fun kv => kV kv.1) := reps_keys hr
  have hn := hk.length
  rw [List.length_map] at hn
  obtain ⟨xs, hxs⟩ : ∃ xs, xs = es.map fun kv => dKey kv.1 := ⟨_, rfl⟩
  rw [← hxs] at p hk hn
  refine ⟨fun i m σ' H' => m = xs.length - i ∧ i ≤ xs.length ∧ ∃ ρ' F' As', Stt X.K ω ρ' σ' F' H' As' ∧ Same F F' ∧ PstS X.mg E X.K c ω or σ' As'.flatten F' H' Dd (forD set f (xs.drop i) ρ'), ⟨xs.length, rfl, Nat.zero_le _, ρ, F, As, S, Same.refl _, by simpa using p⟩, ?_⟩
  rintro j m σ' H' ⟨rfl, hj, ρ', F', As', S', e1, p'⟩
  have exH : H' d = some (.frz o (.dK kvs)) := S'.ex _ _ (e1 _ _ hd)
  by_cases hlt : j < xs.length
  · refine .inr ⟨⟨exH, by omega⟩, fun σ2 H2 => ∃ ρ2 F2 As2, Stt X.K ω ρ2 σ2 F2 H2 As2 ∧ Same F F2 ∧ PstS X.mg E X.K c ω or σ2 As2.flatten F2 H2 Dd (forD set f (xs.drop (j + 1)) ρ2), fun σ2 H2 q => ⟨_, Nat.sub_lt_sub_left hlt (Nat.lt_succ_self j), rfl, hlt, q⟩, fun v H2 y => ?_⟩
    obtain ⟨rfl, k, w, hkw, rfl⟩ := y
    have hx : (kvs.map fun kv => kV kv.1)[j]? = some (kV k) := by rw [List.getElem?_map, hkw]; rfl
    obtain ⟨d', hd', rd⟩ := hk.get' hx
    have hdrop : xs.drop j = d' :: xs.drop (j + 1) := by
      rw [List.drop_eq_getElem_cons hlt]
      congr 1
      rw [List.getElem?_eq_getElem hlt] at hd'
      exact Option.some.inj hd'
    rw [hdrop] at p'
    have p2 : PstS X.mg E X.K c ω or σ' As'.flatten F' H2 Dd (set d' ρ' >>= fun ρ' => f ρ' >>= fun fl => match fl with
      | .nx ρ'' => forD set f (xs.drop (j + 1)) ρ''
      | .rt d ρ3 => .ok (.rt d ρ3)) := p'
    refine g.sem σ' ρ' F' H2 As' d' _ _ S' (Rep.mono e1 d' _ rd) ?_
    cases hset : set d' ρ' with
    | exc c => exact absurd hset (g.nex d' ρ' c)
    | no => rw [hset] at p2; exact p2.elim
    | ok ρ2 =>
      rw [hset, ok_bind] at p2
      intro σ2 S2 ag
      have p2 := PstS.grow (σ1 := σ2) (F1 := F') (H1 := H2) ⟨GrowA.refl S'.ex, ag⟩ p2
      refine hb.sem σ2 ρ2 F' H2 As' _ S2 ?_
      cases hf : f ρ2 with
      | exc c => rw [hf] at p2; exact p2
      | no => rw [hf] at p2; exact p2
      | ok fl =>
        rw [hf, ok_bind] at p2
        cases fl with
        | nx ρ3 => exact fun σ3 F3 H3 As3 S3 g3 => ⟨ρ3, F3, As3, S3, e1.trans g3.g.ff, PstS.grow g3 p2⟩
        | rt d ρ3 => exact p2
  · have ej : j = xs.length := by omega
    subst ej
    refine .inl ⟨⟨exH, by omega⟩, ?_⟩
    rw [List.drop_length] at p'
    exact p' σ' F' H' As' S' (.same (GrowA.refl S'.ex))
theorem ds_forKeys {i k : Nat} {n : Int} {jj} {x : Str} {npos cpos spos : Pos} (hp : PassesOwn (model X.prog X.w) X.A X.env X.xe) (hc : X.calm = true) (hr : Room k X.A) (g : DG X E c.W ω tg gt set) (hb : DSs X E c ω body t f ω or) (hω : ω[i]? = some .fz := by rfl) (hN : X.N[i]? = some x := by rfl)
    (hv : Vis X.env.scope x := by first | exact Or.inl rfl | exact Or.inr (Or.inl rfl) | exact Or.inr (Or.inr rfl)) (hdb : (x == ("__debug__" : Str)) = false := by decide) (hcd : (x == ("__classdict__" : Str)) = false := by decide)
    (hs : ∀ y, foldedSetIterable (.Subscript (.Name x npos) (.Constant (.int n) jj cpos) spos) X.env y = pure y := by intro _; rfl) :
    DS X E c ω (.For tg (.Subscript (.Name x npos) (.Constant (.int n) jj cpos) spos) body [] pos) (tFrz (tFor (iKeys (tOp (rIxA X.K) (tVar i) (tC (.int n)))) gt t)) (sForK i n set f) ω or :=
  ⟨ps_frz (ps_for hp hc (pi_keys (pe_ix (ix_any hr) (pe_var hN hv hdb hcd) pe_int (by intro _ _; rfl))) g.pg hb.pss hs), fun σ ρ F H As Dd S p => by
    unfold sForK at p
    split at p
    · rename_i ds hρ
      split at p
      · rename_i es hes
        obtain ⟨v, B, hσ, hA, r⟩ := S.sl.get hω hρ
        obtain ⟨⟨a0, vs, rfl, Fa, rs⟩, _⟩ := r
        obtain ⟨w, h3, h4⟩ := atI_reps rs hes
        obtain ⟨d, kvs, rfl, hd, hk⟩ := h4
        have run : ∀ H1 : Hp, H1 a0 = some (.tup vs) → ∀ Q : VK, Q (.ref d) H1 → tOp (rIxA X.K) (tVar i) (tC (.int n)) σ H1 Q := fun H1 h1 Q q => ⟨.ref a0, hσ, .inl (.inr (.inl ⟨a0, vs, n, .ref d, rfl, rfl, .of h1, h3, q⟩))⟩
        rcases hd with hd | ⟨o, hd⟩
        · refine .inl ⟨d, .dK kvs, S.ex _ _ hd, trivial, fun od => ?_⟩
          have hne : a0 ≠ d := fun e => by rw [e, hd] at Fa; cases Fa
          have S1 := S.told (u := .frz od (.dK kvs)) (.inl hd) (.inr ⟨od, rfl⟩)
          have dA : d ∉ As.flatten := fun q => by have := (S.sl.mem q).1; rw [hd] at this; cases this
          refine keys_loop (g := g) hb S1 upd_same (RepK.monoD (upd_le (.inl hd) (.inr ⟨od, rfl⟩)) _ _ hk) ?_ (run _ (by rw [upd_ne hne]; exact S.ex _ _ Fa))
          cases hf : forD set f (es.map fun kv => dKey kv.1) ρ with
          | exc c => rw [hf] at p; exact (show False from p).elim
          | no => rw [hf] at p; exact p
          | ok fl =>
            rw [hf] at p
            cases fl with
            | nx ρ1 =>
              intro σ1 F1 H1 As1 S2 g1
              have e1 : F1 d = some (.frz od (.dK kvs)) := g1.g.ff _ _ upd_same
              exact ⟨S2.ex _ _ e1, p σ1 _ _ As1 (S2.told (u := .dK kvs) (.inr ⟨od, e1⟩) (.inl rfl)) ⟨g1.g.unlock hd dA (S.ex _ _ hd), g1.ag⟩⟩
            | rt e ρ1 =>
              intro v σ1 F1 H1 B1 As1 ω1 r1 nB ap S2 io g1
              have e1 : F1 d = some (.frz od (.dK kvs)) := g1.g.ff _ _ upd_same
              refine ⟨S2.ex _ _ e1, p v σ1 _ _ B1 As1 ω1 (RepO.keepD _ _ _ _ (upd_le (.inr ⟨od, e1⟩) (.inl rfl)) (fun y hy => ?_) r1) nB ap (S2.told (u := .dK kvs) (.inr ⟨od, e1⟩) (.inl rfl)) io ⟨g1.g.unlock hd dA (S.ex _ _ hd), g1.ag⟩⟩
              have z := (RepO.mem _ _ _ _ r1 hy).1
              have ne : y ≠ d := fun q => by rw [q, e1] at z; cases z
              rw [upd_ne ne, upd_ne ne]
              exact ⟨z, rfl⟩
        · refine .inr (keys_loop (g := g) hb S hd hk ?_ (run _ (S.ex _ _ Fa)))
          cases hf : forD set f (es.map fun kv => dKey kv.1) ρ with
          | exc c => rw [hf] at p; exact (show False from p).elim
          | no => rw [hf] at p; exact p
          | ok fl => rw [hf] at p; exact p
      · exact p.elim
    · exact p.elim⟩
end
end Dn

/-! pop; tuples, appends, stores and ranges of expressions that change what names own. -/
namespace Dn
open PySem L2 PyProof.Rows
section
variable {X : Cx} {E : XK} {c : Cfg} {ω : List O} {e b : Expr} {es : List Expr} {t : TS} {te tb : TE} {tas : TA} {f g : Env → R (D × Env)} {fb : Env → R D} {fas : Env → R (List D × Env)} {o or : O} {ks : List (Option Nat)} {pos cpos apos npos : Pos} {x : Str}
/-- x.pop() -/
def xPop (i : Nat) (ρ : Env) : R (D × Env) := match ρ[i]? with
  | some (some (.lst ds)) => (match ds.getLast? with
    | some d => .ok (d, ρ.set i (some (.lst ds.dropLast)))
    | none => .no)
  | _ => .no
theorem dx_pop {i : Nat} (hi : ω[i]? = some (.own .fz) := by rfl) (hN : X.N[i]? = some x := by rfl) (hv : Vis X.env.scope x := by first | exact Or.inl rfl | exact Or.inr (Or.inl rfl) | exact Or.inr (Or.inr rfl)) (hd : (x == ("__debug__" : Str)) = false := by decide)
    (hcd : (x == ("__classdict__" : Str)) = false := by decide) (hbase : attributeBase (.Name x npos) "pop" X.env (eval (.Name x npos) X.env) = eval (.Name x npos) X.env := by rfl)
    (hline : (apos.endLine == cpos.line) = true := by rfl) :
    DX X E ω (.Call (.Attribute (.Name x npos) "pop" apos) [] [] cpos) (tBM0 X.K "list" rPop (tVar i)) (xPop i) .fz :=
  ⟨pe_bm0 PySem.F.plainAttrs_list PySem.F.slot_list_pop PySem.F.type_list_pop mt_pop (pe_var hN hv hd hcd) hbase hline, fun σ ρ F H As Q S p => by
    unfold xPop at p
    split at p
    · rename_i ds hρ
      split at p
      · rename_i d hl
        obtain ⟨v, B, hσ, hA, r⟩ := S.sl.get hi hρ
        obtain ⟨a, vs, rfl, Fa, Ha, rfl, rs⟩ := list_at r
        have hlast : ds[ds.length - 1]? = some d := by rw [← List.getLast?_eq_getElem?]; exact hl
        obtain ⟨w, hw, rw'⟩ := rs.get hlast
        refine ⟨.ref a, hσ, .inl ⟨rfl, vs, .of Ha⟩, a, vs, w, rfl, rfl, Ha, by rw [rs.length]; exact hw, ?_⟩
        obtain ⟨S2, g2⟩ := S.change hi hσ hA (a := a) (by simp) (own_lst Fa upd_same rs.dropLast) (fun x h => h) (by simp)
        exact p w F _ _ [] S2 ⟨rw', rfl⟩ List.nodup_nil (by simp) g2
      · exact p.elim
    · exact p.elim⟩
/-- a tuple -/
def xTup (fas : Env → R (List D × Env)) (ρ : Env) : R (D × Env) := fas ρ >>= fun q => .ok (.tup q.1, q.2)
theorem argR_reps {K : PySem.W.Frag} {F : Hp} {ρ : Env} {σ : L2.St} : ∀ {ks : List (Option Nat)} {ds : List D} {vs : List V}, (ks.all fun k => k.isNone) = true → ArgR K F ρ σ ks ds vs → Reps K F ds vs ∧ vs.length = ks.length
  | [], ds, vs, _, r => by obtain ⟨rfl, rfl⟩ := r; exact ⟨rfl, rfl⟩
  | none :: ks, ds, vs, h, r => by
    obtain ⟨d, dr, v, vr, rfl, rfl, h3, h4⟩ := r
    obtain ⟨h5, h6⟩ := argR_reps (ks := ks) (by simpa using h) h4
    exact ⟨⟨v, vr, rfl, h3, h5⟩, by simp [h6]⟩
  | some i :: ks, ds, vs, h, r => by simp at h
theorem dx_tup {k} (h : DXA X E ω es tas fas ks) (hk : (ks.all fun k => k.isNone) = true := by rfl) (hl : ks.length ≤ 1000 := by decide) : DX X E ω (.Tuple es k pos) (tTup tas) (xTup fas) .fz :=
  ⟨pe_tup h.pa, fun σ ρ F H As Q S p => by
    refine h.sem σ ρ F H As _ S ?_
    unfold xTup at p
    cases hf : fas ρ with
    | ok q =>
      obtain ⟨ds, ρ'⟩ := q
      rw [hf] at p
      intro vs F1 H1 As1 S1 ar g1
      obtain ⟨rs, ln⟩ := argR_reps hk ar
      refine ⟨by rw [ln, ← most_eq]; exact Nat.le_trans hl (by decide), fun l hl => ?_⟩
      have g2 := Grow.new (u := .tup vs) S1.ex hl
      exact p (.ref l) _ _ As1 [] (S1.grow g2) ⟨⟨l, vs, rfl, upd_same, Reps.mono g2.ff ds vs rs⟩, rfl⟩ List.nodup_nil (by simp) (g1.trans (.of g2 fun x h => .inl h))
    | exc c => rw [hf] at p; exact p
    | no => rw [hf] at p; exact p⟩
/-- x.append(e) -/
def sAppX (i : Nat) (fe : Env → R (D × Env)) (ρ : Env) : R Fl := match ρ[i]? with
  | some (some (.lst _)) => fe ρ >>= fun q => (match q.2[i]? with
    | some (some (.lst ds)) => putE q.2 i (appD q.1 (.lst ds))
    | _ => .no)
  | _ => .no
theorem ds_appX {i : Nat} (he : DX X E ω e te f .fz) (hi : ω[i]? = some (.own .fz) := by rfl) (hN : X.N[i]? = some x := by rfl) (hv : Vis X.env.scope x := by first | exact Or.inl rfl | exact Or.inr (Or.inl rfl) | exact Or.inr (Or.inr rfl)) (hd : (x == ("__debug__" : Str)) = false := by decide)
    (hcd : (x == ("__classdict__" : Str)) = false := by decide) (hbase : attributeBase (.Name x npos) "append" X.env (eval (.Name x npos) X.env) = eval (.Name x npos) X.env := by rfl)
    (hfew : ((backTo cpos (starEach [e] X.env)).all (fun x => !x.1) && (backToKw cpos (keywordEach [] X.env)).all (fun x => x.1.isSome) && decide ([e].length + ([] : List Keyword).length + (if ([] : List Keyword).isEmpty then 0 else 1) < 30)) = true := by rfl) (hline : (apos.endLine == cpos.line) = true := by rfl)
    (hst : starEach (e :: []) X.env = (false, eval e X.env) :: starEach [] X.env := by rfl) (hpl : (backTo cpos (starEach [] X.env)).any (·.1) = false := by rfl) (hs : swapsWith (.Call (.Attribute (.Name x npos) "append" apos) [e] [] cpos) none pos.line X.env = pure false := by rfl) :
    DS X E c ω (.Expr (.Call (.Attribute (.Name x npos) "append" apos) [e] [] cpos) pos) (tDrop (tBM X.K "list" rAppend (tVar i) (tCons te tNil))) (sAppX i f) ω or :=
  ⟨ps_expr (pe_bm PySem.F.plainAttrs_list PySem.F.slot_list_append PySem.F.type_list_append mt_append (pe_var hN hv hd hcd) (pa_cons he.pe pa_nil hst) hbase hfew hline hst hpl) hs, fun σ ρ F H As Dd S p => by
    unfold sAppX at p
    split at p
    · rename_i ds0 hρ
      obtain ⟨v, B, hσ, hA, r⟩ := S.sl.get hi hρ
      obtain ⟨a, vs, rfl, Fa, Ha, rfl, rs⟩ := list_at r
      refine ⟨.ref a, hσ, .inl ⟨rfl, vs, .of Ha⟩, ?_⟩
      refine he.sem σ ρ F H As _ S ?_
      cases hf : f ρ with
      | ok q =>
        obtain ⟨y, ρ1⟩ := q
        rw [hf, ok_bind] at p
        intro w F1 H1 As1 B1 S1 r1 n1 ap1 g1
        obtain ⟨r1, rfl⟩ := r1
        dsimp only at p
        split at p
        · rename_i ds hρ1
          obtain ⟨v1, B2, hσ1, hA1, r2⟩ := S1.sl.get hi hρ1
          rw [hσ] at hσ1
          cases hσ1
          obtain ⟨a1, vs1, ea, Fa1, Ha1, rfl, rs1⟩ := list_at r2
          cases ea
          by_cases hl : ds.length < most
          · have e : appD y (.lst ds) = .ok (.lst (ds ++ [y])) := if_pos hl
            rw [e] at p
            refine ⟨a, vs1, w, rfl, rfl, Ha1, by rw [rs1.length, ← most_eq]; exact hl, ?_⟩
            obtain ⟨S2, g2⟩ := S1.change hi hσ hA1 (a := a) (by simp) (own_lst Fa1 upd_same (rs1.snoc r1)) (fun x h => h) (by simp)
            exact p σ F1 _ _ S2 (.same (GrowA.trans g1 g2))
          · have e : appD y (.lst ds) = .no := if_neg hl
            rw [e] at p
            exact p.elim
        · exact p.elim
      | exc c => rw [hf] at p; exact p
      | no => rw [hf] at p; exact p
    · exact p.elim⟩
/-- x[k] = e -/
def sPutX (i : Nat) (fk : Env → R D) (fe : Env → R (D × Env)) (ρ : Env) : R Fl := fe ρ >>= fun q => match q.2[i]? with
  | some (some d) => noExc (fk q.2) >>= fun k => putE q.2 i (storeD d k q.1)
  | _ => .no
theorem ds_putX {i k : Nat} {spos : Pos} (hr : Room k X.A) (hk : DE X E ω b tb fb .fz []) (he : DX X E ω e te f .fz) (hi : ω[i]? = some (.own .fz) := by rfl) (hN : X.N[i]? = some x := by rfl) (hv : Vis X.env.scope x := by first | exact Or.inl rfl | exact Or.inr (Or.inl rfl) | exact Or.inr (Or.inr rfl)) (hd : (x == ("__debug__" : Str)) = false := by decide)
    (hcd : (x == ("__classdict__" : Str)) = false := by decide) (ha : ∀ v, assign (.Subscript (.Name x npos) b spos) X.env v = (do
      let ov ← holding [v] (eval (.Name x npos) X.env)
      let iv ← holding [v, ov] (eval b X.env)
      standAt spos
      holding [v, ov, iv] (setItem ov iv v)
      release [v, ov, iv] []) := by intro _; rfl) (hs : swapsWithSole [.Subscript (.Name x npos) b spos] e pos.line X.env = pure false := by rfl) (hw : swappedStores [.Subscript (.Name x npos) b spos] e X.env = pure none := by rfl)
    (h1 : (assignEach [.Subscript (.Name x npos) b spos] X.env).map (·.2) = [assign (.Subscript (.Name x npos) b spos) X.env] := by rfl) :
    DS X E c ω (.Assign [.Subscript (.Name x npos) b spos] e pos) (tAsg te (gSub (tVar i) tb rSetA)) (sPutX i fb f) ω or :=
  ⟨ps_asg he.pe (pg_sub (pe_var hN hv hd hcd) hk.pe (set_any hr) ha) hs hw h1, fun σ ρ F H As Dd S p => by
    refine he.sem σ ρ F H As _ S ?_
    unfold sPutX at p
    cases hf : f ρ with
    | ok q =>
      obtain ⟨y, ρ1⟩ := q
      rw [hf, ok_bind] at p
      intro w F1 H1 As1 B1 S1 r1 n1 ap1 gx
      have gx' : GrowA As.flatten F H F1 H1 As1.flatten := by
        obtain ⟨_, rfl⟩ := r1
        exact gx
      dsimp only at p
      split at p
      · rename_i d hρ
        obtain ⟨v, B, hσ, hA, r⟩ := S1.sl.get hi hρ
        refine ⟨v, hσ, ?_⟩
        refine hk.sem σ ρ1 F1 H1 As1 _ S1 ?_
        cases hfk : fb ρ1 with
        | ok k =>
          rw [hfk] at p
          have p : PstS X.mg E X.K c ω or σ As.flatten F H Dd (putE ρ1 i (storeD d k y)) := p
          intro wk F2 H2 B2 g2 r2 b2 n2
          have S2 := S1.grow g2
          have r' := r.grow g2
          have rw' := Rep.mono g2.ff y w r1.1
          have gA : GrowA As.flatten F H F2 H2 As1.flatten := gx'.trans (GrowA.of g2 fun x h => .inl h)
          cases d with
          | dic es =>
            obtain ⟨a, kvs, rfl, Fa, Ha, rfl, rs⟩ := dict_at r'
            have p' : PstS X.mg E X.K c ω or σ As.flatten F H Dd (putE ρ1 i (match keyD k with
              | some k => if es.length < most then .ok (.dic (putD es k y)) else .no
              | none => .no)) := p
            split at p'
            · rename_i k' hk'
              split at p'
              · rename_i hl
                refine .inr ⟨a, upd H2 a (.dK (putK kvs k' w)), rfl, ?_, ?_⟩
                · rw [key_rep hk' r2.1]
                  exact DPut.k Ha (by rw [repK_len rs, ← most_eq]; exact hl)
                · obtain ⟨S3, g3⟩ := S2.change hi hσ hA (a := a) (by simp) (own_dic Fa upd_same (repK_put (k := k') rw' rs)) (fun x h => h) (by simp)
                  exact p' σ F2 _ _ S3 (.same (gA.trans g3))
              · exact p'.elim
            · exact p'.elim
          | lst ds =>
            obtain ⟨a, vs, rfl, Fa, Ha, rfl, rs⟩ := list_at r'
            cases k with
            | int k =>
              have p' : PstS X.mg E X.K c ω or σ As.flatten F H Dd (putE ρ1 i (match ixN ds.length k with
                | some j => .ok (.lst (ds.set j y))
                | none => .no)) := p
              split at p'
              · rename_i j hj
                refine .inl ⟨a, vs, k, j, rfl, r2.1, Ha, by rw [rs.length]; exact hj, ?_⟩
                obtain ⟨S3, g3⟩ := S2.change hi hσ hA (a := a) (by simp) (own_lst Fa upd_same (rs.set j rw')) (fun x h => h) (by simp)
                exact p' σ F2 _ _ S3 (.same (gA.trans g3))
              · exact p'.elim
            | _ => exact (show False from p).elim
          | _ => exact (show False from p).elim
        | exc c => rw [hfk] at p; exact (show False from p).elim
        | no => rw [hfk] at p; exact p.elim
      · exact p.elim
    | exc c => rw [hf] at p; exact p
    | no => rw [hf] at p; exact p⟩
/-- for x in range(e) -/
def sForX (fe : Env → R (D × Env)) (set : D → Env → R Env) (body : Env → R Fl) (ρ : Env) : R Fl := fe ρ >>= fun q => rng1 q.1 >>= fun xs => forD set body xs q.2
theorem ds_forRX {tg : Expr} {p2 : Pos} {gt : TG} {set : D → Env → R Env} {fB : Env → R Fl} {body : List Stmt} (hp : PassesOwn (model X.prog X.w) X.A X.env X.xe) (hc : X.calm = true) (hm : X.mg "range" = none) (he : DX X E ω e te f .fz) (hg : DG X E c.W ω tg gt set) (hb : DSs X E c ω body t fB ω or)
    (hgl : Gl X "range" := by rfl) (hse : starEach [e] X.env = [(false, eval e X.env)] := by rfl) (hs : ∀ x, foldedSetIterable (.Call (.Name "range" p2) [e] [] cpos) X.env x = pure x := by intro _; rfl) :
    DS X E c ω (.For tg (.Call (.Name "range" p2) [e] [] cpos) body [] pos) (tFor (iRng1 (tCons te tNil)) gt t) (sForX f set fB) ω or :=
  ⟨ps_for hp hc (pi_range1 hgl hm (pa_cons he.pe pa_nil hse) hse) hg.pg hb.pss hs, fun σ ρ F H As Dd S p => by
    refine he.sem σ ρ F H As _ S ?_
    unfold sForX at p
    cases hf : f ρ with
    | exc c => rw [hf] at p; exact p
    | no => rw [hf] at p; exact p
    | ok q =>
      obtain ⟨d, ρ1⟩ := q
      rw [hf, ok_bind] at p
      intro v F1 H1 As1 B1 S1 r1 n1 ap1 gx
      have gx' : GrowA As.flatten F H F1 H1 As1.flatten := by
        obtain ⟨_, rfl⟩ := r1
        exact gx
      dsimp only at p
      cases d with
      | int n =>
        by_cases hn : -4611686018427387904 ≤ n ∧ n < 4611686018427387904
        · have e0 : rng1 (.int n) = .ok (rangeD 0 n.toNat) := if_pos hn
          rw [e0, ok_bind] at p
          refine ⟨n, by rw [show v = .int n from r1.1], by omega, by omega, ?_⟩
          have p := PstS.grow (GS.same gx' : GS c.W σ As.flatten F H σ F1 H1 As1.flatten) p
          obtain ⟨vs, hr, hgo, hst⟩ := itOk_r (K := X.K) (F := F1) 0 n.toNat
          generalize rangeD 0 n.toNat = xs at p hr hgo hst
          have hn := hr.length
          refine ⟨fun i m σ' H' => m = xs.length - i ∧ i ≤ xs.length ∧ ∃ ρ' F' As', Stt X.K ω ρ' σ' F' H' As' ∧ Same F1 F' ∧ PstS X.mg E X.K c ω or σ' As'.flatten F' H' Dd (forD set fB (xs.drop i) ρ'), ⟨xs.length, rfl, Nat.zero_le _, ρ1, F1, As1, S1, Same.refl _, by simpa using p⟩, ?_⟩
          rintro j m σ' H' ⟨rfl, hj, ρ', F', As', S', e1, p'⟩
          have exH : Same F1 H' := e1.trans S'.ex
          by_cases hlt : j < xs.length
          · refine .inr ⟨(hgo j H' exH (by rw [hn]; exact hlt)).1, fun σ2 H2 => ∃ ρ2 F2 As2, Stt X.K ω ρ2 σ2 F2 H2 As2 ∧ Same F1 F2 ∧ PstS X.mg E X.K c ω or σ2 As2.flatten F2 H2 Dd (forD set fB (xs.drop (j + 1)) ρ2), fun σ2 H2 q => ⟨_, Nat.sub_lt_sub_left hlt (Nat.lt_succ_self j), rfl, hlt, q⟩, fun v H2 y => ?_⟩
            obtain ⟨rfl, hx⟩ := (hgo j H' exH (by rw [hn]; exact hlt)).2 v H2 y
            obtain ⟨d, hd, rd⟩ := hr.get' hx
            have hdrop : xs.drop j = d :: xs.drop (j + 1) := by
              rw [List.drop_eq_getElem_cons hlt]
              congr 1
              rw [List.getElem?_eq_getElem hlt] at hd
              exact Option.some.inj hd
            rw [hdrop] at p'
            have p2 : PstS X.mg E X.K c ω or σ' As'.flatten F' H2 Dd (set d ρ' >>= fun ρ' => fB ρ' >>= fun fl => match fl with
              | .nx ρ'' => forD set fB (xs.drop (j + 1)) ρ''
              | .rt d ρ3 => .ok (.rt d ρ3)) := p'
            refine hg.sem σ' ρ' F' H2 As' d v _ S' (Rep.mono e1 d v rd) ?_
            cases hset : set d ρ' with
            | exc c => exact absurd hset (hg.nex d ρ' c)
            | no => rw [hset] at p2; exact p2.elim
            | ok ρ2 =>
              rw [hset, ok_bind] at p2
              intro σ2 S2 ag
              have p2 := PstS.grow (σ1 := σ2) (F1 := F') (H1 := H2) ⟨GrowA.refl S'.ex, ag⟩ p2
              refine hb.sem σ2 ρ2 F' H2 As' _ S2 ?_
              cases hfB : fB ρ2 with
              | exc c => rw [hfB] at p2; exact p2
              | no => rw [hfB] at p2; exact p2
              | ok fl =>
                rw [hfB, ok_bind] at p2
                cases fl with
                | nx ρ3 => exact fun σ3 F3 H3 As3 S3 g3 => ⟨ρ3, F3, As3, S3, e1.trans g3.g.ff, PstS.grow g3 p2⟩
                | rt d ρ3 => exact p2
          · have ej : j = xs.length := by omega
            subst ej
            refine .inl ⟨hst _ H' exH (by rw [hn]; exact Nat.le_refl _), ?_⟩
            rw [List.drop_length] at p'
            exact p' σ' F' H' As' S' (.same (GrowA.refl S'.ex))
        · have e0 : rng1 (.int n) = .no := if_neg hn
          rw [e0] at p
          exact (show False from p).elim
      | _ => exact (show False from p).elim⟩
end
/-! ### a def under another name of the top -/
section
variable {P : Program} {w : World} {K : PySem.W.Frag} {mg : Str → Option Value} {base : Heap} {x y : Str} {st : Stmt} {N ps : List Str} {k kk n : Nat} {fb : Env → R Fl} {g : List D → R D} {ωp ωl : List O} {o : O} {W : List Nat}
/-- the name x of the top is the def y -/
def HasA (K : PySem.W.Frag) (mg : Str → Option Value) (x y : Str) (st : Stmt) (ps : List Str) : Prop := ∃ f fd, mg x = some (.ref f) ∧ PySem.W.keepIn K (.ref f) = true ∧ Binds K fd ps [] ∧ Fun K y y st f fd
theorem dfn_okA (h : HasA K mg x y st ps) (S : FnScope N ps (defScope st)) (hg : g = fnD N.length fb) (hk : kk = k + 1) (hn : n = ps.length) (hp : ωp.length = ps.length) (hz : ωp.all O.isFz = true) (hl : ωp.length + ωl.length = N.length)
    (hbody : ∀ (f : Addr) (cdv : Value) (A : Around) (outer : List PySem.Env) (s : Shared) (H : Hp) (E : XK), Room k (A.deeper (envOfC y (defScope st) s.heap.objs.size f cdv)) →
      ∃ t ω', DSs (cxOf CX0 P w K mg base N y (defScope st) f cdv A outer s H E).nox E0 ⟨W, []⟩ (ωp ++ ωl) (defBody st) t fb ω' o) : DFn P w K mg base CX0 kk x n g o := by
  obtain ⟨f, fd, h1, h2, h3, h4⟩ := h
  subst hg hk hn
  exact ⟨⟨f, fd, ps, h1, h2, h3, fn_ok (W := W) h4 S hp hz hl (hbody f)⟩⟩
theorem xfn_okA {ib : List Bool} {g : List D → R (D × List D)} (h : HasA K mg x y st ps) (S : FnScope N ps (defScope st)) (hg : g = fnX N.length (ioI 0 ib) fb) (hk : kk = k + 1) (hp : ib.length = ps.length) (hl : ib.length + ωl.length = N.length) (hW : ((ioI 0 ib).all fun i => !W.contains i) = true)
    (hbody : ∀ (f : Addr) (cdv : Value) (A : Around) (outer : List PySem.Env) (s : Shared) (H : Hp) (E : XK), Room k (A.deeper (envOfC y (defScope st) s.heap.objs.size f cdv)) →
      ∃ t ω', DSs (cxOf CX0 P w K mg base N y (defScope st) f cdv A outer s H E).nox E0 ⟨W, ioI 0 ib⟩ (ib.map oOf ++ ωl) (defBody st) t fb ω' o) : XFn P w K mg base CX0 kk x ib g o := by
  obtain ⟨f, fd, h1, h2, h3, h4⟩ := h
  subst hg hk
  exact ⟨⟨f, fd, ps, h1, h2, h3, fn_okX (W := W) h4 S hp hl hW (hbody f)⟩⟩
theorem hasA_mk {h : Heap} {f : Addr} {oc : Value} {od an : Option Addr} {osl : Array (Option Value)} {kV doc pm cdv ct : Value} (X : K.In h) (G : h.Ns mainGlobals mg) (a : PySem.W.nsIn K mainGlobals x = some (some (.ref f)))
    (l : K.lookup f = some ⟨oc, od, .func (PySem.W.fnOf y y (defArgs st) (defBody st) (defScope st) .none kV doc pm an cdv ct), osl⟩) (c : PySem.W.codeIn K cdv y = true) (kp : PySem.W.keepIn K (.ref f) = true)
    (b : ∀ (kV doc pm : Value) (an : Option Addr) (cdv ct : Value) (us : List Value), us.length = ps.length → bindArgs (PySem.W.fnOf y y (defArgs st) (defBody st) (defScope st) .none kV doc pm an cdv ct) ⟨us, []⟩ = pure (ps.zip us)) : HasA K mg x y st ps :=
  ⟨f, _, PySem.W.mg_of X G a, kp, (fun_mk l c kp).binds b, fun_mk l c kp⟩
end
end Dn

/-! list(d.values()), sorted(xs), len(set(xs)), d.clear(). -/
namespace Dn
open PySem L2 PyProof.Rows
/-- list(d.values()) -/
def tListVals (td : TE) : TE := fun σ H Q => td σ H fun x H1 => ∃ (a : Addr) (kvs : List (L2.Key × V)), x = V.ref a ∧ Rd H1 a (.dK kvs) ∧ ∀ l, H1 l = none → Q (.ref l) (upd H1 l (.lst (kvs.map (·.2))))
theorem kv_vals : ∀ {kvs : List (L2.Key × V)} {vs : List (L2.Key × Value)}, KV kvs vs → Vals (kvs.map (·.2)) (vs.map (·.2))
  | _, _, .nil => .nil
  | _, _, .cons r t => .cons r.2 (kv_vals t)
section
variable {X : Cx} {o : Expr} {p pos apos mpos : Pos} {td : TE}
theorem pe_listVals (hc : X.calm = true) (hg : Gl X "list") (hm : X.mg "list" = none) (hd : PE X o td) (hbase : attributeBase o "values" X.env (eval o X.env) = eval o X.env := by rfl) (hline : (apos.endLine == mpos.line) = true := by rfl)
    (hse : starEach [Expr.Call (.Attribute o "values" apos) [] [] mpos] X.env = [(false, eval (Expr.Call (.Attribute o "values" apos) [] [] mpos) X.env)] := by rfl) :
    PE X (.Call (.Name "list" p) [.Call (.Attribute o "values" apos) [] [] mpos] [] pos) (tListVals td) := by
  refine ⟨fun pins s σ H Q I h => ?_⟩
  refine wpAny_Call_Name_kw (ld_blt I hg hm (u := .type "list") (by first | rfl | decide +kernel) ?_ (by first | decide +kernel | decide) (by first | decide +kernel | decide))
  rw [hse]
  refine PySem.callWith_type1 (wpAny_Call_method0_late hbase hline (thn (hd.run pins s σ H _ I h) fun v s1 ⟨x, H1, I1, r1, a, kvs, ex, ha, q⟩ => ?_))
  subst ex
  obtain rfl : v = Value.ref a := r1
  obtain ⟨z, hsys, vs, rel, dof⟩ := dk_rd I1.hok ha
  obtain ⟨ep, dat⟩ := dof.dictAt
  have dat' := dat
  obtain ⟨ob, es, ho, ex, hdat, hko, hpr, hnd⟩ := dat'
  refine ⟨"dict", "dict.values", F.plainAttrs_dict, F.slot_dict_values, F.type_dict_values, ⟨ob, ho, ex.1⟩, fun b e => ?_, Calls.callWith_builtin rfl (PySem.evalArgs_none ?_)⟩
  · cases e
    exact ⟨ob, ho, ex.2.1⟩
  refine call_meetsIn F.slot_dict_values ⟨ob, ho, ex.1⟩ F.entry_dict_values (F.args_dict_values_1 _) (meets_dict_values (mixKind X.prog X.w) a hsys) ⟨⟨vs, dof⟩, ?_⟩
  have k1 : ∀ b u, s1.heap.get? b = some u → (s1.heap.push { cls := .type "dict_values", data := .fields #[.ref a] }).get? b = some u := fun b u e => Heap.get?_push_of_some _ e
  have dat1 : (s1.heap.push { cls := .type "dict_values", data := .fields #[.ref a] }).DictAt (mixKind X.prog X.w) a vs ep := dat.keep k1
  have hlv : kvs.length = vs.length := rel.length
  have hsz : (s1.heap.push { cls := .type "dict_values", data := .fields #[.ref a] }).objs.size = s1.heap.objs.size + 1 := Heap.size_push _ _
  refine PySem.W.kdl_call (PySem.W.kdl_values (knd := mixKind X.prog X.w) (r := s1.heap.objs.size) (d := a) (kvs := vs) (ep := ep)) (I1.ok.hd hc) ⟨⟨_, Heap.get?_push_size _ rfl, rfl, rfl⟩, dat1⟩ (by rw [← hlv]; exact z) fun h' tk acc c' hk hD hacc => ?_
  have e1 : acc.toList = vs.map (·.2) := PySem.W.kdl_vals_eq _ (by rw [Array.length_toList]; exact hacc.1) fun j v e => hacc.2 j v (by rw [← Array.getElem?_toList]; exact e)
  have hv : Vals (kvs.map (·.2)) acc.toList := by rw [e1]; exact kv_vals rel
  rw [hsz] at hD ⊢
  exact ⟨.ref (s1.heap.objs.size + 1), upd H1 (s1.heap.objs.size + 1) (.lst (kvs.map (·.2))), I1.laid (t' := tk) (fun b u e => hk b u (k1 b u e)) (Nat.le_succ _)
    (show ObjOk X.prog X.w _ _ _ (.lst (kvs.map (·.2))) from ⟨by rw [List.length_map]; exact z, acc.toList, c', hv, by rw [Array.toArray_toList]; exact hD⟩), rfl, q _ (I1.hok.fresh (Nat.le_succ _))⟩
end
def valsD : D → R D
  | .dic es => .ok (.lst (es.map (·.2)))
  | _ => .no
theorem reps_vals {K : PySem.W.Frag} {F : Hp} : ∀ {es : List (L2.Key × D)} {kvs : List (L2.Key × V)}, RepK K F es kvs → Reps K F (es.map (·.2)) (kvs.map (·.2))
  | [], kvs, r => by rw [show kvs = [] from r]; exact rfl
  | (k, d) :: es, kvs, r => by
    obtain ⟨v, vr, rfl, h2, h3⟩ := r
    exact ⟨v, _, rfl, h2, reps_vals h3⟩
section
variable {X : Cx} {E : XK} {ω : List O} {e : Expr} {te : TE} {fe : Env → R D} {p pos apos mpos p2 q : Pos}
theorem de_listVals (hc : X.calm = true) (hm : X.mg "list" = none) (he : DE X E ω e te fe .fz []) (hg : Gl X "list" := by rfl) (hbase : attributeBase e "values" X.env (eval e X.env) = eval e X.env := by rfl) (hline : (apos.endLine == mpos.line) = true := by rfl)
    (hse : starEach [Expr.Call (.Attribute e "values" apos) [] [] mpos] X.env = [(false, eval (Expr.Call (.Attribute e "values" apos) [] [] mpos) X.env)] := by rfl) :
    DE X E ω (.Call (.Name "list" p) [.Call (.Attribute e "values" apos) [] [] mpos] [] pos) (tListVals te) (eUn valsD fe) (.own .fz) [] :=
  ⟨pe_listVals hc hg hm he.pe hbase hline hse, fun σ ρ F H As Q S p => he.sem.then S p fun x v F1 H1 B1 g1 S1 r1 _ _ p1 => by
    cases x <;> first
      | exact (show False from p1).elim
      | (obtain ⟨⟨a, kvs, rfl, h1, h2⟩, _⟩ := r1
         exact ⟨a, kvs, rfl, rd_mono S1.ex h1, fun l hl => p1.newL S1.ex hl (reps_vals h2)⟩)⟩
end
/-! ### sorted(xs), ints -/
def insZ (a : Int) : List Int → List Int
  | [] => [a]
  | b :: r => if a ≤ b then a :: b :: r else b :: insZ a r
def sortZ : List Int → List Int
  | [] => []
  | a :: r => insZ a (sortZ r)
theorem insZ_perm (a : Int) : ∀ xs, (insZ a xs).Perm (a :: xs)
  | [] => .refl _
  | b :: r => by
    unfold insZ
    split
    · exact .refl _
    · exact ((insZ_perm a r).cons b).trans (.swap a b r)
theorem sortZ_perm : ∀ xs, (sortZ xs).Perm xs
  | [] => .refl _
  | a :: r => (insZ_perm a _).trans ((sortZ_perm r).cons a)
theorem insZ_pw (a : Int) : ∀ xs, xs.Pairwise (· ≤ ·) → (insZ a xs).Pairwise (· ≤ ·)
  | [], _ => by simp [insZ]
  | b :: r, h => by
    unfold insZ
    split
    · rename_i hab
      refine List.pairwise_cons.mpr ⟨fun x hx => ?_, h⟩
      rcases List.mem_cons.mp hx with rfl | hx
      · exact hab
      · exact Int.le_trans hab ((List.pairwise_cons.mp h).1 x hx)
    · rename_i hab
      refine List.pairwise_cons.mpr ⟨fun x hx => ?_, insZ_pw a r (List.pairwise_cons.mp h).2⟩
      rcases List.mem_cons.mp ((insZ_perm a r).mem_iff.mp hx) with rfl | hx
      · omega
      · exact (List.pairwise_cons.mp h).1 x hx
theorem sortZ_pw : ∀ xs, (sortZ xs).Pairwise (· ≤ ·)
  | [] => .nil
  | a :: r => insZ_pw a _ (sortZ_pw r)
theorem sortZ_eq {xs ys : List Int} (h1 : ys.Perm xs) (h2 : ys.Pairwise (· ≤ ·)) : ys = sortZ xs :=
  List.Perm.eq_of_pairwise (le := (· ≤ ·)) (fun a b _ _ h h' => Int.le_antisymm h h') h2 (sortZ_pw xs) (h1.trans (sortZ_perm xs).symm)
def sortedD : List D → R D
  | [.lst xs] => match intsD xs with
    | some ns => .ok (.lst ((sortZ ns).map .int))
    | none => .no
  | _ => .no
section
variable {mg : Str → Option Value} {E : XK} {K : PySem.W.Frag}
theorem cd_sorted : CallD mg E K (rSortedI K) sortedD (.own .fz) := fun F H As vs ds Q e r p => by
  unfold sortedD at p
  split at p
  · rename_i xs
    obtain ⟨v, rfl, r1⟩ := reps1 r
    obtain ⟨a, ws, rfl, h1, h2⟩ := r1
    split at p
    · rename_i ns hns
      have hv := ints_rep hns h2
      subst hv
      refine ⟨a, ns, rfl, .of (e _ _ h1), fun ns' l hp hs hl => ?_⟩
      rw [sortZ_eq hp hs]
      exact p.newL e hl (reps_ints _)
    · exact (show False from p).elim
  · exact (show False from p).elim
end
/-! ### len(set(xs)), ints -/
def metZ (ns : List Int) : List Int := PyProof.Rows.firstMet (fun i => ns.getD i 0) ns.length
def lenSetD : D → R D
  | .lst xs => match intsD xs with
    | some ns => if ns.length ≤ 4000 then .ok (.int ((metZ ns).length : Nat)) else .no
    | none => .no
  | _ => .no
def tLenSetA (K : PySem.W.Frag) (ta : TE) : TE := fun σ H Q => ta σ H fun x H1 => ∃ (l : Addr) (ns : List Int), x = .ref l ∧ SqL K H1 l (ns.map V.int) ∧ ns.length ≤ 4000 ∧ Q (.int ((metZ ns).length : Nat)) H1
theorem pe_lenSetA {X : Cx} {a : Expr} {ta : TE} {p p2 q pos : Pos} (hg : Gl X "len") (hm : X.mg "len" = none) (hg2 : Gl X "set") (hm2 : X.mg "set" = none) (ha : PE X a ta) (hc : X.calm = true := by rfl)
    (na : starEach [a] X.env = (false, eval a X.env) :: starEach [] X.env := by rfl) : PE X (.Call (.Name "len" p) [.Call (.Name "set" p2) [a] [] q] [] pos) (tLenSetA X.K ta) := by
  refine ⟨fun pins s σ H Q I h => ?_⟩
  refine Call_ (ld_blt I hg hm boot_len ?_)
  refine PyProof.Rows.callWith_builtin1 (PyProof.Rows.args_cons ?_ rfl) rfl rfl
  refine Call_ (ld_blt I hg2 hm2 boot_set ?_)
  refine PyProof.Rows.callWith_type1 (PyProof.Rows.args_cons (thn (ha.run pins s σ H _ I h) fun v s1 ⟨x, H1, I1, r1, q1⟩ => PyProof.Rows.args_nil ?_) na) na rfl
  obtain ⟨l, ns, rfl, hq, hl, q1⟩ := q1
  cases r1
  obtain ⟨its, r, pl, hz⟩ := I1.list hq
  have hlen : its.toArray.size = ns.length := by rw [List.size_toArray, ← r.length, List.length_map]
  refine call_set_list (I1.ok.hd hc) pl.isList (by simpa using RZ.intsAre_vals r) (by rw [hlen]; unfold scanBound; omega) fun h' tk hS hk => ?_
  refine PyProof.Rows.args_nil ?_
  rw [hlen] at hS
  obtain ⟨o, es, ep, t, ho, hex, hd, _, _, _, hf, hn⟩ := hS
  have I2 : Inv X pins σ H1 { s1 with heap := h', toks := tk } := I1.kept fun b o e => hk b o (Heap.lt_size e) e
  have hm : (metZ ns).length ≤ ns.length := PyProof.Rows.firstMet_length_le _ _
  refine call_len_set ho hex hd hf (by rw [hn]; have hm' := hm; unfold metZ at hm'; omega) ⟨.int ((metZ ns).length : Nat), H1, I2.tok _, ⟨_, by rw [hn]; rfl⟩, q1⟩
section
variable {X : Cx} {E : XK} {ω : List O} {e : Expr} {te : TE} {fe : Env → R D} {p pos p2 q : Pos}
theorem de_lenSet (hm : X.mg "len" = none) (hm2 : X.mg "set" = none) (he : DE X E ω e te fe .fz []) (hg : Gl X "len" := by rfl) (hg2 : Gl X "set" := by rfl) (hc : X.calm = true := by rfl)
    (na : starEach [e] X.env = (false, eval e X.env) :: starEach [] X.env := by rfl) : DE X E ω (.Call (.Name "len" p) [.Call (.Name "set" p2) [e] [] q] [] pos) (tLenSetA X.K te) (eUn lenSetD fe) .fz [] :=
  ⟨pe_lenSetA hg hm hg2 hm2 he.pe hc na, fun σ ρ F H As Q S p => he.sem.then S p fun x v F1 H1 B1 g1 S1 r1 _ _ p1 => by
    cases x with
    | lst xs =>
      have p2 : Pst X.mg E X.K .fz As [] F1 H1 Q (match intsD xs with
        | some ns => if ns.length ≤ 4000 then .ok (.int ((metZ ns).length : Nat)) else .no
        | none => .no) := p1
      split at p2
      · rename_i ns hns
        split at p2
        · rename_i hl
          obtain ⟨⟨a, ws, rfl, h1, h2⟩, _⟩ := r1
          have hv := ints_rep hns h2
          subst hv
          exact ⟨a, ns, rfl, .of (S1.ex _ _ h1), hl, p2.fin S1.ex rfl⟩
        · exact p2.elim
      · exact p2.elim
    | _ => exact (show False from p1).elim⟩
end
/-! ### d.clear() -/
def sClr (i : Nat) (ρ : Env) : R Fl := match ρ[i]? with
  | some (some (.dic _)) => .ok (.nx (ρ.set i (some (.dic []))))
  | _ => .no
section
variable {X : Cx} {E : XK} {c : Cfg} {ω : List O} {or : O} {pos cpos apos npos : Pos} {x : Str}
theorem ds_clr {i : Nat} (hi : ω[i]? = some (.own .fz) := by rfl) (hN : X.N[i]? = some x := by rfl) (hv : Vis X.env.scope x := by first | exact Or.inl rfl | exact Or.inr (Or.inl rfl) | exact Or.inr (Or.inr rfl)) (hd : (x == ("__debug__" : Str)) = false := by decide)
    (hcd : (x == ("__classdict__" : Str)) = false := by decide) (hbase : attributeBase (.Name x npos) "clear" X.env (eval (.Name x npos) X.env) = eval (.Name x npos) X.env := by rfl)
    (hline : (apos.endLine == cpos.line) = true := by rfl) (hs : swapsWith (.Call (.Attribute (.Name x npos) "clear" apos) [] [] cpos) none pos.line X.env = pure false := by rfl) :
    DS X E c ω (.Expr (.Call (.Attribute (.Name x npos) "clear" apos) [] [] cpos) pos) (tDrop (tBM0 X.K "dict" rDClear (tVar i))) (sClr i) ω or :=
  ⟨ps_expr (pe_dclear (pe_var hN hv hd hcd) hbase hline) hs, fun σ ρ F H As Dd S p => by
    unfold sClr at p
    split at p
    · rename_i es hρ
      obtain ⟨v, B, hσ, hA, r⟩ := S.sl.get hi hρ
      obtain ⟨a, kvs, rfl, Fa, Ha, rfl, rk⟩ := dict_at r
      refine ⟨.ref a, hσ, .inr (.inr (.inl ⟨rfl, .inl ⟨kvs, Ha⟩⟩)), a, kvs, rfl, rfl, Ha, ?_⟩
      obtain ⟨S2, g2⟩ := S.change hi hσ hA (a := a) (by simp) (own_dic (ds := []) (vs := []) Fa upd_same (by exact rfl)) (fun x h => h) (by simp)
      exact p σ F _ _ S2 (.same g2)
    · exact p.elim⟩
end
/-! ### is True -/
theorem bool_beq (a b : Bool) : (Value.bool a == Value.bool b) = (a == b) := by
  cases a <;> cases b <;> first | exact beq_self_eq_true _ | exact beq_eq_false_iff_ne.mpr (by simp)
theorem op_isBl {X : Cx} : OpR X (compareOp .Is) (fun x y H Q => ∃ a b, x = .bl a ∧ y = .bl b ∧ Q (.bl (a == b)) H) := by
  intro pins s σ H x y v u Q I rx ry h
  obtain ⟨a, b, rfl, rfl, q⟩ := h
  cases (show v = Value.bool a from rx)
  cases (show u = Value.bool b from ry)
  exact wpAny_is_plain rfl (fin_bl I q (bool_beq a b).symm)
theorem op_notBl {X : Cx} : OpR X (compareOp .IsNot) (fun x y H Q => ∃ a b, x = .bl a ∧ y = .bl b ∧ Q (.bl (!(a == b))) H) := by
  intro pins s σ H x y v u Q I rx ry h
  obtain ⟨a, b, rfl, rfl, q⟩ := h
  cases (show v = Value.bool a from rx)
  cases (show u = Value.bool b from ry)
  exact wpAny_isNot_plain rfl (fin_bl I q (congrArg not (bool_beq a b).symm))
def isBl : D → D → R D
  | .bl a, .bl b => .ok (.bl (a == b))
  | _, _ => .no
def isNotBl : D → D → R D
  | .bl a, .bl b => .ok (.bl (!(a == b)))
  | _, _ => .no
section
variable {mg : Str → Option Value} {E : XK} {K : PySem.W.Frag}
theorem od_isBl : OpD mg E K (fun x y H Q => ∃ a b, x = .bl a ∧ y = .bl b ∧ Q (.bl (a == b)) H) isBl .fz := fun F H As x y dx dy Q e rx ry p => by
  unfold isBl at p
  split at p
  · exact ⟨_, _, rx, ry, p.fin e rfl⟩
  · exact (show False from p).elim
theorem od_isNotBl : OpD mg E K (fun x y H Q => ∃ a b, x = .bl a ∧ y = .bl b ∧ Q (.bl (!(a == b))) H) isNotBl .fz := fun F H As x y dx dy Q e rx ry p => by
  unfold isNotBl at p
  split at p
  · exact ⟨_, _, rx, ry, p.fin e rfl⟩
  · exact (show False from p).elim
end
/-! ### None for an owned result -/
theorem de_nonO {X : Cx} {E : XK} {ω : List O} {pos : Pos} {j} {o : O} : DE X E ω (.Constant .none j pos) (tC .non) (eC .non) (.own o) [] :=
  ⟨pe_non, fun σ ρ F H As Q S p => by
    refine p .non F H [] (Grow.refl S.ex) (.inr (.inr ⟨by rfl, rfl, rfl⟩)) (fun x hx => nomatch hx) List.nodup_nil⟩
/-! ### a, b = x, y -/
def sPar (i j : Nat) (fas : Env → R (List D)) (ρ : Env) : R Fl := fas ρ >>= fun ds => match ds with
  | [a, b] => .ok (.nx ((ρ.set i (some a)).set j (some b)))
  | _ => .no
section
variable {X : Cx} {E : XK} {c : Cfg} {ω : List O} {or : O} {pos px py pt pt2 : Pos} {x y : Str} {a b : Expr} {tas : TA} {fas : Env → R (List D)} {os : List O} {kt k2 : Nat}
theorem ds_par {i j : Nat} (hc : X.calm = true) (hN : X.N.Nodup) (ha : DA X E ω [a, b] tas fas os []) (hf : os.all O.isFz = true := by rfl) (hij : i ≠ j := by decide) (hi : X.N[i]? = some x := by rfl) (hj : X.N[j]? = some y := by rfl)
    (hx : X.env.scope.names.lookup x = some .local := by rfl) (hy : X.env.scope.names.lookup y = some .local := by rfl) (oi : ω[i]? = some .fz := by rfl) (oj : ω[j]? = some .fz := by rfl)
    (hw : swappedStores [.Tuple [.Name x px, .Name y py] kt pt] (.Tuple [a, b] k2 pt2) X.env = pure (some [x, y]) := by rfl)
    (hs : swapsWithSole [.Tuple [.Name x px, .Name y py] kt pt] (.Tuple [a, b] k2 pt2) pos.line X.env = pure false := by rfl) (hWi : c.W.contains i = true := by rfl) (hWj : c.W.contains j = true := by rfl) :
    DS X E c ω (.Assign [.Tuple [.Name x px, .Name y py] kt pt] (.Tuple [a, b] k2 pt2) pos) (tPar i j tas) (sPar i j fas) ω or :=
  ⟨ps_par hc hN hi hj hij hx hy ha.pa hw hs, fun σ ρ F H As Dd S p => by
    unfold sPar at p
    refine ha.sem σ ρ F H As _ S ?_
    cases hq : fas ρ with
    | ok ds =>
      rw [hq, ok_bind] at p
      intro vs F1 H1 B g r b n
      obtain ⟨rs, rfl⟩ := repT_fz hf r
      split at p
      · obtain ⟨v, w, rfl, r1, r2⟩ := reps2 rs
        have S1 := ((S.grow g).setFz r1 oi).setFz (i := j) r2 oj
        exact ⟨v, w, rfl, p _ F1 H1 As S1 ⟨GrowA.of g fun x h => .inl h, fun k hk => by
          rw [set_off hWj k hk, set_off hWi k hk]⟩⟩
      · exact p.elim
    | exc c => rw [hq] at p; exact fun H' q => p H' fun x o h1 _ => q x o h1
    | no => rw [hq] at p; exact p⟩
end
end Dn

/-! d.get(k, x). -/
namespace Dn
open PySem L2 PyProof.Rows
def get2D (d k x : D) : R D := match d with
  | .dic es => (match keyD k with
    | some k => .ok ((valK es k).getD x)
    | none => .no)
  | _ => .no
def eGet2 (fd fk fx : Env → R D) (ρ : Env) : R D := fd ρ >>= fun d => match d with
  | .dic es => fk ρ >>= fun k => fx ρ >>= fun x => get2D (.dic es) k x
  | _ => .no
section
variable {X : Cx} {E : XK} {ω : List O} {o e f : Expr} {td ty tx : TE} {fd fk fx : Env → R D} {apos cpos : Pos}
theorem de_get2 {n : Nat} (hr : Room n X.A) (hd : DE X E ω o td fd .fz []) (hk : DE X E ω e ty fk .fz []) (hx : DE X E ω f tx fx .fz [])
    (hb : attributeBase o "get" X.env (eval o X.env) = eval o X.env := by rfl) (hf : ((backTo cpos (starEach [e, f] X.env)).all (fun x => !x.1) && (backToKw cpos (keywordEach [] X.env)).all (fun x => x.1.isSome)
    && decide (([e, f] : List Expr).length + ([] : List Keyword).length + (if ([] : List Keyword).isEmpty then 0 else 1) < 30)) = true := by rfl) (hl : (apos.endLine == cpos.line) = true := by rfl) (ht : backTo cpos (starEach [e, f] X.env) = [(false, eval e X.env), (false, eval f X.env)] := by rfl) :
    DE X E ω (.Call (.Attribute o "get" apos) [e, f] [] cpos) (tDGet2 td ty tx) (eGet2 fd fk fx) .fz [] :=
  ⟨pe_dget2 (by have := hr.units; omega) hd.pe hk.pe hx.pe ⟨hb, hf, hl, ht⟩, fun σ ρ F H As Q S p => by
    refine hd.sem.then S p fun d v F1 H1 B g S1 r _ _ p1 => ?_
    cases d with
    | dic es =>
      obtain ⟨⟨a, kvs, rfl, h1, h2⟩, _⟩ := r
      refine ⟨a, rfl, .inl ⟨kvs, rd_mono S1.ex h1⟩, ?_⟩
      refine hk.sem.then S1 p1 fun k w F2 H2 B2 g2 S2 r2 _ _ p2 => ?_
      refine hx.sem.then S2 p2 fun x u F3 H3 B3 g3 S3 r3 _ _ p3 => ?_
      have h1' : Rd F3 a (.dK kvs) := rd_mono (g2.trans g3).ff h1
      have h2' : RepK X.K F3 es kvs := RepK.mono (g2.trans g3).ff _ _ h2
      cases k with
      | int i =>
        have rw' : w = V.int i := r2.1
        subst rw'
        refine ⟨valV kvs (.inl i), dget_rd (k := .inl i) (rd_mono S3.ex h1'), ?_⟩
        have p4 : Pst X.mg E X.K .fz As [] F3 H3 Q (.ok ((valK es (.inl i)).getD x)) := p3
        rcases repK_val (k := .inl i) h2' with ⟨q1, q2⟩ | ⟨d', v', q1, q2, q3⟩
        · rw [q1]
          rw [q2] at p4
          exact p4.fin S3.ex r3.1
        · rw [q1]
          rw [q2] at p4
          exact p4.fin S3.ex q3
      | str i =>
        have rw' : w = V.str i := r2.1
        subst rw'
        refine ⟨valV kvs (.inr i), dget_rd (k := .inr i) (rd_mono S3.ex h1'), ?_⟩
        have p4 : Pst X.mg E X.K .fz As [] F3 H3 Q (.ok ((valK es (.inr i)).getD x)) := p3
        rcases repK_val (k := .inr i) h2' with ⟨q1, q2⟩ | ⟨d', v', q1, q2, q3⟩
        · rw [q1]
          rw [q2] at p4
          exact p4.fin S3.ex r3.1
        · rw [q1]
          rw [q2] at p4
          exact p4.fin S3.ex q3
      | _ => exact (show False from p3).elim
    | _ => exact (show False from p1).elim⟩
end
/-! a comprehension that looks at what is owned -/
section
variable {X : Cx} {E : XK} {c : Cfg} {ω : List O} {o or : O} {elt tg iter : Expr} {ifs : List Expr} {scope : Scope} {own : List (Str × Nat)} {pos : Pos} {wi : TI} {fi : Env → R (List D)} {fc : Env → R Bool} {fe : Env → R D} {i : Nat}
theorem ds_setLcCE {j : Nat} {y : Str} {py spos : Pos} (hc : X.calm = true) (hN : X.N.Nodup) (hi : (ω.map fun _ => O.fz)[i]? = some .fz)
    (hvs : (own.map (·.2)).contains i = true) (hw : ∀ (σ : L2.St) x, L2.wipe ((L2.wipe σ (own.map (·.2))).set i (some x)) (own.map (·.2)) = L2.wipe σ (own.map (·.2))) (ti : DI X E (ω.map fun _ => O.fz) tg iter wi fi) (ok : BlkOk X.N X.env.scope scope own)
    (hg : ForBlk X scope fun Y => PG Y tg (gName i)) (ht : ForBlk X scope fun Y => ∃ tt, DTs Y E (ω.map fun _ => O.fz) ifs tt fc) (he : ForBlk X scope fun Y => ∃ te, DE Y E (ω.map fun _ => O.fz) elt te fe .fz []) (hy : X.N[j]? = some y := by rfl) (hyl : X.env.scope.names.lookup y = some .local := by rfl)
    (hsw : swapsWith (.ListComp elt [⟨tg, iter, ifs, 0⟩] scope pos) (some (.Name y py)) spos.line X.env = pure true := by exact sw_true rfl rfl rfl (by decide +kernel)) (hs : ∀ x, foldedSetIterable iter X.env x = pure x := by intro _; rfl) (hW : c.W.contains j = true := by rfl) :
    DS X E c ω (.Assign [.Name y py] (.ListComp elt [⟨tg, iter, ifs, 0⟩] scope pos) spos) (tAsg (tLc wi (gName i) (ttAll X scope ifs) (teAll X scope elt) (own.map (·.2))) (gName j)) (sAsg j [] (eChk (.own .fz) (eLc fi (own.map (·.2)) (setN i) fc fe))) (ω.set j (.own .fz)) or :=
  ⟨ps_setLc hc hN hy hyl hsw ti.pi ok hg (fun s H C cl fp => ((dts_all ht) s H C cl fp).pts) (fun s H C cl fp => ((de_all he) s H C cl fp).pe) hs, sem_asg hW (sem_chk (lc_sem hi hvs hw ti.sem ((dts_all ht) {} (fun _ => none) 0 [] []).sem ((de_all he) {} (fun _ => none) 0 [] []).sem))⟩
theorem ds_setLcFCE {j : Nat} {y : Str} {py spos : Pos} (hc : X.calm = true) (hN : X.N.Nodup) (hi : (ω.map fun _ => O.fz)[i]? = some .fz)
    (hvs : (own.map (·.2)).contains i = true) (hw : ∀ (σ : L2.St) x, L2.wipe ((L2.wipe σ (own.map (·.2))).set i (some x)) (own.map (·.2)) = L2.wipe σ (own.map (·.2))) (ti : DI X E (ω.map fun _ => O.fz) tg iter wi fi) (ok : BlkOk X.N X.env.scope scope own)
    (hg : ForBlk X scope fun Y => PG Y tg (gName i)) (ht : ForBlk X scope fun Y => ∃ tt, DTs Y E (ω.map fun _ => O.fz) ifs tt fc) (he : ForBlk X scope fun Y => ∃ te, DE Y E (ω.map fun _ => O.fz) elt te fe .fz []) (hy : X.N[j]? = some y := by rfl) (hyl : X.env.scope.names.lookup y = some .local := by rfl)
    (hsw : swapsWith (.ListComp elt [⟨tg, iter, ifs, 0⟩] scope pos) (some (.Name y py)) spos.line X.env = pure true := by exact sw_true rfl rfl rfl (by decide +kernel)) (hs : ∀ x, foldedSetIterable iter X.env x = pure x := by intro _; rfl) (hW : c.W.contains j = true := by rfl) :
    DS X E c ω (.Assign [.Name y py] (.ListComp elt [⟨tg, iter, ifs, 0⟩] scope pos) spos) (tAsg (tLc wi (gName i) (ttAll X scope ifs) (teAll X scope elt) (own.map (·.2))) (gName j)) (sAsg j [] (eChk (.own .fz) (eLc fi (own.map (·.2)) (setN i) fc fe))) (ω.set j .fz) or :=
  ⟨ps_setLc hc hN hy hyl hsw ti.pi ok hg (fun s H C cl fp => ((dts_all ht) s H C cl fp).pts) (fun s H C cl fp => ((de_all he) s H C cl fp).pe) hs, sem_asg hW (sem_frz (sem_chk (lc_sem hi hvs hw ti.sem ((dts_all ht) {} (fun _ => none) 0 [] []).sem ((de_all he) {} (fun _ => none) 0 [] []).sem)))⟩
end
end Dn

/-! != of tuples whose items are equal, dicts among them. -/
namespace Dn
open PySem L2 PyProof.Rows
section
variable {prog : Program} {w : World}
open AutoSeq1 (wpAny_loadPart')
theorem tuple_neP (l b : Addr) (xs ys : Array Value) (n m : Nat) (dd dd2 : Option Addr) (sl sl2 : Array (Option Value)) (hsz : xs.size = ys.size) :
    MeetsIn prog w (Builtin.«tuple.__ne__» ⟨[.ref l, .ref b], []⟩)
      (fun A R s => s.heap.get? l = some { cls := .type "tuple", dict := dd, data := .seq xs n, slots := sl } ∧ s.heap.get? b = some { cls := .type "tuple", dict := dd2, data := .seq ys m, slots := sl2 } ∧
        (∀ j (h1 : j < xs.size) (h2 : j < ys.size), SeqAt.EqP prog w A.in1 s xs[j] ys[j] true) ∧ R (.ok (.ret (.bool false))) s) :=
  .of_wp fun A R s h => by
    obtain ⟨hp, g, d, tk, os⟩ := s; obtain ⟨hl, hb, he, h⟩ := h
    have f2 := AutoSeq1.sub_tuple_tuple
    have hZ : (xs.toList.zip ys.toList).length = xs.size := by simp [hsz]
    wp_walk using wpAny_loadPart' hl, wpAny_loadPart' hb, wpAny_forIn_list _ (fun rest b s' => b.1 = none ∧ s' = ⟨hp, g, d, tk, os⟩ ∧ ∃ i, rest = (xs.toList.zip ys.toList).drop i) _
    case turn =>
      rintro ⟨y, x⟩ rest b s' ⟨hb', rfl, i, hz⟩
      have hlt : i < (xs.toList.zip ys.toList).length := by
        rcases Nat.lt_or_ge i (xs.toList.zip ys.toList).length with h' | h'
        · exact h'
        · rw [List.drop_of_length_le h'] at hz; cases hz
      have h1 : i < xs.size := hZ ▸ hlt
      have h2 : i < ys.size := hsz ▸ h1
      rw [List.drop_eq_getElem_cons hlt] at hz
      injection hz with hyx hrest
      have hy : y = xs[i] := by have := congrArg Prod.fst hyx; simpa using this
      have hx : x = ys[i] := by have := congrArg Prod.snd hyx; simpa using this
      subst hy hx
      refine wpAny_bind (he i h1 h2 _ _ ?_)
      wp_walk
      exact ⟨rfl, rfl, i + 1, hrest⟩
    case fin =>
      rintro ⟨b1, b2⟩ s' ⟨hb', rfl, i, hz⟩
      simp only at hb'
      subst hb'
      wp_walk
      exact ⟨_, rfl, by simpa [Builtin.Tuple.tupleCompareSizes, bne, hsz] using h⟩
    case h =>
      exact ⟨rfl, rfl, 0, rfl⟩
theorem rcNe_tup {A : Around} {s : Shared} {l b : Addr} {xs ys : Array Value} (hl : s.heap.IsTuple l xs) (hb : s.heap.IsTuple b ys) (hsz : xs.size = ys.size) (hu : A.units < cLine)
    (he : ∀ j (h1 : j < xs.size) (h2 : j < ys.size), SeqAt.EqP prog w A.in1 s xs[j] ys[j] true) (E Q : Value → Shared → Prop) (h : Q (.bool false) s) : wpAny (model prog w) A (richCompare .NotEq (.ref l) (.ref b)) Q E s := by
  obtain ⟨⟨cls, dd, data, sl⟩, ho, hc, n, hd⟩ := id hl
  obtain ⟨⟨cls2, dd2, data2, sl2⟩, ho2, hc2, n2, hd2⟩ := id hb
  simp only at hc hd hc2 hd2
  subst hc hd hc2 hd2
  exact wpAny_richCompare_same_room (op := .NotEq) ⟨_, ho, rfl⟩ ⟨_, ho2, rfl⟩ F.slot_tuple_ne (call_meetsIn F.slot_tuple_ne ⟨_, ho, rfl⟩ F.entry_tuple_ne (F.args_tuple_ne_2 _ _) (tuple_neP l b xs ys n n2 dd dd2 sl sl2 hsz)
    ⟨ho, ho2, he, show Value.bool false ≠ Value.notImplemented ∧ Q (.bool false) s from ⟨(fun x => nomatch x), h⟩⟩) hu
end
/-! ### data that is the same, deep -/
mutual
def sameB : D → D → Bool
  | .non, .non => true
  | .bl a, .bl b => a == b
  | .int a, .int b => a == b
  | .str a, .str b => a == b
  | .tup xs, .tup ys => samesB xs ys
  | .lst xs, .lst ys => samesB xs ys
  | .dic es, .dic fs => samesK es fs
  | _, _ => false
def samesB : List D → List D → Bool
  | [], [] => true
  | x :: xs, y :: ys => sameB x y && samesB xs ys
  | _, _ => false
def samesK : List (L2.Key × D) → List (L2.Key × D) → Bool
  | [], [] => true
  | (k, x) :: xs, (l, y) :: ys => decide (k = l) && sameB x y && samesK xs ys
  | _, _ => false
end
mutual
theorem sameB_eq : ∀ (d e : D), sameB d e = true → d = e
  | .non, e, h => by cases e <;> simp_all [sameB]
  | .bl a, e, h => by cases e <;> simp_all [sameB]
  | .int a, e, h => by cases e <;> simp_all [sameB]
  | .str a, e, h => by cases e <;> simp_all [sameB]
  | .scr a, e, h => by cases e <;> simp_all [sameB]
  | .tup xs, e, h => by
    cases e with
    | tup ys => rw [samesB_eq xs ys h]
    | _ => simp [sameB] at h
  | .lst xs, e, h => by
    cases e with
    | lst ys => rw [samesB_eq xs ys h]
    | _ => simp [sameB] at h
  | .dic xs, e, h => by
    cases e with
    | dic ys => rw [samesK_eq xs ys h]
    | _ => simp [sameB] at h
theorem samesB_eq : ∀ (xs ys : List D), samesB xs ys = true → xs = ys
  | [], [], _ => rfl
  | [], _ :: _, h => by simp [samesB] at h
  | _ :: _, [], h => by simp [samesB] at h
  | x :: xs, y :: ys, h => by
    unfold samesB at h
    rw [Bool.and_eq_true] at h
    rw [sameB_eq x y h.1, samesB_eq xs ys h.2]
theorem samesK_eq : ∀ (xs ys : List (L2.Key × D)), samesK xs ys = true → xs = ys
  | [], [], _ => rfl
  | [], _ :: _, h => by simp [samesK] at h
  | _ :: _, [], h => by simp [samesK] at h
  | (k, x) :: xs, (l, y) :: ys, h => by
    unfold samesK at h
    rw [Bool.and_eq_true, Bool.and_eq_true] at h
    rw [of_decide_eq_true h.1.1, sameB_eq x y h.1.2, samesK_eq xs ys h.2]
end
def deepN : Nat → D → Bool
  | n + 1, .tup xs => xs.all (deepN n)
  | n + 1, .lst xs => xs.all (deepN n)
  | n + 1, .dic es => decide ((es.map (·.1)).Nodup) && es.all fun kv => deepN n kv.2
  | _, .scr _ => false
  | 0, .tup _ => false
  | 0, .lst _ => false
  | 0, .dic _ => false
  | _, _ => true
section
variable {K : PySem.W.Frag} {F : Hp}
def DPair (K : PySem.W.Frag) (F : Hp) (n : Nat) (v u : V) : Prop := ∃ d, deepN n d = true ∧ Rep K F d v ∧ Rep K F d u
theorem pair_reps {n : Nat} : ∀ {ds : List D} {vs us : List V}, ds.all (deepN n) = true → Reps K F ds vs → Reps K F ds us → Paired (DPair K F n) vs us
  | [], vs, us, _, h1, h2 => by rw [show vs = [] from h1, show us = [] from h2]; exact .nil
  | d :: ds, vs, us, h, h1, h2 => by
    obtain ⟨v, vr, rfl, a1, a2⟩ := h1
    obtain ⟨u, ur, rfl, b1, b2⟩ := h2
    rw [List.all_cons, Bool.and_eq_true] at h
    exact .cons ⟨d, h.1, a1, b1⟩ (pair_reps h.2 a2 b2)
theorem pair_repk {n : Nat} : ∀ {es : List (L2.Key × D)} {ks ls : List (L2.Key × V)}, (es.map (·.1)).Nodup → (es.all fun kv => deepN n kv.2) = true → RepK K F es ks → RepK K F es ls → ∀ p ∈ ks, ∃ u, valV ls p.1 = some u ∧ DPair K F n p.2 u
  | [], ks, ls, _, _, h1, _, p, hp => by rw [show ks = [] from h1] at hp; cases hp
  | (k, d) :: es, ks, ls, nd, h, h1, h2, p, hp => by
    obtain ⟨v, vr, rfl, a1, a2⟩ := h1
    obtain ⟨u, ur, rfl, b1, b2⟩ := h2
    rw [List.all_cons, Bool.and_eq_true] at h
    rw [List.map_cons, List.nodup_cons] at nd
    rcases List.mem_cons.mp hp with rfl | hp
    · exact ⟨u, valV_pos rfl, d, h.1, a1, b1⟩
    · obtain ⟨u', q1, q2⟩ := pair_repk nd.2 h.2 a2 b2 p hp
      refine ⟨u', ?_, q2⟩
      rw [valV_neg, q1]
      intro e
      have e : k = p.1 := e
      have km : ∀ {es : List (L2.Key × D)} {ks : List (L2.Key × V)}, RepK K F es ks → ks.map (·.1) = es.map (·.1) := fun {es} => by
        induction es with
        | nil => intro ks h; rw [show ks = [] from h]; rfl
        | cons q es ih =>
          intro ks h
          obtain ⟨v, vr, rfl, _, h3⟩ := h
          rw [List.map_cons, List.map_cons, ih h3]
      exact nd.1 (by rw [← km a2, e]; exact List.mem_map.mpr ⟨p, hp, rfl⟩)
end
section
variable {X : Cx} {pins : List (Addr × Obj)} {σ : L2.St} {H F : Hp} {s : Shared}
theorem deep_aux (I : Inv X pins σ H s) (e : Same F H) (n : Nat) (ih : ∀ m, m < n → ∀ (A : Around), A.units + m < cLine → ∀ (v u : V) (x y : Value), DPair X.K F m v u → RelV v x → RelV u y → SeqAt.EqP X.prog X.w A s x y true) :
    ∀ (A : Around), A.units + n < cLine → ∀ (v u : V) (x y : Value), DPair X.K F n v u → RelV v x → RelV u y → SeqAt.EqP X.prog X.w A s x y true
  | A, hu, v, u, x, y, ⟨d, h, r1, r2⟩, rx, ry => by
    have flat : ∀ c : V, flatB c = true → v = c → u = c → SeqAt.EqP X.prog X.w A s x y true := fun c f e1 e2 => by
      subst e1; subst e2
      exact (eqAt_same rx ry f).eqP
    cases d with
    | non => exact flat .non rfl r1 r2
    | bl b => exact flat (.bl b) rfl r1 r2
    | int b => exact flat (.int b) rfl r1 r2
    | str b => exact flat (.str b) rfl r1 r2
    | scr b => cases n <;> simp [deepN] at h
    | err a c =>
      cases (show v = V.ref a from r1)
      cases (show u = V.ref a from r2)
      cases (show x = Value.ref a from rx)
      cases (show y = Value.ref a from ry)
      exact (SeqAt.EqAt.same _).eqP
    | tup ds =>
      cases n with
      | zero => simp [deepN] at h
      | succ n =>
        obtain ⟨a, vs, rfl, h1, h2⟩ := r1
        obtain ⟨b, us, rfl, h3, h4⟩ := r2
        cases (show x = Value.ref a from rx)
        cases (show y = Value.ref b from ry)
        by_cases ab : a = b
        · subst ab
          exact (SeqAt.EqAt.same _).eqP
        refine SeqAt.eqP_refs ab fun E Q q => ?_
        obtain ⟨i1, v1, t1, _⟩ := I.tuple (.of (e _ _ h1))
        obtain ⟨i2, v2, t2, _⟩ := I.tuple (.of (e _ _ h3))
        have pp := pair_reps (by simpa [deepN] using h) h2 h4
        have hsz : i1.toArray.size = i2.toArray.size := by rw [List.size_toArray, List.size_toArray, ← v1.length, ← v2.length]; exact Paired.length pp
        refine GQ.rc_tupG hsz (by omega) (fun _ s' => s' = s) t1 t2 (fun i k1 k2 s' es => ?_) (fun s' es => by rw [es]; exact q) rfl
        subst es
        have := items_run (fun x y v u h rv ru => ih n (Nat.lt_succ_self n) A.in1 (by show A.units + 1 + n < cLine; omega) x y v u h rv ru) pp v1 v2 i (by simpa using k1) (by simpa using k2)
        have := this E (fun r s'' => r = true ∧ s'' = s') ⟨rfl, rfl⟩
        simpa using this
    | lst ds =>
      cases n with
      | zero => simp [deepN] at h
      | succ n =>
        obtain ⟨a, vs, rfl, h1, h2⟩ := r1
        obtain ⟨b, us, rfl, h3, h4⟩ := r2
        cases (show x = Value.ref a from rx)
        cases (show y = Value.ref b from ry)
        by_cases ab : a = b
        · subst ab
          exact (SeqAt.EqAt.same _).eqP
        refine SeqAt.eqP_refs ab fun E Q q => ?_
        obtain ⟨i1, v1, t1, _⟩ := I.list (.of (e _ _ h1))
        obtain ⟨i2, v2, t2, _⟩ := I.list (.of (e _ _ h3))
        have pp := pair_reps (by simpa [deepN] using h) h2 h4
        have hsz : i1.toArray.size = i2.toArray.size := by rw [List.size_toArray, List.size_toArray, ← v1.length, ← v2.length]; exact Paired.length pp
        refine SeqAt.rcP_lists (e := fun _ => true) t1.isList t2.isList hsz (by omega) (fun j k1 k2 => ?_) E Q ?_
        · have := items_run (fun x y v u h rv ru => ih n (Nat.lt_succ_self n) A.in1 (by show A.units + 1 + n < cLine; omega) x y v u h rv ru) pp v1 v2 j (by simpa using k1) (by simpa using k2)
          simpa using this
        · rw [show ((List.range i1.toArray.size).all fun _ => true) = true from List.all_eq_true.mpr fun _ _ => rfl]
          exact q
    | dic es =>
      cases n with
      | zero => simp [deepN] at h
      | succ n =>
        obtain ⟨a, vs, rfl, h1, h2⟩ := r1
        obtain ⟨b, us, rfl, h3, h4⟩ := r2
        cases (show x = Value.ref a from rx)
        cases (show y = Value.ref b from ry)
        by_cases ab : a = b
        · subst ab
          exact (SeqAt.EqAt.same _).eqP
        refine SeqAt.eqP_refs ab fun E Q q => ?_
        have h' : decide ((es.map (·.1)).Nodup) = true ∧ (es.all fun kv => deepN n kv.2) = true := by
          rw [← Bool.and_eq_true]; exact h
        obtain ⟨_, ya, va, ra, da⟩ := dk_rd I.hok (rd_mono e h1)
        obtain ⟨_, yb, vb, rb, db⟩ := dk_rd I.hok (rd_mono e h3)
        have pk := pair_repk (of_decide_eq_true h'.1) h'.2 h2 h4
        refine PySem.W.rcP_dicts (knd := mixKind X.prog X.w) (r := true) ya yb da db (by omega) (fun _ => hits_run (fun x y v u h rv ru => ih n (Nat.lt_succ_self n) A.in1 (by show A.units + 1 + n < cLine; omega) x y v u h rv ru) rb ra pk) E Q ?_
        have el : va.length = vb.length := by rw [← ra.length, ← rb.length, repK_length h2, repK_length h4]
        rw [show (va.length == vb.length && true) = true from by rw [el]; simp]
        exact q
theorem deep_eqP (I : Inv X pins σ H s) (e : Same F H) (n : Nat) : ∀ (A : Around), A.units + n < cLine → ∀ (v u : V) (x y : Value), DPair X.K F n v u → RelV v x → RelV u y → SeqAt.EqP X.prog X.w A s x y true :=
  Nat.strongRecOn n fun n ih => deep_aux I e n ih
end
/-- x != y, tuples that are the same -/
def rNeSame (K : PySem.W.Frag) : R2 := fun x y H Q => ∃ F ds a b vs us, Same F H ∧ ds.all (deepN 20) = true ∧ x = .ref a ∧ y = .ref b ∧ F a = some (.tup vs) ∧ F b = some (.tup us) ∧ Reps K F ds vs ∧ Reps K F ds us ∧ Q (.bl false) H
theorem op_neSame {X : Cx} {k : Nat} (hr : Room k X.A) : OpR X (compareOp .NotEq) (rNeSame X.K) := by
  intro pins s σ H x y v u Q I rx ry h
  obtain ⟨F, ds, a, b, vs, us, e, hd, rfl, rfl, h1, h3, h2, h4, q⟩ := h
  cases (show v = Value.ref a from rx)
  cases (show u = Value.ref b from ry)
  have hu := hr.units
  obtain ⟨i1, v1, t1, _⟩ := I.tuple (.of (e _ _ h1))
  obtain ⟨i2, v2, t2, _⟩ := I.tuple (.of (e _ _ h3))
  have pp := pair_reps hd h2 h4
  have hsz : i1.toArray.size = i2.toArray.size := by rw [List.size_toArray, List.size_toArray, ← v1.length, ← v2.length]; exact Paired.length pp
  refine rcNe_tup (A := X.A) t1 t2 hsz (by omega) (fun j k1 k2 => ?_) _ _ ⟨.bl false, H, I, rfl, q⟩
  have := items_run (fun x y v u h rv ru => deep_eqP I e 20 X.A.in1 (by show X.A.units + 1 + 20 < cLine; omega) x y v u h rv ru) pp v1 v2 j (by simpa using k1) (by simpa using k2)
  simpa using this
def neSame (d e : D) : R D := match d with
  | .tup ds => if (sameB (.tup ds) e && ds.all (deepN 20)) = true then .ok (.bl false) else .no
  | _ => .no
theorem od_neSame {mg : Str → Option Value} {E : XK} {K : PySem.W.Frag} : OpD mg E K (rNeSame K) neSame .fz := fun F H As x y dx dy Q e rx ry p => by
  unfold neSame at p
  split at p
  · rename_i ds
    split at p
    · rename_i h
      rw [Bool.and_eq_true] at h
      have eq := sameB_eq _ _ h.1
      subst eq
      obtain ⟨a, vs, rfl, h1, h2⟩ := rx
      obtain ⟨b, us, rfl, h3, h4⟩ := ry
      exact ⟨F, ds, a, b, vs, us, e, h.2, rfl, rfl, h1, h3, h2, h4, p.fin e rfl⟩
    · exact (show False from p).elim
  · exact (show False from p).elim
end Dn

/-! {k: v, ..} -/
namespace Dn
open PySem L2 PyProof.Rows
def PR (K : PySem.W.Frag) (F : Hp) : List (D × D) → List (V × V) → Prop
  | [], vs => vs = []
  | (k, d) :: ps, vs => ∃ a b r, vs = (a, b) :: r ∧ Rep K F k a ∧ Rep K F d b ∧ PR K F ps r
theorem PR.mono {K : PySem.W.Frag} {F F' : Hp} (e : Same F F') : ∀ {ps : List (D × D)} {vs : List (V × V)}, PR K F ps vs → PR K F' ps vs
  | [], vs, h => h
  | (k, d) :: ps, vs, h => by
    obtain ⟨a, b, r, rfl, h1, h2, h3⟩ := h
    exact ⟨a, b, r, rfl, Rep.mono e k a h1, Rep.mono e d b h2, PR.mono e h3⟩
def PstP (mg : Str → Option Value) (E : XK) (K : PySem.W.Frag) (F H : Hp) (Q : List (V × V) → Hp → Prop) : R (List (D × D)) → Prop
  | .ok ps => ∀ vs F1 H1, Grow F H F1 H1 → PR K F1 ps vs → Q vs H1
  | .exc c => ∀ H', Same H H' → E (clsOf mg c) none H'
  | .no => False
structure DPs (X : Cx) (E : XK) (ω : List O) (pos : Pos) (keys : List (Option Expr)) (values : List Expr) (trs : List (TE × TE)) (f : Env → R (List (D × D))) : Prop where
  pps : PPs X pos keys values trs
  sem : ∀ σ ρ F H As (Q : List (V × V) → Hp → Prop), Stt X.K ω ρ σ F H As → PstP X.mg E X.K F H Q (f ρ) → tPairs trs σ H Q
def pNil : Env → R (List (D × D)) := fun _ => .ok []
def pCons (fk fv : Env → R D) (fr : Env → R (List (D × D))) (ρ : Env) : R (List (D × D)) := fk ρ >>= fun k => fv ρ >>= fun v => fr ρ >>= fun ps => .ok ((k, v) :: ps)
def keysP : List (D × D) → Option (List (L2.Key × D))
  | [] => some []
  | (k, d) :: r => match keyD k, keysP r with
    | some k, some es => some ((k, d) :: es)
    | _, _ => none
def eDisp (fp : Env → R (List (D × D))) (ρ : Env) : R D := fp ρ >>= fun ps => match keysP ps with
  | some es => if es.length ≤ 15 then .ok (.dic (es.foldl (fun acc kv => putD acc kv.1 kv.2) [])) else .no
  | none => .no
section
variable {X : Cx} {E : XK} {ω : List O} {pos : Pos} {k v : Expr} {keys : List (Option Expr)} {values : List Expr} {trs : List (TE × TE)} {tk tv : TE} {fk fv : Env → R D} {fr : Env → R (List (D × D))}
theorem dps_nil : DPs X E ω pos [] [] [] pNil := ⟨pps_nil, fun σ ρ F H As Q S p => p [] F H (Grow.refl S.ex) rfl⟩
theorem dps_cons (hk : DE X E ω k tk fk .fz []) (hv : DE X E ω v tv fv .fz []) (hr : DPs X E ω pos keys values trs fr) : DPs X E ω pos (some k :: keys) (v :: values) ((tk, tv) :: trs) (pCons fk fv fr) :=
  ⟨pps_cons hk.pe hv.pe hr.pps, fun σ ρ F H As Q S p => by
    unfold pCons at p
    refine hk.sem σ ρ F H As _ S ?_
    cases e1 : fk ρ with
    | exc c => rw [e1] at p; exact p
    | no => rw [e1] at p; exact p
    | ok d =>
      rw [e1, ok_bind] at p
      intro a F1 H1 B g r _ _
      refine hv.sem σ ρ F1 H1 As _ (S.grow g) ?_
      cases e2 : fv ρ with
      | exc c => rw [e2] at p; exact fun H' q => p H' (g.hh.trans q)
      | no => rw [e2] at p; exact p
      | ok d2 =>
        rw [e2, ok_bind] at p
        intro b F2 H2 B2 g2 r2 _ _
        refine hr.sem σ ρ F2 H2 As _ ((S.grow g).grow g2) ?_
        cases e3 : fr ρ with
        | exc c => rw [e3] at p; exact fun H' q => p H' ((g.hh.trans g2.hh).trans q)
        | no => rw [e3] at p; exact p
        | ok ps =>
          rw [e3, ok_bind] at p
          intro vs F3 H3 g3 r3
          exact p _ F3 H3 ((g.trans g2).trans g3) ⟨a, b, vs, rfl, Rep.mono (g2.trans g3).ff d a r.1, Rep.mono g3.ff d2 b r2.1, r3⟩⟩
theorem keys_rep {K : PySem.W.Frag} {F : Hp} : ∀ {ps : List (D × D)} {es : List (L2.Key × D)} {vs : List (V × V)}, keysP ps = some es → PR K F ps vs → ∃ kvs, vs = kvs.map (fun kv => (kV kv.1, kv.2)) ∧ RepK K F es kvs ∧ kvs.length = es.length
  | [], es, vs, h, r => by
    cases h
    exact ⟨[], r, rfl, rfl⟩
  | (k, d) :: ps, es, vs, h, r => by
    obtain ⟨a, b, r', rfl, h1, h2, h3⟩ := r
    have h : (match keyD k, keysP ps with
      | some k, some es => some ((k, d) :: es)
      | _, _ => none) = some es := h
    cases e1 : keyD k with
    | none => rw [e1] at h; cases h
    | some kk =>
      cases e2 : keysP ps with
      | none => rw [e1, e2] at h; cases h
      | some es' =>
        rw [e1, e2] at h
        cases h
        obtain ⟨kvs, rfl, q2, q3⟩ := keys_rep e2 h3
        exact ⟨(kk, b) :: kvs, by rw [key_rep e1 h1]; rfl, ⟨b, kvs, rfl, h2, q2⟩, by simp [q3]⟩
theorem de_disp (h : DPs X E ω pos keys values trs fr) (hall : keys.all (·.isSome) = true := by rfl) (hl : keys.length = values.length := by rfl) (h0 : keys ≠ [] := by simp) (h15 : keys.length ≤ 15 := by decide) :
    DE X E ω (.Dict keys values pos) (tDisp trs) (eDisp fr) (.own .fz) [] :=
  ⟨pe_disp h.pps hall hl h0 h15, fun σ ρ F H As Q S p q hq => by
    have g0 : Grow F H F (upd H q (.dK [])) := Grow.newO S.ex hq
    refine h.sem σ ρ F _ As _ (S.grow g0) ?_
    unfold eDisp at p
    cases e1 : fr ρ with
    | exc c => rw [e1] at p; exact fun H' z => p H' (g0.hh.trans z)
    | no => rw [e1] at p; exact p
    | ok ps =>
      rw [e1, ok_bind] at p
      split at p
      · rename_i es he
        split at p
        · rename_i h15'
          intro vs F1 H1 g r
          obtain ⟨kvs, e2, e3, e4⟩ := keys_rep he r
          have hF1 : F1 q = none := g.sep q (S.ex.free hq) (by rw [upd_same]; simp)
          refine ⟨g.hh _ _ upd_same, kvs, e2, by omega, ?_⟩
          refine p (.ref q) F1 _ [q] ⟨g.ff, fun x o hx => ?_, fun x o hx => ?_, fun x h1 h2 => ?_⟩ (.inr (.inl ⟨_, q, _, rfl, rfl, hF1, upd_same, repK_fold e3 rfl, rfl⟩)) (fun x hx => .inl (by rw [List.mem_singleton.mp hx]; exact hq)) (by simp)
          · rw [upd_ne (ne_of_none hx hq)]
            exact g.hh _ _ (by rw [upd_ne (ne_of_none hx hq)]; exact hx)
          · rw [upd_ne (ne_of_none hx hF1)]
            exact g.fh _ _ hx
          · exact g.sep x h1 (there g0.hh h2)
        · exact p.elim
      · exact p.elim⟩
end
end Dn

/-! Defs that raise; try; what an except suite asks of the exception. -/
namespace Dn
open PySem L2 PyProof.Rows

/-! ### a def that may raise -/
/-- b: a def that may fall off its end (it gives None then) -/
def leaveE (b : Bool) : R Fl → R D
  | .ok (.rt d _) => .ok d
  | .ok (.nx _) => if b then .ok .non else .no
  | .exc c => .exc c
  | .no => .no
def fnE (b : Bool) (n : Nat) (f : Env → R Fl) (ds : List D) : R D := leaveE b (f (enter n ds))
def leaveXE (I : List Nat) : R Fl → R (D × List D)
  | .ok (.rt d ρ) => match outs ρ I with
    | some ds => .ok (d, ds)
    | none => .no
  | .exc c => .exc c
  | _ => .no
def fnXE (n : Nat) (I : List Nat) (f : Env → R Fl) (ds : List D) : R (D × List D) := leaveXE I (f (enter n ds))
section
variable {P : Program} {w : World} {K : PySem.W.Frag} {mg : Str → Option Value} {base : Heap} {N : List Str} {q : Str} {sc : Scope} {f : Addr} {cd : Value} {A : Around} {outer : List PySem.Env} {s : Shared} {H : Hp} {E : XK}
theorem takesE : L2N.Takes (cxOf (L2N.CX P w) P w K mg base N q sc f cd A outer s H E) (fun cls d _ H => E cls d H) := L2N.takes_of rfl rfl rfl rfl
theorem passE : Passes (L2N.CX P w) (cxOf (L2N.CX P w) P w K mg base N q sc f cd A outer s H E) E := L2N.passes_call takesE fun _ _ _ _ h => h
theorem ownE : PassesOwn (model P w) (cxOf (L2N.CX P w) P w K mg base N q sc f cd A outer s H E).A (cxOf (L2N.CX P w) P w K mg base N q sc f cd A outer s H E).env (cxOf (L2N.CX P w) P w K mg base N q sc f cd A outer s H E).xe := L2.passes_of rfl
end
section
variable {P : Program} {w : World} {K : PySem.W.Frag} {mg : Str → Option Value} {base : Heap} {x qual : Str} {st : Stmt} {f : Addr} {fd : FuncData} {N ps : List Str} {k kk n : Nat} {fb : Env → R Fl} {ωp ωl : List O} {o : O} {W : List Nat} {ib : List Bool}
theorem okE {sp : Sp} (Fn : Fun K x qual st f fd) (S : FnScope N ps (defScope st)) (len : ∀ vs H Q E, sp vs H Q E → vs.length = ps.length)
    (hbody : ∀ (cdv : Value) (A : Around) (outer : List PySem.Env) (s : Shared) (H : Hp) (vs : List V) (Q : VK) (E : XK), Room k (A.deeper (envOfC qual (defScope st) s.heap.objs.size f cdv)) → sp vs H Q E →
      ∃ t, PSs (cxOf (L2N.CX P w) P w K mg base N qual (defScope st) f cdv A outer s H E) (defBody st) t ∧ t { nx := fun _ H' => Q .non H', rt := Q } (L2.start N vs) H) : FnOk P w K mg base (L2N.CX P w) (k + 1) f fd ps sp := by
  obtain ⟨_, _, _, _, _, _, cdv, _, _, rfl, lk, hcd⟩ := Fn.ex
  exact fn_of lk hcd S len (hbody cdv)
theorem fn_okE {b : Bool} (Fn : Fun K x qual st f fd) (S : FnScope N ps (defScope st))
    (hp : ωp.length = ps.length) (hz : ωp.all O.isFz = true) (hl : ωp.length + ωl.length = N.length) (hbo : b = true → o = .fz)
    (hbody : ∀ (cdv : Value) (A : Around) (outer : List PySem.Env) (s : Shared) (H : Hp) (E : XK), Room k (A.deeper (envOfC qual (defScope st) s.heap.objs.size f cdv)) →
      ∃ t ω', DSs (cxOf (L2N.CX P w) P w K mg base N qual (defScope st) f cdv A outer s H E) E ⟨W, []⟩ (ωp ++ ωl) (defBody st) t fb ω' o) : FnOk P w K mg base (L2N.CX P w) (k + 1) f fd ps (spD K mg ps.length (fnE b N.length fb) o) := by
  refine okE Fn S (fun vs H Q E h => ?_) (fun cdv A outer s H vs Q E hr h => ?_)
  · obtain ⟨ds, F, _, r, hn, _⟩ := h
    rw [r.length, hn]
  · obtain ⟨ds, F, e, r, hn, p⟩ := h
    obtain ⟨t, ω', B⟩ := hbody cdv A outer s H E hr
    refine ⟨t, B.pss, ?_⟩
    have hlen : ds.length = ωp.length := by rw [hn, hp]
    have e1 : enter N.length ds = ds.map some ++ List.replicate ωl.length none := by
      unfold enter
      rw [hlen, ← hl, Nat.add_sub_cancel_left]
    have e2 : L2.start N vs = vs.map some ++ List.replicate ωl.length none := by
      unfold L2.start
      rw [r.length, hlen, ← hl, Nat.add_sub_cancel_left]
    have S0 : Stt K (ωp ++ ωl) (enter N.length ds) (L2.start N vs) F H (List.replicate (ωp.length + ωl.length) []) := by
      refine ⟨e, ?_, by rw [flat_nils]; exact List.nodup_nil⟩
      rw [e1, e2]
      exact sl_enter r hlen.symm hz ωl
    refine B.sem _ _ F H _ _ S0 ?_
    rw [flat_nils]
    unfold fnE at p
    cases hf : fb (enter N.length ds) with
    | ok fl =>
      rw [hf] at p
      cases fl with
      | nx ρ' =>
        cases b with
        | false => exact (show False from p).elim
        | true =>
          rw [hbo rfl] at p
          exact fun σ' F' H' As' S' g => p .non F' H' [] (GrowA.grow (g.g.sub (A' := []) fun _ h => by simp at h)) ⟨rfl, rfl⟩ (fun _ h => by simp at h) List.nodup_nil
      | rt d ρ' => exact fun v σ' F' H' B As' w r n ap S i g => p v F' H' B g.g.grow r (fun x hx => .inl ((g.g.new x (List.mem_append_left _ hx)).resolve_left (by simp))) n
    | exc c =>
      rw [hf] at p
      exact fun H' z => p H' fun x u hx => z x u hx (by simp)
    | no => rw [hf] at p; exact (show False from p).elim
theorem dfn_okE {b : Bool} {g : List D → R D} (h : Has K mg x st ps) (S : FnScope N ps (defScope st)) (hg : g = fnE b N.length fb) (hk : kk = k + 1) (hn : n = ps.length) (hp : ωp.length = ps.length) (hz : ωp.all O.isFz = true) (hl : ωp.length + ωl.length = N.length) (hbo : b = true → o = .fz)
    (hbody : ∀ (f : Addr) (cdv : Value) (A : Around) (outer : List PySem.Env) (s : Shared) (H : Hp) (E : XK), Room k (A.deeper (envOfC x (defScope st) s.heap.objs.size f cdv)) →
      ∃ t ω', DSs (cxOf (L2N.CX P w) P w K mg base N x (defScope st) f cdv A outer s H E) E ⟨W, []⟩ (ωp ++ ωl) (defBody st) t fb ω' o) : DFn P w K mg base (L2N.CX P w) kk x n g o := by
  obtain ⟨f, fd, h1, h2, h3, h4⟩ := h
  subst hg hk hn
  exact ⟨⟨f, fd, ps, h1, h2, h3, fn_okE (W := W) h4 S hp hz hl hbo (hbody f)⟩⟩
theorem fn_okXE (Fn : Fun K x qual st f fd) (S : FnScope N ps (defScope st))
    (hp : ib.length = ps.length) (hl : ib.length + ωl.length = N.length) (hW : ((ioI 0 ib).all fun i => !W.contains i) = true)
    (hbody : ∀ (cdv : Value) (A : Around) (outer : List PySem.Env) (s : Shared) (H : Hp) (E : XK), Room k (A.deeper (envOfC qual (defScope st) s.heap.objs.size f cdv)) →
      ∃ t ω', DSs (cxOf (L2N.CX P w) P w K mg base N qual (defScope st) f cdv A outer s H E) E ⟨W, ioI 0 ib⟩ (ib.map oOf ++ ωl) (defBody st) t fb ω' o) : FnOk P w K mg base (L2N.CX P w) (k + 1) f fd ps (spX K mg ib (fnXE N.length (ioI 0 ib) fb) o) := by
  refine okE Fn S (fun vs H Q E h => ?_) (fun cdv A outer s H vs Q E hr h => ?_)
  · obtain ⟨ds, F, A, _, r, _⟩ := h
    rw [(repT_len r).1, List.length_map, hp]
  · obtain ⟨ds, F, A0, e, r, nA, p⟩ := h
    obtain ⟨t, ω', B⟩ := hbody cdv A outer s H E hr
    refine ⟨t, B.pss, ?_⟩
    have hlen : ds.length = ib.length := by rw [(repT_len r).2, List.length_map]
    have hlenv : vs.length = ib.length := by rw [(repT_len r).1, List.length_map]
    have e1 : enter N.length ds = ds.map some ++ List.replicate ωl.length none := by
      unfold enter
      rw [hlen, ← hl, Nat.add_sub_cancel_left]
    have e2 : L2.start N vs = vs.map some ++ List.replicate ωl.length none := by
      unfold L2.start
      rw [hlenv, ← hl, Nat.add_sub_cancel_left]
    obtain ⟨Bs, hB1, hB2⟩ := repT_split r
    have fl : (Bs ++ List.replicate ωl.length ([] : List Addr)).flatten = A0 := by
      rw [List.flatten_append, flat_nils, List.append_nil, hB2]
    have S0 : Stt K (ib.map oOf ++ ωl) (enter N.length ds) (L2.start N vs) F H (Bs ++ List.replicate ωl.length []) := by
      refine ⟨e, ?_, by rw [fl]; exact nA⟩
      rw [e1, e2]
      exact sl_more hB1 ωl
    refine B.sem _ _ F H _ _ S0 ?_
    rw [fl]
    unfold fnXE at p
    cases hf : fb (enter N.length ds) with
    | ok fl =>
      rw [hf] at p
      cases fl with
      | nx ρ' => exact (show False from p).elim
      | rt d ρ' =>
        intro v σ' F' H' B As' w' rB nB ap S' io g
        have p' : PstC mg E K o (ioV ib vs) A0 F H Q (match outs ρ' (ioI 0 ib) with
          | some ds => .ok (d, ds)
          | none => .no) := p
        split at p'
        · rename_i ds' ho
          obtain ⟨A', h1, h2, h3⟩ := outs_rep S' (vs := ioV ib vs) ho (ioI_len hlenv) ioI_nd (ioOk_get io) fun j i hj => by
            obtain ⟨_, w0, q1, q2⟩ := ioI_vals hlenv j i hj
            refine ⟨w0, q1, ?_⟩
            have hi : i ∈ ioI 0 ib := List.mem_of_getElem? hj
            have nW : i ∉ W := fun h => by
              have z := List.all_eq_true.mp hW i hi
              rw [List.contains_iff_mem.mpr h] at z
              cases z
            rw [g.ag i nW, e2]
            rw [Nat.sub_zero] at q2
            rw [List.getElem?_append_left (by rw [List.length_map]; exact (List.getElem?_eq_some_iff.mp q2).1), List.getElem?_map, q2]
            rfl
          exact p' v F' H' B A' rB nB (fun x hx hA => ap x hx (h3 x hA).flat) h1 h2 (g.g.sub fun x hx => by
            rcases List.mem_append.mp hx with hx | hx
            · exact List.mem_append_left _ hx
            · exact List.mem_append_right _ (h3 x hx).flat)
        · exact p'.elim
    | exc c =>
      rw [hf] at p
      exact fun H' z => p H' z
    | no => rw [hf] at p; exact (show False from p).elim
theorem xfn_okE {g : List D → R (D × List D)} (h : Has K mg x st ps) (S : FnScope N ps (defScope st)) (hg : g = fnXE N.length (ioI 0 ib) fb) (hk : kk = k + 1) (hp : ib.length = ps.length) (hl : ib.length + ωl.length = N.length) (hW : ((ioI 0 ib).all fun i => !W.contains i) = true)
    (hbody : ∀ (f : Addr) (cdv : Value) (A : Around) (outer : List PySem.Env) (s : Shared) (H : Hp) (E : XK), Room k (A.deeper (envOfC x (defScope st) s.heap.objs.size f cdv)) →
      ∃ t ω', DSs (cxOf (L2N.CX P w) P w K mg base N x (defScope st) f cdv A outer s H E) E ⟨W, ioI 0 ib⟩ (ib.map oOf ++ ωl) (defBody st) t fb ω' o) : XFn P w K mg base (L2N.CX P w) kk x ib g o := by
  obtain ⟨f, fd, h1, h2, h3, h4⟩ := h
  subst hg hk
  exact ⟨⟨f, fd, ps, h1, h2, h3, fn_okXE (W := W) h4 S hp hl hW (hbody f)⟩⟩
end
/-! ### raise -/
def adr (mg : Str → Option Value) (x : Str) : Addr := match mg x with
  | some (.ref a) => a
  | _ => 0
theorem adr_of {mg : Str → Option Value} {x : Str} {a : Addr} (h : mg x = some (.ref a)) : adr mg x = a := by
  unfold adr
  rw [h]
theorem cls_of {mg : Str → Option Value} {x : Str} {a : Addr} (h : mg x = some (.ref a)) : clsOf mg x = .ref (adr mg x) := by
  rw [adr_of h]
  unfold clsOf
  rw [h]
  rfl
abbrev veMro : List Value := [.type "ValueError", .type "Exception", .type "BaseException", .type "object"]
/-- a class that may be raised -/
structure ErrC (K : PySem.W.Frag) (mg : Str → Option Value) (x : Str) : Prop where
  ex : ∃ C, mg x = some (.ref C) ∧ PySem.W.excIn K C veMro "ValueError.__new__" = true ∧ PySem.W.keepIn K (.ref C) = true ∧ PySem.W.subIn K (.ref C) (.type "BaseException") = some true ∧ PySem.W.typeIn K (.ref C) = some (.type "type")
section
variable {X : Cx} {E : XK} {c : Cfg} {ω ω' : List O} {or : O} {x m : Str}
def sRaise (x : Str) (_ : Env) : R Fl := .exc x
theorem ds_raise {j : Nat} {p p2 p3 pos : Pos} (hc : X.calm = true) (tk : L2N.Takes X (fun cls d _ H => E cls d H)) (T : ErrC X.K X.mg x) (hg : Gl X x := by rfl) (hdb : (x == ("__debug__" : Str)) = false := by decide) :
    DS X E c ω (.Raise (some (.Call (.Name x p) [.Constant (.str m) j p2] [] p3)) none pos) (fun _ _ H => E (clsOf X.mg x) none H) (sRaise x) ω' or := by
  obtain ⟨C, h1, h2, h3, h4, h5⟩ := T.ex
  refine ⟨?_, fun σ ρ F H As Dd S p => p H fun x u h _ => h⟩
  have e : clsOf X.mg x = .ref C := by rw [cls_of h1, adr_of h1]
  rw [e]
  exact L2N.ps_raise hc tk (L2N.pmk_own PySem.F.excBase_ValueError h2 h1 h3 (raises_own h4 h5) hg hdb)
end

/-! ### isinstance of the exception that a suite holds -/
/-- a class whose instances are asked -/
structure ClsC (K : PySem.W.Frag) (mg : Str → Option Value) (x : Str) : Prop where
  ex : ∃ C, mg x = some (.ref C) ∧ ExcC K C
/-- isinstance(an exception of the class c, x) -/
structure IsC (K : PySem.W.Frag) (mg : Str → Option Value) (c x : Str) (b : Bool) : Prop where
  ex : ∃ C D, mg c = some (.ref C) ∧ mg x = some (.ref D) ∧ PySem.W.kitOne K (.ref C) (.ref D) = some b
structure IsB (K : PySem.W.Frag) (mg : Str → Option Value) (c : Str) (T : String) (b : Bool) : Prop where
  ex : ∃ C, mg c = some (.ref C) ∧ PySem.W.kitOne K (.ref C) (.type T) = some b
/-- the exception of the class c stands at a -/
def PinE (X : Cx) (a : Addr) (c : Str) : Prop := ∃ oe, (a, oe) ∈ X.pn ∧ L2N.Zn (.ref (adr X.mg c)) none oe ∧ ∃ vs, oe.data = .fields vs
def rIsAt (K : PySem.W.Frag) (D a : Addr) : List V → Hp → VK → Prop := fun xs H Q => ∃ (v : V) (cv : Value) (b : Bool), xs = [.ref a, v] ∧ (∀ u, RelV v u → u = cv) ∧ PySem.W.kitOne K (.ref D) cv = some b ∧ Q (.bl b) H
def rIsAtT (K : PySem.W.Frag) (D a : Addr) : List V → Hp → VK → Prop := fun xs H Q => ∃ (tp : Addr) (cs : List V) (us : List Value) (b : Bool), xs = [.ref a, .ref tp] ∧ H tp = some (.tup cs) ∧ Paired ClsV cs us ∧ PySem.W.kitAny K (.ref D) us = some b ∧ Q (.bl b) H
section
variable {X : Cx} {E : XK} {ω : List O} {a : Addr} {c x : Str}
theorem pin_at {pins : List (Addr × Obj)} {s : Shared} {σ : L2.St} {H : Hp} (I : Inv X pins σ H s) (hp : PinE X a c) : ∃ oe, PySem.W.InstAt s.heap a oe (adr X.mg c) none := by
  obtain ⟨oe, h1, ⟨h2, h3, _⟩, vs, h4⟩ := hp
  obtain ⟨hget, _⟩ := I.pin (a, oe) (List.mem_append_left _ h1)
  refine ⟨oe, ?_⟩
  obtain ⟨oc, od, oda, osl⟩ := oe
  dsimp only at h2 h3 h4
  subst h2 h3 h4
  exact ⟨hget, rfl, rfl, trivial⟩
theorem call_isAt (C : ExcC X.K (adr X.mg c)) (hp : PinE X a c) : CallR X (.builtin "isinstance") (rIsAt X.K (adr X.mg c) a) := by
  intro pins s σ H xs us Q I r h
  obtain ⟨v, cv, b, rfl, hcv, e, q⟩ := h
  obtain ⟨u1, u2, rfl, r1, r2⟩ := vals2 r
  cases (show u1 = Value.ref a from r1)
  cases hcv _ r2
  obtain ⟨oe, J⟩ := pin_at I hp
  exact PySem.W.kia_one (PySem.W.handS_kitx_exc C.hg C.hk C.hs C.hd C.ha C.hn C.ht C.hm) I.kIn J e (fun z => nomatch z) fun tk => ⟨.bl b, H, I.tok tk, rfl, q⟩
theorem call_isAtT (C : ExcC X.K (adr X.mg c)) (hp : PinE X a c) : CallR X (.builtin "isinstance") (rIsAtT X.K (adr X.mg c) a) := by
  intro pins s σ H xs us Q I r h
  obtain ⟨tp, cs, ws, b, rfl, hT, k, e, q⟩ := h
  obtain ⟨u1, u2, rfl, r1, r2⟩ := vals2 r
  cases (show u1 = Value.ref a from r1)
  cases (show u2 = Value.ref tp from r2)
  obtain ⟨oe, J⟩ := pin_at I hp
  obtain ⟨_, its, rv, o, h1, h2, n, h3⟩ := (show ObjOk X.prog X.w H s.heap tp (.tup cs) from I.hok tp _ hT)
  have e3 := ClsV.all k rv
  subst e3
  obtain ⟨oc, od, dt, sl⟩ := o
  simp only at h2 h3
  subst h2 h3
  exact PySem.W.kia_tup (PySem.W.handS_kitx_exc C.hg C.hk C.hs C.hd C.ha C.hn C.ht C.hm) I.kIn J h1 e (fun z => nomatch z) fun tk => ⟨.bl b, H, I.tok tk, rfl, q⟩
/-- what the name of the exception holds -/
def isErr (a : Addr) (c : Str) (b : Bool) : D → R D
  | .err a' c' => if a' = a ∧ c' = c then .ok (.bl b) else .no
  | _ => .no
theorem isErr_of {a : Addr} {c : Str} {b : Bool} {d r : D} (h : isErr a c b d = .ok r) : d = .err a c ∧ r = .bl b := by
  unfold isErr at h
  split at h
  · split at h
    · rename_i hh
      obtain ⟨rfl, rfl⟩ := hh
      cases h
      exact ⟨rfl, rfl⟩
    · cases h
  · cases h
theorem isErr_nex {a : Addr} {c e : Str} {b : Bool} {d : D} (h : isErr a c b d = .exc e) : False := by
  unfold isErr at h
  split at h
  · split at h <;> cases h
  · cases h
theorem de_isC {b : Bool} {i : Nat} {y : Str} {pos p1 p2 p3 : Pos} (hp : PinE X a c) (C : ClsC X.K X.mg c) (T : IsC X.K X.mg c x b) (hm : X.mg "isinstance" = none) (h : ω[i]? = some .fz := by rfl) (hN : X.N[i]? = some y := by rfl) (hv : Vis X.env.scope y := by first | exact Or.inl rfl | exact Or.inr (Or.inl rfl) | exact Or.inr (Or.inr rfl)) (hd : (y == ("__debug__" : Str)) = false := by decide)
    (hcd : (y == ("__classdict__" : Str)) = false := by decide) (hg : Gl X "isinstance" := by rfl) (hgx : Gl X x := by rfl) (hdx : (x == ("__debug__" : Str)) = false := by decide)
    (hs : starEach [.Name y p1, .Name x p2] X.env = (false, eval (.Name y p1) X.env) :: starEach [.Name x p2] X.env := by rfl) (hs2 : starEach [.Name x p2] X.env = (false, eval (.Name x p2) X.env) :: starEach [] X.env := by rfl) (hpl : (backTo pos (starEach [.Name x p2] X.env)).any (·.1) = false := by rfl) :
    DE X E ω (.Call (.Name "isinstance" p3) [.Name y p1, .Name x p2] [] pos) (tCB (rIsAt X.K (adr X.mg c) a) (tCons (tVar i) (tCons (tC (.ref (adr X.mg x))) tNil))) (eUn (isErr a c b) (eVar i)) .fz [] := by
  obtain ⟨C0, h1, h2⟩ := C.ex
  obtain ⟨C1, D1, h3, h4, h5⟩ := T.ex
  cases h1.symm.trans h3
  have e1 := adr_of h1
  have e2 := adr_of h4
  refine ⟨pe_callB (call_isAt (by rw [e1]; exact h2) hp) hg hm boot_isinstance (pa_cons (pe_var hN hv hd hcd) (pa_cons (pe_glob hgx h4 (by rw [e2]; rfl) hdx) pa_nil hs2) hs) (by decide) (by decide) hs hpl, fun σ ρ F H As Q S p => ?_⟩
  refine (sem_var (M := []) h (.inl rfl)).then S p fun d v F1 H1 B g S1 r _ _ q => ?_
  cases hq : isErr a c b d with
  | ok r0 =>
    obtain ⟨rfl, rfl⟩ := isErr_of hq
    rw [hq] at q
    refine ⟨.ref (adr X.mg x), .ref (adr X.mg x), b, ?_, fun u hu => hu, by rw [e1, e2]; exact h5, q.fin S1.ex rfl⟩
    rw [show v = V.ref a from r.1]
  | exc e => exact (isErr_nex hq).elim
  | no => rw [hq] at q; exact q.elim
theorem de_isB {b : Bool} {i : Nat} {y : Str} {T : String} {pos p1 p2 p3 : Pos} (hp : PinE X a c) (C : ClsC X.K X.mg c) (TT : IsB X.K X.mg c T b) (hm : X.mg "isinstance" = none) (hmx : X.mg x = none) (hbv : bootBuiltins x = some (.type T)) (h : ω[i]? = some .fz := by rfl) (hN : X.N[i]? = some y := by rfl) (hv : Vis X.env.scope y := by first | exact Or.inl rfl | exact Or.inr (Or.inl rfl) | exact Or.inr (Or.inr rfl)) (hd : (y == ("__debug__" : Str)) = false := by decide)
    (hcd : (y == ("__classdict__" : Str)) = false := by decide) (hg : Gl X "isinstance" := by rfl) (hgx : Gl X x := by rfl) (hdx : (x == ("__debug__" : Str)) = false := by decide) (hnx : x ≠ "__name__" := by decide)
    (hs : starEach [.Name y p1, .Name x p2] X.env = (false, eval (.Name y p1) X.env) :: starEach [.Name x p2] X.env := by rfl) (hs2 : starEach [.Name x p2] X.env = (false, eval (.Name x p2) X.env) :: starEach [] X.env := by rfl) (hpl : (backTo pos (starEach [.Name x p2] X.env)).any (·.1) = false := by rfl) :
    DE X E ω (.Call (.Name "isinstance" p3) [.Name y p1, .Name x p2] [] pos) (tCB (rIsAt X.K (adr X.mg c) a) (tCons (tVar i) (tCons (tC (.ty T)) tNil))) (eUn (isErr a c b) (eVar i)) .fz [] := by
  obtain ⟨C0, h1, h2⟩ := C.ex
  obtain ⟨C1, h3, h5⟩ := TT.ex
  cases h1.symm.trans h3
  have e1 := adr_of h1
  refine ⟨pe_callB (call_isAt (by rw [e1]; exact h2) hp) hg hm boot_isinstance (pa_cons (pe_var hN hv hd hcd) (pa_cons (pe_bltn (v := .ty T) hgx hmx hbv rfl hnx hdx) pa_nil hs2) hs) (by decide) (by decide) hs hpl, fun σ ρ F H As Q S p => ?_⟩
  refine (sem_var (M := []) h (.inl rfl)).then S p fun d v F1 H1 B g S1 r _ _ q => ?_
  cases hq : isErr a c b d with
  | ok r0 =>
    obtain ⟨rfl, rfl⟩ := isErr_of hq
    rw [hq] at q
    refine ⟨.ty T, .type T, b, ?_, fun u hu => hu, by rw [e1]; exact h5, q.fin S1.ex rfl⟩
    rw [show v = V.ref a from r.1]
  | exc e => exact (isErr_nex hq).elim
  | no => rw [hq] at q; exact q.elim
/-- an own class, read as a value -/
theorem de_cls {pos : Pos} (C : ClsC X.K X.mg x) (hg : Gl X x := by rfl) (hd : (x == ("__debug__" : Str)) = false := by decide) : DE X E ω (.Name x pos) (tC (.ref (adr X.mg x))) (eC (.err (adr X.mg x) x)) .fz [] := by
  obtain ⟨C0, h1, _⟩ := C.ex
  exact ⟨pe_glob hg h1 (by rw [adr_of h1]; rfl) hd, sem_c fun _ => rfl⟩
end
end Dn

/-! try: .. except S as e: a suite that asks e only, and returns; a def that is handed the exception there. -/
namespace Dn
open PySem L2 PyProof.Rows
def errEnv (n i : Nat) (a : Addr) (c : Str) : Env := (List.replicate n none).set i (some (.err a c))
def sTry (n : Nat) (cs : List Str) (res : Str → R D) (f : Env → R Fl) (ρ : Env) : R Fl := match f ρ with
  | .ok fl => .ok fl
  | .exc c => if c ∈ cs then res c >>= fun d => .ok (.rt d (List.replicate n none)) else .no
  | .no => .no
/-- except S takes an exception of the class c -/
structure CatC (K : PySem.W.Frag) (mg : Str → Option Value) (c S : Str) : Prop where
  ex : ∃ C D, mg c = some (.ref C) ∧ mg S = some (.ref D) ∧ PySem.W.exmOne K (.ref C) (.ref D) = some true
theorem takesN0 {X : Cx} : L2N.Takes X (fun _ _ _ _ => False) := fun _ _ ⟨_, _, _, _, _, _, _, _, _, _, _, _, _, _, _, _, w⟩ => w.elim
section
variable {K : PySem.W.Frag} {F F' H H' : Hp}
theorem sl_flat : ∀ {ω : List O} {ρ : Env} {σ : L2.St} {As : List (List Addr)}, ω.all O.isFz = true → Sl K F H ω ρ σ As → As.flatten = []
  | _, _, _, _, _, .nil => rfl
  | o :: ω, _, _, _, h, .none S => by
    rw [List.all_cons, Bool.and_eq_true] at h
    simpa using sl_flat h.2 S
  | o :: ω, _, _, _, h, .some r S => by
    rw [List.all_cons, Bool.and_eq_true] at h
    cases o with
    | fz => rw [List.flatten_cons, r.2, sl_flat h.2 S]; rfl
    | own o => exact absurd h.1 (by simp [O.isFz])
    | tup os => exact absurd h.1 (by simp [O.isFz])
theorem sl_nones : ∀ {ω : List O} {σ : L2.St}, σ.length = ω.length → Sl K F H ω (List.replicate ω.length none) σ (List.replicate ω.length [])
  | [], [], _ => .nil
  | o :: ω, x :: σ, h => .none (sl_nones (Nat.succ.inj h))
  | [], _ :: _, h => by cases h
  | _ :: _, [], h => by cases h
theorem sl_err {a : Addr} {c : Str} : ∀ {ω : List O} {σ : L2.St} {i : Nat}, σ.length = ω.length → ω[i]? = some .fz → Sl K F H ω (errEnv ω.length i a c) (σ.set i (some (.ref a))) (List.replicate ω.length [])
  | [], [], i, _, h => by simp at h
  | o :: ω, x :: σ, 0, hl, h => by
    simp at h
    subst h
    exact Sl.some ⟨rfl, rfl⟩ (sl_nones (Nat.succ.inj hl))
  | o :: ω, x :: σ, i + 1, hl, h => Sl.none (sl_err (i := i) (Nat.succ.inj hl) (by simpa using h))
  | [], _ :: _, _, h, _ => by cases h
  | _ :: _, [], _, h, _ => by cases h
end
section
variable {X : Cx} {E : XK} {c : Cfg} {ω ω' : List O} {or : O} {body suite : List Stmt} {b₀ : Stmt} {S y : Str} {i n : Nat} {cs : List Str} {res : Str → R D} {f : Env → R Fl} {np pos pos' : Pos}
def tbAll (X : Cx) (body : List Stmt) (W : WX) : TS := fun D σ H => ∀ pn xe, L2N.Takes (X.tr pn xe) W → PassesOwn (model X.prog X.w) X.A X.env xe → ∃ t, PSs (X.tr pn xe) body t ∧ t D σ H
def tsAll (X : Cx) (su : List Stmt) (a : Addr) (cls : Value) (d : Option Addr) : TS := fun D σ H => ∀ oe pn, L2N.Zn cls d oe → (∃ vs, oe.data = .fields vs) → ∃ t, PSs (X.suite a ((a, oe) :: pn)) su t ∧ t D σ H
theorem ds_try (cs : List Str) (res : Str → R D) (hcs : ∀ k ∈ cs, CatC X.K X.mg k S) (hN : X.N.Nodup)
    (hb : ∀ (E' : XK) (pn : List (Addr × Obj)) (xe : Value → Shared → Prop), Passes (L2N.CX X.prog X.w) (X.tr pn xe) E' → PassesOwn (model X.prog X.w) X.A X.env xe → ∃ t, DSs (X.tr pn xe) E' c ω body t f ω' or)
    (hsu : ∀ (k : Str) (a : Addr) (oe : Obj) (pn : List (Addr × Obj)), k ∈ cs → PinE (X.suite a ((a, oe) :: pn)) a k → L2N.Zn (.ref (adr X.mg k)) none oe → (∃ vs, oe.data = .fields vs) → ∃ t g ω2, DSs (X.suite a ((a, oe) :: pn)) L2.E0 c ω (b₀ :: suite) t g ω2 or ∧ ∀ d, res k = .ok d → ∃ ρ' : Env, ρ'.length = n ∧ g (errEnv n i a k) = .ok (.rt d ρ'))
    (hS : ∃ D, X.mg S = some (.ref D)) (hi : X.N[i]? = some y := by rfl) (hln : X.env.kindOf y = some .local := by rfl) (hs : X.stack = X.env :: X.outer := by rfl) (hf : X.env.frame = some X.env.locals := by rfl) (hg : Gl X S := by rfl) (hd : (S == ("__debug__" : Str)) = false := by decide)
    (hn : X.N.length = n := by rfl) (hω : ω.length = n := by rfl) (hz : ω.all O.isFz = true := by rfl) (hW : (List.range n).all c.W.contains = true := by decide) (hio : c.io = [] := by rfl) (hex : ∀ k e, res k ≠ .exc e := by intros; simp) :
    DS X E c ω (.Try body [.ExceptHandler (some (.Name S np)) (some y) (b₀ :: suite) pos'] [] [] pos) (fun D σ H => tbAll X body (wAs X.K (.ref (adr X.mg S)) i (tsAll X (b₀ :: suite)) (fun _ _ _ _ => False) D) D σ H) (sTry n cs res f) ω' or := by
  obtain ⟨DS0, hS⟩ := hS
  have eS := adr_of hS
  refine ⟨L2N.ps_try_as hs hf hN hi hln ⟨hg, hd, .inl (by rw [eS]; exact hS)⟩ takesN0 (fun W pn xe tk px => ⟨fun pins s σ H D I h => ?_⟩) (fun a oe cls d pn hz hf => ⟨fun pins s σ H D I h => ?_⟩), fun σ ρ F H As Dd St p pn xe tk px => ?_⟩
  · obtain ⟨t, h1, h2⟩ := h pn xe tk px
    exact h1.run pins s σ H D I h2
  · obtain ⟨t, h1, h2⟩ := h oe pn hz hf
    exact h1.run pins s σ H D I h2
  · have hA : As.flatten = [] := sl_flat hz St.sl
    obtain ⟨t, B⟩ := hb (fun cls d H => ∀ σ' : L2.St, σ'.length = n → wAs X.K (.ref (adr X.mg S)) i (tsAll X (b₀ :: suite)) (fun _ _ _ _ => False) Dd cls d σ' H) pn xe
      (fun pins σ H s e s' I z => tk e s' (L2N.XE.of_call I (fun cls d H' h => h σ (I.len.trans hn)) z)) px
    refine ⟨t, B.pss, B.sem σ ρ F H As Dd St ?_⟩
    unfold sTry at p
    cases hq : f ρ with
    | no => rw [hq] at p; exact p
    | ok fl =>
      rw [hq] at p
      cases fl with
      | nx ρ' => exact p
      | rt d ρ' => exact p
    | exc k =>
      rw [hq] at p
      dsimp only at p
      by_cases hk : k ∈ cs
      · rw [if_pos hk] at p
        obtain ⟨C, D0, h1, h2, h3⟩ := (hcs k hk).ex
        cases hr : res k with
        | exc e => exact absurd hr (hex k e)
        | no => rw [hr] at p; exact p.elim
        | ok d =>
          rw [hr, ok_bind] at p
          intro H' hH σ' hl
          rw [hA] at hH p
          have e1 : clsOf X.mg k = .ref C := by rw [cls_of h1, adr_of h1]
          refine ⟨true, by rw [e1, adr_of h2]; exact h3, fun _ a na oe pn2 hzn hff => ?_, fun z => by cases z⟩
          obtain ⟨t2, g, ω2, B2, hg2⟩ := hsu k a oe pn2 hk ⟨oe, List.mem_cons_self, by rw [cls_of h1] at hzn; exact hzn, hff⟩ (by rw [cls_of h1] at hzn; exact hzn) hff
          obtain ⟨ρ', hρn, hρ⟩ := hg2 d hr
          have eF : Same F H' := fun x u hx => hH x u (St.ex x u hx) (by simp)
          have S2 : Stt X.K ω (errEnv n i a k) (σ'.set i (some (.ref a))) F H' (List.replicate n []) := ⟨eF, by
            have hfz : ω[i]? = some .fz := by
              have hlt : i < ω.length := by
                rw [hω, ← hn]
                exact (List.getElem?_eq_some_iff.mp hi).1
              rw [List.getElem?_eq_getElem hlt]
              have := List.all_eq_true.mp hz _ (List.getElem_mem hlt)
              cases ho : ω[i] with
              | fz => rfl
              | own o => rw [ho] at this; exact absurd this (by simp [O.isFz])
              | tup os => rw [ho] at this; exact absurd this (by simp [O.isFz])
            have q := sl_err (K := X.K) (F := F) (H := H') (a := a) (c := k) (ω := ω) (σ := σ') (i := i) (by rw [hl, hω]) hfz
            rw [hω] at q
            exact q, by rw [flat_nils]; exact List.nodup_nil⟩
          refine ⟨t2, B2.pss, B2.sem _ _ F H' _ _ S2 ?_⟩
          rw [hρ, flat_nils]
          intro v σ3 F3 H3 B3 As3 w3 r3 n3 ap3 S3 io3 g3
          have l3 : σ3.length = n := by
            have q := S3.sl.lens
            omega
          refine p v σ3 F3 H3 B3 (List.replicate n []) ω r3 n3 (fun x _ hx => by rw [flat_nils] at hx; simp at hx) ⟨S3.ex, by
            have q := sl_nones (K := X.K) (F := F3) (H := H3) (ω := ω) (σ := σ3) (by rw [l3, hω])
            rw [hω] at q
            exact q, by rw [flat_nils]; exact List.nodup_nil⟩ (by rw [hio]; rfl) ⟨?_, fun j hj => ?_⟩
          · have g0 : GrowA [] F H F H' [] := ⟨Same.refl _, eF, fun x o q h => hH x o q h, fun x q => by
              cases hx : H x with
              | none => exact absurd hx q
              | some u => rw [hH x u hx (by simp)]; simp, fun x q1 _ _ => q1, fun x h => by simp at h⟩
            rw [flat_nils, List.append_nil]
            exact (g0.trans g3.g).sub fun x hx => List.mem_append_left _ hx
          · have hjn : n ≤ j := by
              rcases Nat.lt_or_ge j n with h4 | h4
              · exact absurd (List.contains_iff_mem.mp (List.all_eq_true.mp hW j (List.mem_range.mpr h4))) hj
              · exact h4
            rw [List.getElem?_eq_none (by omega), List.getElem?_eq_none (by rw [St.sl.lens.2.1, hω]; exact hjn)]
      · rw [if_neg hk] at p
        exact p.elim
end
end Dn

/-! list.count of flat items; a def that is handed the exception within an except suite. -/
namespace Dn
open PySem L2 PyProof.Rows
def rCntF (K : PySem.W.Frag) : V → List V → Hp → VK → Prop := fun x xs H Q => ∃ (a : Addr) (ys : List V) (y : V), x = .ref a ∧ xs = [y] ∧ SqL K H a ys ∧ flatV y = true ∧ ys.all flatV = true ∧ Q (.int (ys.countP fun z => eqV z y : Nat)) H
theorem cnt_vals {y : V} : ∀ {vs : List V} {us : List Value}, Vals vs us → vs.all flatV = true → us.countP (eqU y) = vs.countP fun z => eqV z y
  | _, _, .nil, _ => rfl
  | _, _, .cons r rr, h => by
    rw [List.all_cons, Bool.and_eq_true] at h
    rw [List.countP_cons, List.countP_cons, cnt_vals rr h.2, eqU_of r h.1]
theorem mt_countF {X : Cx} : MtR X "list.count" (rCntF X.K) := by
  intro pins s σ H x xs v us Q I rx rxs h
  obtain ⟨a, ys, y, rfl, rfl, hs, fy, fys, q⟩ := h
  cases rx
  obtain ⟨uy, rfl, ry⟩ := rxs.one
  obtain ⟨its, rv, ⟨⟨cls, dd, data, sl⟩, n, ho, hc, hdn, hd⟩, hlen⟩ := I.list hs
  simp only at hc hd
  subst hc hd
  refine call_meets PySem.F.slot_list_count ⟨_, ho, rfl⟩ PySem.F.entry_list_count (PySem.F.args_list_count_2 _ _)
    (SeqAt.list_countAt a its.toArray n dd sl uy (eqU y)) ⟨ho, fun u' hu' => mem_eqAt ry fy rv fys u' (by simpa using hu'), ?_⟩
  have ec : its.toArray.toList.countP (eqU y) = ys.countP fun z => eqV z y := cnt_vals rv fys
  refine ⟨.int (ys.countP fun z => eqV z y : Nat), H, I.tok _, ⟨s.toks, ?_⟩, q⟩
  show Value.int ((its.toArray.toList.countP (eqU y) : Nat) : Int) s.toks = _
  rw [ec]
def countF (d y : D) : R D := match d with
  | .lst ds => if (flatD y && ds.all flatD) = true then .ok (.int (ds.countP (fun d => eqV (toV d) (toV y)) : Nat)) else .no
  | _ => .no
def eCountF (fa fe : Env → R D) (ρ : Env) : R D := fa ρ >>= fun d => match d with
  | .lst ds => fe ρ >>= countF (.lst ds)
  | _ => .no
section
variable {X : Cx} {E : XK} {ω : List O} {e a : Expr} {te ta : TE} {fe fa : Env → R D} {cpos apos : Pos}
theorem de_countF (ha : DE X E ω a ta fa .fz []) (he : DE X E ω e te fe .fz []) (hbase : attributeBase a "count" X.env (eval a X.env) = eval a X.env := by rfl)
    (hfew : ((backTo cpos (starEach [e] X.env)).all (fun x => !x.1) && (backToKw cpos (keywordEach [] X.env)).all (fun x => x.1.isSome) && decide ([e].length + ([] : List Keyword).length + (if ([] : List Keyword).isEmpty then 0 else 1) < 30)) = true := by rfl) (hline : (apos.endLine == cpos.line) = true := by rfl)
    (hst : starEach (e :: []) X.env = (false, eval e X.env) :: starEach [] X.env := by rfl) (hpl : (backTo cpos (starEach [] X.env)).any (·.1) = false := by rfl) :
    DE X E ω (.Call (.Attribute a "count" apos) [e] [] cpos) (tBM X.K "list" (rCntF X.K) ta (tCons te tNil)) (eCountF fa fe) .fz [] :=
  ⟨pe_bm PySem.F.plainAttrs_list PySem.F.slot_list_count PySem.F.type_list_count mt_countF ha.pe (pa_cons he.pe pa_nil hst) hbase hfew hline hst hpl, fun σ ρ F H As Q S p => by
    refine ha.sem.then S p fun d v F1 H1 B g S1 r _ _ p1 => ?_
    have ty : ∀ ds, d = .lst ds → tyV X.K "list" v H1 := fun ds e => by
      subst e
      obtain ⟨a, vs, rfl, h1, _⟩ := r.1
      exact .inl ⟨rfl, vs, .of (S1.ex _ _ h1)⟩
    by_cases hd : ∃ ds, d = .lst ds
    · obtain ⟨ds, rfl⟩ := hd
      refine ⟨ty ds rfl, ?_⟩
      refine he.sem.then S1 p1 fun y w F2 H2 B2 g2 S2 r2 _ _ p2 => ?_
      obtain ⟨a, vs, rfl, h1, h2⟩ := r.1
      have p3 : Pst X.mg E X.K .fz As [] F2 H2 Q (if (flatD y && ds.all flatD) = true then .ok (.int (ds.countP (fun d => eqV (toV d) (toV y)) : Nat)) else .no) := p2
      by_cases hf : (flatD y && ds.all flatD) = true
      · rw [if_pos hf] at p3
        rw [Bool.and_eq_true] at hf
        obtain ⟨e1, e2⟩ := rep_flat hf.1 r2.1
        obtain ⟨e3, e4⟩ := reps_flat hf.2 (Reps.mono g2.ff ds vs h2)
        refine ⟨a, vs, w, rfl, rfl, .of (S2.ex _ _ (g2.ff _ _ h1)), e2, e4, ?_⟩
        rw [e3, e1, List.countP_map]
        exact p3.fin S2.ex rfl
      · rw [if_neg hf] at p3
        exact p3.elim
    · cases d <;> first | exact (hd ⟨_, rfl⟩).elim | exact (show False from p1).elim⟩
end

/-! ### what a def gives of the exception that is handled -/
structure FnK (P : Program) (w : World) (K : PySem.W.Frag) (mg : Str → Option Value) (base : Heap) (k : Nat) (f : Addr) (fd : FuncData) (y : Str) (cs : List Str) (g : Str → R D) : Prop where
  run : ∀ (A : Around) (outer : List PySem.Env) (s : Shared) (H F : Hp) (Q : VK) (p : Addr × Obj) (c : Str), L2H.RoomH k A → L2H.Hot1 A p → L2H.PinOk outer H s p → Env0 P w K mg base A outer s H → BindsTo s fd ⟨[.ref p.1], []⟩ [(y, .ref p.1)] →
    c ∈ cs → L2N.Zn (.ref (adr mg c)) none p.2 → Same F H → Pst mg L2.E0 K .fz [] [] F H Q (g c) → codeAny (model P w) A (.call (.ref f) ⟨[.ref p.1], []⟩) (CR CX0 outer P w H s Q L2.E0) s
structure DFnK (P : Program) (w : World) (K : PySem.W.Frag) (mg : Str → Option Value) (base : Heap) (k : Nat) (x : Str) (cs : List Str) (g : Str → R D) : Prop where
  ex : ∃ f fd y, mg x = some (.ref f) ∧ PySem.W.keepIn K (.ref f) = true ∧ Binds K fd [y] [] ∧ FnK P w K mg base k f fd y cs g
theorem DFnK.mono {P : Program} {w : World} {K : PySem.W.Frag} {mg : Str → Option Value} {base : Heap} {j k : Nat} {x : Str} {cs : List Str} {g : Str → R D} (C : DFnK P w K mg base j x cs g) (h : j ≤ k) : DFnK P w K mg base k x cs g := by
  obtain ⟨f, fd, y, h1, h2, h3, h4⟩ := C.ex
  exact ⟨⟨f, fd, y, h1, h2, h3, ⟨fun A outer s H F Q p c hr => h4.run A outer s H F Q p c (hr.mono h)⟩⟩⟩
section
variable {P : Program} {w : World} {K : PySem.W.Frag} {mg : Str → Option Value} {base : Heap} {x y : Str} {st : Stmt} {N : List Str} {k : Nat} {ωl : List O} {W : List Nat} {cs : List Str} {g : Str → R D}
theorem dfnk_ok (h : Has K mg x st [y]) (S : FnScope N [y] (defScope st)) (hl : 1 + ωl.length = N.length)
    (hbody : ∀ (f : Addr) (cdv : Value) (A : Around) (outer : List PySem.Env) (s : Shared) (H : Hp) (E : XK) (p : Addr × Obj) (c : Str), L2H.RoomH k (A.deeper (envOfC x (defScope st) s.heap.objs.size f cdv)) → c ∈ cs → PinE (L2H.cxH CX0 P w K mg base N x (defScope st) f cdv A outer s H E p).nox p.1 c →
      ∃ t fb ω', DSs (L2H.cxH CX0 P w K mg base N x (defScope st) f cdv A outer s H E p).nox L2.E0 ⟨W, []⟩ (.fz :: ωl) (defBody st) t fb ω' .fz ∧ ∀ d, g c = .ok d → ∃ ρ', fb (errEnv N.length 0 p.1 c) = .ok (.rt d ρ'))
    (hex : ∀ c e, g c ≠ .exc e) : DFnK P w K mg base (k + 1) x cs g := by
  obtain ⟨f, fd, h1, h2, h3, h4⟩ := h
  refine ⟨⟨f, fd, y, h1, h2, h3, ⟨fun A outer s H F Q p c hr hot hpin e0 hb hc hz hF pst => ?_⟩⟩⟩
  obtain ⟨_, _, _, _, _, _, cdv, _, _, rfl, lk, hcd⟩ := h4.ex
  have kin : K.In s.heap := e0.mod.kin.keeps fun b o z => (e0.bs b o z).1
  have nol : s.heap.NoLimit := e0.mod.nolimit.keeps fun b o z => (e0.bs b o z).1
  have kinds : ∀ z ∈ [(y, Value.ref p.1)], (defScope st).names.lookup z.1 = some .local ∨ ((defScope st).names.lookup z.1 = some .cell ∧ ((cellsFrom (s.heap.objs.size + 1) (defScope st).names []).lookup z.1).isSome = true) := fun z hz => by
    obtain rfl := List.mem_singleton.mp hz
    exact (S.par y (by simp)).imp id fun q => ⟨q, PySem.W.cellsFrom_some _ _ _ (.inl q)⟩
  refine codeAny_call_function hr.depth (kin _ _ lk) rfl S.co S.gen rfl (PySem.W.codeRec_of kin hcd) (hb _ _ _ _ ?_)
  refine wpAny_newFunctionEnv_cells S.kind kinds fun env he s1 xc => ?_
  subst he
  refine ⟨nol.keeps xc.toInCall.keep, codeAny_func ?_⟩
  obtain ⟨vs0, hvs0⟩ := hot.2
  obtain ⟨t, fb, ω', B, hfb⟩ := hbody f cdv A outer s H L2.E0 p c (hr.deeper _) hc ⟨p.2, List.mem_singleton.mpr rfl, hz, vs0, hvs0.1⟩
  have I : Inv (L2H.cxH CX0 P w K mg base N x (defScope st) f cdv A outer s H L2.E0 p) [] (L2.start N [.ref p.1]) H s1 := L2H.inv_startH S hpin e0 rfl (.cons rfl .nil) xc
  have S0 : Stt K (.fz :: ωl) (errEnv N.length 0 p.1 c) (L2.start N [.ref p.1]) F H (List.replicate N.length []) := by
    refine ⟨hF, ?_, by rw [flat_nils]; exact List.nodup_nil⟩
    have hNl : N.length = (O.fz :: ωl).length := by rw [← hl, List.length_cons]; omega
    have q := sl_err (K := K) (F := F) (H := H) (a := p.1) (c := c) (ω := .fz :: ωl) (σ := none :: List.replicate ωl.length none) (i := 0) (by simp) rfl
    rw [← hNl] at q
    have e2 : L2.start N [.ref p.1] = (none :: List.replicate ωl.length none).set 0 (some (.ref p.1)) := by
      unfold L2.start
      rw [← hl]
      simp [Nat.add_sub_cancel_left]
    rw [e2]
    exact q
  have tq : t { nx := fun _ H' => Q .non H', rt := Q } (L2.start N [.ref p.1]) H := by
    refine B.sem _ _ F H _ _ S0 ?_
    rw [flat_nils]
    cases hg : g c with
    | exc e => exact absurd hg (hex c e)
    | no => rw [hg] at pst; exact pst.elim
    | ok d =>
      rw [hg] at pst
      obtain ⟨ρ', hρ⟩ := hfb d hg
      rw [hρ]
      exact fun v σ' F' H' B As' w r n ap S i g => pst v F' H' B g.g.grow r (fun x hx => .inl ((g.g.new x (List.mem_append_left _ hx)).resolve_left (by simp))) n
  refine wpAny_mono (B.pss.nox.run [] s1 _ H _ I tq) (fun fl s' hs => ?_) fun e s' hs => hs
  have fin : ∀ {σ' : L2.St} {H' : Hp} {v : V} {u : Value}, Inv (L2H.cxH CX0 P w K mg base N x (defScope st) f cdv A outer s H L2.E0 p) [] σ' H' s' → RelV v u → Q v H' → CE outer P w H s Q u s' := fun {σ' H' v u} J rv q => ⟨v, H', J.os, J.bare, J.base, J.hok, rv, q⟩
  cases fl with
  | ret u =>
    obtain ⟨v, σ', H', J, rv, q⟩ := hs
    exact fin J rv q
  | next =>
    obtain ⟨σ', H', J, q⟩ := hs
    exact fin (v := V.non) (u := Value.none) J rfl q
  | brk => obtain ⟨_, _, _, q⟩ := hs; exact q.elim
  | cont => obtain ⟨_, _, _, q⟩ := hs; exact q.elim
end

/-! ### its call -/
section
variable {X : Cx} {ω : List O} {k i : Nat} {a : Addr} {oe : Obj} {pn : List (Addr × Obj)} {c x y : Str} {cs : List Str} {g : Str → R D} {p1 p2 pos : Pos}
def errIs (a : Addr) (c : Str) (r : R D) : D → R D
  | .err a' c' => if a' = a ∧ c' = c then r else .no
  | _ => .no
def eKind (a : Addr) (c : Str) (g : Str → R D) (i : Nat) (ρ : Env) : R D := eVar i ρ >>= errIs a c (g c)
def tKind (X : Cx) (a : Addr) (c : Str) (g : Str → R D) (i : Nat) : TE := fun σ H Q => σ[i]? = some (some (.ref a)) ∧ ∃ F, Same F H ∧ Pst X.mg L2.E0 X.K .fz [] [] F H Q (g c)
theorem de_kind (C : DFnK X.prog X.w X.K X.mg X.base k x cs g) (hr : Room k X.A) (hc : c ∈ cs) (hp : PinE (X.suite a ((a, oe) :: pn)) a c) (hz : L2N.Zn (.ref (adr X.mg c)) none oe) (hf : ∃ vs, oe.data = .fields vs)
    (h : ω[i]? = some .fz := by rfl) (hN : X.N[i]? = some y := by rfl) (hv : Vis X.env.scope y := by first | exact Or.inl rfl | exact Or.inr (Or.inl rfl) | exact Or.inr (Or.inr rfl)) (hd : (y == ("__debug__" : Str)) = false := by decide)
    (hcd : (y == ("__classdict__" : Str)) = false := by decide) (hg : Gl X x := by rfl) (hdb : (x == ("__debug__" : Str)) = false := by decide) (he : starEach [.Name y p1] (X.suite a ((a, oe) :: pn)).env = (false, eval (.Name y p1) (X.suite a ((a, oe) :: pn)).env) :: starEach [] (X.suite a ((a, oe) :: pn)).env := by rfl)
    (hpl : (backTo pos (starEach [] (X.suite a ((a, oe) :: pn)).env)).any (·.1) = false := by rfl) :
    DE (X.suite a ((a, oe) :: pn)) L2.E0 ω (.Call (.Name x p2) [.Name y p1] [] pos) (tKind X a c g i) (eKind a c g i) .fz [] := by
  obtain ⟨f, fd, y0, h1, h2, h3, h4⟩ := C.ex
  refine ⟨⟨fun pins s σ H Q I hq => ?_⟩, fun σ ρ F H As Q S p => ?_⟩
  · obtain ⟨hs, F, hF, pst⟩ := hq
    refine wpAny_Call_Name_kw (ld_glob I hg h1 ?_ hdb)
    have ha : PA (X.suite a ((a, oe) :: pn)) [.Name y p1] (tCons (tVar i) tNil) := pa_cons (pe_var hN hv hd hcd) pa_nil he
    refine PySem.W.callWith_K (h₀ := X.base) I.ok.mod.kin h2 (thn (ha.run pos pins s σ H (fun vs H1 => vs = [V.ref a] ∧ H1 = H) I ⟨.ref a, hs, rfl, rfl⟩) fun us s1 ⟨vs, H1, I1, r, ev, eH⟩ => ⟨I1.kIn, ?_⟩) he hpl
    subst ev
    subst eH
    obtain ⟨u, rfl, ru⟩ := vals1 r
    cases (show u = Value.ref a from ru)
    have P1 := I1.pin (a, oe) (List.mem_append_left _ List.mem_cons_self)
    have hpin : L2H.PinOk X.stack H1 s1 (a, oe) := ⟨P1.1, P1.2.1, fun hm => (List.mem_cons.mp (I1.stkSub a hm)).elim P1.2.2.1 P1.2.2.2.1, P1.2.2.2.2⟩
    have hb := h3 s1 [.ref a] I1.kIn rfl
    rw [List.append_nil] at hb
    obtain ⟨vs0, hvs0⟩ := hf
    refine wpAny_call (codeAny_mono (h4.run _ X.stack s1 H1 F Q (a, oe) c ⟨hr.dp, hr.un⟩ ⟨rfl, vs0, hvs0, hz.2.2 vs0 hvs0⟩ hpin I1.env0 hb hc hz hF pst) fun r s' hq => ?_)
    cases r with
    | error e => exact hq.elim
    | ok fl =>
      cases fl with
      | ret u => exact I1.after hq
      | next => exact hq.elim
      | brk => exact hq.elim
      | cont => exact hq.elim
  · unfold eKind at p
    cases hq : eVar i ρ with
    | exc e => rw [hq] at p; unfold eVar at hq; split at hq <;> cases hq
    | no => rw [hq] at p; exact p.elim
    | ok d =>
      rw [hq, ok_bind] at p
      unfold errIs at p
      split at p
      · rename_i a' c'
        split at p
        · rename_i hh
          obtain ⟨rfl, rfl⟩ := hh
          unfold eVar at hq
          split at hq
          · rename_i d' hd'
            cases hq
            obtain ⟨v, B, q1, q2, q3⟩ := S.sl.get h hd'
            rw [show v = V.ref a' from q3.1] at q1
            refine ⟨q1, F, S.ex, ?_⟩
            cases hgc : g c' with
            | ok d => rw [hgc] at p; exact fun v F' H' B g r b n => p v F' H' B g r (fun x hx => (b x hx).imp id fun z => z.nil.elim) n
            | exc e => rw [hgc] at p; exact p
            | no => rw [hgc] at p; exact p
          · cases hq
        · exact p.elim
      · exact p.elim
end
end Dn
namespace Dn
open PySem L2 PyProof.Rows
section
variable {X : Cx} {E : XK} {c : Cfg} {ω : List O} {or o : O} {e : Expr} {te : TE} {fe : Env → R D} {pos : Pos}
/-- nothing that a callee might raise is let out where it raises nothing -/
theorem passA {X : Cx} {E : XK} : Passes CX0 X E := fun _ _ _ _ _ _ _ h => h.elim
theorem passN {X : Cx} : Passes (L2N.CX X.prog X.w) X L2.E0 := fun _ _ _ _ _ _ _ h => by
  obtain ⟨_, _, _, _, _, _, _, _, _, _, _, _, z⟩ := h
  exact z.elim
def sExpr (fe : Env → R D) (ρ : Env) : R Fl := fe ρ >>= fun _ => .ok (.nx ρ)
theorem ds_expr (he : DE X E ω e te fe o []) (hs : swapsWith e none pos.line X.env = pure false := by rfl) : DS X E c ω (.Expr e pos) (tDrop te) (sExpr fe) ω or :=
  ⟨ps_expr he.pe hs, fun σ ρ F H As Dd S p => by
    refine he.sem σ ρ F H As _ S ?_
    unfold sExpr at p
    cases hf : fe ρ with
    | exc k => rw [hf] at p; exact fun H' q => p H' fun x o h1 _ => q x o h1
    | no => rw [hf] at p; exact p
    | ok d =>
      rw [hf] at p
      exact fun v F' H' B g r b n => p σ F' H' As (S.grow g) (.same (GrowA.of g fun x h => .inl h))⟩
end
end Dn
namespace Dn
open PySem L2 PyProof.Rows
theorem boot_ValueError : bootBuiltins "ValueError" = some (.type "ValueError") := by decide +kernel
theorem isErr_self (a : Addr) (c : Str) (b : Bool) : isErr a c b (.err a c) = .ok (.bl b) := by simp [isErr]
/-! ### isinstance(e, (A, B, ..)) -/
def isSub (c x : Str) : Bool := decide (c = x) || decide (x = "SleepError")
structure ClsL (X : Cx) (es : List Expr) (tas : TA) (xs : List Str) : Prop where
  pa : PA X es tas
  go : ∀ σ H (Q : List V → Hp → Prop), Q (xs.map fun x => .ref (adr X.mg x)) H → tas σ H Q
section
variable {X : Cx} {E : XK} {ω : List O} {a : Addr} {c x y : Str} {es : List Expr} {tas : TA} {xs : List Str}
theorem cl_nil : ClsL X [] tNil [] := ⟨pa_nil, fun _ _ _ q => q⟩
theorem cl_cons {pos : Pos} (C : ClsC X.K X.mg x) (h : ClsL X es tas xs) (hg : Gl X x := by rfl) (hd : (x == ("__debug__" : Str)) = false := by decide) (hs : starEach (.Name x pos :: es) X.env = (false, eval (.Name x pos) X.env) :: starEach es X.env := by rfl) :
    ClsL X (.Name x pos :: es) (tCons (tC (.ref (adr X.mg x))) tas) (x :: xs) := by
  obtain ⟨C0, h1, _⟩ := C.ex
  exact ⟨pa_cons (pe_glob hg h1 (by rw [adr_of h1]; rfl) hd) h.pa hs, fun σ H Q q => h.go σ H _ q⟩
theorem kitL {K : PySem.W.Frag} {mg : Str → Option Value} {C : Addr} (hC : mg c = some (.ref C)) : ∀ {xs : List Str}, (∀ x ∈ xs, IsC K mg c x (isSub c x)) → PySem.W.kitAny K (.ref C) (xs.map fun x => .ref (adr mg x)) = some (xs.any (isSub c))
  | [], _ => kitAny_nil
  | x :: xs, h => by
    obtain ⟨C1, D1, h1, h2, h3⟩ := (h x List.mem_cons_self).ex
    cases hC.symm.trans h1
    have ih := kitL hC (xs := xs) fun z hz => h z (List.mem_cons_of_mem _ hz)
    rw [List.map_cons, List.any_cons]
    refine kitAny_cons (by rw [adr_of h2]; exact h3) (fun e => ?_) fun e => ?_
    · rw [ih, e]; rfl
    · rw [e]; rfl
theorem paired_cls {mg : Str → Option Value} : ∀ xs : List Str, Paired ClsV (xs.map fun x => V.ref (adr mg x)) (xs.map fun x => Value.ref (adr mg x))
  | [] => .nil
  | x :: xs => .cons (.own _) (paired_cls xs)
theorem de_isT {i : Nat} {kt : Nat} {pos p1 p2 p3 : Pos} (hp : PinE X a c) (C : ClsC X.K X.mg c) (T : ∀ x ∈ xs, IsC X.K X.mg c x (isSub c x)) (hm : X.mg "isinstance" = none) (hl : ClsL X es tas xs) (hlen : xs.length ≤ 1000 := by decide) (h : ω[i]? = some .fz := by rfl) (hN : X.N[i]? = some y := by rfl) (hv : Vis X.env.scope y := by first | exact Or.inl rfl | exact Or.inr (Or.inl rfl) | exact Or.inr (Or.inr rfl)) (hd : (y == ("__debug__" : Str)) = false := by decide)
    (hcd : (y == ("__classdict__" : Str)) = false := by decide) (hg : Gl X "isinstance" := by rfl)
    (hs : starEach [.Name y p1, .Tuple es kt p2] X.env = (false, eval (.Name y p1) X.env) :: starEach [.Tuple es kt p2] X.env := by rfl) (hs2 : starEach [.Tuple es kt p2] X.env = (false, eval (.Tuple es kt p2) X.env) :: starEach [] X.env := by rfl) (hpl : (backTo pos (starEach [.Tuple es kt p2] X.env)).any (·.1) = false := by rfl) :
    DE X E ω (.Call (.Name "isinstance" p3) [.Name y p1, .Tuple es kt p2] [] pos) (tCB (rIsAtT X.K (adr X.mg c) a) (tCons (tVar i) (tCons (tTup tas) tNil))) (eUn (isErr a c (xs.any (isSub c))) (eVar i)) .fz [] := by
  obtain ⟨C0, h1, h2⟩ := C.ex
  have e1 := adr_of h1
  refine ⟨pe_callB (call_isAtT (by rw [e1]; exact h2) hp) hg hm boot_isinstance (pa_cons (pe_var hN hv hd hcd) (pa_cons (pe_tup hl.pa) pa_nil hs2) hs) (by decide) (by decide) hs hpl, fun σ ρ F H As Q S p => ?_⟩
  refine (sem_var (M := []) h (.inl rfl)).then (Q1 := fun v H1 => (tCons (tTup tas) tNil) σ H1 fun vs H2 => rIsAtT X.K (adr X.mg c) a (v :: vs) H2 Q) S p fun d v F1 H1 B g S1 r _ _ q => ?_
  cases hq : isErr a c (xs.any (isSub c)) d with
  | ok r0 =>
    obtain ⟨rfl, rfl⟩ := isErr_of hq
    rw [hq] at q
    refine hl.go σ H1 _ ⟨by rw [List.length_map, ← most_eq]; exact Nat.le_trans hlen (by decide), fun l hl => ?_⟩
    have g2 := Grow.new (u := .tup (xs.map fun x => .ref (adr X.mg x))) S1.ex hl
    refine ⟨l, xs.map (fun x => .ref (adr X.mg x)), xs.map (fun x => .ref (adr X.mg x)), _, ?_, upd_same, paired_cls xs, by rw [e1]; exact kitL h1 T, (Pst.grow g2 q).fin g2.fh rfl⟩
    rw [show v = V.ref a from r.1]
  | exc e => exact (isErr_nex hq).elim
  | no => rw [hq] at q; exact q.elim
end
section
variable {P : Program} {w : World} {K : PySem.W.Frag} {mg : Str → Option Value} {base : Heap} {x y : Str} {st : Stmt} {N ps : List Str} {k kk n : Nat} {fb : Env → R Fl} {ωp ωl : List O} {o : O} {W : List Nat} {ib : List Bool}
theorem dfn_okEA {b : Bool} {g : List D → R D} (h : HasA K mg x y st ps) (S : FnScope N ps (defScope st)) (hg : g = fnE b N.length fb) (hk : kk = k + 1) (hn : n = ps.length) (hp : ωp.length = ps.length) (hz : ωp.all O.isFz = true) (hl : ωp.length + ωl.length = N.length) (hbo : b = true → o = .fz)
    (hbody : ∀ (f : Addr) (cdv : Value) (A : Around) (outer : List PySem.Env) (s : Shared) (H : Hp) (E : XK), Room k (A.deeper (envOfC y (defScope st) s.heap.objs.size f cdv)) →
      ∃ t ω', DSs (cxOf (L2N.CX P w) P w K mg base N y (defScope st) f cdv A outer s H E) E ⟨W, []⟩ (ωp ++ ωl) (defBody st) t fb ω' o) : DFn P w K mg base (L2N.CX P w) kk x n g o := by
  obtain ⟨f, fd, h1, h2, h3, h4⟩ := h
  subst hg hk hn
  exact ⟨⟨f, fd, ps, h1, h2, h3, fn_okE (W := W) h4 S hp hz hl hbo (hbody f)⟩⟩
theorem xfn_okEA {g : List D → R (D × List D)} (h : HasA K mg x y st ps) (S : FnScope N ps (defScope st)) (hg : g = fnXE N.length (ioI 0 ib) fb) (hk : kk = k + 1) (hp : ib.length = ps.length) (hl : ib.length + ωl.length = N.length) (hW : ((ioI 0 ib).all fun i => !W.contains i) = true)
    (hbody : ∀ (f : Addr) (cdv : Value) (A : Around) (outer : List PySem.Env) (s : Shared) (H : Hp) (E : XK), Room k (A.deeper (envOfC y (defScope st) s.heap.objs.size f cdv)) →
      ∃ t ω', DSs (cxOf (L2N.CX P w) P w K mg base N y (defScope st) f cdv A outer s H E) E ⟨W, ioI 0 ib⟩ (ib.map oOf ++ ωl) (defBody st) t fb ω' o) : XFn P w K mg base (L2N.CX P w) kk x ib g o := by
  obtain ⟨f, fd, h1, h2, h3, h4⟩ := h
  subst hg hk
  exact ⟨⟨f, fd, ps, h1, h2, h3, fn_okXE (W := W) h4 S hp hl hW (hbody f)⟩⟩
end
/-! ### what the top tells of the classes -/
section
variable {K : PySem.W.Frag} {mg : Str → Option Value} {h : Heap} {c x : Str} {C D : Addr}
theorem err_mk (X : K.In h) (G : h.Ns mainGlobals mg) (a : PySem.W.nsIn K mainGlobals c = some (some (.ref C))) (e : PySem.W.excIn K C veMro "ValueError.__new__" = true) (kp : PySem.W.keepIn K (.ref C) = true) (sb : PySem.W.subIn K (.ref C) (.type "BaseException") = some true) (ty : PySem.W.typeIn K (.ref C) = some (.type "type")) : ErrC K mg c :=
  ⟨C, PySem.W.mg_of X G a, e, kp, sb, ty⟩
theorem cls_mk (X : K.In h) (G : h.Ns mainGlobals mg) (a : PySem.W.nsIn K mainGlobals c = some (some (.ref C))) (h1 : PySem.W.findIn K (.ref C) "__getattribute__" = some (some (.builtin "BaseException.__getattribute__"))) (h2 : PySem.W.findIn K (.ref C) "__getattr__" = some none) (h3 : PySem.W.subIn K (.ref C) (.type "BaseException") = some true)
    (h4 : PySem.W.hasDictIn K C = true) (h5 : PySem.W.findIn K (.ref C) "__class__" = some (some (.builtin "object.__class__"))) (h6 : PySem.W.specialIn K (.builtin "object.__class__") "__get__" = some (some (.builtin "getset_descriptor.__get__"))) (h7 : PySem.W.takesIn K (.builtin "object.__class__") = some true) (h8 : PySem.W.mroIn K C (.type "object") = some true) : ClsC K mg c :=
  ⟨C, PySem.W.mg_of X G a, ⟨h1, h2, h3, h4, h5, h6, h7, h8⟩⟩
theorem is_mk {b : Bool} (X : K.In h) (G : h.Ns mainGlobals mg) (a : PySem.W.nsIn K mainGlobals c = some (some (.ref C))) (a2 : PySem.W.nsIn K mainGlobals x = some (some (.ref D))) (e : PySem.W.kitOne K (.ref C) (.ref D) = some b) : IsC K mg c x b := ⟨C, D, PySem.W.mg_of X G a, PySem.W.mg_of X G a2, e⟩
theorem isb_mk {b : Bool} {T : String} (X : K.In h) (G : h.Ns mainGlobals mg) (a : PySem.W.nsIn K mainGlobals c = some (some (.ref C))) (e : PySem.W.kitOne K (.ref C) (.type T) = some b) : IsB K mg c T b := ⟨C, PySem.W.mg_of X G a, e⟩
theorem cat_mk (X : K.In h) (G : h.Ns mainGlobals mg) (a : PySem.W.nsIn K mainGlobals c = some (some (.ref C))) (a2 : PySem.W.nsIn K mainGlobals x = some (some (.ref D))) (h1 : PySem.W.subIn K (.ref D) (.type "BaseException") = some true) (h2 : PySem.W.hasDictIn K D = true) (h3 : PySem.W.typeIn K (.ref D) = some (.type "type")) (h4 : PySem.W.subIn K (.ref C) (.ref D) = some true) : CatC K mg c x :=
  ⟨C, D, PySem.W.mg_of X G a, PySem.W.mg_of X G a2, PySem.W.exm_ref h1 h2 h3 h4⟩
theorem hasCls (X : K.In h) (G : h.Ns mainGlobals mg) (a : PySem.W.nsIn K mainGlobals c = some (some (.ref C))) : ∃ D, mg c = some (.ref D) := ⟨C, PySem.W.mg_of X G a⟩
end
/-! ### within such a def: room is told otherwise -/
section
variable {X : Cx} {E : XK} {ω : List O} {a b : Expr} {ta tb : TE} {fa fb : Env → R D} {k : Nat} {pos : Pos}
theorem hu_H {A : Around} (hr : L2H.RoomH k A) : A.units + 64 < cLine := by have := hr.un; omega
theorem or_neH (hr : L2H.RoomH k X.A) : OpR X (compareOp .NotEq) (rNeA X.K) := (op_ne.or (op_neD (hu_H hr))).or (op_neDic (by have := hu_H hr; omega))
theorem or_eqH (hr : L2H.RoomH k X.A) : OpR X (compareOp .Eq) (rEqA X.K) := (op_eq.or (op_eqD (hu_H hr))).or (op_eqDic (by have := hu_H hr; omega))
theorem de_ixH (hr : L2H.RoomH k X.A) (ha : DE X E ω a ta fa .fz []) (hb : DE X E ω b tb fb .fz []) (hs : PlainIx b := by intro _ _; rfl) : DE X E ω (.Subscript a b pos) (tOp (rIxA X.K) ta tb) (eOp ixD fa fb) .fz [] :=
  ⟨pe_ix (ix_seq.or (ix_dict (by have := hu_H hr; omega))) ha.pe hb.pe hs, sem_op od_ix ha.sem hb.sem⟩
end
end Dn

/-! Expressions that change what names own, within others; for over a tuple of owned things. -/
namespace Dn
open PySem L2 PyProof.Rows
section
variable {mg : Str → Option Value} {E : XK} {K : PySem.W.Frag} {F H : Hp} {ω : List O} {ρ : Env} {σ : L2.St} {As : List (List Addr)} {o : O}
theorem PstX.val {Q : VK} {r : R D} (S : Stt K ω ρ σ F H As) (p : PstX mg E K ω o σ As.flatten F H Q (r >>= fun d => .ok (d, ρ))) : Pst mg E K o As [] F H Q r := by
  cases r with
  | ok d =>
    intro v F' H' B g rB hB nd
    have fresh : ∀ x ∈ B, H x = none := fun x hx => (hB x hx).resolve_right fun z => z.nil.elim
    refine p v F' H' As B (S.grow g) rB nd (fun x hx hf => (S.sl.mem hf).2 (fresh x hx)) (GrowA.of g fun x hx => ?_)
    rcases List.mem_append.mp hx with hx | hx
    · exact .inr (fresh x hx)
    · exact .inl hx
  | exc c => exact fun H' e => p H' fun x u h _ => e x u h
  | no => exact p
end
section
variable {X : Cx} {E : XK} {c : Cfg} {ω : List O} {a b e : Expr} {es : List Expr} {t : TS} {te ta tb : TE} {tas : TA} {f fa : Env → R (D × Env)} {fb : Env → R D} {fas : Env → R (List D × Env)} {o or : O} {r : R2} {g : D → D → R D} {pos : Pos} {x : Str} {ks : List (Option Nat)}
/-- what changes names, then what does not -/
def xOpL (g : D → D → R D) (fa : Env → R (D × Env)) (fb : Env → R D) (ρ : Env) : R (D × Env) := fa ρ >>= fun q => fb q.2 >>= fun y => g q.1 y >>= fun d => .ok (d, q.2)
def xOpR (g : D → D → R D) (fb : Env → R D) (fa : Env → R (D × Env)) (ρ : Env) : R (D × Env) := fb ρ >>= fun x => fa ρ >>= fun q => g x q.1 >>= fun d => .ok (d, q.2)
theorem sx_opL {mg : Str → Option Value} {K : PySem.W.Frag} (hd : OpD mg E K r g o) (ha : SemX mg E K ω ta fa .fz) (hb : Sem mg E K ω tb fb .fz []) : SemX mg E K ω (tOp r ta tb) (xOpL g fa fb) o := fun σ ρ F H As Q S p => by
  refine ha σ ρ F H As _ S ?_
  unfold xOpL at p
  cases hf : fa ρ with
  | exc k => rw [hf] at p; exact p
  | no => rw [hf] at p; exact p
  | ok q =>
    obtain ⟨d1, ρ1⟩ := q
    rw [hf, ok_bind] at p
    intro v F1 H1 As1 B S1 r1 n1 ap1 g1
    obtain ⟨r1, rfl⟩ := r1
    have p1 := PstX.grow g1 p
    refine hb σ ρ1 F1 H1 As1 _ S1 ?_
    dsimp only at p1
    cases hfb : fb ρ1 with
    | exc k => rw [hfb] at p1; exact fun H' z => p1 H' fun x u h _ => z x u h
    | no => rw [hfb] at p1; exact p1
    | ok d2 =>
      rw [hfb, ok_bind] at p1
      intro w F2 H2 B2 g2 r2 b2 n2
      have S2 := S1.grow g2
      exact hd F2 H2 As1 v w d1 d2 Q S2.ex (Rep.mono g2.ff d1 v r1) r2.1 (PstX.val S2 (PstX.growG g2 p1))
theorem sx_opR {mg : Str → Option Value} {K : PySem.W.Frag} (hd : OpD mg E K r g o) (hb : Sem mg E K ω tb fb .fz []) (ha : SemX mg E K ω ta fa .fz) : SemX mg E K ω (tOp r tb ta) (xOpR g fb fa) o := fun σ ρ F H As Q S p => by
  refine hb σ ρ F H As _ S ?_
  unfold xOpR at p
  cases hfb : fb ρ with
  | exc k => rw [hfb] at p; exact fun H' z => p H' fun x u h _ => z x u h
  | no => rw [hfb] at p; exact p
  | ok d1 =>
    rw [hfb, ok_bind] at p
    intro w F2 H2 B2 g2 r2 b2 n2
    have S2 := S.grow g2
    have p1 := PstX.growG g2 p
    refine ha σ ρ F2 H2 As _ S2 ?_
    cases hf : fa ρ with
    | exc k => rw [hf] at p1; exact p1
    | no => rw [hf] at p1; exact p1
    | ok q =>
      obtain ⟨d2, ρ1⟩ := q
      rw [hf, ok_bind] at p1
      intro v F1 H1 As1 B S1 r1 n1 ap1 g1
      obtain ⟨r1, rfl⟩ := r1
      have p3 := PstX.grow g1 p1
      exact hd F1 H1 As1 w v d1 d2 Q S1.ex (Rep.mono g1.ff d1 w r2.1) r1 (PstX.val S1 p3)
theorem dx_ix {k : Nat} (hr : Room k X.A) (ha : DX X E ω a ta fa .fz) (hb : DE X E ω b tb fb .fz []) (hs : PlainIx b := by intro _ _; rfl) : DX X E ω (.Subscript a b pos) (tOp (rIxA X.K) ta tb) (xOpL ixD fa fb) .fz :=
  ⟨pe_ix (ix_any hr) ha.pe hb.pe hs, sx_opL od_ix ha.sem hb.sem⟩
theorem dx_addR (hb : DE X E ω b tb fb .fz []) (ha : DX X E ω a ta fa .fz) : DX X E ω (.BinOp b .Add a pos) (tOp (rAddD X.K) tb ta) (xOpR addD fb fa) (.own .fz) :=
  ⟨pe_op or_add hb.pe ha.pe, sx_opR od_add hb.sem ha.sem⟩
/-- T(e), e changes names -/
def xCallB (g : List D → R D) (fas : Env → R (List D × Env)) (ρ : Env) : R (D × Env) := fas ρ >>= fun q => g q.1 >>= fun d => .ok (d, q.2)
theorem dx_callTy {T : String} {p : Pos} {rr : List V → Hp → VK → Prop} {gg : List D → R D} (hc : CallR X (.type T) rr) (hd : CallD X.mg E X.K rr gg o) (hm : X.mg x = none) (hv : bootBuiltins x = some (.type T)) (ha : DXA X E ω (e :: es) tas fas ks) (hk : (ks.all fun k => k.isNone) = true := by rfl)
    (hg : Gl X x := by rfl) (hn : x ≠ "__name__" := by decide) (hdb : (x == ("__debug__" : Str)) = false := by decide)
    (he : starEach (e :: es) X.env = (false, eval e X.env) :: starEach es X.env := by rfl) (hpl : (backTo pos (starEach es X.env)).any (·.1) = false := by rfl) : DX X E ω (.Call (.Name x p) (e :: es) [] pos) (tCB rr tas) (xCallB gg fas) o :=
  ⟨pe_callTy hc hg hm hv ha.pa hn hdb he hpl, fun σ ρ F H As Q S p => by
    refine ha.sem σ ρ F H As _ S ?_
    unfold xCallB at p
    cases hf : fas ρ with
    | exc k => rw [hf] at p; exact p
    | no => rw [hf] at p; exact p
    | ok q =>
      obtain ⟨ds, ρ1⟩ := q
      rw [hf, ok_bind] at p
      intro vs F1 H1 As1 S1 ar g1
      obtain ⟨rs, _⟩ := argR_reps hk ar
      exact hd F1 H1 As1 vs ds Q S1.ex rs (PstX.val S1 (PstX.grow g1 p))⟩
/-- a, b = what changes names -/
def sAsgGX (set : D → Env → R Env) (f : Env → R (D × Env)) (ρ : Env) : R Fl := f ρ >>= fun q => set q.1 q.2 >>= fun ρ' => .ok (.nx ρ')
theorem ds_asgGX {tg : Expr} {gt : TG} {set : D → Env → R Env} (he : DX X E ω e te f .fz) (hg : DG X E c.W ω tg gt set) (hs : swapsWithSole [tg] e pos.line X.env = pure false := by rfl) (hw : swappedStores [tg] e X.env = pure none := by rfl)
    (h1 : (assignEach [tg] X.env).map (·.2) = [assign tg X.env] := by rfl) : DS X E c ω (.Assign [tg] e pos) (tAsg te gt) (sAsgGX set f) ω or :=
  ⟨ps_asg he.pe hg.pg hs hw h1, fun σ ρ F H As Dd S p => by
    refine he.sem σ ρ F H As _ S ?_
    unfold sAsgGX at p
    cases hf : f ρ with
    | exc k => rw [hf] at p; exact p
    | no => rw [hf] at p; exact p
    | ok q =>
      obtain ⟨d, ρ1⟩ := q
      rw [hf, ok_bind] at p
      intro v F1 H1 As1 B S1 r1 n1 ap1 g1
      obtain ⟨r1, rfl⟩ := r1
      rw [List.nil_append] at g1
      refine hg.sem σ ρ1 F1 H1 As1 d v _ S1 r1 ?_
      dsimp only at p
      cases hq : set d ρ1 with
      | ok ρ' =>
        rw [hq] at p
        exact fun σ' S' ag => p σ' F1 H1 As1 S' ⟨g1, ag⟩
      | exc k => exact absurd hq (hg.nex d ρ1 k)
      | no => rw [hq] at p; exact p⟩
end

/-! ### for x in (a, b, ..): owned things, one by one -/
theorem repT_mem {K : PySem.W.Frag} {F H : Hp} {os : List O} {ds : List D} {vs : List V} {B : List Addr} (r : RepT K F H os ds vs B) {x : Addr} (hx : x ∈ B) : F x = none ∧ H x ≠ none := RepT.mem os ds vs B r hx
def sForO (M : List Nat) (i : Nat) (fi : Env → R D) (body : Env → R Fl) (ρ : Env) : R Fl := fi ρ >>= fun d => match d with
  | .tup ds => forD (setN i) body ds (hideE ρ M)
  | _ => .no
section
variable {X : Cx} {E : XK} {c : Cfg} {ω : List O} {iter : Expr} {ti : TE} {t : TS} {f : Env → R Fl} {fi : Env → R D} {body : List Stmt} {o or : O} {os : List O} {M : List Nat} {i : Nat} {pos pos' : Pos} {y : Str}
theorem ds_forO (hp : PassesOwn (model X.prog X.w) X.A X.env X.xe) (hc : X.calm = true) (hN : X.N.Nodup) (hi : DE X E ω iter ti fi (.tup os) M) (hos : ∀ o' ∈ os, o' = o) (hb : DSs X E c ω body t f ω or) (hω : ω[i]? = some o := by rfl) (hy : X.N[i]? = some y := by rfl) (hyl : Loc X.env.scope y := by first | exact Or.inl rfl | exact Or.inr rfl)
    (hW : c.W.contains i = true := by rfl) (hs : ∀ x, foldedSetIterable iter X.env x = pure x := by intro _; rfl) (hf : X.fn y = true ∨ X.env.scope.names.lookup y = some .local := by first | exact .inl rfl | exact .inr rfl) :
    DS X E c ω (.For (.Name y pos') iter body [] pos) (tFor (iAny X.K ti) (gName i) t) (sForO M i fi f) ω or :=
  ⟨ps_for hp hc (pi_any hi.pe) (pg_name hN hy hyl hf) hb.pss hs, fun σ ρ F H As Dd S p => by
    refine hi.sem σ ρ F H As _ S ?_
    unfold sForO at p
    cases hfi : fi ρ with
    | exc k => rw [hfi] at p; exact fun H' z => p H' fun x u h _ => z x u h
    | no => rw [hfi] at p; exact p
    | ok d =>
      rw [hfi, ok_bind] at p
      intro v F1 H1 B g1 r bB nB
      obtain ⟨ds, l, vs, rfl, rfl, hl, rT⟩ := r
      have p : PstS X.mg E X.K c ω or σ As.flatten F H Dd (forD (setN i) f ds (hideE ρ M)) := p
      have S1 := S.grow g1
      have S2 : Stt X.K ω (hideE ρ M) σ F1 H1 (emptied As M) := ⟨g1.fh, S1.sl.hides M, emptied_nd S.nd M⟩
      have sub : ∀ x ∈ (emptied As M).flatten, x ∈ As.flatten := fun x hx => by
        obtain ⟨C, hC, hx'⟩ := List.mem_flatten.mp hx
        obtain ⟨j, hj⟩ := List.getElem?_of_mem hC
        exact List.mem_flatten.mpr ⟨C, List.mem_of_getElem? (emptied_get hj hx').2, hx'⟩
      have apB : ∀ x ∈ B, x ∉ (emptied As M).flatten := fun x hx hf => by
        obtain ⟨C, hC, hx'⟩ := List.mem_flatten.mp hf
        obtain ⟨j, hj⟩ := List.getElem?_of_mem hC
        obtain ⟨h4, h5⟩ := emptied_get hj hx'
        rcases bB x hx with q | ⟨m, hm, C', hC', xC⟩
        · exact (S.sl.mem (sub x hf)).2 q
        · have := flat_apart S.nd hC' h5 xC hx'
          subst this
          exact h4 hm
      have hlen := repT_len rT
      have ga : GrowA As.flatten F H F1 H1 (B ++ (emptied As M).flatten) := GrowA.of g1 fun x hx => by
        rcases List.mem_append.mp hx with hx | hx
        · exact (bB x hx).elim (fun z => .inr z) fun z => .inl z.flat
        · exact .inl (sub x hx)
      refine .inr (.inl ⟨l, rfl, ⟨vs, .of (g1.fh _ _ hl)⟩, ?_⟩)
      -- the turns: what is to come is nobody's
      refine ⟨fun j m σ' H' => m = ds.length - j ∧ j ≤ ds.length ∧ ∃ ρ' F' As' Br, Stt X.K ω ρ' σ' F' H' As' ∧ RepT X.K F' H' (os.drop j) (ds.drop j) (vs.drop j) Br ∧ Br.Nodup ∧ (∀ x ∈ Br, x ∉ As'.flatten) ∧ Same F1 F' ∧ PstS X.mg E X.K c ω or σ' (Br ++ As'.flatten) F' H' Dd (forD (setN i) f (ds.drop j) ρ'),
        ⟨ds.length, rfl, Nat.zero_le _, hideE ρ M, F1, emptied As M, B, S2, rT, nB, apB, Same.refl _, by simpa using PstS.grow (.same ga) p⟩, ?_⟩
      rintro j m σ' H' ⟨rfl, hj, ρ', F', As', Br, S', rB, nBr, aBr, e1, p'⟩
      have exH : Same F1 H' := e1.trans S'.ex
      have hlv : vs.length = ds.length := by rw [hlen.1, hlen.2]
      have hlT : SqT X.K H' l vs := .of (exH _ _ hl)
      by_cases hlt : j < ds.length
      · refine .inr ⟨⟨vs, vs[j]'(by omega), hlT, List.getElem?_eq_getElem (by omega)⟩, fun σ2 H2 => ∃ ρ2 F2 As2 Br2, Stt X.K ω ρ2 σ2 F2 H2 As2 ∧ RepT X.K F2 H2 (os.drop (j + 1)) (ds.drop (j + 1)) (vs.drop (j + 1)) Br2 ∧ Br2.Nodup ∧ (∀ x ∈ Br2, x ∉ As2.flatten) ∧ Same F1 F2 ∧ PstS X.mg E X.K c ω or σ2 (Br2 ++ As2.flatten) F2 H2 Dd (forD (setN i) f (ds.drop (j + 1)) ρ2), fun σ2 H2 q => ⟨_, Nat.sub_lt_sub_left hlt (Nat.lt_succ_self j), rfl, hlt, q⟩, fun w H2 yy => ?_⟩
        obtain ⟨rfl, hx⟩ := yy
        have hx := hx vs hlT
        have hod : os.drop j = os[j]'(by rw [← hlen.2]; exact hlt) :: os.drop (j + 1) := List.drop_eq_getElem_cons (by rw [← hlen.2]; exact hlt)
        have hdd : ds.drop j = ds[j] :: ds.drop (j + 1) := List.drop_eq_getElem_cons hlt
        have hvd : vs.drop j = vs[j]'(by omega) :: vs.drop (j + 1) := List.drop_eq_getElem_cons (by omega)
        have ho : os[j]'(by rw [← hlen.2]; exact hlt) = o := hos _ (List.getElem_mem _)
        rw [hod, hdd, hvd, ho] at rB
        obtain ⟨d0, dr, v0, vr, B1, B2, h1, h2, rfl, r1, r2⟩ := rB
        cases h1
        cases h2
        have ew : w = vs[j]'(by omega) := by
          rw [List.getElem?_eq_getElem (by omega)] at hx
          exact (Option.some.inj hx).symm
        subst ew
        obtain ⟨n1, n2, n3⟩ := List.nodup_append.mp nBr
        have S3 : Stt X.K ω (ρ'.set i (some ds[j])) (σ'.set i (some (vs[j]'(by omega)))) F' H2 (As'.set i B1) := by
          have q := S'.sl.put (i := i) r1
          rw [list_set_self hω] at q
          exact ⟨S'.ex, q, flat_set_nd S'.nd n1 fun x hx k C _ h4 h5 => aBr x (List.mem_append_left _ hx) (List.mem_flatten.mpr ⟨C, List.mem_of_getElem? h4, h5⟩)⟩
        have sub3 : ∀ x ∈ (As'.set i B1).flatten, x ∈ B1 ∨ x ∈ As'.flatten := fun x hx => by
          rcases flat_set hx with q | ⟨k, C, _, h4, h5⟩
          · exact .inl q
          · exact .inr (List.mem_flatten.mpr ⟨C, List.mem_of_getElem? h4, h5⟩)
        have ap2 : ∀ x ∈ B2, x ∉ (As'.set i B1).flatten := fun x hx hf => by
          rcases sub3 x hf with q | q
          · exact n3 x q x hx rfl
          · exact aBr x (List.mem_append_right _ hx) q
        rw [hdd] at p'
        have p2 : PstS X.mg E X.K c ω or σ' ((B1 ++ B2) ++ As'.flatten) F' H2 Dd (f (ρ'.set i (some ds[j])) >>= fun fl => match fl with
          | .nx ρ'' => forD (setN i) f (ds.drop (j + 1)) ρ''
          | .rt d ρ3 => .ok (.rt d ρ3)) := p'
        have p3 := PstS.grow (σ1 := σ'.set i (some (vs[j]'(by omega)))) (A1 := B2 ++ (As'.set i B1).flatten) (F1 := F') (H1 := H2) ⟨⟨Same.refl _, S'.ex, fun x u q _ => q, fun x q => q, fun x q _ _ => q, fun x hx => by
          rcases List.mem_append.mp hx with hx | hx
          · exact .inl (List.mem_append_left _ (List.mem_append_right _ hx))
          · rcases sub3 x hx with q | q
            · exact .inl (List.mem_append_left _ (List.mem_append_left _ q))
            · exact .inl (List.mem_append_right _ q)⟩, set_off hW⟩ p2
        refine hb.sem _ _ F' H2 _ _ S3 ?_
        cases hf : f (ρ'.set i (some ds[j])) with
        | exc k =>
          rw [hf] at p3
          exact fun H4 z => p3 H4 fun x u h1 h2 => z x u h1 fun h3 => h2 (List.mem_append_right _ h3)
        | no => rw [hf] at p3; exact p3
        | ok fl =>
          rw [hf, ok_bind] at p3
          cases fl with
          | nx ρ3 =>
            intro σ4 F4 H4 As4 S4 g4
            have keepB : ∀ x ∈ B2, F4 x = none ∧ H4 x = H2 x := fun x hx => by
              obtain ⟨q1, q2⟩ := repT_mem r2 hx
              refine ⟨g4.g.sep x q1 q2 (ap2 x hx), ?_⟩
              cases hh : H2 x with
              | none => exact absurd hh q2
              | some u => exact g4.g.keep x u hh (ap2 x hx)
            have ap4 : ∀ x ∈ B2, x ∉ As4.flatten := fun x hx hf => by
              rcases g4.g.new x hf with q | q
              · exact ap2 x hx q
              · exact (repT_mem r2 hx).2 q
            refine ⟨ρ3, F4, As4, B2, S4, RepT.keep _ _ _ B2 g4.g.ff keepB r2, n2, ap4, e1.trans g4.g.ff, ?_⟩
            refine PstS.grow ⟨⟨g4.g.ff, g4.g.fh, fun x u q h => g4.g.keep x u q fun z => h (List.mem_append_right _ z), g4.g.th, fun x q1 q2 q3 => g4.g.sep x q1 q2 fun z => q3 (List.mem_append_right _ z), fun x hx => ?_⟩, g4.ag⟩ p3
            rcases List.mem_append.mp hx with hx | hx
            · exact .inl (List.mem_append_left _ hx)
            · exact (g4.g.new x hx).imp (List.mem_append_right _) id
          | rt d ρ3 =>
            intro v' σ4 F4 H4 B4 As4 w4 r4 n4 a4 S4 io4 g4
            refine p3 v' σ4 F4 H4 B4 As4 w4 r4 n4 a4 S4 io4 ⟨⟨g4.g.ff, g4.g.fh, fun x u q h => g4.g.keep x u q fun z => h (List.mem_append_right _ z), g4.g.th, fun x q1 q2 q3 => g4.g.sep x q1 q2 fun z => q3 (List.mem_append_right _ z), fun x hx => (g4.g.new x hx).imp (List.mem_append_right _) id⟩, g4.ag⟩
      · have ej : j = ds.length := by omega
        subst ej
        refine .inl ⟨⟨vs, hlT, by omega⟩, ?_⟩
        rw [List.drop_length] at p'
        exact p' σ' F' H' As' S' ⟨⟨Same.refl _, S'.ex, fun x u q _ => q, fun x q => q, fun x q _ _ => q, fun x hx => .inl (List.mem_append_right _ hx)⟩, fun _ _ => rfl⟩⟩
end
end Dn

/-! List comprehensions whose elements are one's own; places within lists of one's own. -/
namespace Dn
open PySem L2 PyProof.Rows
theorem allO_snoc {P : D → V → List Addr → Prop} {d : D} {v : V} {B1 : List Addr} (h : P d v B1) : ∀ {ds : List D} {vs : List V} {B : List Addr}, AllO P ds vs B → AllO P (ds ++ [d]) (vs ++ [v]) (B ++ B1)
  | [], vs, B, q => by
    obtain ⟨rfl, rfl⟩ := q
    exact ⟨v, [], B1, [], rfl, by simp, h, rfl, rfl⟩
  | e :: ds, vs, B, q => by
    obtain ⟨w, vr, C1, C2, rfl, rfl, h3, h4⟩ := q
    exact ⟨w, vr ++ [v], C1, C2 ++ B1, rfl, by rw [List.append_assoc], h3, allO_snoc h h4⟩
theorem allO_len {P : D → V → List Addr → Prop} : ∀ {ds : List D} {vs : List V} {B : List Addr}, AllO P ds vs B → vs.length = ds.length
  | [], vs, B, q => by rw [q.1]; rfl
  | e :: ds, vs, B, q => by
    obtain ⟨w, vr, C1, C2, rfl, rfl, h3, h4⟩ := q
    rw [List.length_cons, List.length_cons, allO_len h4]
theorem allO_there {K : PySem.W.Frag} {F H : Hp} {o : O} {ds : List D} {vs : List V} {B : List Addr} {x : Addr} (h : AllO (RepO K F H o) ds vs B) (hx : x ∈ B) : H x ≠ none := AllO.mem h hx fun d v B1 r h1 => (RepO.mem o d v B1 r h1).2
section
variable {X : Cx} {E : XK} {ω : List O} {elt tg iter : Expr} {ifs : List Expr} {scope : Scope} {own : List (Str × Nat)} {pos : Pos} {wi : TI} {tt : TT} {te : TE} {fi : Env → R (List D)} {fc : Env → R Bool} {fe : Env → R D} {i : Nat}
theorem lc_semO {o : O} {mg : Str → Option Value} {K : PySem.W.Frag} (hi : ω[i]? = some .fz) (hvs : (own.map (·.2)).contains i = true) (hw : ∀ (σ : L2.St) x, L2.wipe ((L2.wipe σ (own.map (·.2))).set i (some x)) (own.map (·.2)) = L2.wipe σ (own.map (·.2)))
    (ti : SemI mg E K ω wi fi) (tc : SemT mg E K ω tt fc) (tel : Sem mg E K ω te fe o []) : Sem mg E K ω (tLc wi (gName i) tt te (own.map (·.2))) (eLc fi (own.map (·.2)) (setN i) fc fe) (.own o) [] := fun σ ρ F H As Q S p => by
  refine ti σ ρ F H As _ S ?_
  unfold eLc at p
  cases hfi : fi ρ with
  | exc c => rw [hfi] at p; exact p
  | no => rw [hfi] at p; exact p
  | ok xs =>
    rw [hfi] at p
    intro J F1 H1 g1 it Ld hD
    have hz : xs.length ≤ 1000000 := by
      by_cases h : xs.length ≤ 1000000
      · exact h
      · rw [ok_bind, if_neg h] at p
        exact p.elim
    rw [ok_bind, if_pos hz] at p
    obtain ⟨vs, hr, hgo, hst⟩ := it
    have hn := hr.length
    obtain ⟨As', S'⟩ := (S.grow g1).wipe (own.map (·.2))
    have FD : F1 Ld = none := g1.fh.free hD
    -- the invariant: what is made stands at Ld, the rest is to come
    refine ⟨fun n m H' => m = xs.length - n ∧ n ≤ xs.length ∧ ∃ F' acc ws B', Same F1 F' ∧ Same F' H' ∧ (∀ x u, x ≠ Ld → H1 x = some u → H' x = some u) ∧ (∀ x, F1 x = none → H1 x ≠ none → F' x = none) ∧ F' Ld = none ∧ H' Ld = some (.lst ws) ∧ (AllO (RepO K F' H' o) acc ws B' ∧ B'.Nodup ∧ (∀ x ∈ B', H1 x = none) ∧ Ld ∉ B') ∧ acc.length ≤ n ∧
      Pst mg E K (.own o) As [] F1 H1 Q (lcD (setN i) fc fe (wipeE ρ (own.map (·.2))) (xs.drop n) >>= fun ds => .ok (.lst (acc ++ ds))), ⟨xs.length, rfl, Nat.zero_le _, F1, [], [], [], Same.refl _, (Grow.newO g1.fh hD).fh, fun x o hx h => by rw [upd_ne hx]; exact h, fun x h _ => h, FD, upd_same, ⟨⟨rfl, rfl⟩, List.nodup_nil, by simp, by simp⟩, Nat.le_refl _, ?_⟩, ?_⟩
    · simpa using p.grow g1
    · rintro j m H' ⟨rfl, hj, F', acc, ws, B', e1, e2, e3, e4, e5, e6, ⟨e7, n7, f7, d7⟩, e8, p'⟩
      have exH : Same F1 H' := e1.trans e2
      have growJ : Grow F1 H1 F' H' := ⟨e1, fun x o h => e3 x o (fun q => by subst q; rw [hD] at h; cases h) h, e2, e4⟩
      by_cases hlt : j < xs.length
      · refine .inr ⟨(hgo j H' exH (by rw [hn]; exact hlt)).1, _, fun H'' q => q, fun x H'' y => ?_⟩
        obtain ⟨rfl, hx⟩ := (hgo j H' exH (by rw [hn]; exact hlt)).2 x H'' y
        obtain ⟨d, hd, rd⟩ := hr.get' hx
        have hdrop : xs.drop j = d :: xs.drop (j + 1) := by
          rw [List.drop_eq_getElem_cons hlt]
          congr 1
          rw [List.getElem?_eq_getElem hlt] at hd
          exact Option.some.inj hd
        rw [hdrop] at p'
        -- the frame as it stands in this turn: the list at Ld is nobody's
        have S1 : Stt K ω (wipeE ρ (own.map (·.2))) (L2.wipe σ (own.map (·.2))) F' H'' As' := S'.grow growJ
        have S2 := S1.setFz (i := i) (Rep.mono e1 d x rd) hi
        refine ⟨hw σ x, ?_⟩
        -- p' : set, test, element, rest
        have p2 : Pst mg E K (.own o) As [] F1 H1 Q (fc ((wipeE ρ (own.map (·.2))).set i (some d)) >>= fun b => (if b = true then fe ((wipeE ρ (own.map (·.2))).set i (some d)) >>= fun d' => lcD (setN i) fc fe (wipeE ρ (own.map (·.2))) (xs.drop (j + 1)) >>= fun ds => .ok (d' :: ds) else lcD (setN i) fc fe (wipeE ρ (own.map (·.2))) (xs.drop (j + 1))) >>= fun ds => .ok (.lst (acc ++ ds))) := by
          have e : (lcD (setN i) fc fe (wipeE ρ (own.map (·.2))) (d :: xs.drop (j + 1)) >>= fun ds => R.ok (Dn.D.lst (acc ++ ds))) = _ := rfl
          cases hc : fc ((wipeE ρ (own.map (·.2))).set i (some d)) with
          | ok b =>
            have e' : lcD (setN i) fc fe (wipeE ρ (own.map (·.2))) (d :: xs.drop (j + 1)) = (if b = true then fe ((wipeE ρ (own.map (·.2))).set i (some d)) >>= fun d' => lcD (setN i) fc fe (wipeE ρ (own.map (·.2))) (xs.drop (j + 1)) >>= fun ds => .ok (d' :: ds) else lcD (setN i) fc fe (wipeE ρ (own.map (·.2))) (xs.drop (j + 1))) := by
              show (setN i d (wipeE ρ (own.map (·.2))) >>= fun ρ' => fc ρ' >>= fun b => _) = _
              unfold setN
              rw [ok_bind, hc, ok_bind]
            rw [e'] at p'
            exact p'
          | exc c =>
            have e' : lcD (setN i) fc fe (wipeE ρ (own.map (·.2))) (d :: xs.drop (j + 1)) = .exc c := by
              show (setN i d (wipeE ρ (own.map (·.2))) >>= fun ρ' => fc ρ' >>= fun b => _) = _
              unfold setN
              rw [ok_bind, hc, exc_bind]
            rw [e'] at p'
            exact p'
          | no =>
            have e' : lcD (setN i) fc fe (wipeE ρ (own.map (·.2))) (d :: xs.drop (j + 1)) = .no := by
              show (setN i d (wipeE ρ (own.map (·.2))) >>= fun ρ' => fc ρ' >>= fun b => _) = _
              unfold setN
              rw [ok_bind, hc, no_bind]
            rw [e'] at p'
            exact p'
        refine tc _ _ F' H'' As' _ S2 ?_
        cases hc : fc ((wipeE ρ (own.map (·.2))).set i (some d)) with
        | exc c =>
          rw [hc] at p2
          exact fun H3 q => p2 H3 (growJ.hh.trans q)
        | no => rw [hc] at p2; exact p2.elim
        | ok b =>
          rw [hc, ok_bind] at p2
          intro F3 H3 g3
          cases b with
          | false =>
            rw [if_neg Bool.false_ne_true] at p2 ⊢
            exact ⟨_, Nat.sub_lt_sub_left hlt (Nat.lt_succ_self j), rfl, hlt, F3, acc, ws, B', e1.trans g3.ff, g3.fh, fun x o h1 h2 => g3.hh _ _ (e3 x o h1 h2), fun x h1 h2 => g3.sep x (e4 x h1 h2) (there growJ.hh h2), g3.sep Ld e5 (by rw [e6]; simp), g3.hh _ _ e6, ⟨AllO.imp (fun _ _ _ h => RepO.grow g3 h) e7, n7, f7, d7⟩, Nat.le_succ_of_le e8, p2⟩
          | true =>
            rw [if_pos rfl] at p2 ⊢
            refine tel _ _ F3 H3 As' _ (S2.grow g3) ?_
            cases hfe : fe ((wipeE ρ (own.map (·.2))).set i (some d)) with
            | exc c =>
              rw [hfe] at p2
              exact fun H4 q => p2 H4 ((growJ.hh.trans g3.hh).trans q)
            | no => rw [hfe] at p2; exact p2.elim
            | ok d' =>
              rw [hfe, ok_bind] at p2
              intro y' F4 H4 B4 g4 r4 b4 n4
              have e64 : H4 Ld = some (.lst ws) := g4.hh _ _ (g3.hh _ _ e6)
              have F4D : F4 Ld = none := g4.sep Ld (g3.sep Ld e5 (by rw [e6]; simp)) (by rw [g3.hh _ _ e6]; simp)
              have nb4 : ∀ x ∈ B4, H3 x = none := fun x hx => (b4 x hx).elim id fun z => z.nil.elim
              have nLd4 : Ld ∉ B4 := fun h => by
                have := nb4 Ld h
                rw [g3.hh _ _ e6] at this
                cases this
              have kp : ∀ d v B1, Ld ∉ B1 → RepO K F4 H4 o d v B1 → RepO K F4 (upd H4 Ld (.lst (ws ++ [y']))) o d v B1 := fun d v B1 hb r =>
                RepO.keep o d v B1 (Same.refl _) (fun x hx => ⟨(RepO.mem o d v B1 r hx).1, upd_ne fun e => hb (by rw [← e]; exact hx)⟩) r
              have there3 : ∀ x ∈ B', H3 x ≠ none := fun x hx => there g3.hh (allO_there e7 hx)
              have len : ws.length ≤ j := by rw [allO_len e7]; exact e8
              refine ⟨ws, e64, by rw [← most_eq]; exact Nat.lt_of_le_of_lt len (Nat.lt_of_lt_of_le hlt (Nat.le_trans hz (by decide))), _, Nat.sub_lt_sub_left hlt (Nat.lt_succ_self j), rfl, hlt, F4, acc ++ [d'], ws ++ [y'], B' ++ B4, (e1.trans g3.ff).trans g4.ff, fun x o h => ?_, fun x o h1 h2 => ?_, fun x h1 h2 => ?_, F4D, upd_same, ⟨allO_snoc (kp _ _ _ nLd4 r4) (AllO.impB (AllO.imp (fun _ _ _ h => RepO.grow g4 (RepO.grow g3 h)) e7) fun d v B1 hb r => kp d v B1 (fun h => d7 (hb _ h)) r), ?_, ?_, ?_⟩, ?_, ?_⟩
              · have : x ≠ Ld := fun q => by subst q; rw [F4D] at h; cases h
                rw [upd_ne this]
                exact g4.fh _ _ h
              · rw [upd_ne h1]
                exact g4.hh _ _ (g3.hh _ _ (e3 x o h1 h2))
              · exact g4.sep x (g3.sep x (e4 x h1 h2) (there growJ.hh h2)) (there (growJ.hh.trans g3.hh) h2)
              · exact List.nodup_append.mpr ⟨n7, n4, fun x hx y hy e => there3 x hx (by rw [e]; exact nb4 y hy)⟩
              · intro x hx
                rcases List.mem_append.mp hx with hx | hx
                · exact f7 x hx
                · cases hq : H1 x with
                  | none => rfl
                  | some u =>
                    have := nb4 x hx
                    rw [g3.hh _ _ (growJ.hh _ _ hq)] at this
                    cases this
              · intro h
                rcases List.mem_append.mp h with h | h
                · exact d7 h
                · exact nLd4 h
              · rw [List.length_append]
                exact Nat.succ_le_succ e8
              · have e : (lcD (setN i) fc fe (wipeE ρ (own.map (·.2))) (xs.drop (j + 1)) >>= fun ds => R.ok (Dn.D.lst (acc ++ [d'] ++ ds))) = ((lcD (setN i) fc fe (wipeE ρ (own.map (·.2))) (xs.drop (j + 1)) >>= fun ds => R.ok (d' :: ds)) >>= fun ds => R.ok (Dn.D.lst (acc ++ ds))) := by
                  cases lcD (setN i) fc fe (wipeE ρ (own.map (·.2))) (xs.drop (j + 1)) with
                  | ok ds => simp
                  | exc c => rfl
                  | no => rfl
                rw [e]
                exact p2
      · have ej : j = xs.length := by omega
        subst ej
        refine .inl ⟨hst _ H' exH (by rw [hn]; exact Nat.le_refl _), ?_⟩
        rw [List.drop_length] at p'
        have p2 : Pst mg E K (.own o) As [] F1 H1 Q (.ok (.lst acc)) := by
          have e : (lcD (setN i) fc fe (wipeE ρ (own.map (·.2))) [] >>= fun ds => R.ok (Dn.D.lst (acc ++ ds))) = R.ok (.lst acc) := by
            show R.ok (Dn.D.lst (acc ++ [])) = _
            rw [List.append_nil]
          rw [e] at p'
          exact p'
        exact p2 (.ref Ld) F' H' (Ld :: B') growJ (.inl ⟨acc, Ld, ws, B', rfl, rfl, e5, e6, rfl, e7⟩) (fun x hx => .inl (by
          rcases List.mem_cons.mp hx with rfl | hx
          · exact hD
          · exact f7 x hx)) (List.nodup_cons.mpr ⟨d7, n7⟩)
/-- [elt for x in iter if ..] -/
theorem de_lcO {o : O} (hc : X.calm = true) (hN : X.N.Nodup) (hi : ω[i]? = some .fz) (hvs : (own.map (·.2)).contains i = true) (hw : ∀ (σ : L2.St) x, L2.wipe ((L2.wipe σ (own.map (·.2))).set i (some x)) (own.map (·.2)) = L2.wipe σ (own.map (·.2))) (ti : DI X E ω tg iter wi fi) (ok : BlkOk X.N X.env.scope scope own)
    (hg : ∀ (s : Shared) (H : Hp) (C : Addr) (cl : List (Str × Addr)) (fp : List Addr), PG (X.blk s H scope (compEnvC scope cl C X.env) fp) tg (gName i)) (ht : ∀ (s : Shared) (H : Hp) (C : Addr) (cl : List (Str × Addr)) (fp : List Addr), DTs (X.blk s H scope (compEnvC scope cl C X.env) fp) E ω ifs tt fc)
    (he : ∀ (s : Shared) (H : Hp) (C : Addr) (cl : List (Str × Addr)) (fp : List Addr), DE (X.blk s H scope (compEnvC scope cl C X.env) fp) E ω elt te fe o []) (hs : ∀ x, foldedSetIterable iter X.env x = pure x := by intro _; rfl) :
    DE X E ω (.ListComp elt [⟨tg, iter, ifs, 0⟩] scope pos) (tLc wi (gName i) tt te (own.map (·.2))) (eLc fi (own.map (·.2)) (setN i) fc fe) (.own o) [] := by
  refine ⟨pe_lc hc hN ti.pi ok hg (fun s H C cl fp => (ht s H C cl fp).pts) (fun s H C cl fp => (he s H C cl fp).pe) hs, ?_⟩
  exact lc_semO hi hvs hw ti.sem (ht {} (fun _ => none) 0 [] []).sem (he {} (fun _ => none) 0 [] []).sem
end
end Dn

/-! Places within tuples and within lists of one's own: x[0][0].append(e); x[0].append([]), behind which x is not looked at. -/
namespace Dn
open PySem L2 PyProof.Rows
def atQ : O → D → List Nat → Option (O × D)
  | o, d, [] => some (o, d)
  | .tup os, .tup ds, j :: π => match os[j]?, ds[j]? with
    | some o, some d => atQ o d π
    | _, _ => none
  | .own o, .lst ds, j :: π => match ds[j]? with
    | some d => atQ o d π
    | none => none
  | _, _, _ :: _ => none
def setQ : D → List Nat → D → D
  | _, [], e => e
  | .tup ds, j :: π, e => match ds[j]? with
    | some d => .tup (ds.set j (setQ d π e))
    | none => .tup ds
  | .lst ds, j :: π, e => match ds[j]? with
    | some d => .lst (ds.set j (setQ d π e))
    | none => .lst ds
  | d, _ :: _, _ => d
def valQ (F H : Hp) : V → List Nat → V → Prop
  | v, [], w => w = v
  | v, j :: π, w => ∃ a vs u, v = .ref a ∧ (F a = some (.tup vs) ∨ H a = some (.lst vs)) ∧ vs[j]? = some u ∧ valQ F H u π w
section
variable {K : PySem.W.Frag} {F H : Hp}
theorem allO_at {o : O} : ∀ {ds : List D} {vs : List V} {B : List Addr} {j : Nat} {d : D}, AllO (RepO K F H o) ds vs B → ds[j]? = some d →
    ∃ v Bj, vs[j]? = some v ∧ RepO K F H o d v Bj ∧ (∀ x ∈ Bj, x ∈ B) ∧ (B.Nodup → Bj.Nodup) ∧ ∀ a u d2, a ∈ Bj → B.Nodup → RepO K F (upd H a u) o d2 v Bj → AllO (RepO K F (upd H a u) o) (ds.set j d2) vs B
  | [], vs, B, j, d, r, hd => by simp at hd
  | d :: ds, vs, B, 0, d', r, hd => by
    obtain ⟨v, vr, B1, B2, rfl, rfl, h4, h5⟩ := r
    simp at hd
    subst hd
    exact ⟨v, B1, rfl, h4, fun x hx => List.mem_append_left _ hx, fun n => (List.nodup_append.mp n).1, fun a u d2 ha n r2 =>
      ⟨v, vr, B1, B2, rfl, rfl, r2, AllO.impB h5 fun d v C hC r => repO_keepA r fun h => (List.nodup_append.mp n).2.2 a ha a (hC a h) rfl⟩⟩
  | d :: ds, vs, B, j + 1, d', r, hd => by
    obtain ⟨v, vr, B1, B2, rfl, rfl, h4, h5⟩ := r
    obtain ⟨w, Bj, q1, q2, q3, q4, q5⟩ := allO_at (j := j) h5 (by simpa using hd)
    exact ⟨w, Bj, by simpa using q1, q2, fun x hx => List.mem_append_right _ (q3 x hx), fun n => q4 (List.nodup_append.mp n).2.1, fun a u d2 ha n r2 =>
      ⟨v, vr, B1, B2, rfl, rfl, repO_keepA h4 fun h => (List.nodup_append.mp n).2.2 a h a (q3 a ha) rfl, q5 a u d2 ha (List.nodup_append.mp n).2.1 r2⟩⟩
theorem repO_atQ : ∀ (π : List Nat) {o : O} {d : D} {v : V} {B : List Addr} {o' : O} {d' : D}, RepO K F H o d v B → atQ o d π = some (o', d') →
    ∃ w B', valQ F H v π w ∧ RepO K F H o' d' w B' ∧ (∀ x ∈ B', x ∈ B) ∧ ∀ a u d2, a ∈ B' → B.Nodup → RepO K F (upd H a u) o' d2 w B' → RepO K F (upd H a u) o (setQ d π d2) v B
  | [], o, d, v, B, o', d', r, h => by
    have e : (o, d) = (o', d') := Option.some.inj (by rw [← h]; cases o <;> cases d <;> rfl)
    cases e
    exact ⟨v, B, rfl, r, fun x h => h, fun a u d2 _ _ r2 => by
      have e : setQ d [] d2 = d2 := by cases d <;> rfl
      rw [e]; exact r2⟩
  | j :: π, .tup os, d, v, B, o', d', r, h => by
    obtain ⟨ds, a, vs, rfl, rfl, hF, r⟩ := r
    have h' : (match os[j]?, ds[j]? with
      | some o, some d => atQ o d π
      | _, _ => none) = some (o', d') := h
    split at h'
    · rename_i o1 d1 h1 h2
      obtain ⟨u, Bj, q1, q2, q3, q4, q5⟩ := repT_at r h1 h2
      obtain ⟨w, B', p1, p2, p3, p4⟩ := repO_atQ π q2 h'
      refine ⟨w, B', ⟨a, vs, u, rfl, .inl hF, q1, p1⟩, p2, fun x hx => q3 x (p3 x hx), fun b z d2 hb n r2 => ?_⟩
      have n' : Bj.Nodup := q4 n
      have e : setQ (.tup ds) (j :: π) d2 = .tup (ds.set j (setQ d1 π d2)) := by
        show (match ds[j]? with
          | some d => D.tup (ds.set j (setQ d π d2))
          | none => .tup ds) = _
        rw [h2]
      rw [e]
      exact ⟨_, a, vs, rfl, rfl, hF, q5 b z _ (p3 b hb) n (p4 b z d2 hb n' r2)⟩
    · cases h'
  | j :: π, .own o, d, v, B, o', d', r, h => by
    rcases r with ⟨ds, a, vs, B1, rfl, rfl, h1, h2, rfl, r⟩ | ⟨es, a, kvs, rfl, _⟩ | ⟨hb, _⟩
    · have h' : (match ds[j]? with
        | some d => atQ o d π
        | none => none) = some (o', d') := h
      split at h'
      · rename_i d1 hd
        obtain ⟨u, Bj, q1, q2, q3, q4, q5⟩ := allO_at r hd
        obtain ⟨w, B', p1, p2, p3, p4⟩ := repO_atQ π q2 h'
        refine ⟨w, B', ⟨a, vs, u, rfl, .inr h2, q1, p1⟩, p2, fun x hx => List.mem_cons_of_mem _ (q3 x (p3 x hx)), fun b z d2 hb n r2 => ?_⟩
        obtain ⟨na, n1⟩ := List.nodup_cons.mp n
        have n' : Bj.Nodup := q4 n1
        have e : setQ (.lst ds) (j :: π) d2 = .lst (ds.set j (setQ d1 π d2)) := by
          show (match ds[j]? with
            | some d => D.lst (ds.set j (setQ d π d2))
            | none => .lst ds) = _
          rw [hd]
        rw [e]
        have nb : a ≠ b := fun e => na (by rw [e]; exact q3 b (p3 b hb))
        exact .inl ⟨_, a, vs, B1, rfl, rfl, h1, by rw [upd_ne nb]; exact h2, rfl, q5 b z _ (p3 b hb) n1 (p4 b z d2 hb n' r2)⟩
      · cases h'
    · cases h
    · cases d with
      | lst ds => cases hb
      | _ => cases h
  | j :: π, .fz, d, v, B, o', d', r, h => by cases d <;> cases h
theorem valQ_snoc {j : Nat} {u : V} : ∀ {π : List Nat} {v : V}, valQ F H v (π ++ [j]) u → ∃ a vs, valQ F H v π (.ref a) ∧ (F a = some (.tup vs) ∨ H a = some (.lst vs)) ∧ vs[j]? = some u
  | [], v, h => by
    obtain ⟨a, vs, w, rfl, h1, h2, h3⟩ := h
    exact ⟨a, vs, rfl, h1, by rw [h2, show u = w from h3]⟩
  | k :: π, v, h => by
    obtain ⟨a, vs, w, rfl, h1, h2, h3⟩ := h
    obtain ⟨b, ws, q1, q2, q3⟩ := valQ_snoc h3
    exact ⟨b, ws, ⟨a, vs, w, rfl, h1, h2, q1⟩, q2, q3⟩
theorem valQ_mono {F' H' : Hp} (e : Same F F') (e2 : Same H H') : ∀ {π : List Nat} {v w : V}, valQ F H v π w → valQ F' H' v π w
  | [], v, w, h => h
  | j :: π, v, w, h => by
    obtain ⟨a, vs, u, h1, h2, h3, h4⟩ := h
    exact ⟨a, vs, u, h1, h2.imp (e _ _) (e2 _ _), h3, valQ_mono e e2 h4⟩
theorem valQ_fun (s : Same F H) : ∀ {π : List Nat} {v w w' : V}, valQ F H v π w → valQ F H v π w' → w = w'
  | [], v, w, w', h, h' => Eq.trans h (Eq.symm h')
  | j :: π, v, w, w', h, h' => by
    obtain ⟨a, vs, u, rfl, h2, h3, h4⟩ := h
    obtain ⟨b, ws, u', q1, q2, q3, q4⟩ := h'
    cases q1
    have key : vs = ws := by
      rcases h2 with h2 | h2 <;> rcases q2 with q2 | q2
      · rw [h2] at q2; cases q2; rfl
      · rw [s _ _ h2] at q2; cases q2
      · rw [s _ _ q2] at h2; cases h2
      · rw [h2] at q2; cases q2; rfl
    subst key
    rw [h3] at q3
    cases q3
    exact valQ_fun s h4 q4
end
structure DPq (X : Cx) (e : Expr) (te : TE) (i : Nat) (π : List Nat) : Prop where
  pe : PE X e te
  sem : ∀ (σ : L2.St) (F H : Hp) (v w : V) (Q : VK), Same F H → σ[i]? = some (some v) → valQ F H v π w → Q w H → te σ H Q
section
variable {X : Cx} {E : XK} {c : Cfg} {ω ω' : List O} {e b a : Expr} {te ta tb : TE} {fe fb : Env → R D} {o or : O} {i : Nat} {π : List Nat} {pos cpos apos npos : Pos} {x : Str}
theorem dpq_name (i : Nat) (hN : X.N[i]? = some x := by rfl) (hv : Vis X.env.scope x := by first | exact Or.inl rfl | exact Or.inr (Or.inl rfl) | exact Or.inr (Or.inr rfl)) (hd : (x == ("__debug__" : Str)) = false := by decide)
    (hcd : (x == ("__classdict__" : Str)) = false := by decide) : DPq X (.Name x npos) (tVar i) i [] := ⟨pe_var hN hv hd hcd, fun σ F H v w Q _ h1 h2 q => ⟨v, h1, by rw [← show w = v from h2]; exact q⟩⟩
theorem dpq_ix {k j : Nat} {p2 : Pos} {jj} (hr : Room k X.A) (h : DPq X e te i π) (hs : PlainIx (.Constant (.int (j : Int)) jj p2) := by intro _ _; rfl) :
    DPq X (.Subscript e (.Constant (.int (j : Int)) jj p2) pos) (tOp (rIxA X.K) te (tC (.int (j : Int)))) i (π ++ [j]) :=
  ⟨pe_ix (ix_any hr) h.pe pe_int hs, fun σ F H v w Q s h1 h2 q => by
    obtain ⟨a, vs, q1, q2, q3⟩ := valQ_snoc h2
    refine h.sem σ F H v _ _ s h1 q1 ?_
    have hj : j < vs.length := (List.getElem?_eq_some_iff.mp q3).1
    have ix : atI vs (j : Int) = some w := by
      unfold atI ixN
      rw [if_pos (Int.natCast_nonneg j), if_pos (by omega)]
      exact q3
    rcases q2 with q2 | q2
    · exact .inl (.inr (.inl ⟨a, vs, _, w, rfl, rfl, .of (s _ _ q2), ix, q⟩))
    · exact .inl (.inl ⟨a, vs, _, w, rfl, rfl, .of q2, ix, q⟩)⟩
def sAtQ (i : Nat) (o : O) (π : List Nat) (g : D → R D) (ρ : Env) : R Fl := match ρ[i]? with
  | some (some d) => (match atQ o d π with
    | some (.own .fz, e) => g e >>= fun e' => .ok (.nx (ρ.set i (some (setQ d π e'))))
    | _ => .no)
  | _ => .no
def sAppQ (i : Nat) (o : O) (π : List Nat) (fe : Env → R D) (ρ : Env) : R Fl := noExc (fe ρ) >>= fun y => sAtQ i o π (appD y) ρ
/-- the change itself -/
theorem place_ownQ {K : PySem.W.Frag} {F H : Hp} {ρ : Env} {σ : L2.St} {As : List (List Addr)} {d e : D} (hi : ω[i]? = some o) (S : Stt K ω ρ σ F H As) (hρ : ρ[i]? = some (some d)) (h : atQ o d π = some (.own .fz, e)) :
    ∃ v w B', σ[i]? = some (some v) ∧ valQ F H v π w ∧ RepO K F H (.own .fz) e w B' ∧ ∀ a u d2, B' = [a] → RepO K F (upd H a u) (.own .fz) d2 w [a] →
      ∃ As', Stt K ω (ρ.set i (some (setQ d π d2))) σ F (upd H a u) As' ∧ GrowA As.flatten F H F (upd H a u) As'.flatten := by
  obtain ⟨v, B, hσ, hA, r⟩ := S.sl.get hi hρ
  obtain ⟨w, B', h1, h2, h3, h4⟩ := repO_atQ π r h
  refine ⟨v, w, B', hσ, h1, h2, fun a u d2 hB r2 => ?_⟩
  subst hB
  have n := flat_part S.nd hA
  obtain ⟨q1, q2⟩ := S.change hi hσ hA (a := a) (h3 a (by simp)) (h4 a u d2 (by simp) n r2) (fun x h => h) n
  exact ⟨_, q1, q2⟩
/-- x[j1]..[jn].append(e) -/
theorem ds_appQ (hp : DPq X a ta i π) (he : DE X E ω e te fe .fz []) (hi : ω[i]? = some o := by rfl) (hbase : attributeBase a "append" X.env (eval a X.env) = eval a X.env := by rfl)
    (hfew : ((backTo cpos (starEach [e] X.env)).all (fun x => !x.1) && (backToKw cpos (keywordEach [] X.env)).all (fun x => x.1.isSome) && decide ([e].length + ([] : List Keyword).length + (if ([] : List Keyword).isEmpty then 0 else 1) < 30)) = true := by rfl) (hline : (apos.endLine == cpos.line) = true := by rfl)
    (hst : starEach (e :: []) X.env = (false, eval e X.env) :: starEach [] X.env := by rfl) (hpl : (backTo cpos (starEach [] X.env)).any (·.1) = false := by rfl) (hs : swapsWith (.Call (.Attribute a "append" apos) [e] [] cpos) none pos.line X.env = pure false := by rfl) :
    DS X E c ω (.Expr (.Call (.Attribute a "append" apos) [e] [] cpos) pos) (tDrop (tBM X.K "list" rAppend ta (tCons te tNil))) (sAppQ i o π fe) ω or :=
  ⟨ps_expr (pe_bm PySem.F.plainAttrs_list PySem.F.slot_list_append PySem.F.type_list_append mt_append hp.pe (pa_cons he.pe pa_nil hst) hbase hfew hline hst hpl) hs, fun σ ρ F H As Dd S p => by
    unfold sAppQ at p
    -- what must be there already
    have key : ∀ y, PstS X.mg E X.K c ω or σ As.flatten F H Dd (sAtQ i o π (appD y) ρ) → ∃ d ds, ρ[i]? = some (some d) ∧ atQ o d π = some (.own .fz, .lst ds) ∧ ds.length < most ∧ PstS X.mg E X.K c ω or σ As.flatten F H Dd (.ok (.nx (ρ.set i (some (setQ d π (.lst (ds ++ [y]))))))) := fun y p => by
      unfold sAtQ at p
      split at p
      · rename_i d hd
        split at p
        · rename_i e0 h0
          cases e0 with
          | lst ds =>
            by_cases hl : ds.length < most
            · have e1 : appD y (.lst ds) = .ok (.lst (ds ++ [y])) := if_pos hl
              rw [e1, ok_bind] at p
              exact ⟨d, ds, hd, h0, hl, p⟩
            · have e1 : appD y (.lst ds) = .no := if_neg hl
              rw [e1] at p
              exact (show False from p).elim
          | _ => exact (show False from p).elim
        · exact (show False from p).elim
      · exact (show False from p).elim
    cases hf : fe ρ with
    | ok y =>
      rw [hf] at p
      obtain ⟨d, ds, hd, h0, hl, p⟩ := key y p
      obtain ⟨v, w, B', hσ, hv, hr, _⟩ := place_ownQ hi S hd h0
      obtain ⟨a0, vs, rfl, Fa, Ha, rfl, rs⟩ := list_at hr
      refine hp.sem σ F H v _ _ S.ex hσ hv ?_
      refine ⟨.inl ⟨rfl, vs, .of Ha⟩, ?_⟩
      refine he.sem σ ρ F H As _ S ?_
      rw [hf]
      intro wy F1 H1 B1 g1 r1 b1 n1
      have S1 := S.grow g1
      obtain ⟨v1, w1, B1', hσ1, hv1, hr1, hc⟩ := place_ownQ hi S1 hd h0
      rw [hσ] at hσ1
      cases hσ1
      have ew := valQ_fun S1.ex (valQ_mono g1.ff g1.hh hv) hv1
      subst ew
      obtain ⟨a1, vs1, e1, Fa1, Ha1, rfl, rs1⟩ := list_at hr1
      cases e1
      refine ⟨a0, vs1, wy, rfl, rfl, Ha1, by rw [rs1.length, ← most_eq]; exact hl, ?_⟩
      obtain ⟨As', S2, g2⟩ := hc a0 (.lst (vs1 ++ [wy])) (.lst (ds ++ [y])) rfl (own_lst Fa1 upd_same (rs1.snoc r1.1))
      exact p σ F1 _ _ S2 (.same ((GrowA.of g1 fun x h => .inl h).trans g2))
    | exc c => rw [hf] at p; exact (show False from p).elim
    | no => rw [hf] at p; exact (show False from p).elim⟩
/-- what a name owns is changed, and the name is not looked at any more -/
theorem Stt.gone {K : PySem.W.Frag} {F H : Hp} {ρ : Env} {σ : L2.St} {As : List (List Addr)} (S : Stt K ω ρ σ F H As) {a : Addr} {B : List Addr} {u : HO} (hA : As[i]? = some B) (ha : a ∈ B) : Stt K ω (ρ.set i none) σ F (upd H a u) (As.set i []) ∧ GrowA As.flatten F H F (upd H a u) (As.set i []).flatten := by
  have Fa : F a = none ∧ H a ≠ none := S.sl.mem (List.mem_flatten.mpr ⟨B, List.mem_of_getElem? hA, ha⟩)
  have ap : ∀ x ∈ (As.set i []).flatten, x ≠ a := fun x hx e => by
    subst e
    rcases flat_set hx with q | ⟨j, C, h1, h2, h3⟩
    · simp at q
    · exact h1 (flat_apart S.nd h2 hA h3 ha)
  have S1 := (S.sl.hide i).keep (F' := F) (H' := upd H a u) (Same.refl F) fun x hx => ⟨((S.sl.hide i).mem hx).1, upd_ne (ap x hx)⟩
  refine ⟨⟨fun x q hx => ?_, S1, flat_set_nd S.nd List.nodup_nil fun x hx => by simp at hx⟩, Same.refl F, fun x q hx => ?_, fun x q hx hn => ?_, fun x hx => ?_, fun x h1 _ _ => h1, fun x hx => ?_⟩
  · rw [upd_ne (ne_of_none hx Fa.1)]; exact S.ex _ _ hx
  · rw [upd_ne (ne_of_none hx Fa.1)]; exact S.ex _ _ hx
  · rw [upd_ne (fun e => hn (by rw [e]; exact List.mem_flatten.mpr ⟨B, List.mem_of_getElem? hA, ha⟩))]; exact hx
  · by_cases e : x = a
    · subst e; rw [upd_same]; simp
    · rw [upd_ne e]; exact hx
  · rcases flat_set hx with q | ⟨j, C, h1, h2, h3⟩
    · simp at q
    · exact .inl (List.mem_flatten.mpr ⟨C, List.mem_of_getElem? h2, h3⟩)
def sAppH (i : Nat) (o : O) (π : List Nat) (fe : Env → R D) (ρ : Env) : R Fl := noExc (fe ρ) >>= fun _ => match ρ[i]? with
  | some (some d) => (match atQ o d π with
    | some (.own _, .lst ds) => if ds.length < most then .ok (.nx (ρ.set i none)) else .no
    | _ => .no)
  | _ => .no
theorem list_atO {K : PySem.W.Frag} {F H : Hp} {o : O} {v : V} {B : List Addr} {ds : List D} (r : RepO K F H (.own o) (.lst ds) v B) : ∃ a vs B', v = .ref a ∧ F a = none ∧ H a = some (.lst vs) ∧ B = a :: B' ∧ vs.length = ds.length := by
  rcases r with ⟨ds', a, vs, B', h1, rfl, h3, h4, rfl, h6⟩ | ⟨es, a, kvs, h1, _⟩ | ⟨h1, _⟩
  · cases h1
    exact ⟨a, vs, B', rfl, h3, h4, rfl, allO_len h6⟩
  · cases h1
  · cases h1
/-- x[j1]..[jn].append(a new list); x is not looked at behind it -/
theorem ds_appH {o2 : O} (hp : DPq X a ta i π) (he : DE X E ω e te fe o2 []) (hi : ω[i]? = some o := by rfl) (hbase : attributeBase a "append" X.env (eval a X.env) = eval a X.env := by rfl)
    (hfew : ((backTo cpos (starEach [e] X.env)).all (fun x => !x.1) && (backToKw cpos (keywordEach [] X.env)).all (fun x => x.1.isSome) && decide ([e].length + ([] : List Keyword).length + (if ([] : List Keyword).isEmpty then 0 else 1) < 30)) = true := by rfl) (hline : (apos.endLine == cpos.line) = true := by rfl)
    (hst : starEach (e :: []) X.env = (false, eval e X.env) :: starEach [] X.env := by rfl) (hpl : (backTo cpos (starEach [] X.env)).any (·.1) = false := by rfl) (hs : swapsWith (.Call (.Attribute a "append" apos) [e] [] cpos) none pos.line X.env = pure false := by rfl) :
    DS X E c ω (.Expr (.Call (.Attribute a "append" apos) [e] [] cpos) pos) (tDrop (tBM X.K "list" rAppend ta (tCons te tNil))) (sAppH i o π fe) ω or :=
  ⟨ps_expr (pe_bm PySem.F.plainAttrs_list PySem.F.slot_list_append PySem.F.type_list_append mt_append hp.pe (pa_cons he.pe pa_nil hst) hbase hfew hline hst hpl) hs, fun σ ρ F H As Dd S p => by
    unfold sAppH at p
    cases hf : fe ρ with
    | exc c => rw [hf] at p; exact (show False from p).elim
    | no => rw [hf] at p; exact (show False from p).elim
    | ok y =>
      rw [hf] at p
      have key : ∃ d ds o', ρ[i]? = some (some d) ∧ atQ o d π = some (.own o', .lst ds) ∧ ds.length < most ∧ PstS X.mg E X.K c ω or σ As.flatten F H Dd (.ok (.nx (ρ.set i none))) := by
        have p : PstS X.mg E X.K c ω or σ As.flatten F H Dd (match ρ[i]? with
          | some (some d) => (match atQ o d π with
            | some (.own _, .lst ds) => if ds.length < most then .ok (.nx (ρ.set i none)) else .no
            | _ => .no)
          | _ => .no) := p
        split at p
        · rename_i d hd
          split at p
          · rename_i o' ds h0
            split at p
            · rename_i hl
              exact ⟨d, ds, o', hd, h0, hl, p⟩
            · exact (show False from p).elim
          · exact (show False from p).elim
        · exact (show False from p).elim
      obtain ⟨d, ds, o', hd, h0, hl, p⟩ := key
      obtain ⟨v, B, hσ, hA, r⟩ := S.sl.get hi hd
      obtain ⟨w, B', hv, hr, hsub, _⟩ := repO_atQ π r h0
      obtain ⟨a0, vs, B2, rfl, Fa, Ha, rfl, lv⟩ := list_atO hr
      refine hp.sem σ F H v _ _ S.ex hσ hv ?_
      refine ⟨.inl ⟨rfl, vs, .of Ha⟩, ?_⟩
      refine he.sem σ ρ F H As _ S ?_
      rw [hf]
      intro wy F1 H1 B1 g1 r1 b1 n1
      have S1 := S.grow g1
      obtain ⟨v1, B1', hσ1, hA1, r1'⟩ := S1.sl.get hi hd
      obtain ⟨S2, g2⟩ := S1.gone (u := .lst (vs ++ [wy])) hA (hsub a0 (by simp))
      refine ⟨a0, vs, wy, rfl, rfl, g1.hh _ _ Ha, by rw [lv, ← most_eq]; exact hl, ?_⟩
      exact p σ F1 _ _ S2 (.same ((GrowA.of g1 fun x h => .inl h).trans g2))⟩
end
end Dn
namespace Dn
open PySem L2 PyProof.Rows
section
variable {X : Cx} {E : XK} {ω : List O} {elt tg iter : Expr} {ifs : List Expr} {scope : Scope} {own : List (Str × Nat)} {pos : Pos} {wi : TI} {fi : Env → R (List D)} {fc : Env → R Bool} {fe : Env → R D} {i : Nat}
theorem de_allO {o : O} (h : ForBlk X scope fun Y => ∃ te, DE Y E ω elt te fe o []) : ForBlk X scope fun Y => DE Y E ω elt (teAll X scope elt) fe o [] := fun s H C cl fp =>
  ⟨⟨fun pins s' σ H' Q I q => by
    obtain ⟨te, h1, h2⟩ := q s H C cl fp
    exact h1.run pins s' σ H' Q I h2⟩, fun σ ρ F H As Q S p s' H' C' cl' fp' => by
    obtain ⟨te, h1⟩ := h s' H' C' cl' fp'
    exact ⟨te, h1.pe, h1.sem σ ρ F H As Q S p⟩⟩
theorem de_lcOE {o : O} (hc : X.calm = true) (hN : X.N.Nodup) (hi : ω[i]? = some .fz) (hvs : (own.map (·.2)).contains i = true) (hw : ∀ (σ : L2.St) x, L2.wipe ((L2.wipe σ (own.map (·.2))).set i (some x)) (own.map (·.2)) = L2.wipe σ (own.map (·.2))) (ti : DI X E ω tg iter wi fi) (ok : BlkOk X.N X.env.scope scope own)
    (hg : ForBlk X scope fun Y => PG Y tg (gName i)) (ht : ForBlk X scope fun Y => ∃ tt, DTs Y E ω ifs tt fc) (he : ForBlk X scope fun Y => ∃ te, DE Y E ω elt te fe o []) (hs : ∀ x, foldedSetIterable iter X.env x = pure x := by intro _; rfl) :
    DE X E ω (.ListComp elt [⟨tg, iter, ifs, 0⟩] scope pos) (tLc wi (gName i) (ttAll X scope ifs) (teAll X scope elt) (own.map (·.2))) (eLc fi (own.map (·.2)) (setN i) fc fe) (.own o) [] :=
  de_lcO hc hN hi hvs hw ti ok hg (dts_all ht) (de_allO he) hs
end
end Dn

/-! How the printed functions are reckoned: rules for simp. -/
namespace Dn
open PySem L2
section
variable {f g : Env → R D} {ρ : Env} {i j : Int} {d e : D} {s t : Str}
@[simp] theorem m_fnD (n : Nat) (f : Env → R Fl) (ds : List D) : fnD n f ds = leave (f (enter n ds)) := Eq.trans rfl rfl
@[simp] theorem m_enter (n : Nat) (ds : List D) : enter n ds = ds.map some ++ List.replicate (n - ds.length) none := Eq.trans rfl rfl
@[simp] theorem m_leave (d : D) (ρ : Env) : leave (.ok (.rt d ρ)) = .ok d := Eq.trans rfl rfl
@[simp] theorem m_next (ρ : Env) : sNext ρ = .ok (.nx ρ) := Eq.trans rfl rfl
@[simp] theorem m_hide0 (ρ : Env) : hideE ρ [] = ρ := Eq.trans rfl rfl
@[simp] theorem m_hide1 (ρ : Env) (m : Nat) (M : List Nat) : hideE ρ (m :: M) = (hideE ρ M).set m none := Eq.trans rfl rfl
@[simp] theorem m_asg (i : Nat) (M : List Nat) (f : Env → R D) (ρ : Env) : sAsg i M f ρ = (f ρ >>= fun d => .ok (.nx ((hideE ρ M).set i (some d)))) := Eq.trans rfl rfl
@[simp] theorem m_ret (M : List Nat) (f : Env → R D) (ρ : Env) : sRet M f ρ = (f ρ >>= fun d => .ok (.rt d (hideE ρ M))) := Eq.trans rfl rfl
def ifK {α : Type} (f g : Env → R α) (ρ : Env) : Bool → R α
  | true => f ρ
  | false => g ρ
theorem ifK_eq {α : Type} (f g : Env → R α) (ρ : Env) : (fun b : Bool => if b = true then f ρ else g ρ) = ifK f g ρ := by
  funext b
  cases b <;> rfl
@[simp] theorem m_ifT {α : Type} (f g : Env → R α) (ρ : Env) : ifK f g ρ true = f ρ := Eq.trans rfl rfl
@[simp] theorem m_ifF {α : Type} (f g : Env → R α) (ρ : Env) : ifK f g ρ false = g ρ := Eq.trans rfl rfl
@[simp] theorem m_if (c : Env → R Bool) (f g : Env → R Fl) (ρ : Env) : sIf c f g ρ = (c ρ >>= ifK f g ρ) := by
  rw [← ifK_eq]; rfl
def sqK (g : Env → R Fl) : Fl → R Fl
  | .nx ρ' => g ρ'
  | .rt d ρ' => .ok (.rt d ρ')
@[simp] theorem m_seq (f g : Env → R Fl) (ρ : Env) : sSeq f g ρ = (f ρ >>= sqK g) := by
  unfold sSeq
  congr 1
@[simp] theorem m_sq1 (g : Env → R Fl) (ρ : Env) : sqK g (.nx ρ) = g ρ := Eq.trans rfl rfl
@[simp] theorem m_sq2 (g : Env → R Fl) (d : D) (ρ : Env) : sqK g (.rt d ρ) = .ok (.rt d ρ) := Eq.trans rfl rfl
def getV (o : Option (Option D)) : R D := match o with
  | some (some d) => .ok d
  | _ => .no
@[simp] theorem m_var (i : Nat) (ρ : Env) : eVar i ρ = getV ρ[i]? := Eq.trans rfl rfl
@[simp] theorem m_get (d : D) : getV (some (some d)) = .ok d := Eq.trans rfl rfl
@[simp] theorem m_c (d : D) (ρ : Env) : eC d ρ = .ok d := Eq.trans rfl rfl
@[simp] theorem m_op (g : D → D → R D) (fa fb : Env → R D) (ρ : Env) : eOp g fa fb ρ = (fa ρ >>= fun x => fb ρ >>= fun y => g x y) := Eq.trans rfl rfl
@[simp] theorem m_un (g : D → R D) (fa : Env → R D) (ρ : Env) : eUn g fa ρ = (fa ρ >>= g) := Eq.trans rfl rfl
@[simp] theorem m_call (g : List D → R D) (fas : Env → R (List D)) (ρ : Env) : eCall g fas ρ = (fas ρ >>= g) := Eq.trans rfl rfl
@[simp] theorem m_anil (ρ : Env) : aNil ρ = .ok [] := Eq.trans rfl rfl
@[simp] theorem m_acons (f : Env → R D) (g : Env → R (List D)) (ρ : Env) : aCons f g ρ = (f ρ >>= fun d => g ρ >>= fun ds => .ok (d :: ds)) := Eq.trans rfl rfl
@[simp] theorem m_tup (g : Env → R (List D)) (ρ : Env) : eTup g ρ = (g ρ >>= fun ds => .ok (.tup ds)) := Eq.trans rfl rfl
@[simp] theorem m_lst (g : Env → R (List D)) (ρ : Env) : eLst g ρ = (g ρ >>= fun ds => .ok (.lst ds)) := Eq.trans rfl rfl
@[simp] theorem m_tb (f : Env → R D) (ρ : Env) : tB' f ρ = (f ρ >>= asB) := Eq.trans rfl rfl
@[simp] theorem m_asB (b : Bool) : asB (.bl b) = .ok b := Eq.trans rfl rfl
@[simp] theorem m_andT (f g : Env → R Bool) (ρ : Env) : eAndT f g ρ = (f ρ >>= ifK g (fun _ => .ok false) ρ) := by
  rw [← ifK_eq]; rfl
@[simp] theorem m_orT (f g : Env → R Bool) (ρ : Env) : eOrT f g ρ = (f ρ >>= ifK (fun _ => .ok true) g ρ) := by
  rw [← ifK_eq]; rfl
@[simp] theorem m_notT (f : Env → R Bool) (ρ : Env) : eNotT f ρ = (f ρ >>= fun b => .ok (!b)) := Eq.trans rfl rfl
def anK (g : Env → R D) (ρ : Env) : D → R D
  | .bl true => g ρ
  | .bl false => .ok (.bl false)
  | _ => .no
def orK (g : Env → R D) (ρ : Env) : D → R D
  | .bl true => .ok (.bl true)
  | .bl false => g ρ
  | _ => .no
@[simp] theorem m_andV (f g : Env → R D) (ρ : Env) : eAndV f g ρ = (f ρ >>= anK g ρ) := by
  unfold eAndV
  congr 1
@[simp] theorem m_orV (f g : Env → R D) (ρ : Env) : eOrV f g ρ = (f ρ >>= orK g ρ) := by
  unfold eOrV
  congr 1
@[simp] theorem m_an1 (g : Env → R D) (ρ : Env) : anK g ρ (.bl true) = g ρ := Eq.trans rfl rfl
@[simp] theorem m_an2 (g : Env → R D) (ρ : Env) : anK g ρ (.bl false) = .ok (.bl false) := Eq.trans rfl rfl
@[simp] theorem m_or1 (g : Env → R D) (ρ : Env) : orK g ρ (.bl true) = .ok (.bl true) := Eq.trans rfl rfl
@[simp] theorem m_or2 (g : Env → R D) (ρ : Env) : orK g ρ (.bl false) = g ρ := Eq.trans rfl rfl
@[simp] theorem m_eif (c : Env → R Bool) (f g : Env → R D) (ρ : Env) : eIf c f g ρ = (c ρ >>= ifK f g ρ) := by
  rw [← ifK_eq]; rfl
@[simp] theorem m_look (f : Env → R D) (ρ : Env) : eLook f ρ = (f ρ >>= scal1) := Eq.trans rfl rfl
@[simp] theorem m_scal (d : D) : scal1 d = if isScal d = true then .ok d else .no := Eq.trans rfl rfl
@[simp] theorem m_isS1 : isScal .non = true := Eq.trans rfl rfl
@[simp] theorem m_isS2 (b : Bool) : isScal (.bl b) = true := Eq.trans rfl rfl
@[simp] theorem m_isS3 (b : Int) : isScal (.int b) = true := Eq.trans rfl rfl
@[simp] theorem m_isS4 (b : Str) : isScal (.str b) = true := Eq.trans rfl rfl
@[simp] theorem m_chk (o : O) (f : Env → R D) (ρ : Env) : eChk o f ρ = (f ρ >>= fun d => if chk o d = true then .ok d else .no) := Eq.trans rfl rfl
@[simp] theorem m_add (i j : Int) : addD (.int i) (.int j) = .ok (.int (i + j)) := Eq.trans rfl rfl
@[simp] theorem m_sub (i j : Int) : subD (.int i) (.int j) = .ok (.int (i - j)) := Eq.trans rfl rfl
@[simp] theorem m_neg (i : Int) : negD (.int i) = .ok (.int (-i)) := Eq.trans rfl rfl
theorem m_mul (i j : Int) (h : fits64 j = true) : mulD (.int i) (.int j) = .ok (.int (i * j)) := by
  show (if (fits64 i || fits64 j || decide (i.natAbs.log2 + j.natAbs.log2 < 1000000)) = true then _ else _) = _
  rw [if_pos (by rw [h]; simp)]
theorem m_mulL (i j : Int) (h : fits64 i = true) : mulD (.int i) (.int j) = .ok (.int (i * j)) := by
  show (if (fits64 i || fits64 j || decide (i.natAbs.log2 + j.natAbs.log2 < 1000000)) = true then _ else _) = _
  rw [if_pos (by rw [h]; simp)]
theorem m_fits (i : Int) (h : -18446744073709551616 < i) (h2 : i < 18446744073709551616) : fits64 i = true := by
  unfold fits64
  simp [h, h2]
@[simp] theorem m_mod (i j : Int) : modD (.int i) (.int j) = if 0 < j then .ok (.int (i % j)) else .no := Eq.trans rfl rfl
@[simp] theorem m_div (i j : Int) : divD (.int i) (.int j) = if 0 < j ∧ j < 1073741824 then .ok (.int (i / j)) else .no := Eq.trans rfl rfl
@[simp] theorem m_pow (i j : Int) : powD (.int i) (.int j) = if 0 ≤ j ∧ j ≤ 1000000 ∧ fits64 i = true then .ok (.int (i ^ j.toNat)) else .no := Eq.trans rfl rfl
@[simp] theorem m_lt (i j : Int) : ltD (.int i) (.int j) = .ok (.bl (decide (i < j))) := Eq.trans rfl rfl
@[simp] theorem m_le (i j : Int) : leD (.int i) (.int j) = .ok (.bl (decide (i ≤ j))) := Eq.trans rfl rfl
@[simp] theorem m_gt (i j : Int) : gtD (.int i) (.int j) = .ok (.bl (decide (j < i))) := Eq.trans rfl rfl
@[simp] theorem m_ge (i j : Int) : geD (.int i) (.int j) = .ok (.bl (decide (j ≤ i))) := Eq.trans rfl rfl
@[simp] theorem m_eqI (i j : Int) : eqD (.int i) (.int j) = .ok (.bl (decide (i = j))) := Eq.trans rfl rfl
@[simp] theorem m_eqS (i j : Str) : eqD (.str i) (.str j) = .ok (.bl (decide (i = j))) := Eq.trans rfl rfl
@[simp] theorem m_not (b : Bool) : notD (.bl b) = .ok (.bl (!b)) := Eq.trans rfl rfl
@[simp] theorem m_ne (d e : D) : neD d e = (eqD d e >>= notD) := Eq.trans rfl rfl
@[simp] theorem m_is (d : D) : isD d .non = .ok (.bl (isNone d)) := Eq.trans rfl rfl
@[simp] theorem m_isN (d : D) : isNotD d .non = .ok (.bl (!isNone d)) := Eq.trans rfl rfl
@[simp] theorem m_n1 : isNone .non = true := Eq.trans rfl rfl
@[simp] theorem m_n2 (s : Str) : isNone (.str s) = false := Eq.trans rfl rfl
@[simp] theorem m_n3 (s : List D) : isNone (.tup s) = false := Eq.trans rfl rfl
@[simp] theorem m_n4 (s : Int) : isNone (.int s) = false := Eq.trans rfl rfl
@[simp] theorem m_ixT (xs : List D) (i : Int) : ixD (.tup xs) (.int i) = getV ((atI xs i).map some) := by
  show (match atI xs i with
    | some d => R.ok d
    | none => .no) = _
  cases atI xs i <;> rfl
@[simp] theorem m_ixL (xs : List D) (i : Int) : ixD (.lst xs) (.int i) = getV ((atI xs i).map some) := by
  show (match atI xs i with
    | some d => R.ok d
    | none => .no) = _
  cases atI xs i <;> rfl
theorem atI_pos {α : Type} {xs : List α} {i : Int} (h : 0 ≤ i) (h2 : i < xs.length) : atI xs i = xs[i.toNat]? := by
  unfold atI ixN
  rw [if_pos h, if_pos h2]
  rfl
theorem atI_neg {α : Type} {xs : List α} {i : Int} (h : i < 0) (h2 : -(xs.length : Int) ≤ i) : atI xs i = xs[(i + xs.length).toNat]? := by
  unfold atI ixN
  rw [if_neg (by omega), if_pos h2]
  rfl
@[simp] theorem m_lenL (xs : List D) : lenD [.lst xs] = .ok (.int xs.length) := Eq.trans rfl rfl
@[simp] theorem m_lenT (xs : List D) : lenD [.tup xs] = .ok (.int xs.length) := Eq.trans rfl rfl
@[simp] theorem m_lenS (xs : List Int) : lenD [.scr xs] = .ok (.int xs.length) := Eq.trans rfl rfl
@[simp] theorem m_intI (i : Int) : intD [.int i] = .ok (.int i) := Eq.trans rfl rfl
@[simp] theorem m_intB (b : Bool) : intD [.bl b] = .ok (.int (if b then 1 else 0)) := Eq.trans rfl rfl
end
end Dn
namespace Dn
open PySem L2
/-! ### comprehensions, loops -/
/-- each item gives what stands for something -/
theorem lcD_enc {α : Type} {enc : α → D} {P : α → Prop} {fe : Env → R D} {ρ : Env} {i : Nat} : ∀ {xs : List D}, (∀ x ∈ xs, ∃ a, fe (ρ.set i (some x)) = .ok (enc a) ∧ P a) → ∃ as : List α, lcD (setN i) cYes fe ρ xs = .ok (as.map enc) ∧ as.length = xs.length ∧ ∀ a ∈ as, P a
  | [], _ => ⟨[], rfl, rfl, fun _ h => by simp at h⟩
  | x :: xs, h => by
    obtain ⟨d, h1, h2⟩ := h x List.mem_cons_self
    obtain ⟨ds, h3, h4, h5⟩ := lcD_enc (xs := xs) fun y hy => h y (List.mem_cons_of_mem _ hy)
    refine ⟨d :: ds, ?_, by simp [h4], fun a ha => ?_⟩
    · show (fe (ρ.set i (some x)) >>= fun d => lcD (setN i) cYes fe ρ xs >>= fun ds => R.ok (d :: ds)) = _
      rw [h1, ok_bind, h3, ok_bind]
      rfl
    · rcases List.mem_cons.mp ha with rfl | ha
      · exact h2
      · exact h5 a ha
theorem lcD_map {g : D → D} {fe : Env → R D} {ρ : Env} {i : Nat} : ∀ {xs : List D}, (∀ x ∈ xs, fe (ρ.set i (some x)) = .ok (g x)) → lcD (setN i) cYes fe ρ xs = .ok (xs.map g)
  | [], _ => rfl
  | x :: xs, h => by
    show (fe (ρ.set i (some x)) >>= fun d => lcD (setN i) cYes fe ρ xs >>= fun ds => R.ok (d :: ds)) = _
    rw [h x List.mem_cons_self, ok_bind, lcD_map fun y hy => h y (List.mem_cons_of_mem _ hy), ok_bind]
    rfl
theorem eLc_eq {fi : Env → R (List D)} {vs : List Nat} {i : Nat} {fc : Env → R Bool} {fe : Env → R D} {ρ : Env} {xs : List D} (h : fi ρ = .ok xs) (hn : xs.length ≤ 1000000) :
    eLc fi vs (setN i) fc fe ρ = (lcD (setN i) fc fe (wipeE ρ vs) xs >>= fun ds => .ok (.lst ds)) := by
  unfold eLc
  rw [h, ok_bind, if_pos hn]
theorem eLc_enc {α : Type} {enc : α → D} {P : α → Prop} {fi : Env → R (List D)} {vs : List Nat} {i : Nat} {fe : Env → R D} {ρ : Env} {xs : List D} (h : fi ρ = .ok xs) (hn : xs.length ≤ 1000000)
    (hs : ∀ x ∈ xs, ∃ a, fe ((wipeE ρ vs).set i (some x)) = .ok (enc a) ∧ P a) : ∃ as : List α, eLc fi vs (setN i) cYes fe ρ = .ok (.lst (as.map enc)) ∧ as.length = xs.length ∧ ∀ a ∈ as, P a := by
  obtain ⟨as, h1, h2, h3⟩ := lcD_enc hs
  exact ⟨as, by rw [eLc_eq h hn, h1, ok_bind], h2, h3⟩
theorem eLc_map {g : D → D} {fi : Env → R (List D)} {vs : List Nat} {i : Nat} {fe : Env → R D} {ρ : Env} {xs : List D} (h : fi ρ = .ok xs) (hn : xs.length ≤ 1000000)
    (hs : ∀ x ∈ xs, fe ((wipeE ρ vs).set i (some x)) = .ok (g x)) : eLc fi vs (setN i) cYes fe ρ = .ok (.lst (xs.map g)) := by
  rw [eLc_eq h hn, lcD_map hs, ok_bind]
theorem mem_range {lo : Int} {n : Nat} {x : D} : x ∈ rangeD lo n ↔ ∃ j : Nat, j < n ∧ x = .int (lo + (j : Int)) := by
  unfold rangeD
  rw [List.mem_map]
  constructor
  · rintro ⟨j, hj, rfl⟩
    exact ⟨j, List.mem_range.mp hj, rfl⟩
  · rintro ⟨j, hj, rfl⟩
    exact ⟨j, List.mem_range.mpr hj, rfl⟩
@[simp] theorem len_range (lo : Int) (n : Nat) : (rangeD lo n).length = n := by simp [rangeD]
theorem rng1_ok {n : Int} (h : 0 ≤ n) (h2 : n < 4611686018427387904) : rng1 (.int n) = .ok (rangeD 0 n.toNat) := if_pos ⟨by omega, h2⟩
@[simp] theorem m_range1 (f : Env → R D) (ρ : Env) : iRange1 f ρ = (f ρ >>= rng1) := Eq.trans rfl rfl
@[simp] theorem m_walk (f : Env → R D) (ρ : Env) : iWalk f ρ = (f ρ >>= walkD) := Eq.trans rfl rfl
/-- a loop by an invariant -/
theorem forD_inv {set : D → Env → R Env} {body : Env → R Fl} (I : Nat → Env → Prop) : ∀ {xs : List D} {ρ : Env} {k : Nat}, I k ρ → (∀ j x ρ, I (k + j) ρ → xs[j]? = some x → ∃ ρ1 ρ2, set x ρ = .ok ρ1 ∧ body ρ1 = .ok (.nx ρ2) ∧ I (k + j + 1) ρ2) → ∃ ρ', forD set body xs ρ = .ok (.nx ρ') ∧ I (k + xs.length) ρ'
  | [], ρ, k, h, _ => ⟨ρ, rfl, h⟩
  | x :: xs, ρ, k, h, st => by
    obtain ⟨ρ1, ρ2, h1, h2, h3⟩ := st 0 x ρ h rfl
    obtain ⟨ρ', h4, h5⟩ := forD_inv (xs := xs) (k := k + 1) I h3 fun j y ρ hj hy => by
      obtain ⟨a, b, q1, q2, q3⟩ := st (j + 1) y ρ (by rw [show k + (j + 1) = k + 1 + j by omega]; exact hj) (by simpa using hy)
      exact ⟨a, b, q1, q2, by rw [show k + 1 + j + 1 = k + (j + 1) + 1 by omega]; exact q3⟩
    refine ⟨ρ', ?_, by rw [List.length_cons, show k + (xs.length + 1) = k + 1 + xs.length by omega]; exact h5⟩
    show (set x ρ >>= fun ρ1 => body ρ1 >>= fun fl => _) = _
    rw [h1, ok_bind, h2, ok_bind]
    exact h4
/-! ### data that may be compared -/
mutual
def pl : Nat → D → Bool
  | _, .non => true
  | _, .bl _ => true
  | _, .int _ => true
  | _, .str s => PyData.strOk s
  | n + 1, .tup xs => pls n xs
  | n + 1, .lst xs => pls n xs
  | _, _ => false
def pls : Nat → List D → Bool
  | _, [] => true
  | n, x :: xs => pl n x && pls n xs
end
mutual
theorem pl_shape : ∀ (n : Nat) (d : D), pl n d = true → PyData.canLay0 (toP d) = true ∧ (toP d).depth ≤ n
  | n, .non, h => ⟨rfl, Nat.zero_le _⟩
  | n, .bl _, h => ⟨rfl, Nat.zero_le _⟩
  | n, .int _, h => ⟨rfl, Nat.zero_le _⟩
  | n, .str s, h => ⟨by simpa [toP, PyData.canLay0, pl] using h, Nat.zero_le _⟩
  | n + 1, .tup xs, h => by
    have := pls_shape n xs (by simpa [pl] using h)
    exact ⟨by simpa [toP, PyData.canLay0] using this.1, by simpa [toP, PyData.depth] using this.2⟩
  | n + 1, .lst xs, h => by
    have := pls_shape n xs (by simpa [pl] using h)
    exact ⟨by simpa [toP, PyData.canLay0] using this.1, by simpa [toP, PyData.depth] using this.2⟩
  | 0, .tup xs, h => by simp [pl] at h
  | 0, .lst xs, h => by simp [pl] at h
  | n, .dic xs, h => by cases n <;> simp [pl] at h
  | n, .scr xs, h => by cases n <;> simp [pl] at h
  | n, .err a c, h => by cases n <;> simp [pl] at h
theorem pls_shape : ∀ (n : Nat) (ds : List D), pls n ds = true → PyData.canLayAll0 (toPs ds) = true ∧ PyData.depthAll (toPs ds) ≤ n
  | n, [], h => ⟨rfl, Nat.zero_le _⟩
  | n, d :: ds, h => by
    rw [pls, Bool.and_eq_true] at h
    have h1 := pl_shape n d h.1
    have h2 := pls_shape n ds h.2
    refine ⟨by simp [toPs, PyData.canLayAll0, h1.1, h2.1], ?_⟩
    show max _ _ ≤ n
    omega
end
mutual
theorem eqv_self : ∀ (d : PyData), PyData.canLay0 d = true → PyData.eqv d d = true
  | .none, _ => rfl
  | .bool b, _ => by simp [PyData.eqv]
  | .int b, _ => by simp [PyData.eqv]
  | .str b, _ => by simp [PyData.eqv]
  | .list xs, h => eqvs_self xs (by simpa [PyData.canLay0] using h)
  | .tuple xs, h => eqvs_self xs (by simpa [PyData.canLay0] using h)
  | .dict xs, h => by simp [PyData.canLay0] at h
theorem eqvs_self : ∀ (ds : List PyData), PyData.canLayAll0 ds = true → PyData.eqvAll ds ds = true
  | [], _ => rfl
  | d :: ds, h => by
    rw [PyData.canLayAll0, Bool.and_eq_true] at h
    rw [PyData.eqvAll, eqv_self d h.1, eqvs_self ds h.2]
    rfl
end
theorem shaped_pl {n : Nat} {d : D} (h : pl n d = true) (hn : n ≤ 64) : SeqAt.shaped (toP d) = true := by
  have := pl_shape n d h
  unfold SeqAt.shaped
  rw [this.1, Bool.true_and]
  exact decide_eq_true (Nat.le_trans this.2 hn)
theorem eqD_pl {n : Nat} {d e : D} (h : pl n d = true) (h2 : pl n e = true) (hn : n ≤ 64) : ∃ b, eqD d e = .ok (.bl b) := by
  have a := shaped_pl h hn
  have b := shaped_pl h2 hn
  have k : (SeqAt.shaped (toP d) && SeqAt.shaped (toP e)) = true := by rw [a, b]; rfl
  unfold eqD
  split <;> first | exact ⟨_, rfl⟩ | exact ⟨_, by rw [if_pos k]⟩ | (exfalso; cases n <;> simp [pl] at h)
theorem eqD_self {n : Nat} {d : D} (h : pl n d = true) (hn : n ≤ 64) : eqD d d = .ok (.bl true) := by
  have a := shaped_pl h hn
  have k : (SeqAt.shaped (toP d) && SeqAt.shaped (toP d)) = true := by rw [a]; rfl
  have e := eqv_self _ (pl_shape n d h).1
  cases d with
  | non => rfl
  | bl b => cases b <;> rfl
  | int i => simp
  | str i => simp
  | tup xs =>
    refine Eq.trans (if_pos k) ?_
    rw [e]
  | lst xs =>
    refine Eq.trans (if_pos k) ?_
    rw [e]
  | dic xs => cases n <;> simp [pl] at h
  | scr xs => cases n <;> simp [pl] at h
  | err a c => cases n <;> simp [pl] at h
end Dn
namespace Dn
open PySem L2
/-! ### statements that change, slices -/
@[simp] theorem m_setN (i : Nat) (d : D) (ρ : Env) : setN i d ρ = .ok (ρ.set i (some d)) := Eq.trans rfl rfl
@[simp] theorem m_putE (ρ : Env) (i : Nat) (d : D) : putE ρ i (.ok d) = .ok (.nx (ρ.set i (some d))) := Eq.trans rfl rfl
def revK (ρ : Env) (i : Nat) : Option (Option D) → R Fl
  | some (some d) => putE ρ i (revD d)
  | _ => .no
@[simp] theorem m_rev (i : Nat) (ρ : Env) : sRev i ρ = revK ρ i ρ[i]? := by
  unfold sRev
  cases ρ[i]? with
  | none => rfl
  | some o => cases o <;> rfl
@[simp] theorem m_revK (ρ : Env) (i : Nat) (xs : List D) : revK ρ i (some (some (.lst xs))) = .ok (.nx (ρ.set i (some (.lst xs.reverse)))) := Eq.trans rfl rfl
def appK (ρ : Env) (i : Nat) (y : R D) : Option (Option D) → R Fl
  | some (some (.lst ds)) => y >>= fun y => putE ρ i (appD y (.lst ds))
  | _ => .no
@[simp] theorem m_app (i : Nat) (fe : Env → R D) (ρ : Env) : sApp i fe ρ = appK ρ i (fe ρ) ρ[i]? := by
  unfold sApp
  cases ρ[i]? with
  | none => rfl
  | some o => cases o with
    | none => rfl
    | some d => cases d <;> rfl
theorem m_appK (ρ : Env) (i : Nat) (xs : List D) (y : D) (h : xs.length < most) : appK ρ i (.ok y) (some (some (.lst xs))) = .ok (.nx (ρ.set i (some (.lst (xs ++ [y]))))) := by
  show putE ρ i (if xs.length < most then _ else _) = _
  rw [if_pos h]
  rfl
def putK' (ρ : Env) (i : Nat) (k : R D) (y : D) : Option (Option D) → R Fl
  | some (some d) => k >>= fun k => putE ρ i (storeD d k y)
  | _ => .no
@[simp] theorem m_put (i : Nat) (fk fe : Env → R D) (ρ : Env) : sPut i fk fe ρ = (fe ρ >>= fun y => putK' ρ i (fk ρ) y ρ[i]?) := by
  unfold sPut
  congr 1
@[simp] theorem m_putK (ρ : Env) (i : Nat) (k y d : D) : putK' ρ i (.ok k) y (some (some d)) = putE ρ i (storeD d k y) := Eq.trans rfl rfl
theorem store_int {es : List (L2.Key × D)} {k : Int} {y : D} (h : es.length < most) : storeD (.dic es) (.int k) y = .ok (.dic (putD es (.inl k) y)) := if_pos h
theorem store_at {xs : List D} {k : Int} {y : D} (h : 0 ≤ k) (h2 : k < xs.length) : storeD (.lst xs) (.int k) y = .ok (.lst (xs.set k.toNat y)) := by
  show (match ixN xs.length k with
    | some j => R.ok (D.lst (xs.set j y))
    | none => .no) = _
  unfold ixN
  rw [if_pos h, if_pos h2]
@[simp] theorem m_for (fi : Env → R (List D)) (set : D → Env → R Env) (body : Env → R Fl) (ρ : Env) : sFor fi set body ρ = (fi ρ >>= fun xs => forD set body xs ρ) := Eq.trans rfl rfl
@[simp] theorem m_sl (f : Env → R D) (l h : Env → R (Option Int)) (ρ : Env) : eSl f l h ρ = (f ρ >>= fun d => l ρ >>= fun lo => h ρ >>= fun hi => slD d lo hi) := Eq.trans rfl rfl
@[simp] theorem m_oN (ρ : Env) : oNone ρ = .ok none := Eq.trans rfl rfl
@[simp] theorem m_oS (f : Env → R D) (ρ : Env) : oSome f ρ = (f ρ >>= asI) := Eq.trans rfl rfl
@[simp] theorem m_asI (i : Int) : asI (.int i) = .ok (some i) := Eq.trans rfl rfl
@[simp] theorem m_slL (xs : List D) (lo hi : Option Int) : slD (.lst xs) lo hi = .ok (.lst (cut xs lo hi)) := Eq.trans rfl rfl
@[simp] theorem m_slT (xs : List D) (lo hi : Option Int) : slD (.tup xs) lo hi = .ok (.tup (cut xs lo hi)) := Eq.trans rfl rfl
theorem cut_neg {α : Type} (xs : List α) (k : Int) (h : k < 0) : cut xs none (some k) = xs.take (k + xs.length).toNat := by
  show (xs.drop 0).take ((if k < 0 then (k + (xs.length : Int)).toNat else min k.toNat xs.length) - 0) = _
  rw [if_pos h]
  simp
theorem cut_to {α : Type} (xs : List α) (k : Int) (h : 0 ≤ k) : cut xs none (some k) = xs.take k.toNat := by
  show (xs.drop 0).take ((if k < 0 then (k + (xs.length : Int)).toNat else min k.toNat xs.length) - 0) = _
  rw [if_neg (by omega)]
  simp only [List.drop_zero, Nat.sub_zero]
  rcases Nat.le_total k.toNat xs.length with h | h
  · rw [Nat.min_eq_left h]
  · rw [Nat.min_eq_right h, List.take_of_length_le (Nat.le_refl _), List.take_of_length_le h]
theorem cut_from {α : Type} (xs : List α) (k : Int) (h : 0 ≤ k) : cut xs (some k) none = xs.drop k.toNat := by
  show (xs.drop (if k < 0 then (k + (xs.length : Int)).toNat else min k.toNat xs.length)).take (xs.length - (if k < 0 then (k + (xs.length : Int)).toNat else min k.toNat xs.length)) = _
  rw [if_neg (by omega)]
  rcases Nat.le_total k.toNat xs.length with h | h
  · rw [Nat.min_eq_left h]
    exact List.take_of_length_le (by simp)
  · rw [Nat.min_eq_right h, List.drop_eq_nil_of_le h]
    simp
theorem m_catL (a b : List D) (h : a.length + b.length ≤ most) : addD (.lst a) (.lst b) = .ok (.lst (a ++ b)) := if_pos h
theorem m_catT (a b : List D) (h : a.length + b.length ≤ most) : addD (.tup a) (.tup b) = .ok (.tup (a ++ b)) := if_pos h
@[simp] theorem m_listL (xs : List D) : listD [.lst xs] = .ok (.lst xs) := Eq.trans rfl rfl
@[simp] theorem m_listT (xs : List D) : listD [.tup xs] = .ok (.lst xs) := Eq.trans rfl rfl
@[simp] theorem m_dictD (es : List (L2.Key × D)) : dictD [.dic es] = .ok (.dic es) := Eq.trans rfl rfl
@[simp] theorem m_tupL (xs : List D) : tupleD [.lst xs] = .ok (.tup xs) := Eq.trans rfl rfl
end Dn
namespace Dn
open PySem L2
@[simp] theorem at1_0 {α : Type} (a0 : α) : atI [a0] 0 = some a0 := by simp [atI, ixN]
@[simp] theorem at2_0 {α : Type} (a0 a1 : α) : atI [a0, a1] 0 = some a0 := by simp [atI, ixN]
@[simp] theorem at2_1 {α : Type} (a0 a1 : α) : atI [a0, a1] 1 = some a1 := by simp [atI, ixN]
@[simp] theorem at3_0 {α : Type} (a0 a1 a2 : α) : atI [a0, a1, a2] 0 = some a0 := by simp [atI, ixN]
@[simp] theorem at3_1 {α : Type} (a0 a1 a2 : α) : atI [a0, a1, a2] 1 = some a1 := by simp [atI, ixN]
@[simp] theorem at3_2 {α : Type} (a0 a1 a2 : α) : atI [a0, a1, a2] 2 = some a2 := by simp [atI, ixN]
@[simp] theorem at4_0 {α : Type} (a0 a1 a2 a3 : α) : atI [a0, a1, a2, a3] 0 = some a0 := by simp [atI, ixN]
@[simp] theorem at4_1 {α : Type} (a0 a1 a2 a3 : α) : atI [a0, a1, a2, a3] 1 = some a1 := by simp [atI, ixN]
@[simp] theorem at4_2 {α : Type} (a0 a1 a2 a3 : α) : atI [a0, a1, a2, a3] 2 = some a2 := by simp [atI, ixN]
@[simp] theorem at4_3 {α : Type} (a0 a1 a2 a3 : α) : atI [a0, a1, a2, a3] 3 = some a3 := by simp [atI, ixN]
@[simp] theorem at5_0 {α : Type} (a0 a1 a2 a3 a4 : α) : atI [a0, a1, a2, a3, a4] 0 = some a0 := by simp [atI, ixN]
@[simp] theorem at5_1 {α : Type} (a0 a1 a2 a3 a4 : α) : atI [a0, a1, a2, a3, a4] 1 = some a1 := by simp [atI, ixN]
@[simp] theorem at5_2 {α : Type} (a0 a1 a2 a3 a4 : α) : atI [a0, a1, a2, a3, a4] 2 = some a2 := by simp [atI, ixN]
@[simp] theorem at5_3 {α : Type} (a0 a1 a2 a3 a4 : α) : atI [a0, a1, a2, a3, a4] 3 = some a3 := by simp [atI, ixN]
@[simp] theorem at5_4 {α : Type} (a0 a1 a2 a3 a4 : α) : atI [a0, a1, a2, a3, a4] 4 = some a4 := by simp [atI, ixN]
@[simp] theorem at6_0 {α : Type} (a0 a1 a2 a3 a4 a5 : α) : atI [a0, a1, a2, a3, a4, a5] 0 = some a0 := by simp [atI, ixN]
@[simp] theorem at6_1 {α : Type} (a0 a1 a2 a3 a4 a5 : α) : atI [a0, a1, a2, a3, a4, a5] 1 = some a1 := by simp [atI, ixN]
@[simp] theorem at6_2 {α : Type} (a0 a1 a2 a3 a4 a5 : α) : atI [a0, a1, a2, a3, a4, a5] 2 = some a2 := by simp [atI, ixN]
@[simp] theorem at6_3 {α : Type} (a0 a1 a2 a3 a4 a5 : α) : atI [a0, a1, a2, a3, a4, a5] 3 = some a3 := by simp [atI, ixN]
@[simp] theorem at6_4 {α : Type} (a0 a1 a2 a3 a4 a5 : α) : atI [a0, a1, a2, a3, a4, a5] 4 = some a4 := by simp [atI, ixN]
@[simp] theorem at6_5 {α : Type} (a0 a1 a2 a3 a4 a5 : α) : atI [a0, a1, a2, a3, a4, a5] 5 = some a5 := by simp [atI, ixN]
theorem at_last {α : Type} (xs : List α) : atI xs (-1) = xs.getLast? := by
  cases h : xs.length with
  | zero =>
    have : xs = [] := List.length_eq_zero_iff.mp h
    subst this
    rfl
  | succ n =>
    rw [atI_neg (by decide) (by omega), List.getLast?_eq_getElem?, h]
    congr 1
    omega
theorem at_snd {α : Type} (xs : List α) (h : 2 ≤ xs.length) : atI xs (-2) = xs[xs.length - 2]? := by
  rw [atI_neg (by decide) (by omega)]
  congr 1
  omega
end Dn

namespace Dn
open PySem L2 PyProof.Rows
def topS (i : Nat) : Stmt := PySem.Challenge.pw_sleepwalk_k05_programs_checked.main.body.getD i (.Pass ⟨0, 0, 0, 0⟩)
def w_drop : Str := "drop"
def w_0 : Str := ""
def w_fun : Str := "fun"
def w_fill : Str := "fill"
def w_open : Str := "open"
def w_box : Str := "box"
def w_same : Str := "same"
def w_less : Str := "less"
def w_times : Str := "times"
def w_minus : Str := "minus"
def w_add : Str := "add"
def w_keep : Str := "keep"
def w_get : Str := "get"
def w_num : Str := "num"
def w_say : Str := "say"
def w_unless : Str := "unless"
def w_jump : Str := "jump"
def w_back : Str := "back"
def w_call : Str := "call"
def w_bodies : Str := "bodies"
def w_many : Str := "many"
def w_zero : Str := "0"
def w_1 : Str := "1"
def w_a : Str := "a"
def w_ad : Str := "ad"
def w_Add : Str := "Add"
def w_instruction : Str := "instruction"
def w_body : Str := "body"
def w_place : Str := "place"
def w_other : Str := "other"
def w_fit : Str := "fit"
def w_words : Str := "words"
def w_step : Str := "step"
@[simp] theorem ne_w_drop_w_0 : (w_drop = w_0) = False := eq_false (by decide +kernel)
@[simp] theorem ne_w_drop_w_fun : (w_drop = w_fun) = False := eq_false (by decide +kernel)
@[simp] theorem ne_w_drop_w_fill : (w_drop = w_fill) = False := eq_false (by decide +kernel)
@[simp] theorem ne_w_drop_w_open : (w_drop = w_open) = False := eq_false (by decide +kernel)
@[simp] theorem ne_w_drop_w_box : (w_drop = w_box) = False := eq_false (by decide +kernel)
@[simp] theorem ne_w_drop_w_same : (w_drop = w_same) = False := eq_false (by decide +kernel)
@[simp] theorem ne_w_drop_w_less : (w_drop = w_less) = False := eq_false (by decide +kernel)
@[simp] theorem ne_w_drop_w_times : (w_drop = w_times) = False := eq_false (by decide +kernel)
@[simp] theorem ne_w_drop_w_minus : (w_drop = w_minus) = False := eq_false (by decide +kernel)
@[simp] theorem ne_w_drop_w_add : (w_drop = w_add) = False := eq_false (by decide +kernel)
@[simp] theorem ne_w_drop_w_keep : (w_drop = w_keep) = False := eq_false (by decide +kernel)
@[simp] theorem ne_w_drop_w_get : (w_drop = w_get) = False := eq_false (by decide +kernel)
@[simp] theorem ne_w_drop_w_num : (w_drop = w_num) = False := eq_false (by decide +kernel)
@[simp] theorem ne_w_drop_w_say : (w_drop = w_say) = False := eq_false (by decide +kernel)
@[simp] theorem ne_w_drop_w_unless : (w_drop = w_unless) = False := eq_false (by decide +kernel)
@[simp] theorem ne_w_drop_w_jump : (w_drop = w_jump) = False := eq_false (by decide +kernel)
@[simp] theorem ne_w_drop_w_back : (w_drop = w_back) = False := eq_false (by decide +kernel)
@[simp] theorem ne_w_drop_w_call : (w_drop = w_call) = False := eq_false (by decide +kernel)
@[simp] theorem ne_w_drop_w_bodies : (w_drop = w_bodies) = False := eq_false (by decide +kernel)
@[simp] theorem ne_w_drop_w_many : (w_drop = w_many) = False := eq_false (by decide +kernel)
@[simp] theorem ne_w_drop_w_zero : (w_drop = w_zero) = False := eq_false (by decide +kernel)
@[simp] theorem ne_w_drop_w_1 : (w_drop = w_1) = False := eq_false (by decide +kernel)
@[simp] theorem ne_w_drop_w_a : (w_drop = w_a) = False := eq_false (by decide +kernel)
@[simp] theorem ne_w_drop_w_ad : (w_drop = w_ad) = False := eq_false (by decide +kernel)
@[simp] theorem ne_w_drop_w_Add : (w_drop = w_Add) = False := eq_false (by decide +kernel)
@[simp] theorem ne_w_drop_w_instruction : (w_drop = w_instruction) = False := eq_false (by decide +kernel)
@[simp] theorem ne_w_drop_w_body : (w_drop = w_body) = False := eq_false (by decide +kernel)
@[simp] theorem ne_w_drop_w_place : (w_drop = w_place) = False := eq_false (by decide +kernel)
@[simp] theorem ne_w_drop_w_other : (w_drop = w_other) = False := eq_false (by decide +kernel)
@[simp] theorem ne_w_drop_w_fit : (w_drop = w_fit) = False := eq_false (by decide +kernel)
@[simp] theorem ne_w_drop_w_words : (w_drop = w_words) = False := eq_false (by decide +kernel)
@[simp] theorem ne_w_drop_w_step : (w_drop = w_step) = False := eq_false (by decide +kernel)
@[simp] theorem ne_w_0_w_drop : (w_0 = w_drop) = False := eq_false (by decide +kernel)
@[simp] theorem ne_w_0_w_fun : (w_0 = w_fun) = False := eq_false (by decide +kernel)
@[simp] theorem ne_w_0_w_fill : (w_0 = w_fill) = False := eq_false (by decide +kernel)
@[simp] theorem ne_w_0_w_open : (w_0 = w_open) = False := eq_false (by decide +kernel)
@[simp] theorem ne_w_0_w_box : (w_0 = w_box) = False := eq_false (by decide +kernel)
@[simp] theorem ne_w_0_w_same : (w_0 = w_same) = False := eq_false (by decide +kernel)
@[simp] theorem ne_w_0_w_less : (w_0 = w_less) = False := eq_false (by decide +kernel)
@[simp] theorem ne_w_0_w_times : (w_0 = w_times) = False := eq_false (by decide +kernel)
@[simp] theorem ne_w_0_w_minus : (w_0 = w_minus) = False := eq_false (by decide +kernel)
@[simp] theorem ne_w_0_w_add : (w_0 = w_add) = False := eq_false (by decide +kernel)
@[simp] theorem ne_w_0_w_keep : (w_0 = w_keep) = False := eq_false (by decide +kernel)
@[simp] theorem ne_w_0_w_get : (w_0 = w_get) = False := eq_false (by decide +kernel)
@[simp] theorem ne_w_0_w_num : (w_0 = w_num) = False := eq_false (by decide +kernel)
@[simp] theorem ne_w_0_w_say : (w_0 = w_say) = False := eq_false (by decide +kernel)
@[simp] theorem ne_w_0_w_unless : (w_0 = w_unless) = False := eq_false (by decide +kernel)
@[simp] theorem ne_w_0_w_jump : (w_0 = w_jump) = False := eq_false (by decide +kernel)
@[simp] theorem ne_w_0_w_back : (w_0 = w_back) = False := eq_false (by decide +kernel)
@[simp] theorem ne_w_0_w_call : (w_0 = w_call) = False := eq_false (by decide +kernel)
@[simp] theorem ne_w_0_w_bodies : (w_0 = w_bodies) = False := eq_false (by decide +kernel)
@[simp] theorem ne_w_0_w_many : (w_0 = w_many) = False := eq_false (by decide +kernel)
@[simp] theorem ne_w_0_w_zero : (w_0 = w_zero) = False := eq_false (by decide +kernel)
@[simp] theorem ne_w_0_w_1 : (w_0 = w_1) = False := eq_false (by decide +kernel)
@[simp] theorem ne_w_0_w_a : (w_0 = w_a) = False := eq_false (by decide +kernel)
@[simp] theorem ne_w_0_w_ad : (w_0 = w_ad) = False := eq_false (by decide +kernel)
@[simp] theorem ne_w_0_w_Add : (w_0 = w_Add) = False := eq_false (by decide +kernel)
@[simp] theorem ne_w_0_w_instruction : (w_0 = w_instruction) = False := eq_false (by decide +kernel)
@[simp] theorem ne_w_0_w_body : (w_0 = w_body) = False := eq_false (by decide +kernel)
@[simp] theorem ne_w_0_w_place : (w_0 = w_place) = False := eq_false (by decide +kernel)
@[simp] theorem ne_w_0_w_other : (w_0 = w_other) = False := eq_false (by decide +kernel)
@[simp] theorem ne_w_0_w_fit : (w_0 = w_fit) = False := eq_false (by decide +kernel)
@[simp] theorem ne_w_0_w_words : (w_0 = w_words) = False := eq_false (by decide +kernel)
@[simp] theorem ne_w_0_w_step : (w_0 = w_step) = False := eq_false (by decide +kernel)
@[simp] theorem ne_w_fun_w_drop : (w_fun = w_drop) = False := eq_false (by decide +kernel)
@[simp] theorem ne_w_fun_w_0 : (w_fun = w_0) = False := eq_false (by decide +kernel)
@[simp] theorem ne_w_fun_w_fill : (w_fun = w_fill) = False := eq_false (by decide +kernel)
@[simp] theorem ne_w_fun_w_open : (w_fun = w_open) = False := eq_false (by decide +kernel)
@[simp] theorem ne_w_fun_w_box : (w_fun = w_box) = False := eq_false (by decide +kernel)
@[simp] theorem ne_w_fun_w_same : (w_fun = w_same) = False := eq_false (by decide +kernel)
@[simp] theorem ne_w_fun_w_less : (w_fun = w_less) = False := eq_false (by decide +kernel)
@[simp] theorem ne_w_fun_w_times : (w_fun = w_times) = False := eq_false (by decide +kernel)
@[simp] theorem ne_w_fun_w_minus : (w_fun = w_minus) = False := eq_false (by decide +kernel)
@[simp] theorem ne_w_fun_w_add : (w_fun = w_add) = False := eq_false (by decide +kernel)
@[simp] theorem ne_w_fun_w_keep : (w_fun = w_keep) = False := eq_false (by decide +kernel)
@[simp] theorem ne_w_fun_w_get : (w_fun = w_get) = False := eq_false (by decide +kernel)
@[simp] theorem ne_w_fun_w_num : (w_fun = w_num) = False := eq_false (by decide +kernel)
@[simp] theorem ne_w_fun_w_say : (w_fun = w_say) = False := eq_false (by decide +kernel)
@[simp] theorem ne_w_fun_w_unless : (w_fun = w_unless) = False := eq_false (by decide +kernel)
@[simp] theorem ne_w_fun_w_jump : (w_fun = w_jump) = False := eq_false (by decide +kernel)
@[simp] theorem ne_w_fun_w_back : (w_fun = w_back) = False := eq_false (by decide +kernel)
@[simp] theorem ne_w_fun_w_call : (w_fun = w_call) = False := eq_false (by decide +kernel)
@[simp] theorem ne_w_fun_w_bodies : (w_fun = w_bodies) = False := eq_false (by decide +kernel)
@[simp] theorem ne_w_fun_w_many : (w_fun = w_many) = False := eq_false (by decide +kernel)
@[simp] theorem ne_w_fun_w_zero : (w_fun = w_zero) = False := eq_false (by decide +kernel)
@[simp] theorem ne_w_fun_w_1 : (w_fun = w_1) = False := eq_false (by decide +kernel)
@[simp] theorem ne_w_fun_w_a : (w_fun = w_a) = False := eq_false (by decide +kernel)
@[simp] theorem ne_w_fun_w_ad : (w_fun = w_ad) = False := eq_false (by decide +kernel)
@[simp] theorem ne_w_fun_w_Add : (w_fun = w_Add) = False := eq_false (by decide +kernel)
@[simp] theorem ne_w_fun_w_instruction : (w_fun = w_instruction) = False := eq_false (by decide +kernel)
@[simp] theorem ne_w_fun_w_body : (w_fun = w_body) = False := eq_false (by decide +kernel)
@[simp] theorem ne_w_fun_w_place : (w_fun = w_place) = False := eq_false (by decide +kernel)
@[simp] theorem ne_w_fun_w_other : (w_fun = w_other) = False := eq_false (by decide +kernel)
@[simp] theorem ne_w_fun_w_fit : (w_fun = w_fit) = False := eq_false (by decide +kernel)
@[simp] theorem ne_w_fun_w_words : (w_fun = w_words) = False := eq_false (by decide +kernel)
@[simp] theorem ne_w_fun_w_step : (w_fun = w_step) = False := eq_false (by decide +kernel)
@[simp] theorem ne_w_fill_w_drop : (w_fill = w_drop) = False := eq_false (by decide +kernel)
@[simp] theorem ne_w_fill_w_0 : (w_fill = w_0) = False := eq_false (by decide +kernel)
@[simp] theorem ne_w_fill_w_fun : (w_fill = w_fun) = False := eq_false (by decide +kernel)
@[simp] theorem ne_w_fill_w_open : (w_fill = w_open) = False := eq_false (by decide +kernel)
@[simp] theorem ne_w_fill_w_box : (w_fill = w_box) = False := eq_false (by decide +kernel)
@[simp] theorem ne_w_fill_w_same : (w_fill = w_same) = False := eq_false (by decide +kernel)
@[simp] theorem ne_w_fill_w_less : (w_fill = w_less) = False := eq_false (by decide +kernel)
@[simp] theorem ne_w_fill_w_times : (w_fill = w_times) = False := eq_false (by decide +kernel)
@[simp] theorem ne_w_fill_w_minus : (w_fill = w_minus) = False := eq_false (by decide +kernel)
@[simp] theorem ne_w_fill_w_add : (w_fill = w_add) = False := eq_false (by decide +kernel)
@[simp] theorem ne_w_fill_w_keep : (w_fill = w_keep) = False := eq_false (by decide +kernel)
@[simp] theorem ne_w_fill_w_get : (w_fill = w_get) = False := eq_false (by decide +kernel)
@[simp] theorem ne_w_fill_w_num : (w_fill = w_num) = False := eq_false (by decide +kernel)
@[simp] theorem ne_w_fill_w_say : (w_fill = w_say) = False := eq_false (by decide +kernel)
@[simp] theorem ne_w_fill_w_unless : (w_fill = w_unless) = False := eq_false (by decide +kernel)
@[simp] theorem ne_w_fill_w_jump : (w_fill = w_jump) = False := eq_false (by decide +kernel)
@[simp] theorem ne_w_fill_w_back : (w_fill = w_back) = False := eq_false (by decide +kernel)
@[simp] theorem ne_w_fill_w_call : (w_fill = w_call) = False := eq_false (by decide +kernel)
@[simp] theorem ne_w_fill_w_bodies : (w_fill = w_bodies) = False := eq_false (by decide +kernel)
@[simp] theorem ne_w_fill_w_many : (w_fill = w_many) = False := eq_false (by decide +kernel)
@[simp] theorem ne_w_fill_w_zero : (w_fill = w_zero) = False := eq_false (by decide +kernel)
@[simp] theorem ne_w_fill_w_1 : (w_fill = w_1) = False := eq_false (by decide +kernel)
@[simp] theorem ne_w_fill_w_a : (w_fill = w_a) = False := eq_false (by decide +kernel)
@[simp] theorem ne_w_fill_w_ad : (w_fill = w_ad) = False := eq_false (by decide +kernel)
@[simp] theorem ne_w_fill_w_Add : (w_fill = w_Add) = False := eq_false (by decide +kernel)
@[simp] theorem ne_w_fill_w_instruction : (w_fill = w_instruction) = False := eq_false (by decide +kernel)
@[simp] theorem ne_w_fill_w_body : (w_fill = w_body) = False := eq_false (by decide +kernel)
@[simp] theorem ne_w_fill_w_place : (w_fill = w_place) = False := eq_false (by decide +kernel)
@[simp] theorem ne_w_fill_w_other : (w_fill = w_other) = False := eq_false (by decide +kernel)
@[simp] theorem ne_w_fill_w_fit : (w_fill = w_fit) = False := eq_false (by decide +kernel)
@[simp] theorem ne_w_fill_w_words : (w_fill = w_words) = False := eq_false (by decide +kernel)
@[simp] theorem ne_w_fill_w_step : (w_fill = w_step) = False := eq_false (by decide +kernel)
@[simp] theorem ne_w_open_w_drop : (w_open = w_drop) = False := eq_false (by decide +kernel)
@[simp] theorem ne_w_open_w_0 : (w_open = w_0) = False := eq_false (by decide +kernel)
@[simp] theorem ne_w_open_w_fun : (w_open = w_fun) = False := eq_false (by decide +kernel)
@[simp] theorem ne_w_open_w_fill : (w_open = w_fill) = False := eq_false (by decide +kernel)
@[simp] theorem ne_w_open_w_box : (w_open = w_box) = False := eq_false (by decide +kernel)
@[simp] theorem ne_w_open_w_same : (w_open = w_same) = False := eq_false (by decide +kernel)
@[simp] theorem ne_w_open_w_less : (w_open = w_less) = False := eq_false (by decide +kernel)
@[simp] theorem ne_w_open_w_times : (w_open = w_times) = False := eq_false (by decide +kernel)
@[simp] theorem ne_w_open_w_minus : (w_open = w_minus) = False := eq_false (by decide +kernel)
@[simp] theorem ne_w_open_w_add : (w_open = w_add) = False := eq_false (by decide +kernel)
@[simp] theorem ne_w_open_w_keep : (w_open = w_keep) = False := eq_false (by decide +kernel)
@[simp] theorem ne_w_open_w_get : (w_open = w_get) = False := eq_false (by decide +kernel)
@[simp] theorem ne_w_open_w_num : (w_open = w_num) = False := eq_false (by decide +kernel)
@[simp] theorem ne_w_open_w_say : (w_open = w_say) = False := eq_false (by decide +kernel)
@[simp] theorem ne_w_open_w_unless : (w_open = w_unless) = False := eq_false (by decide +kernel)
@[simp] theorem ne_w_open_w_jump : (w_open = w_jump) = False := eq_false (by decide +kernel)
@[simp] theorem ne_w_open_w_back : (w_open = w_back) = False := eq_false (by decide +kernel)
@[simp] theorem ne_w_open_w_call : (w_open = w_call) = False := eq_false (by decide +kernel)
@[simp] theorem ne_w_open_w_bodies : (w_open = w_bodies) = False := eq_false (by decide +kernel)
@[simp] theorem ne_w_open_w_many : (w_open = w_many) = False := eq_false (by decide +kernel)
@[simp] theorem ne_w_open_w_zero : (w_open = w_zero) = False := eq_false (by decide +kernel)
@[simp] theorem ne_w_open_w_1 : (w_open = w_1) = False := eq_false (by decide +kernel)
@[simp] theorem ne_w_open_w_a : (w_open = w_a) = False := eq_false (by decide +kernel)
@[simp] theorem ne_w_open_w_ad : (w_open = w_ad) = False := eq_false (by decide +kernel)
@[simp] theorem ne_w_open_w_Add : (w_open = w_Add) = False := eq_false (by decide +kernel)
@[simp] theorem ne_w_open_w_instruction : (w_open = w_instruction) = False := eq_false (by decide +kernel)
@[simp] theorem ne_w_open_w_body : (w_open = w_body) = False := eq_false (by decide +kernel)
@[simp] theorem ne_w_open_w_place : (w_open = w_place) = False := eq_false (by decide +kernel)
@[simp] theorem ne_w_open_w_other : (w_open = w_other) = False := eq_false (by decide +kernel)
@[simp] theorem ne_w_open_w_fit : (w_open = w_fit) = False := eq_false (by decide +kernel)
@[simp] theorem ne_w_open_w_words : (w_open = w_words) = False := eq_false (by decide +kernel)
@[simp] theorem ne_w_open_w_step : (w_open = w_step) = False := eq_false (by decide +kernel)
@[simp] theorem ne_w_box_w_drop : (w_box = w_drop) = False := eq_false (by decide +kernel)
@[simp] theorem ne_w_box_w_0 : (w_box = w_0) = False := eq_false (by decide +kernel)
@[simp] theorem ne_w_box_w_fun : (w_box = w_fun) = False := eq_false (by decide +kernel)
@[simp] theorem ne_w_box_w_fill : (w_box = w_fill) = False := eq_false (by decide +kernel)
@[simp] theorem ne_w_box_w_open : (w_box = w_open) = False := eq_false (by decide +kernel)
@[simp] theorem ne_w_box_w_same : (w_box = w_same) = False := eq_false (by decide +kernel)
@[simp] theorem ne_w_box_w_less : (w_box = w_less) = False := eq_false (by decide +kernel)
@[simp] theorem ne_w_box_w_times : (w_box = w_times) = False := eq_false (by decide +kernel)
@[simp] theorem ne_w_box_w_minus : (w_box = w_minus) = False := eq_false (by decide +kernel)
@[simp] theorem ne_w_box_w_add : (w_box = w_add) = False := eq_false (by decide +kernel)
@[simp] theorem ne_w_box_w_keep : (w_box = w_keep) = False := eq_false (by decide +kernel)
@[simp] theorem ne_w_box_w_get : (w_box = w_get) = False := eq_false (by decide +kernel)
@[simp] theorem ne_w_box_w_num : (w_box = w_num) = False := eq_false (by decide +kernel)
@[simp] theorem ne_w_box_w_say : (w_box = w_say) = False := eq_false (by decide +kernel)
@[simp] theorem ne_w_box_w_unless : (w_box = w_unless) = False := eq_false (by decide +kernel)
@[simp] theorem ne_w_box_w_jump : (w_box = w_jump) = False := eq_false (by decide +kernel)
@[simp] theorem ne_w_box_w_back : (w_box = w_back) = False := eq_false (by decide +kernel)
@[simp] theorem ne_w_box_w_call : (w_box = w_call) = False := eq_false (by decide +kernel)
@[simp] theorem ne_w_box_w_bodies : (w_box = w_bodies) = False := eq_false (by decide +kernel)
@[simp] theorem ne_w_box_w_many : (w_box = w_many) = False := eq_false (by decide +kernel)
@[simp] theorem ne_w_box_w_zero : (w_box = w_zero) = False := eq_false (by decide +kernel)
@[simp] theorem ne_w_box_w_1 : (w_box = w_1) = False := eq_false (by decide +kernel)
@[simp] theorem ne_w_box_w_a : (w_box = w_a) = False := eq_false (by decide +kernel)
@[simp] theorem ne_w_box_w_ad : (w_box = w_ad) = False := eq_false (by decide +kernel)
@[simp] theorem ne_w_box_w_Add : (w_box = w_Add) = False := eq_false (by decide +kernel)
@[simp] theorem ne_w_box_w_instruction : (w_box = w_instruction) = False := eq_false (by decide +kernel)
@[simp] theorem ne_w_box_w_body : (w_box = w_body) = False := eq_false (by decide +kernel)
@[simp] theorem ne_w_box_w_place : (w_box = w_place) = False := eq_false (by decide +kernel)
@[simp] theorem ne_w_box_w_other : (w_box = w_other) = False := eq_false (by decide +kernel)
@[simp] theorem ne_w_box_w_fit : (w_box = w_fit) = False := eq_false (by decide +kernel)
@[simp] theorem ne_w_box_w_words : (w_box = w_words) = False := eq_false (by decide +kernel)
@[simp] theorem ne_w_box_w_step : (w_box = w_step) = False := eq_false (by decide +kernel)
@[simp] theorem ne_w_same_w_drop : (w_same = w_drop) = False := eq_false (by decide +kernel)
@[simp] theorem ne_w_same_w_0 : (w_same = w_0) = False := eq_false (by decide +kernel)
@[simp] theorem ne_w_same_w_fun : (w_same = w_fun) = False := eq_false (by decide +kernel)
@[simp] theorem ne_w_same_w_fill : (w_same = w_fill) = False := eq_false (by decide +kernel)
@[simp] theorem ne_w_same_w_open : (w_same = w_open) = False := eq_false (by decide +kernel)
@[simp] theorem ne_w_same_w_box : (w_same = w_box) = False := eq_false (by decide +kernel)
@[simp] theorem ne_w_same_w_less : (w_same = w_less) = False := eq_false (by decide +kernel)
@[simp] theorem ne_w_same_w_times : (w_same = w_times) = False := eq_false (by decide +kernel)
@[simp] theorem ne_w_same_w_minus : (w_same = w_minus) = False := eq_false (by decide +kernel)
@[simp] theorem ne_w_same_w_add : (w_same = w_add) = False := eq_false (by decide +kernel)
@[simp] theorem ne_w_same_w_keep : (w_same = w_keep) = False := eq_false (by decide +kernel)
@[simp] theorem ne_w_same_w_get : (w_same = w_get) = False := eq_false (by decide +kernel)
@[simp] theorem ne_w_same_w_num : (w_same = w_num) = False := eq_false (by decide +kernel)
@[simp] theorem ne_w_same_w_say : (w_same = w_say) = False := eq_false (by decide +kernel)
@[simp] theorem ne_w_same_w_unless : (w_same = w_unless) = False := eq_false (by decide +kernel)
@[simp] theorem ne_w_same_w_jump : (w_same = w_jump) = False := eq_false (by decide +kernel)
@[simp] theorem ne_w_same_w_back : (w_same = w_back) = False := eq_false (by decide +kernel)
@[simp] theorem ne_w_same_w_call : (w_same = w_call) = False := eq_false (by decide +kernel)
@[simp] theorem ne_w_same_w_bodies : (w_same = w_bodies) = False := eq_false (by decide +kernel)
@[simp] theorem ne_w_same_w_many : (w_same = w_many) = False := eq_false (by decide +kernel)
@[simp] theorem ne_w_same_w_zero : (w_same = w_zero) = False := eq_false (by decide +kernel)
@[simp] theorem ne_w_same_w_1 : (w_same = w_1) = False := eq_false (by decide +kernel)
@[simp] theorem ne_w_same_w_a : (w_same = w_a) = False := eq_false (by decide +kernel)
@[simp] theorem ne_w_same_w_ad : (w_same = w_ad) = False := eq_false (by decide +kernel)
@[simp] theorem ne_w_same_w_Add : (w_same = w_Add) = False := eq_false (by decide +kernel)
@[simp] theorem ne_w_same_w_instruction : (w_same = w_instruction) = False := eq_false (by decide +kernel)
@[simp] theorem ne_w_same_w_body : (w_same = w_body) = False := eq_false (by decide +kernel)
@[simp] theorem ne_w_same_w_place : (w_same = w_place) = False := eq_false (by decide +kernel)
@[simp] theorem ne_w_same_w_other : (w_same = w_other) = False := eq_false (by decide +kernel)
@[simp] theorem ne_w_same_w_fit : (w_same = w_fit) = False := eq_false (by decide +kernel)
@[simp] theorem ne_w_same_w_words : (w_same = w_words) = False := eq_false (by decide +kernel)
@[simp] theorem ne_w_same_w_step : (w_same = w_step) = False := eq_false (by decide +kernel)
@[simp] theorem ne_w_less_w_drop : (w_less = w_drop) = False := eq_false (by decide +kernel)
@[simp] theorem ne_w_less_w_0 : (w_less = w_0) = False := eq_false (by decide +kernel)
@[simp] theorem ne_w_less_w_fun : (w_less = w_fun) = False := eq_false (by decide +kernel)
@[simp] theorem ne_w_less_w_fill : (w_less = w_fill) = False := eq_false (by decide +kernel)
@[simp] theorem ne_w_less_w_open : (w_less = w_open) = False := eq_false (by decide +kernel)
@[simp] theorem ne_w_less_w_box : (w_less = w_box) = False := eq_false (by decide +kernel)
@[simp] theorem ne_w_less_w_same : (w_less = w_same) = False := eq_false (by decide +kernel)
@[simp] theorem ne_w_less_w_times : (w_less = w_times) = False := eq_false (by decide +kernel)
@[simp] theorem ne_w_less_w_minus : (w_less = w_minus) = False := eq_false (by decide +kernel)
@[simp] theorem ne_w_less_w_add : (w_less = w_add) = False := eq_false (by decide +kernel)
@[simp] theorem ne_w_less_w_keep : (w_less = w_keep) = False := eq_false (by decide +kernel)
@[simp] theorem ne_w_less_w_get : (w_less = w_get) = False := eq_false (by decide +kernel)
@[simp] theorem ne_w_less_w_num : (w_less = w_num) = False := eq_false (by decide +kernel)
@[simp] theorem ne_w_less_w_say : (w_less = w_say) = False := eq_false (by decide +kernel)
@[simp] theorem ne_w_less_w_unless : (w_less = w_unless) = False := eq_false (by decide +kernel)
@[simp] theorem ne_w_less_w_jump : (w_less = w_jump) = False := eq_false (by decide +kernel)
@[simp] theorem ne_w_less_w_back : (w_less = w_back) = False := eq_false (by decide +kernel)
@[simp] theorem ne_w_less_w_call : (w_less = w_call) = False := eq_false (by decide +kernel)
@[simp] theorem ne_w_less_w_bodies : (w_less = w_bodies) = False := eq_false (by decide +kernel)
@[simp] theorem ne_w_less_w_many : (w_less = w_many) = False := eq_false (by decide +kernel)
@[simp] theorem ne_w_less_w_zero : (w_less = w_zero) = False := eq_false (by decide +kernel)
@[simp] theorem ne_w_less_w_1 : (w_less = w_1) = False := eq_false (by decide +kernel)
@[simp] theorem ne_w_less_w_a : (w_less = w_a) = False := eq_false (by decide +kernel)
@[simp] theorem ne_w_less_w_ad : (w_less = w_ad) = False := eq_false (by decide +kernel)
@[simp] theorem ne_w_less_w_Add : (w_less = w_Add) = False := eq_false (by decide +kernel)
@[simp] theorem ne_w_less_w_instruction : (w_less = w_instruction) = False := eq_false (by decide +kernel)
@[simp] theorem ne_w_less_w_body : (w_less = w_body) = False := eq_false (by decide +kernel)
@[simp] theorem ne_w_less_w_place : (w_less = w_place) = False := eq_false (by decide +kernel)
@[simp] theorem ne_w_less_w_other : (w_less = w_other) = False := eq_false (by decide +kernel)
@[simp] theorem ne_w_less_w_fit : (w_less = w_fit) = False := eq_false (by decide +kernel)
@[simp] theorem ne_w_less_w_words : (w_less = w_words) = False := eq_false (by decide +kernel)
@[simp] theorem ne_w_less_w_step : (w_less = w_step) = False := eq_false (by decide +kernel)
@[simp] theorem ne_w_times_w_drop : (w_times = w_drop) = False := eq_false (by decide +kernel)
@[simp] theorem ne_w_times_w_0 : (w_times = w_0) = False := eq_false (by decide +kernel)
@[simp] theorem ne_w_times_w_fun : (w_times = w_fun) = False := eq_false (by decide +kernel)
@[simp] theorem ne_w_times_w_fill : (w_times = w_fill) = False := eq_false (by decide +kernel)
@[simp] theorem ne_w_times_w_open : (w_times = w_open) = False := eq_false (by decide +kernel)
@[simp] theorem ne_w_times_w_box : (w_times = w_box) = False := eq_false (by decide +kernel)
@[simp] theorem ne_w_times_w_same : (w_times = w_same) = False := eq_false (by decide +kernel)
@[simp] theorem ne_w_times_w_less : (w_times = w_less) = False := eq_false (by decide +kernel)
@[simp] theorem ne_w_times_w_minus : (w_times = w_minus) = False := eq_false (by decide +kernel)
@[simp] theorem ne_w_times_w_add : (w_times = w_add) = False := eq_false (by decide +kernel)
@[simp] theorem ne_w_times_w_keep : (w_times = w_keep) = False := eq_false (by decide +kernel)
@[simp] theorem ne_w_times_w_get : (w_times = w_get) = False := eq_false (by decide +kernel)
@[simp] theorem ne_w_times_w_num : (w_times = w_num) = False := eq_false (by decide +kernel)
@[simp] theorem ne_w_times_w_say : (w_times = w_say) = False := eq_false (by decide +kernel)
@[simp] theorem ne_w_times_w_unless : (w_times = w_unless) = False := eq_false (by decide +kernel)
@[simp] theorem ne_w_times_w_jump : (w_times = w_jump) = False := eq_false (by decide +kernel)
@[simp] theorem ne_w_times_w_back : (w_times = w_back) = False := eq_false (by decide +kernel)
@[simp] theorem ne_w_times_w_call : (w_times = w_call) = False := eq_false (by decide +kernel)
@[simp] theorem ne_w_times_w_bodies : (w_times = w_bodies) = False := eq_false (by decide +kernel)
@[simp] theorem ne_w_times_w_many : (w_times = w_many) = False := eq_false (by decide +kernel)
@[simp] theorem ne_w_times_w_zero : (w_times = w_zero) = False := eq_false (by decide +kernel)
@[simp] theorem ne_w_times_w_1 : (w_times = w_1) = False := eq_false (by decide +kernel)
@[simp] theorem ne_w_times_w_a : (w_times = w_a) = False := eq_false (by decide +kernel)
@[simp] theorem ne_w_times_w_ad : (w_times = w_ad) = False := eq_false (by decide +kernel)
@[simp] theorem ne_w_times_w_Add : (w_times = w_Add) = False := eq_false (by decide +kernel)
@[simp] theorem ne_w_times_w_instruction : (w_times = w_instruction) = False := eq_false (by decide +kernel)
@[simp] theorem ne_w_times_w_body : (w_times = w_body) = False := eq_false (by decide +kernel)
@[simp] theorem ne_w_times_w_place : (w_times = w_place) = False := eq_false (by decide +kernel)
@[simp] theorem ne_w_times_w_other : (w_times = w_other) = False := eq_false (by decide +kernel)
@[simp] theorem ne_w_times_w_fit : (w_times = w_fit) = False := eq_false (by decide +kernel)
@[simp] theorem ne_w_times_w_words : (w_times = w_words) = False := eq_false (by decide +kernel)
@[simp] theorem ne_w_times_w_step : (w_times = w_step) = False := eq_false (by decide +kernel)
@[simp] theorem ne_w_minus_w_drop : (w_minus = w_drop) = False := eq_false (by decide +kernel)
@[simp] theorem ne_w_minus_w_0 : (w_minus = w_0) = False := eq_false (by decide +kernel)
@[simp] theorem ne_w_minus_w_fun : (w_minus = w_fun) = False := eq_false (by decide +kernel)
@[simp] theorem ne_w_minus_w_fill : (w_minus = w_fill) = False := eq_false (by decide +kernel)
@[simp] theorem ne_w_minus_w_open : (w_minus = w_open) = False := eq_false (by decide +kernel)
@[simp] theorem ne_w_minus_w_box : (w_minus = w_box) = False := eq_false (by decide +kernel)
@[simp] theorem ne_w_minus_w_same : (w_minus = w_same) = False := eq_false (by decide +kernel)
@[simp] theorem ne_w_minus_w_less : (w_minus = w_less) = False := eq_false (by decide +kernel)
@[simp] theorem ne_w_minus_w_times : (w_minus = w_times) = False := eq_false (by decide +kernel)
@[simp] theorem ne_w_minus_w_add : (w_minus = w_add) = False := eq_false (by decide +kernel)
@[simp] theorem ne_w_minus_w_keep : (w_minus = w_keep) = False := eq_false (by decide +kernel)
@[simp] theorem ne_w_minus_w_get : (w_minus = w_get) = False := eq_false (by decide +kernel)
@[simp] theorem ne_w_minus_w_num : (w_minus = w_num) = False := eq_false (by decide +kernel)
@[simp] theorem ne_w_minus_w_say : (w_minus = w_say) = False := eq_false (by decide +kernel)
@[simp] theorem ne_w_minus_w_unless : (w_minus = w_unless) = False := eq_false (by decide +kernel)
@[simp] theorem ne_w_minus_w_jump : (w_minus = w_jump) = False := eq_false (by decide +kernel)
@[simp] theorem ne_w_minus_w_back : (w_minus = w_back) = False := eq_false (by decide +kernel)
@[simp] theorem ne_w_minus_w_call : (w_minus = w_call) = False := eq_false (by decide +kernel)
@[simp] theorem ne_w_minus_w_bodies : (w_minus = w_bodies) = False := eq_false (by decide +kernel)
@[simp] theorem ne_w_minus_w_many : (w_minus = w_many) = False := eq_false (by decide +kernel)
@[simp] theorem ne_w_minus_w_zero : (w_minus = w_zero) = False := eq_false (by decide +kernel)
@[simp] theorem ne_w_minus_w_1 : (w_minus = w_1) = False := eq_false (by decide +kernel)
@[simp] theorem ne_w_minus_w_a : (w_minus = w_a) = False := eq_false (by decide +kernel)
@[simp] theorem ne_w_minus_w_ad : (w_minus = w_ad) = False := eq_false (by decide +kernel)
@[simp] theorem ne_w_minus_w_Add : (w_minus = w_Add) = False := eq_false (by decide +kernel)
@[simp] theorem ne_w_minus_w_instruction : (w_minus = w_instruction) = False := eq_false (by decide +kernel)
@[simp] theorem ne_w_minus_w_body : (w_minus = w_body) = False := eq_false (by decide +kernel)
@[simp] theorem ne_w_minus_w_place : (w_minus = w_place) = False := eq_false (by decide +kernel)
@[simp] theorem ne_w_minus_w_other : (w_minus = w_other) = False := eq_false (by decide +kernel)
@[simp] theorem ne_w_minus_w_fit : (w_minus = w_fit) = False := eq_false (by decide +kernel)
@[simp] theorem ne_w_minus_w_words : (w_minus = w_words) = False := eq_false (by decide +kernel)
@[simp] theorem ne_w_minus_w_step : (w_minus = w_step) = False := eq_false (by decide +kernel)
@[simp] theorem ne_w_add_w_drop : (w_add = w_drop) = False := eq_false (by decide +kernel)
@[simp] theorem ne_w_add_w_0 : (w_add = w_0) = False := eq_false (by decide +kernel)
@[simp] theorem ne_w_add_w_fun : (w_add = w_fun) = False := eq_false (by decide +kernel)
@[simp] theorem ne_w_add_w_fill : (w_add = w_fill) = False := eq_false (by decide +kernel)
@[simp] theorem ne_w_add_w_open : (w_add = w_open) = False := eq_false (by decide +kernel)
@[simp] theorem ne_w_add_w_box : (w_add = w_box) = False := eq_false (by decide +kernel)
@[simp] theorem ne_w_add_w_same : (w_add = w_same) = False := eq_false (by decide +kernel)
@[simp] theorem ne_w_add_w_less : (w_add = w_less) = False := eq_false (by decide +kernel)
@[simp] theorem ne_w_add_w_times : (w_add = w_times) = False := eq_false (by decide +kernel)
@[simp] theorem ne_w_add_w_minus : (w_add = w_minus) = False := eq_false (by decide +kernel)
@[simp] theorem ne_w_add_w_keep : (w_add = w_keep) = False := eq_false (by decide +kernel)
@[simp] theorem ne_w_add_w_get : (w_add = w_get) = False := eq_false (by decide +kernel)
@[simp] theorem ne_w_add_w_num : (w_add = w_num) = False := eq_false (by decide +kernel)
@[simp] theorem ne_w_add_w_say : (w_add = w_say) = False := eq_false (by decide +kernel)
@[simp] theorem ne_w_add_w_unless : (w_add = w_unless) = False := eq_false (by decide +kernel)
@[simp] theorem ne_w_add_w_jump : (w_add = w_jump) = False := eq_false (by decide +kernel)
@[simp] theorem ne_w_add_w_back : (w_add = w_back) = False := eq_false (by decide +kernel)
@[simp] theorem ne_w_add_w_call : (w_add = w_call) = False := eq_false (by decide +kernel)
@[simp] theorem ne_w_add_w_bodies : (w_add = w_bodies) = False := eq_false (by decide +kernel)
@[simp] theorem ne_w_add_w_many : (w_add = w_many) = False := eq_false (by decide +kernel)
@[simp] theorem ne_w_add_w_zero : (w_add = w_zero) = False := eq_false (by decide +kernel)
@[simp] theorem ne_w_add_w_1 : (w_add = w_1) = False := eq_false (by decide +kernel)
@[simp] theorem ne_w_add_w_a : (w_add = w_a) = False := eq_false (by decide +kernel)
@[simp] theorem ne_w_add_w_ad : (w_add = w_ad) = False := eq_false (by decide +kernel)
@[simp] theorem ne_w_add_w_Add : (w_add = w_Add) = False := eq_false (by decide +kernel)
@[simp] theorem ne_w_add_w_instruction : (w_add = w_instruction) = False := eq_false (by decide +kernel)
@[simp] theorem ne_w_add_w_body : (w_add = w_body) = False := eq_false (by decide +kernel)
@[simp] theorem ne_w_add_w_place : (w_add = w_place) = False := eq_false (by decide +kernel)
@[simp] theorem ne_w_add_w_other : (w_add = w_other) = False := eq_false (by decide +kernel)
@[simp] theorem ne_w_add_w_fit : (w_add = w_fit) = False := eq_false (by decide +kernel)
@[simp] theorem ne_w_add_w_words : (w_add = w_words) = False := eq_false (by decide +kernel)
@[simp] theorem ne_w_add_w_step : (w_add = w_step) = False := eq_false (by decide +kernel)
@[simp] theorem ne_w_keep_w_drop : (w_keep = w_drop) = False := eq_false (by decide +kernel)
@[simp] theorem ne_w_keep_w_0 : (w_keep = w_0) = False := eq_false (by decide +kernel)
@[simp] theorem ne_w_keep_w_fun : (w_keep = w_fun) = False := eq_false (by decide +kernel)
@[simp] theorem ne_w_keep_w_fill : (w_keep = w_fill) = False := eq_false (by decide +kernel)
@[simp] theorem ne_w_keep_w_open : (w_keep = w_open) = False := eq_false (by decide +kernel)
@[simp] theorem ne_w_keep_w_box : (w_keep = w_box) = False := eq_false (by decide +kernel)
@[simp] theorem ne_w_keep_w_same : (w_keep = w_same) = False := eq_false (by decide +kernel)
@[simp] theorem ne_w_keep_w_less : (w_keep = w_less) = False := eq_false (by decide +kernel)
@[simp] theorem ne_w_keep_w_times : (w_keep = w_times) = False := eq_false (by decide +kernel)
@[simp] theorem ne_w_keep_w_minus : (w_keep = w_minus) = False := eq_false (by decide +kernel)
@[simp] theorem ne_w_keep_w_add : (w_keep = w_add) = False := eq_false (by decide +kernel)
@[simp] theorem ne_w_keep_w_get : (w_keep = w_get) = False := eq_false (by decide +kernel)
@[simp] theorem ne_w_keep_w_num : (w_keep = w_num) = False := eq_false (by decide +kernel)
@[simp] theorem ne_w_keep_w_say : (w_keep = w_say) = False := eq_false (by decide +kernel)
@[simp] theorem ne_w_keep_w_unless : (w_keep = w_unless) = False := eq_false (by decide +kernel)
@[simp] theorem ne_w_keep_w_jump : (w_keep = w_jump) = False := eq_false (by decide +kernel)
@[simp] theorem ne_w_keep_w_back : (w_keep = w_back) = False := eq_false (by decide +kernel)
@[simp] theorem ne_w_keep_w_call : (w_keep = w_call) = False := eq_false (by decide +kernel)
@[simp] theorem ne_w_keep_w_bodies : (w_keep = w_bodies) = False := eq_false (by decide +kernel)
@[simp] theorem ne_w_keep_w_many : (w_keep = w_many) = False := eq_false (by decide +kernel)
@[simp] theorem ne_w_keep_w_zero : (w_keep = w_zero) = False := eq_false (by decide +kernel)
@[simp] theorem ne_w_keep_w_1 : (w_keep = w_1) = False := eq_false (by decide +kernel)
@[simp] theorem ne_w_keep_w_a : (w_keep = w_a) = False := eq_false (by decide +kernel)
@[simp] theorem ne_w_keep_w_ad : (w_keep = w_ad) = False := eq_false (by decide +kernel)
@[simp] theorem ne_w_keep_w_Add : (w_keep = w_Add) = False := eq_false (by decide +kernel)
@[simp] theorem ne_w_keep_w_instruction : (w_keep = w_instruction) = False := eq_false (by decide +kernel)
@[simp] theorem ne_w_keep_w_body : (w_keep = w_body) = False := eq_false (by decide +kernel)
@[simp] theorem ne_w_keep_w_place : (w_keep = w_place) = False := eq_false (by decide +kernel)
@[simp] theorem ne_w_keep_w_other : (w_keep = w_other) = False := eq_false (by decide +kernel)
@[simp] theorem ne_w_keep_w_fit : (w_keep = w_fit) = False := eq_false (by decide +kernel)
@[simp] theorem ne_w_keep_w_words : (w_keep = w_words) = False := eq_false (by decide +kernel)
@[simp] theorem ne_w_keep_w_step : (w_keep = w_step) = False := eq_false (by decide +kernel)
@[simp] theorem ne_w_get_w_drop : (w_get = w_drop) = False := eq_false (by decide +kernel)
@[simp] theorem ne_w_get_w_0 : (w_get = w_0) = False := eq_false (by decide +kernel)
@[simp] theorem ne_w_get_w_fun : (w_get = w_fun) = False := eq_false (by decide +kernel)
@[simp] theorem ne_w_get_w_fill : (w_get = w_fill) = False := eq_false (by decide +kernel)
@[simp] theorem ne_w_get_w_open : (w_get = w_open) = False := eq_false (by decide +kernel)
@[simp] theorem ne_w_get_w_box : (w_get = w_box) = False := eq_false (by decide +kernel)
@[simp] theorem ne_w_get_w_same : (w_get = w_same) = False := eq_false (by decide +kernel)
@[simp] theorem ne_w_get_w_less : (w_get = w_less) = False := eq_false (by decide +kernel)
@[simp] theorem ne_w_get_w_times : (w_get = w_times) = False := eq_false (by decide +kernel)
@[simp] theorem ne_w_get_w_minus : (w_get = w_minus) = False := eq_false (by decide +kernel)
@[simp] theorem ne_w_get_w_add : (w_get = w_add) = False := eq_false (by decide +kernel)
@[simp] theorem ne_w_get_w_keep : (w_get = w_keep) = False := eq_false (by decide +kernel)
@[simp] theorem ne_w_get_w_num : (w_get = w_num) = False := eq_false (by decide +kernel)
@[simp] theorem ne_w_get_w_say : (w_get = w_say) = False := eq_false (by decide +kernel)
@[simp] theorem ne_w_get_w_unless : (w_get = w_unless) = False := eq_false (by decide +kernel)
@[simp] theorem ne_w_get_w_jump : (w_get = w_jump) = False := eq_false (by decide +kernel)
@[simp] theorem ne_w_get_w_back : (w_get = w_back) = False := eq_false (by decide +kernel)
@[simp] theorem ne_w_get_w_call : (w_get = w_call) = False := eq_false (by decide +kernel)
@[simp] theorem ne_w_get_w_bodies : (w_get = w_bodies) = False := eq_false (by decide +kernel)
@[simp] theorem ne_w_get_w_many : (w_get = w_many) = False := eq_false (by decide +kernel)
@[simp] theorem ne_w_get_w_zero : (w_get = w_zero) = False := eq_false (by decide +kernel)
@[simp] theorem ne_w_get_w_1 : (w_get = w_1) = False := eq_false (by decide +kernel)
@[simp] theorem ne_w_get_w_a : (w_get = w_a) = False := eq_false (by decide +kernel)
@[simp] theorem ne_w_get_w_ad : (w_get = w_ad) = False := eq_false (by decide +kernel)
@[simp] theorem ne_w_get_w_Add : (w_get = w_Add) = False := eq_false (by decide +kernel)
@[simp] theorem ne_w_get_w_instruction : (w_get = w_instruction) = False := eq_false (by decide +kernel)
@[simp] theorem ne_w_get_w_body : (w_get = w_body) = False := eq_false (by decide +kernel)
@[simp] theorem ne_w_get_w_place : (w_get = w_place) = False := eq_false (by decide +kernel)
@[simp] theorem ne_w_get_w_other : (w_get = w_other) = False := eq_false (by decide +kernel)
@[simp] theorem ne_w_get_w_fit : (w_get = w_fit) = False := eq_false (by decide +kernel)
@[simp] theorem ne_w_get_w_words : (w_get = w_words) = False := eq_false (by decide +kernel)
@[simp] theorem ne_w_get_w_step : (w_get = w_step) = False := eq_false (by decide +kernel)
@[simp] theorem ne_w_num_w_drop : (w_num = w_drop) = False := eq_false (by decide +kernel)
@[simp] theorem ne_w_num_w_0 : (w_num = w_0) = False := eq_false (by decide +kernel)
@[simp] theorem ne_w_num_w_fun : (w_num = w_fun) = False := eq_false (by decide +kernel)
@[simp] theorem ne_w_num_w_fill : (w_num = w_fill) = False := eq_false (by decide +kernel)
@[simp] theorem ne_w_num_w_open : (w_num = w_open) = False := eq_false (by decide +kernel)
@[simp] theorem ne_w_num_w_box : (w_num = w_box) = False := eq_false (by decide +kernel)
@[simp] theorem ne_w_num_w_same : (w_num = w_same) = False := eq_false (by decide +kernel)
@[simp] theorem ne_w_num_w_less : (w_num = w_less) = False := eq_false (by decide +kernel)
@[simp] theorem ne_w_num_w_times : (w_num = w_times) = False := eq_false (by decide +kernel)
@[simp] theorem ne_w_num_w_minus : (w_num = w_minus) = False := eq_false (by decide +kernel)
@[simp] theorem ne_w_num_w_add : (w_num = w_add) = False := eq_false (by decide +kernel)
@[simp] theorem ne_w_num_w_keep : (w_num = w_keep) = False := eq_false (by decide +kernel)
@[simp] theorem ne_w_num_w_get : (w_num = w_get) = False := eq_false (by decide +kernel)
@[simp] theorem ne_w_num_w_say : (w_num = w_say) = False := eq_false (by decide +kernel)
@[simp] theorem ne_w_num_w_unless : (w_num = w_unless) = False := eq_false (by decide +kernel)
@[simp] theorem ne_w_num_w_jump : (w_num = w_jump) = False := eq_false (by decide +kernel)
@[simp] theorem ne_w_num_w_back : (w_num = w_back) = False := eq_false (by decide +kernel)
@[simp] theorem ne_w_num_w_call : (w_num = w_call) = False := eq_false (by decide +kernel)
@[simp] theorem ne_w_num_w_bodies : (w_num = w_bodies) = False := eq_false (by decide +kernel)
@[simp] theorem ne_w_num_w_many : (w_num = w_many) = False := eq_false (by decide +kernel)
@[simp] theorem ne_w_num_w_zero : (w_num = w_zero) = False := eq_false (by decide +kernel)
@[simp] theorem ne_w_num_w_1 : (w_num = w_1) = False := eq_false (by decide +kernel)
@[simp] theorem ne_w_num_w_a : (w_num = w_a) = False := eq_false (by decide +kernel)
@[simp] theorem ne_w_num_w_ad : (w_num = w_ad) = False := eq_false (by decide +kernel)
@[simp] theorem ne_w_num_w_Add : (w_num = w_Add) = False := eq_false (by decide +kernel)
@[simp] theorem ne_w_num_w_instruction : (w_num = w_instruction) = False := eq_false (by decide +kernel)
@[simp] theorem ne_w_num_w_body : (w_num = w_body) = False := eq_false (by decide +kernel)
@[simp] theorem ne_w_num_w_place : (w_num = w_place) = False := eq_false (by decide +kernel)
@[simp] theorem ne_w_num_w_other : (w_num = w_other) = False := eq_false (by decide +kernel)
@[simp] theorem ne_w_num_w_fit : (w_num = w_fit) = False := eq_false (by decide +kernel)
@[simp] theorem ne_w_num_w_words : (w_num = w_words) = False := eq_false (by decide +kernel)
@[simp] theorem ne_w_num_w_step : (w_num = w_step) = False := eq_false (by decide +kernel)
@[simp] theorem ne_w_say_w_drop : (w_say = w_drop) = False := eq_false (by decide +kernel)
@[simp] theorem ne_w_say_w_0 : (w_say = w_0) = False := eq_false (by decide +kernel)
@[simp] theorem ne_w_say_w_fun : (w_say = w_fun) = False := eq_false (by decide +kernel)
@[simp] theorem ne_w_say_w_fill : (w_say = w_fill) = False := eq_false (by decide +kernel)
@[simp] theorem ne_w_say_w_open : (w_say = w_open) = False := eq_false (by decide +kernel)
@[simp] theorem ne_w_say_w_box : (w_say = w_box) = False := eq_false (by decide +kernel)
@[simp] theorem ne_w_say_w_same : (w_say = w_same) = False := eq_false (by decide +kernel)
@[simp] theorem ne_w_say_w_less : (w_say = w_less) = False := eq_false (by decide +kernel)
@[simp] theorem ne_w_say_w_times : (w_say = w_times) = False := eq_false (by decide +kernel)
@[simp] theorem ne_w_say_w_minus : (w_say = w_minus) = False := eq_false (by decide +kernel)
@[simp] theorem ne_w_say_w_add : (w_say = w_add) = False := eq_false (by decide +kernel)
@[simp] theorem ne_w_say_w_keep : (w_say = w_keep) = False := eq_false (by decide +kernel)
@[simp] theorem ne_w_say_w_get : (w_say = w_get) = False := eq_false (by decide +kernel)
@[simp] theorem ne_w_say_w_num : (w_say = w_num) = False := eq_false (by decide +kernel)
@[simp] theorem ne_w_say_w_unless : (w_say = w_unless) = False := eq_false (by decide +kernel)
@[simp] theorem ne_w_say_w_jump : (w_say = w_jump) = False := eq_false (by decide +kernel)
@[simp] theorem ne_w_say_w_back : (w_say = w_back) = False := eq_false (by decide +kernel)
@[simp] theorem ne_w_say_w_call : (w_say = w_call) = False := eq_false (by decide +kernel)
@[simp] theorem ne_w_say_w_bodies : (w_say = w_bodies) = False := eq_false (by decide +kernel)
@[simp] theorem ne_w_say_w_many : (w_say = w_many) = False := eq_false (by decide +kernel)
@[simp] theorem ne_w_say_w_zero : (w_say = w_zero) = False := eq_false (by decide +kernel)
@[simp] theorem ne_w_say_w_1 : (w_say = w_1) = False := eq_false (by decide +kernel)
@[simp] theorem ne_w_say_w_a : (w_say = w_a) = False := eq_false (by decide +kernel)
@[simp] theorem ne_w_say_w_ad : (w_say = w_ad) = False := eq_false (by decide +kernel)
@[simp] theorem ne_w_say_w_Add : (w_say = w_Add) = False := eq_false (by decide +kernel)
@[simp] theorem ne_w_say_w_instruction : (w_say = w_instruction) = False := eq_false (by decide +kernel)
@[simp] theorem ne_w_say_w_body : (w_say = w_body) = False := eq_false (by decide +kernel)
@[simp] theorem ne_w_say_w_place : (w_say = w_place) = False := eq_false (by decide +kernel)
@[simp] theorem ne_w_say_w_other : (w_say = w_other) = False := eq_false (by decide +kernel)
@[simp] theorem ne_w_say_w_fit : (w_say = w_fit) = False := eq_false (by decide +kernel)
@[simp] theorem ne_w_say_w_words : (w_say = w_words) = False := eq_false (by decide +kernel)
@[simp] theorem ne_w_say_w_step : (w_say = w_step) = False := eq_false (by decide +kernel)
@[simp] theorem ne_w_unless_w_drop : (w_unless = w_drop) = False := eq_false (by decide +kernel)
@[simp] theorem ne_w_unless_w_0 : (w_unless = w_0) = False := eq_false (by decide +kernel)
@[simp] theorem ne_w_unless_w_fun : (w_unless = w_fun) = False := eq_false (by decide +kernel)
@[simp] theorem ne_w_unless_w_fill : (w_unless = w_fill) = False := eq_false (by decide +kernel)
@[simp] theorem ne_w_unless_w_open : (w_unless = w_open) = False := eq_false (by decide +kernel)
@[simp] theorem ne_w_unless_w_box : (w_unless = w_box) = False := eq_false (by decide +kernel)
@[simp] theorem ne_w_unless_w_same : (w_unless = w_same) = False := eq_false (by decide +kernel)
@[simp] theorem ne_w_unless_w_less : (w_unless = w_less) = False := eq_false (by decide +kernel)
@[simp] theorem ne_w_unless_w_times : (w_unless = w_times) = False := eq_false (by decide +kernel)
@[simp] theorem ne_w_unless_w_minus : (w_unless = w_minus) = False := eq_false (by decide +kernel)
@[simp] theorem ne_w_unless_w_add : (w_unless = w_add) = False := eq_false (by decide +kernel)
@[simp] theorem ne_w_unless_w_keep : (w_unless = w_keep) = False := eq_false (by decide +kernel)
@[simp] theorem ne_w_unless_w_get : (w_unless = w_get) = False := eq_false (by decide +kernel)
@[simp] theorem ne_w_unless_w_num : (w_unless = w_num) = False := eq_false (by decide +kernel)
@[simp] theorem ne_w_unless_w_say : (w_unless = w_say) = False := eq_false (by decide +kernel)
@[simp] theorem ne_w_unless_w_jump : (w_unless = w_jump) = False := eq_false (by decide +kernel)
@[simp] theorem ne_w_unless_w_back : (w_unless = w_back) = False := eq_false (by decide +kernel)
@[simp] theorem ne_w_unless_w_call : (w_unless = w_call) = False := eq_false (by decide +kernel)
@[simp] theorem ne_w_unless_w_bodies : (w_unless = w_bodies) = False := eq_false (by decide +kernel)
@[simp] theorem ne_w_unless_w_many : (w_unless = w_many) = False := eq_false (by decide +kernel)
@[simp] theorem ne_w_unless_w_zero : (w_unless = w_zero) = False := eq_false (by decide +kernel)
@[simp] theorem ne_w_unless_w_1 : (w_unless = w_1) = False := eq_false (by decide +kernel)
@[simp] theorem ne_w_unless_w_a : (w_unless = w_a) = False := eq_false (by decide +kernel)
@[simp] theorem ne_w_unless_w_ad : (w_unless = w_ad) = False := eq_false (by decide +kernel)
@[simp] theorem ne_w_unless_w_Add : (w_unless = w_Add) = False := eq_false (by decide +kernel)
@[simp] theorem ne_w_unless_w_instruction : (w_unless = w_instruction) = False := eq_false (by decide +kernel)
@[simp] theorem ne_w_unless_w_body : (w_unless = w_body) = False := eq_false (by decide +kernel)
@[simp] theorem ne_w_unless_w_place : (w_unless = w_place) = False := eq_false (by decide +kernel)
@[simp] theorem ne_w_unless_w_other : (w_unless = w_other) = False := eq_false (by decide +kernel)
@[simp] theorem ne_w_unless_w_fit : (w_unless = w_fit) = False := eq_false (by decide +kernel)
@[simp] theorem ne_w_unless_w_words : (w_unless = w_words) = False := eq_false (by decide +kernel)
@[simp] theorem ne_w_unless_w_step : (w_unless = w_step) = False := eq_false (by decide +kernel)
@[simp] theorem ne_w_jump_w_drop : (w_jump = w_drop) = False := eq_false (by decide +kernel)
@[simp] theorem ne_w_jump_w_0 : (w_jump = w_0) = False := eq_false (by decide +kernel)
@[simp] theorem ne_w_jump_w_fun : (w_jump = w_fun) = False := eq_false (by decide +kernel)
@[simp] theorem ne_w_jump_w_fill : (w_jump = w_fill) = False := eq_false (by decide +kernel)
@[simp] theorem ne_w_jump_w_open : (w_jump = w_open) = False := eq_false (by decide +kernel)
@[simp] theorem ne_w_jump_w_box : (w_jump = w_box) = False := eq_false (by decide +kernel)
@[simp] theorem ne_w_jump_w_same : (w_jump = w_same) = False := eq_false (by decide +kernel)
@[simp] theorem ne_w_jump_w_less : (w_jump = w_less) = False := eq_false (by decide +kernel)
@[simp] theorem ne_w_jump_w_times : (w_jump = w_times) = False := eq_false (by decide +kernel)
@[simp] theorem ne_w_jump_w_minus : (w_jump = w_minus) = False := eq_false (by decide +kernel)
@[simp] theorem ne_w_jump_w_add : (w_jump = w_add) = False := eq_false (by decide +kernel)
@[simp] theorem ne_w_jump_w_keep : (w_jump = w_keep) = False := eq_false (by decide +kernel)
@[simp] theorem ne_w_jump_w_get : (w_jump = w_get) = False := eq_false (by decide +kernel)
@[simp] theorem ne_w_jump_w_num : (w_jump = w_num) = False := eq_false (by decide +kernel)
@[simp] theorem ne_w_jump_w_say : (w_jump = w_say) = False := eq_false (by decide +kernel)
@[simp] theorem ne_w_jump_w_unless : (w_jump = w_unless) = False := eq_false (by decide +kernel)
@[simp] theorem ne_w_jump_w_back : (w_jump = w_back) = False := eq_false (by decide +kernel)
@[simp] theorem ne_w_jump_w_call : (w_jump = w_call) = False := eq_false (by decide +kernel)
@[simp] theorem ne_w_jump_w_bodies : (w_jump = w_bodies) = False := eq_false (by decide +kernel)
@[simp] theorem ne_w_jump_w_many : (w_jump = w_many) = False := eq_false (by decide +kernel)
@[simp] theorem ne_w_jump_w_zero : (w_jump = w_zero) = False := eq_false (by decide +kernel)
@[simp] theorem ne_w_jump_w_1 : (w_jump = w_1) = False := eq_false (by decide +kernel)
@[simp] theorem ne_w_jump_w_a : (w_jump = w_a) = False := eq_false (by decide +kernel)
@[simp] theorem ne_w_jump_w_ad : (w_jump = w_ad) = False := eq_false (by decide +kernel)
@[simp] theorem ne_w_jump_w_Add : (w_jump = w_Add) = False := eq_false (by decide +kernel)
@[simp] theorem ne_w_jump_w_instruction : (w_jump = w_instruction) = False := eq_false (by decide +kernel)
@[simp] theorem ne_w_jump_w_body : (w_jump = w_body) = False := eq_false (by decide +kernel)
@[simp] theorem ne_w_jump_w_place : (w_jump = w_place) = False := eq_false (by decide +kernel)
@[simp] theorem ne_w_jump_w_other : (w_jump = w_other) = False := eq_false (by decide +kernel)
@[simp] theorem ne_w_jump_w_fit : (w_jump = w_fit) = False := eq_false (by decide +kernel)
@[simp] theorem ne_w_jump_w_words : (w_jump = w_words) = False := eq_false (by decide +kernel)
@[simp] theorem ne_w_jump_w_step : (w_jump = w_step) = False := eq_false (by decide +kernel)
@[simp] theorem ne_w_back_w_drop : (w_back = w_drop) = False := eq_false (by decide +kernel)
@[simp] theorem ne_w_back_w_0 : (w_back = w_0) = False := eq_false (by decide +kernel)
@[simp] theorem ne_w_back_w_fun : (w_back = w_fun) = False := eq_false (by decide +kernel)
@[simp] theorem ne_w_back_w_fill : (w_back = w_fill) = False := eq_false (by decide +kernel)
@[simp] theorem ne_w_back_w_open : (w_back = w_open) = False := eq_false (by decide +kernel)
@[simp] theorem ne_w_back_w_box : (w_back = w_box) = False := eq_false (by decide +kernel)
@[simp] theorem ne_w_back_w_same : (w_back = w_same) = False := eq_false (by decide +kernel)
@[simp] theorem ne_w_back_w_less : (w_back = w_less) = False := eq_false (by decide +kernel)
@[simp] theorem ne_w_back_w_times : (w_back = w_times) = False := eq_false (by decide +kernel)
@[simp] theorem ne_w_back_w_minus : (w_back = w_minus) = False := eq_false (by decide +kernel)
@[simp] theorem ne_w_back_w_add : (w_back = w_add) = False := eq_false (by decide +kernel)
@[simp] theorem ne_w_back_w_keep : (w_back = w_keep) = False := eq_false (by decide +kernel)
@[simp] theorem ne_w_back_w_get : (w_back = w_get) = False := eq_false (by decide +kernel)
@[simp] theorem ne_w_back_w_num : (w_back = w_num) = False := eq_false (by decide +kernel)
@[simp] theorem ne_w_back_w_say : (w_back = w_say) = False := eq_false (by decide +kernel)
@[simp] theorem ne_w_back_w_unless : (w_back = w_unless) = False := eq_false (by decide +kernel)
@[simp] theorem ne_w_back_w_jump : (w_back = w_jump) = False := eq_false (by decide +kernel)
@[simp] theorem ne_w_back_w_call : (w_back = w_call) = False := eq_false (by decide +kernel)
@[simp] theorem ne_w_back_w_bodies : (w_back = w_bodies) = False := eq_false (by decide +kernel)
@[simp] theorem ne_w_back_w_many : (w_back = w_many) = False := eq_false (by decide +kernel)
@[simp] theorem ne_w_back_w_zero : (w_back = w_zero) = False := eq_false (by decide +kernel)
@[simp] theorem ne_w_back_w_1 : (w_back = w_1) = False := eq_false (by decide +kernel)
@[simp] theorem ne_w_back_w_a : (w_back = w_a) = False := eq_false (by decide +kernel)
@[simp] theorem ne_w_back_w_ad : (w_back = w_ad) = False := eq_false (by decide +kernel)
@[simp] theorem ne_w_back_w_Add : (w_back = w_Add) = False := eq_false (by decide +kernel)
@[simp] theorem ne_w_back_w_instruction : (w_back = w_instruction) = False := eq_false (by decide +kernel)
@[simp] theorem ne_w_back_w_body : (w_back = w_body) = False := eq_false (by decide +kernel)
@[simp] theorem ne_w_back_w_place : (w_back = w_place) = False := eq_false (by decide +kernel)
@[simp] theorem ne_w_back_w_other : (w_back = w_other) = False := eq_false (by decide +kernel)
@[simp] theorem ne_w_back_w_fit : (w_back = w_fit) = False := eq_false (by decide +kernel)
@[simp] theorem ne_w_back_w_words : (w_back = w_words) = False := eq_false (by decide +kernel)
@[simp] theorem ne_w_back_w_step : (w_back = w_step) = False := eq_false (by decide +kernel)
@[simp] theorem ne_w_call_w_drop : (w_call = w_drop) = False := eq_false (by decide +kernel)
@[simp] theorem ne_w_call_w_0 : (w_call = w_0) = False := eq_false (by decide +kernel)
@[simp] theorem ne_w_call_w_fun : (w_call = w_fun) = False := eq_false (by decide +kernel)
@[simp] theorem ne_w_call_w_fill : (w_call = w_fill) = False := eq_false (by decide +kernel)
@[simp] theorem ne_w_call_w_open : (w_call = w_open) = False := eq_false (by decide +kernel)
@[simp] theorem ne_w_call_w_box : (w_call = w_box) = False := eq_false (by decide +kernel)
@[simp] theorem ne_w_call_w_same : (w_call = w_same) = False := eq_false (by decide +kernel)
@[simp] theorem ne_w_call_w_less : (w_call = w_less) = False := eq_false (by decide +kernel)
@[simp] theorem ne_w_call_w_times : (w_call = w_times) = False := eq_false (by decide +kernel)
@[simp] theorem ne_w_call_w_minus : (w_call = w_minus) = False := eq_false (by decide +kernel)
@[simp] theorem ne_w_call_w_add : (w_call = w_add) = False := eq_false (by decide +kernel)
@[simp] theorem ne_w_call_w_keep : (w_call = w_keep) = False := eq_false (by decide +kernel)
@[simp] theorem ne_w_call_w_get : (w_call = w_get) = False := eq_false (by decide +kernel)
@[simp] theorem ne_w_call_w_num : (w_call = w_num) = False := eq_false (by decide +kernel)
@[simp] theorem ne_w_call_w_say : (w_call = w_say) = False := eq_false (by decide +kernel)
@[simp] theorem ne_w_call_w_unless : (w_call = w_unless) = False := eq_false (by decide +kernel)
@[simp] theorem ne_w_call_w_jump : (w_call = w_jump) = False := eq_false (by decide +kernel)
@[simp] theorem ne_w_call_w_back : (w_call = w_back) = False := eq_false (by decide +kernel)
@[simp] theorem ne_w_call_w_bodies : (w_call = w_bodies) = False := eq_false (by decide +kernel)
@[simp] theorem ne_w_call_w_many : (w_call = w_many) = False := eq_false (by decide +kernel)
@[simp] theorem ne_w_call_w_zero : (w_call = w_zero) = False := eq_false (by decide +kernel)
@[simp] theorem ne_w_call_w_1 : (w_call = w_1) = False := eq_false (by decide +kernel)
@[simp] theorem ne_w_call_w_a : (w_call = w_a) = False := eq_false (by decide +kernel)
@[simp] theorem ne_w_call_w_ad : (w_call = w_ad) = False := eq_false (by decide +kernel)
@[simp] theorem ne_w_call_w_Add : (w_call = w_Add) = False := eq_false (by decide +kernel)
@[simp] theorem ne_w_call_w_instruction : (w_call = w_instruction) = False := eq_false (by decide +kernel)
@[simp] theorem ne_w_call_w_body : (w_call = w_body) = False := eq_false (by decide +kernel)
@[simp] theorem ne_w_call_w_place : (w_call = w_place) = False := eq_false (by decide +kernel)
@[simp] theorem ne_w_call_w_other : (w_call = w_other) = False := eq_false (by decide +kernel)
@[simp] theorem ne_w_call_w_fit : (w_call = w_fit) = False := eq_false (by decide +kernel)
@[simp] theorem ne_w_call_w_words : (w_call = w_words) = False := eq_false (by decide +kernel)
@[simp] theorem ne_w_call_w_step : (w_call = w_step) = False := eq_false (by decide +kernel)
@[simp] theorem ne_w_bodies_w_drop : (w_bodies = w_drop) = False := eq_false (by decide +kernel)
@[simp] theorem ne_w_bodies_w_0 : (w_bodies = w_0) = False := eq_false (by decide +kernel)
@[simp] theorem ne_w_bodies_w_fun : (w_bodies = w_fun) = False := eq_false (by decide +kernel)
@[simp] theorem ne_w_bodies_w_fill : (w_bodies = w_fill) = False := eq_false (by decide +kernel)
@[simp] theorem ne_w_bodies_w_open : (w_bodies = w_open) = False := eq_false (by decide +kernel)
@[simp] theorem ne_w_bodies_w_box : (w_bodies = w_box) = False := eq_false (by decide +kernel)
@[simp] theorem ne_w_bodies_w_same : (w_bodies = w_same) = False := eq_false (by decide +kernel)
@[simp] theorem ne_w_bodies_w_less : (w_bodies = w_less) = False := eq_false (by decide +kernel)
@[simp] theorem ne_w_bodies_w_times : (w_bodies = w_times) = False := eq_false (by decide +kernel)
@[simp] theorem ne_w_bodies_w_minus : (w_bodies = w_minus) = False := eq_false (by decide +kernel)
@[simp] theorem ne_w_bodies_w_add : (w_bodies = w_add) = False := eq_false (by decide +kernel)
@[simp] theorem ne_w_bodies_w_keep : (w_bodies = w_keep) = False := eq_false (by decide +kernel)
@[simp] theorem ne_w_bodies_w_get : (w_bodies = w_get) = False := eq_false (by decide +kernel)
@[simp] theorem ne_w_bodies_w_num : (w_bodies = w_num) = False := eq_false (by decide +kernel)
@[simp] theorem ne_w_bodies_w_say : (w_bodies = w_say) = False := eq_false (by decide +kernel)
@[simp] theorem ne_w_bodies_w_unless : (w_bodies = w_unless) = False := eq_false (by decide +kernel)
@[simp] theorem ne_w_bodies_w_jump : (w_bodies = w_jump) = False := eq_false (by decide +kernel)
@[simp] theorem ne_w_bodies_w_back : (w_bodies = w_back) = False := eq_false (by decide +kernel)
@[simp] theorem ne_w_bodies_w_call : (w_bodies = w_call) = False := eq_false (by decide +kernel)
@[simp] theorem ne_w_bodies_w_many : (w_bodies = w_many) = False := eq_false (by decide +kernel)
@[simp] theorem ne_w_bodies_w_zero : (w_bodies = w_zero) = False := eq_false (by decide +kernel)
@[simp] theorem ne_w_bodies_w_1 : (w_bodies = w_1) = False := eq_false (by decide +kernel)
@[simp] theorem ne_w_bodies_w_a : (w_bodies = w_a) = False := eq_false (by decide +kernel)
@[simp] theorem ne_w_bodies_w_ad : (w_bodies = w_ad) = False := eq_false (by decide +kernel)
@[simp] theorem ne_w_bodies_w_Add : (w_bodies = w_Add) = False := eq_false (by decide +kernel)
@[simp] theorem ne_w_bodies_w_instruction : (w_bodies = w_instruction) = False := eq_false (by decide +kernel)
@[simp] theorem ne_w_bodies_w_body : (w_bodies = w_body) = False := eq_false (by decide +kernel)
@[simp] theorem ne_w_bodies_w_place : (w_bodies = w_place) = False := eq_false (by decide +kernel)
@[simp] theorem ne_w_bodies_w_other : (w_bodies = w_other) = False := eq_false (by decide +kernel)
@[simp] theorem ne_w_bodies_w_fit : (w_bodies = w_fit) = False := eq_false (by decide +kernel)
@[simp] theorem ne_w_bodies_w_words : (w_bodies = w_words) = False := eq_false (by decide +kernel)
@[simp] theorem ne_w_bodies_w_step : (w_bodies = w_step) = False := eq_false (by decide +kernel)
@[simp] theorem ne_w_many_w_drop : (w_many = w_drop) = False := eq_false (by decide +kernel)
@[simp] theorem ne_w_many_w_0 : (w_many = w_0) = False := eq_false (by decide +kernel)
@[simp] theorem ne_w_many_w_fun : (w_many = w_fun) = False := eq_false (by decide +kernel)
@[simp] theorem ne_w_many_w_fill : (w_many = w_fill) = False := eq_false (by decide +kernel)
@[simp] theorem ne_w_many_w_open : (w_many = w_open) = False := eq_false (by decide +kernel)
@[simp] theorem ne_w_many_w_box : (w_many = w_box) = False := eq_false (by decide +kernel)
@[simp] theorem ne_w_many_w_same : (w_many = w_same) = False := eq_false (by decide +kernel)
@[simp] theorem ne_w_many_w_less : (w_many = w_less) = False := eq_false (by decide +kernel)
@[simp] theorem ne_w_many_w_times : (w_many = w_times) = False := eq_false (by decide +kernel)
@[simp] theorem ne_w_many_w_minus : (w_many = w_minus) = False := eq_false (by decide +kernel)
@[simp] theorem ne_w_many_w_add : (w_many = w_add) = False := eq_false (by decide +kernel)
@[simp] theorem ne_w_many_w_keep : (w_many = w_keep) = False := eq_false (by decide +kernel)
@[simp] theorem ne_w_many_w_get : (w_many = w_get) = False := eq_false (by decide +kernel)
@[simp] theorem ne_w_many_w_num : (w_many = w_num) = False := eq_false (by decide +kernel)
@[simp] theorem ne_w_many_w_say : (w_many = w_say) = False := eq_false (by decide +kernel)
@[simp] theorem ne_w_many_w_unless : (w_many = w_unless) = False := eq_false (by decide +kernel)
@[simp] theorem ne_w_many_w_jump : (w_many = w_jump) = False := eq_false (by decide +kernel)
@[simp] theorem ne_w_many_w_back : (w_many = w_back) = False := eq_false (by decide +kernel)
@[simp] theorem ne_w_many_w_call : (w_many = w_call) = False := eq_false (by decide +kernel)
@[simp] theorem ne_w_many_w_bodies : (w_many = w_bodies) = False := eq_false (by decide +kernel)
@[simp] theorem ne_w_many_w_zero : (w_many = w_zero) = False := eq_false (by decide +kernel)
@[simp] theorem ne_w_many_w_1 : (w_many = w_1) = False := eq_false (by decide +kernel)
@[simp] theorem ne_w_many_w_a : (w_many = w_a) = False := eq_false (by decide +kernel)
@[simp] theorem ne_w_many_w_ad : (w_many = w_ad) = False := eq_false (by decide +kernel)
@[simp] theorem ne_w_many_w_Add : (w_many = w_Add) = False := eq_false (by decide +kernel)
@[simp] theorem ne_w_many_w_instruction : (w_many = w_instruction) = False := eq_false (by decide +kernel)
@[simp] theorem ne_w_many_w_body : (w_many = w_body) = False := eq_false (by decide +kernel)
@[simp] theorem ne_w_many_w_place : (w_many = w_place) = False := eq_false (by decide +kernel)
@[simp] theorem ne_w_many_w_other : (w_many = w_other) = False := eq_false (by decide +kernel)
@[simp] theorem ne_w_many_w_fit : (w_many = w_fit) = False := eq_false (by decide +kernel)
@[simp] theorem ne_w_many_w_words : (w_many = w_words) = False := eq_false (by decide +kernel)
@[simp] theorem ne_w_many_w_step : (w_many = w_step) = False := eq_false (by decide +kernel)
@[simp] theorem ne_w_zero_w_drop : (w_zero = w_drop) = False := eq_false (by decide +kernel)
@[simp] theorem ne_w_zero_w_0 : (w_zero = w_0) = False := eq_false (by decide +kernel)
@[simp] theorem ne_w_zero_w_fun : (w_zero = w_fun) = False := eq_false (by decide +kernel)
@[simp] theorem ne_w_zero_w_fill : (w_zero = w_fill) = False := eq_false (by decide +kernel)
@[simp] theorem ne_w_zero_w_open : (w_zero = w_open) = False := eq_false (by decide +kernel)
@[simp] theorem ne_w_zero_w_box : (w_zero = w_box) = False := eq_false (by decide +kernel)
@[simp] theorem ne_w_zero_w_same : (w_zero = w_same) = False := eq_false (by decide +kernel)
@[simp] theorem ne_w_zero_w_less : (w_zero = w_less) = False := eq_false (by decide +kernel)
@[simp] theorem ne_w_zero_w_times : (w_zero = w_times) = False := eq_false (by decide +kernel)
@[simp] theorem ne_w_zero_w_minus : (w_zero = w_minus) = False := eq_false (by decide +kernel)
@[simp] theorem ne_w_zero_w_add : (w_zero = w_add) = False := eq_false (by decide +kernel)
@[simp] theorem ne_w_zero_w_keep : (w_zero = w_keep) = False := eq_false (by decide +kernel)
@[simp] theorem ne_w_zero_w_get : (w_zero = w_get) = False := eq_false (by decide +kernel)
@[simp] theorem ne_w_zero_w_num : (w_zero = w_num) = False := eq_false (by decide +kernel)
@[simp] theorem ne_w_zero_w_say : (w_zero = w_say) = False := eq_false (by decide +kernel)
@[simp] theorem ne_w_zero_w_unless : (w_zero = w_unless) = False := eq_false (by decide +kernel)
@[simp] theorem ne_w_zero_w_jump : (w_zero = w_jump) = False := eq_false (by decide +kernel)
@[simp] theorem ne_w_zero_w_back : (w_zero = w_back) = False := eq_false (by decide +kernel)
@[simp] theorem ne_w_zero_w_call : (w_zero = w_call) = False := eq_false (by decide +kernel)
@[simp] theorem ne_w_zero_w_bodies : (w_zero = w_bodies) = False := eq_false (by decide +kernel)
@[simp] theorem ne_w_zero_w_many : (w_zero = w_many) = False := eq_false (by decide +kernel)
@[simp] theorem ne_w_zero_w_1 : (w_zero = w_1) = False := eq_false (by decide +kernel)
@[simp] theorem ne_w_zero_w_a : (w_zero = w_a) = False := eq_false (by decide +kernel)
@[simp] theorem ne_w_zero_w_ad : (w_zero = w_ad) = False := eq_false (by decide +kernel)
@[simp] theorem ne_w_zero_w_Add : (w_zero = w_Add) = False := eq_false (by decide +kernel)
@[simp] theorem ne_w_zero_w_instruction : (w_zero = w_instruction) = False := eq_false (by decide +kernel)
@[simp] theorem ne_w_zero_w_body : (w_zero = w_body) = False := eq_false (by decide +kernel)
@[simp] theorem ne_w_zero_w_place : (w_zero = w_place) = False := eq_false (by decide +kernel)
@[simp] theorem ne_w_zero_w_other : (w_zero = w_other) = False := eq_false (by decide +kernel)
@[simp] theorem ne_w_zero_w_fit : (w_zero = w_fit) = False := eq_false (by decide +kernel)
@[simp] theorem ne_w_zero_w_words : (w_zero = w_words) = False := eq_false (by decide +kernel)
@[simp] theorem ne_w_zero_w_step : (w_zero = w_step) = False := eq_false (by decide +kernel)
@[simp] theorem ne_w_1_w_drop : (w_1 = w_drop) = False := eq_false (by decide +kernel)
@[simp] theorem ne_w_1_w_0 : (w_1 = w_0) = False := eq_false (by decide +kernel)
@[simp] theorem ne_w_1_w_fun : (w_1 = w_fun) = False := eq_false (by decide +kernel)
@[simp] theorem ne_w_1_w_fill : (w_1 = w_fill) = False := eq_false (by decide +kernel)
@[simp] theorem ne_w_1_w_open : (w_1 = w_open) = False := eq_false (by decide +kernel)
@[simp] theorem ne_w_1_w_box : (w_1 = w_box) = False := eq_false (by decide +kernel)
@[simp] theorem ne_w_1_w_same : (w_1 = w_same) = False := eq_false (by decide +kernel)
@[simp] theorem ne_w_1_w_less : (w_1 = w_less) = False := eq_false (by decide +kernel)
@[simp] theorem ne_w_1_w_times : (w_1 = w_times) = False := eq_false (by decide +kernel)
@[simp] theorem ne_w_1_w_minus : (w_1 = w_minus) = False := eq_false (by decide +kernel)
@[simp] theorem ne_w_1_w_add : (w_1 = w_add) = False := eq_false (by decide +kernel)
@[simp] theorem ne_w_1_w_keep : (w_1 = w_keep) = False := eq_false (by decide +kernel)
@[simp] theorem ne_w_1_w_get : (w_1 = w_get) = False := eq_false (by decide +kernel)
@[simp] theorem ne_w_1_w_num : (w_1 = w_num) = False := eq_false (by decide +kernel)
@[simp] theorem ne_w_1_w_say : (w_1 = w_say) = False := eq_false (by decide +kernel)
@[simp] theorem ne_w_1_w_unless : (w_1 = w_unless) = False := eq_false (by decide +kernel)
@[simp] theorem ne_w_1_w_jump : (w_1 = w_jump) = False := eq_false (by decide +kernel)
@[simp] theorem ne_w_1_w_back : (w_1 = w_back) = False := eq_false (by decide +kernel)
@[simp] theorem ne_w_1_w_call : (w_1 = w_call) = False := eq_false (by decide +kernel)
@[simp] theorem ne_w_1_w_bodies : (w_1 = w_bodies) = False := eq_false (by decide +kernel)
@[simp] theorem ne_w_1_w_many : (w_1 = w_many) = False := eq_false (by decide +kernel)
@[simp] theorem ne_w_1_w_zero : (w_1 = w_zero) = False := eq_false (by decide +kernel)
@[simp] theorem ne_w_1_w_a : (w_1 = w_a) = False := eq_false (by decide +kernel)
@[simp] theorem ne_w_1_w_ad : (w_1 = w_ad) = False := eq_false (by decide +kernel)
@[simp] theorem ne_w_1_w_Add : (w_1 = w_Add) = False := eq_false (by decide +kernel)
@[simp] theorem ne_w_1_w_instruction : (w_1 = w_instruction) = False := eq_false (by decide +kernel)
@[simp] theorem ne_w_1_w_body : (w_1 = w_body) = False := eq_false (by decide +kernel)
@[simp] theorem ne_w_1_w_place : (w_1 = w_place) = False := eq_false (by decide +kernel)
@[simp] theorem ne_w_1_w_other : (w_1 = w_other) = False := eq_false (by decide +kernel)
@[simp] theorem ne_w_1_w_fit : (w_1 = w_fit) = False := eq_false (by decide +kernel)
@[simp] theorem ne_w_1_w_words : (w_1 = w_words) = False := eq_false (by decide +kernel)
@[simp] theorem ne_w_1_w_step : (w_1 = w_step) = False := eq_false (by decide +kernel)
@[simp] theorem ne_w_a_w_drop : (w_a = w_drop) = False := eq_false (by decide +kernel)
@[simp] theorem ne_w_a_w_0 : (w_a = w_0) = False := eq_false (by decide +kernel)
@[simp] theorem ne_w_a_w_fun : (w_a = w_fun) = False := eq_false (by decide +kernel)
@[simp] theorem ne_w_a_w_fill : (w_a = w_fill) = False := eq_false (by decide +kernel)
@[simp] theorem ne_w_a_w_open : (w_a = w_open) = False := eq_false (by decide +kernel)
@[simp] theorem ne_w_a_w_box : (w_a = w_box) = False := eq_false (by decide +kernel)
@[simp] theorem ne_w_a_w_same : (w_a = w_same) = False := eq_false (by decide +kernel)
@[simp] theorem ne_w_a_w_less : (w_a = w_less) = False := eq_false (by decide +kernel)
@[simp] theorem ne_w_a_w_times : (w_a = w_times) = False := eq_false (by decide +kernel)
@[simp] theorem ne_w_a_w_minus : (w_a = w_minus) = False := eq_false (by decide +kernel)
@[simp] theorem ne_w_a_w_add : (w_a = w_add) = False := eq_false (by decide +kernel)
@[simp] theorem ne_w_a_w_keep : (w_a = w_keep) = False := eq_false (by decide +kernel)
@[simp] theorem ne_w_a_w_get : (w_a = w_get) = False := eq_false (by decide +kernel)
@[simp] theorem ne_w_a_w_num : (w_a = w_num) = False := eq_false (by decide +kernel)
@[simp] theorem ne_w_a_w_say : (w_a = w_say) = False := eq_false (by decide +kernel)
@[simp] theorem ne_w_a_w_unless : (w_a = w_unless) = False := eq_false (by decide +kernel)
@[simp] theorem ne_w_a_w_jump : (w_a = w_jump) = False := eq_false (by decide +kernel)
@[simp] theorem ne_w_a_w_back : (w_a = w_back) = False := eq_false (by decide +kernel)
@[simp] theorem ne_w_a_w_call : (w_a = w_call) = False := eq_false (by decide +kernel)
@[simp] theorem ne_w_a_w_bodies : (w_a = w_bodies) = False := eq_false (by decide +kernel)
@[simp] theorem ne_w_a_w_many : (w_a = w_many) = False := eq_false (by decide +kernel)
@[simp] theorem ne_w_a_w_zero : (w_a = w_zero) = False := eq_false (by decide +kernel)
@[simp] theorem ne_w_a_w_1 : (w_a = w_1) = False := eq_false (by decide +kernel)
@[simp] theorem ne_w_a_w_ad : (w_a = w_ad) = False := eq_false (by decide +kernel)
@[simp] theorem ne_w_a_w_Add : (w_a = w_Add) = False := eq_false (by decide +kernel)
@[simp] theorem ne_w_a_w_instruction : (w_a = w_instruction) = False := eq_false (by decide +kernel)
@[simp] theorem ne_w_a_w_body : (w_a = w_body) = False := eq_false (by decide +kernel)
@[simp] theorem ne_w_a_w_place : (w_a = w_place) = False := eq_false (by decide +kernel)
@[simp] theorem ne_w_a_w_other : (w_a = w_other) = False := eq_false (by decide +kernel)
@[simp] theorem ne_w_a_w_fit : (w_a = w_fit) = False := eq_false (by decide +kernel)
@[simp] theorem ne_w_a_w_words : (w_a = w_words) = False := eq_false (by decide +kernel)
@[simp] theorem ne_w_a_w_step : (w_a = w_step) = False := eq_false (by decide +kernel)
@[simp] theorem ne_w_ad_w_drop : (w_ad = w_drop) = False := eq_false (by decide +kernel)
@[simp] theorem ne_w_ad_w_0 : (w_ad = w_0) = False := eq_false (by decide +kernel)
@[simp] theorem ne_w_ad_w_fun : (w_ad = w_fun) = False := eq_false (by decide +kernel)
@[simp] theorem ne_w_ad_w_fill : (w_ad = w_fill) = False := eq_false (by decide +kernel)
@[simp] theorem ne_w_ad_w_open : (w_ad = w_open) = False := eq_false (by decide +kernel)
@[simp] theorem ne_w_ad_w_box : (w_ad = w_box) = False := eq_false (by decide +kernel)
@[simp] theorem ne_w_ad_w_same : (w_ad = w_same) = False := eq_false (by decide +kernel)
@[simp] theorem ne_w_ad_w_less : (w_ad = w_less) = False := eq_false (by decide +kernel)
@[simp] theorem ne_w_ad_w_times : (w_ad = w_times) = False := eq_false (by decide +kernel)
@[simp] theorem ne_w_ad_w_minus : (w_ad = w_minus) = False := eq_false (by decide +kernel)
@[simp] theorem ne_w_ad_w_add : (w_ad = w_add) = False := eq_false (by decide +kernel)
@[simp] theorem ne_w_ad_w_keep : (w_ad = w_keep) = False := eq_false (by decide +kernel)
@[simp] theorem ne_w_ad_w_get : (w_ad = w_get) = False := eq_false (by decide +kernel)
@[simp] theorem ne_w_ad_w_num : (w_ad = w_num) = False := eq_false (by decide +kernel)
@[simp] theorem ne_w_ad_w_say : (w_ad = w_say) = False := eq_false (by decide +kernel)
@[simp] theorem ne_w_ad_w_unless : (w_ad = w_unless) = False := eq_false (by decide +kernel)
@[simp] theorem ne_w_ad_w_jump : (w_ad = w_jump) = False := eq_false (by decide +kernel)
@[simp] theorem ne_w_ad_w_back : (w_ad = w_back) = False := eq_false (by decide +kernel)
@[simp] theorem ne_w_ad_w_call : (w_ad = w_call) = False := eq_false (by decide +kernel)
@[simp] theorem ne_w_ad_w_bodies : (w_ad = w_bodies) = False := eq_false (by decide +kernel)
@[simp] theorem ne_w_ad_w_many : (w_ad = w_many) = False := eq_false (by decide +kernel)
@[simp] theorem ne_w_ad_w_zero : (w_ad = w_zero) = False := eq_false (by decide +kernel)
@[simp] theorem ne_w_ad_w_1 : (w_ad = w_1) = False := eq_false (by decide +kernel)
@[simp] theorem ne_w_ad_w_a : (w_ad = w_a) = False := eq_false (by decide +kernel)
@[simp] theorem ne_w_ad_w_Add : (w_ad = w_Add) = False := eq_false (by decide +kernel)
@[simp] theorem ne_w_ad_w_instruction : (w_ad = w_instruction) = False := eq_false (by decide +kernel)
@[simp] theorem ne_w_ad_w_body : (w_ad = w_body) = False := eq_false (by decide +kernel)
@[simp] theorem ne_w_ad_w_place : (w_ad = w_place) = False := eq_false (by decide +kernel)
@[simp] theorem ne_w_ad_w_other : (w_ad = w_other) = False := eq_false (by decide +kernel)
@[simp] theorem ne_w_ad_w_fit : (w_ad = w_fit) = False := eq_false (by decide +kernel)
@[simp] theorem ne_w_ad_w_words : (w_ad = w_words) = False := eq_false (by decide +kernel)
@[simp] theorem ne_w_ad_w_step : (w_ad = w_step) = False := eq_false (by decide +kernel)
@[simp] theorem ne_w_Add_w_drop : (w_Add = w_drop) = False := eq_false (by decide +kernel)
@[simp] theorem ne_w_Add_w_0 : (w_Add = w_0) = False := eq_false (by decide +kernel)
@[simp] theorem ne_w_Add_w_fun : (w_Add = w_fun) = False := eq_false (by decide +kernel)
@[simp] theorem ne_w_Add_w_fill : (w_Add = w_fill) = False := eq_false (by decide +kernel)
@[simp] theorem ne_w_Add_w_open : (w_Add = w_open) = False := eq_false (by decide +kernel)
@[simp] theorem ne_w_Add_w_box : (w_Add = w_box) = False := eq_false (by decide +kernel)
@[simp] theorem ne_w_Add_w_same : (w_Add = w_same) = False := eq_false (by decide +kernel)
@[simp] theorem ne_w_Add_w_less : (w_Add = w_less) = False := eq_false (by decide +kernel)
@[simp] theorem ne_w_Add_w_times : (w_Add = w_times) = False := eq_false (by decide +kernel)
@[simp] theorem ne_w_Add_w_minus : (w_Add = w_minus) = False := eq_false (by decide +kernel)
@[simp] theorem ne_w_Add_w_add : (w_Add = w_add) = False := eq_false (by decide +kernel)
@[simp] theorem ne_w_Add_w_keep : (w_Add = w_keep) = False := eq_false (by decide +kernel)
@[simp] theorem ne_w_Add_w_get : (w_Add = w_get) = False := eq_false (by decide +kernel)
@[simp] theorem ne_w_Add_w_num : (w_Add = w_num) = False := eq_false (by decide +kernel)
@[simp] theorem ne_w_Add_w_say : (w_Add = w_say) = False := eq_false (by decide +kernel)
@[simp] theorem ne_w_Add_w_unless : (w_Add = w_unless) = False := eq_false (by decide +kernel)
@[simp] theorem ne_w_Add_w_jump : (w_Add = w_jump) = False := eq_false (by decide +kernel)
@[simp] theorem ne_w_Add_w_back : (w_Add = w_back) = False := eq_false (by decide +kernel)
@[simp] theorem ne_w_Add_w_call : (w_Add = w_call) = False := eq_false (by decide +kernel)
@[simp] theorem ne_w_Add_w_bodies : (w_Add = w_bodies) = False := eq_false (by decide +kernel)
@[simp] theorem ne_w_Add_w_many : (w_Add = w_many) = False := eq_false (by decide +kernel)
@[simp] theorem ne_w_Add_w_zero : (w_Add = w_zero) = False := eq_false (by decide +kernel)
@[simp] theorem ne_w_Add_w_1 : (w_Add = w_1) = False := eq_false (by decide +kernel)
@[simp] theorem ne_w_Add_w_a : (w_Add = w_a) = False := eq_false (by decide +kernel)
@[simp] theorem ne_w_Add_w_ad : (w_Add = w_ad) = False := eq_false (by decide +kernel)
@[simp] theorem ne_w_Add_w_instruction : (w_Add = w_instruction) = False := eq_false (by decide +kernel)
@[simp] theorem ne_w_Add_w_body : (w_Add = w_body) = False := eq_false (by decide +kernel)
@[simp] theorem ne_w_Add_w_place : (w_Add = w_place) = False := eq_false (by decide +kernel)
@[simp] theorem ne_w_Add_w_other : (w_Add = w_other) = False := eq_false (by decide +kernel)
@[simp] theorem ne_w_Add_w_fit : (w_Add = w_fit) = False := eq_false (by decide +kernel)
@[simp] theorem ne_w_Add_w_words : (w_Add = w_words) = False := eq_false (by decide +kernel)
@[simp] theorem ne_w_Add_w_step : (w_Add = w_step) = False := eq_false (by decide +kernel)
@[simp] theorem ne_w_instruction_w_drop : (w_instruction = w_drop) = False := eq_false (by decide +kernel)
@[simp] theorem ne_w_instruction_w_0 : (w_instruction = w_0) = False := eq_false (by decide +kernel)
@[simp] theorem ne_w_instruction_w_fun : (w_instruction = w_fun) = False := eq_false (by decide +kernel)
@[simp] theorem ne_w_instruction_w_fill : (w_instruction = w_fill) = False := eq_false (by decide +kernel)
@[simp] theorem ne_w_instruction_w_open : (w_instruction = w_open) = False := eq_false (by decide +kernel)
@[simp] theorem ne_w_instruction_w_box : (w_instruction = w_box) = False := eq_false (by decide +kernel)
@[simp] theorem ne_w_instruction_w_same : (w_instruction = w_same) = False := eq_false (by decide +kernel)
@[simp] theorem ne_w_instruction_w_less : (w_instruction = w_less) = False := eq_false (by decide +kernel)
@[simp] theorem ne_w_instruction_w_times : (w_instruction = w_times) = False := eq_false (by decide +kernel)
@[simp] theorem ne_w_instruction_w_minus : (w_instruction = w_minus) = False := eq_false (by decide +kernel)
@[simp] theorem ne_w_instruction_w_add : (w_instruction = w_add) = False := eq_false (by decide +kernel)
@[simp] theorem ne_w_instruction_w_keep : (w_instruction = w_keep) = False := eq_false (by decide +kernel)
@[simp] theorem ne_w_instruction_w_get : (w_instruction = w_get) = False := eq_false (by decide +kernel)
@[simp] theorem ne_w_instruction_w_num : (w_instruction = w_num) = False := eq_false (by decide +kernel)
@[simp] theorem ne_w_instruction_w_say : (w_instruction = w_say) = False := eq_false (by decide +kernel)
@[simp] theorem ne_w_instruction_w_unless : (w_instruction = w_unless) = False := eq_false (by decide +kernel)
@[simp] theorem ne_w_instruction_w_jump : (w_instruction = w_jump) = False := eq_false (by decide +kernel)
@[simp] theorem ne_w_instruction_w_back : (w_instruction = w_back) = False := eq_false (by decide +kernel)
@[simp] theorem ne_w_instruction_w_call : (w_instruction = w_call) = False := eq_false (by decide +kernel)
@[simp] theorem ne_w_instruction_w_bodies : (w_instruction = w_bodies) = False := eq_false (by decide +kernel)
@[simp] theorem ne_w_instruction_w_many : (w_instruction = w_many) = False := eq_false (by decide +kernel)
@[simp] theorem ne_w_instruction_w_zero : (w_instruction = w_zero) = False := eq_false (by decide +kernel)
@[simp] theorem ne_w_instruction_w_1 : (w_instruction = w_1) = False := eq_false (by decide +kernel)
@[simp] theorem ne_w_instruction_w_a : (w_instruction = w_a) = False := eq_false (by decide +kernel)
@[simp] theorem ne_w_instruction_w_ad : (w_instruction = w_ad) = False := eq_false (by decide +kernel)
@[simp] theorem ne_w_instruction_w_Add : (w_instruction = w_Add) = False := eq_false (by decide +kernel)
@[simp] theorem ne_w_instruction_w_body : (w_instruction = w_body) = False := eq_false (by decide +kernel)
@[simp] theorem ne_w_instruction_w_place : (w_instruction = w_place) = False := eq_false (by decide +kernel)
@[simp] theorem ne_w_instruction_w_other : (w_instruction = w_other) = False := eq_false (by decide +kernel)
@[simp] theorem ne_w_instruction_w_fit : (w_instruction = w_fit) = False := eq_false (by decide +kernel)
@[simp] theorem ne_w_instruction_w_words : (w_instruction = w_words) = False := eq_false (by decide +kernel)
@[simp] theorem ne_w_instruction_w_step : (w_instruction = w_step) = False := eq_false (by decide +kernel)
@[simp] theorem ne_w_body_w_drop : (w_body = w_drop) = False := eq_false (by decide +kernel)
@[simp] theorem ne_w_body_w_0 : (w_body = w_0) = False := eq_false (by decide +kernel)
@[simp] theorem ne_w_body_w_fun : (w_body = w_fun) = False := eq_false (by decide +kernel)
@[simp] theorem ne_w_body_w_fill : (w_body = w_fill) = False := eq_false (by decide +kernel)
@[simp] theorem ne_w_body_w_open : (w_body = w_open) = False := eq_false (by decide +kernel)
@[simp] theorem ne_w_body_w_box : (w_body = w_box) = False := eq_false (by decide +kernel)
@[simp] theorem ne_w_body_w_same : (w_body = w_same) = False := eq_false (by decide +kernel)
@[simp] theorem ne_w_body_w_less : (w_body = w_less) = False := eq_false (by decide +kernel)
@[simp] theorem ne_w_body_w_times : (w_body = w_times) = False := eq_false (by decide +kernel)
@[simp] theorem ne_w_body_w_minus : (w_body = w_minus) = False := eq_false (by decide +kernel)
@[simp] theorem ne_w_body_w_add : (w_body = w_add) = False := eq_false (by decide +kernel)
@[simp] theorem ne_w_body_w_keep : (w_body = w_keep) = False := eq_false (by decide +kernel)
@[simp] theorem ne_w_body_w_get : (w_body = w_get) = False := eq_false (by decide +kernel)
@[simp] theorem ne_w_body_w_num : (w_body = w_num) = False := eq_false (by decide +kernel)
@[simp] theorem ne_w_body_w_say : (w_body = w_say) = False := eq_false (by decide +kernel)
@[simp] theorem ne_w_body_w_unless : (w_body = w_unless) = False := eq_false (by decide +kernel)
@[simp] theorem ne_w_body_w_jump : (w_body = w_jump) = False := eq_false (by decide +kernel)
@[simp] theorem ne_w_body_w_back : (w_body = w_back) = False := eq_false (by decide +kernel)
@[simp] theorem ne_w_body_w_call : (w_body = w_call) = False := eq_false (by decide +kernel)
@[simp] theorem ne_w_body_w_bodies : (w_body = w_bodies) = False := eq_false (by decide +kernel)
@[simp] theorem ne_w_body_w_many : (w_body = w_many) = False := eq_false (by decide +kernel)
@[simp] theorem ne_w_body_w_zero : (w_body = w_zero) = False := eq_false (by decide +kernel)
@[simp] theorem ne_w_body_w_1 : (w_body = w_1) = False := eq_false (by decide +kernel)
@[simp] theorem ne_w_body_w_a : (w_body = w_a) = False := eq_false (by decide +kernel)
@[simp] theorem ne_w_body_w_ad : (w_body = w_ad) = False := eq_false (by decide +kernel)
@[simp] theorem ne_w_body_w_Add : (w_body = w_Add) = False := eq_false (by decide +kernel)
@[simp] theorem ne_w_body_w_instruction : (w_body = w_instruction) = False := eq_false (by decide +kernel)
@[simp] theorem ne_w_body_w_place : (w_body = w_place) = False := eq_false (by decide +kernel)
@[simp] theorem ne_w_body_w_other : (w_body = w_other) = False := eq_false (by decide +kernel)
@[simp] theorem ne_w_body_w_fit : (w_body = w_fit) = False := eq_false (by decide +kernel)
@[simp] theorem ne_w_body_w_words : (w_body = w_words) = False := eq_false (by decide +kernel)
@[simp] theorem ne_w_body_w_step : (w_body = w_step) = False := eq_false (by decide +kernel)
@[simp] theorem ne_w_place_w_drop : (w_place = w_drop) = False := eq_false (by decide +kernel)
@[simp] theorem ne_w_place_w_0 : (w_place = w_0) = False := eq_false (by decide +kernel)
@[simp] theorem ne_w_place_w_fun : (w_place = w_fun) = False := eq_false (by decide +kernel)
@[simp] theorem ne_w_place_w_fill : (w_place = w_fill) = False := eq_false (by decide +kernel)
@[simp] theorem ne_w_place_w_open : (w_place = w_open) = False := eq_false (by decide +kernel)
@[simp] theorem ne_w_place_w_box : (w_place = w_box) = False := eq_false (by decide +kernel)
@[simp] theorem ne_w_place_w_same : (w_place = w_same) = False := eq_false (by decide +kernel)
@[simp] theorem ne_w_place_w_less : (w_place = w_less) = False := eq_false (by decide +kernel)
@[simp] theorem ne_w_place_w_times : (w_place = w_times) = False := eq_false (by decide +kernel)
@[simp] theorem ne_w_place_w_minus : (w_place = w_minus) = False := eq_false (by decide +kernel)
@[simp] theorem ne_w_place_w_add : (w_place = w_add) = False := eq_false (by decide +kernel)
@[simp] theorem ne_w_place_w_keep : (w_place = w_keep) = False := eq_false (by decide +kernel)
@[simp] theorem ne_w_place_w_get : (w_place = w_get) = False := eq_false (by decide +kernel)
@[simp] theorem ne_w_place_w_num : (w_place = w_num) = False := eq_false (by decide +kernel)
@[simp] theorem ne_w_place_w_say : (w_place = w_say) = False := eq_false (by decide +kernel)
@[simp] theorem ne_w_place_w_unless : (w_place = w_unless) = False := eq_false (by decide +kernel)
@[simp] theorem ne_w_place_w_jump : (w_place = w_jump) = False := eq_false (by decide +kernel)
@[simp] theorem ne_w_place_w_back : (w_place = w_back) = False := eq_false (by decide +kernel)
@[simp] theorem ne_w_place_w_call : (w_place = w_call) = False := eq_false (by decide +kernel)
@[simp] theorem ne_w_place_w_bodies : (w_place = w_bodies) = False := eq_false (by decide +kernel)
@[simp] theorem ne_w_place_w_many : (w_place = w_many) = False := eq_false (by decide +kernel)
@[simp] theorem ne_w_place_w_zero : (w_place = w_zero) = False := eq_false (by decide +kernel)
@[simp] theorem ne_w_place_w_1 : (w_place = w_1) = False := eq_false (by decide +kernel)
@[simp] theorem ne_w_place_w_a : (w_place = w_a) = False := eq_false (by decide +kernel)
@[simp] theorem ne_w_place_w_ad : (w_place = w_ad) = False := eq_false (by decide +kernel)
@[simp] theorem ne_w_place_w_Add : (w_place = w_Add) = False := eq_false (by decide +kernel)
@[simp] theorem ne_w_place_w_instruction : (w_place = w_instruction) = False := eq_false (by decide +kernel)
@[simp] theorem ne_w_place_w_body : (w_place = w_body) = False := eq_false (by decide +kernel)
@[simp] theorem ne_w_place_w_other : (w_place = w_other) = False := eq_false (by decide +kernel)
@[simp] theorem ne_w_place_w_fit : (w_place = w_fit) = False := eq_false (by decide +kernel)
@[simp] theorem ne_w_place_w_words : (w_place = w_words) = False := eq_false (by decide +kernel)
@[simp] theorem ne_w_place_w_step : (w_place = w_step) = False := eq_false (by decide +kernel)
@[simp] theorem ne_w_other_w_drop : (w_other = w_drop) = False := eq_false (by decide +kernel)
@[simp] theorem ne_w_other_w_0 : (w_other = w_0) = False := eq_false (by decide +kernel)
@[simp] theorem ne_w_other_w_fun : (w_other = w_fun) = False := eq_false (by decide +kernel)
@[simp] theorem ne_w_other_w_fill : (w_other = w_fill) = False := eq_false (by decide +kernel)
@[simp] theorem ne_w_other_w_open : (w_other = w_open) = False := eq_false (by decide +kernel)
@[simp] theorem ne_w_other_w_box : (w_other = w_box) = False := eq_false (by decide +kernel)
@[simp] theorem ne_w_other_w_same : (w_other = w_same) = False := eq_false (by decide +kernel)
@[simp] theorem ne_w_other_w_less : (w_other = w_less) = False := eq_false (by decide +kernel)
@[simp] theorem ne_w_other_w_times : (w_other = w_times) = False := eq_false (by decide +kernel)
@[simp] theorem ne_w_other_w_minus : (w_other = w_minus) = False := eq_false (by decide +kernel)
@[simp] theorem ne_w_other_w_add : (w_other = w_add) = False := eq_false (by decide +kernel)
@[simp] theorem ne_w_other_w_keep : (w_other = w_keep) = False := eq_false (by decide +kernel)
@[simp] theorem ne_w_other_w_get : (w_other = w_get) = False := eq_false (by decide +kernel)
@[simp] theorem ne_w_other_w_num : (w_other = w_num) = False := eq_false (by decide +kernel)
@[simp] theorem ne_w_other_w_say : (w_other = w_say) = False := eq_false (by decide +kernel)
@[simp] theorem ne_w_other_w_unless : (w_other = w_unless) = False := eq_false (by decide +kernel)
@[simp] theorem ne_w_other_w_jump : (w_other = w_jump) = False := eq_false (by decide +kernel)
@[simp] theorem ne_w_other_w_back : (w_other = w_back) = False := eq_false (by decide +kernel)
@[simp] theorem ne_w_other_w_call : (w_other = w_call) = False := eq_false (by decide +kernel)
@[simp] theorem ne_w_other_w_bodies : (w_other = w_bodies) = False := eq_false (by decide +kernel)
@[simp] theorem ne_w_other_w_many : (w_other = w_many) = False := eq_false (by decide +kernel)
@[simp] theorem ne_w_other_w_zero : (w_other = w_zero) = False := eq_false (by decide +kernel)
@[simp] theorem ne_w_other_w_1 : (w_other = w_1) = False := eq_false (by decide +kernel)
@[simp] theorem ne_w_other_w_a : (w_other = w_a) = False := eq_false (by decide +kernel)
@[simp] theorem ne_w_other_w_ad : (w_other = w_ad) = False := eq_false (by decide +kernel)
@[simp] theorem ne_w_other_w_Add : (w_other = w_Add) = False := eq_false (by decide +kernel)
@[simp] theorem ne_w_other_w_instruction : (w_other = w_instruction) = False := eq_false (by decide +kernel)
@[simp] theorem ne_w_other_w_body : (w_other = w_body) = False := eq_false (by decide +kernel)
@[simp] theorem ne_w_other_w_place : (w_other = w_place) = False := eq_false (by decide +kernel)
@[simp] theorem ne_w_other_w_fit : (w_other = w_fit) = False := eq_false (by decide +kernel)
@[simp] theorem ne_w_other_w_words : (w_other = w_words) = False := eq_false (by decide +kernel)
@[simp] theorem ne_w_other_w_step : (w_other = w_step) = False := eq_false (by decide +kernel)
@[simp] theorem ne_w_fit_w_drop : (w_fit = w_drop) = False := eq_false (by decide +kernel)
@[simp] theorem ne_w_fit_w_0 : (w_fit = w_0) = False := eq_false (by decide +kernel)
@[simp] theorem ne_w_fit_w_fun : (w_fit = w_fun) = False := eq_false (by decide +kernel)
@[simp] theorem ne_w_fit_w_fill : (w_fit = w_fill) = False := eq_false (by decide +kernel)
@[simp] theorem ne_w_fit_w_open : (w_fit = w_open) = False := eq_false (by decide +kernel)
@[simp] theorem ne_w_fit_w_box : (w_fit = w_box) = False := eq_false (by decide +kernel)
@[simp] theorem ne_w_fit_w_same : (w_fit = w_same) = False := eq_false (by decide +kernel)
@[simp] theorem ne_w_fit_w_less : (w_fit = w_less) = False := eq_false (by decide +kernel)
@[simp] theorem ne_w_fit_w_times : (w_fit = w_times) = False := eq_false (by decide +kernel)
@[simp] theorem ne_w_fit_w_minus : (w_fit = w_minus) = False := eq_false (by decide +kernel)
@[simp] theorem ne_w_fit_w_add : (w_fit = w_add) = False := eq_false (by decide +kernel)
@[simp] theorem ne_w_fit_w_keep : (w_fit = w_keep) = False := eq_false (by decide +kernel)
@[simp] theorem ne_w_fit_w_get : (w_fit = w_get) = False := eq_false (by decide +kernel)
@[simp] theorem ne_w_fit_w_num : (w_fit = w_num) = False := eq_false (by decide +kernel)
@[simp] theorem ne_w_fit_w_say : (w_fit = w_say) = False := eq_false (by decide +kernel)
@[simp] theorem ne_w_fit_w_unless : (w_fit = w_unless) = False := eq_false (by decide +kernel)
@[simp] theorem ne_w_fit_w_jump : (w_fit = w_jump) = False := eq_false (by decide +kernel)
@[simp] theorem ne_w_fit_w_back : (w_fit = w_back) = False := eq_false (by decide +kernel)
@[simp] theorem ne_w_fit_w_call : (w_fit = w_call) = False := eq_false (by decide +kernel)
@[simp] theorem ne_w_fit_w_bodies : (w_fit = w_bodies) = False := eq_false (by decide +kernel)
@[simp] theorem ne_w_fit_w_many : (w_fit = w_many) = False := eq_false (by decide +kernel)
@[simp] theorem ne_w_fit_w_zero : (w_fit = w_zero) = False := eq_false (by decide +kernel)
@[simp] theorem ne_w_fit_w_1 : (w_fit = w_1) = False := eq_false (by decide +kernel)
@[simp] theorem ne_w_fit_w_a : (w_fit = w_a) = False := eq_false (by decide +kernel)
@[simp] theorem ne_w_fit_w_ad : (w_fit = w_ad) = False := eq_false (by decide +kernel)
@[simp] theorem ne_w_fit_w_Add : (w_fit = w_Add) = False := eq_false (by decide +kernel)
@[simp] theorem ne_w_fit_w_instruction : (w_fit = w_instruction) = False := eq_false (by decide +kernel)
@[simp] theorem ne_w_fit_w_body : (w_fit = w_body) = False := eq_false (by decide +kernel)
@[simp] theorem ne_w_fit_w_place : (w_fit = w_place) = False := eq_false (by decide +kernel)
@[simp] theorem ne_w_fit_w_other : (w_fit = w_other) = False := eq_false (by decide +kernel)
@[simp] theorem ne_w_fit_w_words : (w_fit = w_words) = False := eq_false (by decide +kernel)
@[simp] theorem ne_w_fit_w_step : (w_fit = w_step) = False := eq_false (by decide +kernel)
@[simp] theorem ne_w_words_w_drop : (w_words = w_drop) = False := eq_false (by decide +kernel)
@[simp] theorem ne_w_words_w_0 : (w_words = w_0) = False := eq_false (by decide +kernel)
@[simp] theorem ne_w_words_w_fun : (w_words = w_fun) = False := eq_false (by decide +kernel)
@[simp] theorem ne_w_words_w_fill : (w_words = w_fill) = False := eq_false (by decide +kernel)
@[simp] theorem ne_w_words_w_open : (w_words = w_open) = False := eq_false (by decide +kernel)
@[simp] theorem ne_w_words_w_box : (w_words = w_box) = False := eq_false (by decide +kernel)
@[simp] theorem ne_w_words_w_same : (w_words = w_same) = False := eq_false (by decide +kernel)
@[simp] theorem ne_w_words_w_less : (w_words = w_less) = False := eq_false (by decide +kernel)
@[simp] theorem ne_w_words_w_times : (w_words = w_times) = False := eq_false (by decide +kernel)
@[simp] theorem ne_w_words_w_minus : (w_words = w_minus) = False := eq_false (by decide +kernel)
@[simp] theorem ne_w_words_w_add : (w_words = w_add) = False := eq_false (by decide +kernel)
@[simp] theorem ne_w_words_w_keep : (w_words = w_keep) = False := eq_false (by decide +kernel)
@[simp] theorem ne_w_words_w_get : (w_words = w_get) = False := eq_false (by decide +kernel)
@[simp] theorem ne_w_words_w_num : (w_words = w_num) = False := eq_false (by decide +kernel)
@[simp] theorem ne_w_words_w_say : (w_words = w_say) = False := eq_false (by decide +kernel)
@[simp] theorem ne_w_words_w_unless : (w_words = w_unless) = False := eq_false (by decide +kernel)
@[simp] theorem ne_w_words_w_jump : (w_words = w_jump) = False := eq_false (by decide +kernel)
@[simp] theorem ne_w_words_w_back : (w_words = w_back) = False := eq_false (by decide +kernel)
@[simp] theorem ne_w_words_w_call : (w_words = w_call) = False := eq_false (by decide +kernel)
@[simp] theorem ne_w_words_w_bodies : (w_words = w_bodies) = False := eq_false (by decide +kernel)
@[simp] theorem ne_w_words_w_many : (w_words = w_many) = False := eq_false (by decide +kernel)
@[simp] theorem ne_w_words_w_zero : (w_words = w_zero) = False := eq_false (by decide +kernel)
@[simp] theorem ne_w_words_w_1 : (w_words = w_1) = False := eq_false (by decide +kernel)
@[simp] theorem ne_w_words_w_a : (w_words = w_a) = False := eq_false (by decide +kernel)
@[simp] theorem ne_w_words_w_ad : (w_words = w_ad) = False := eq_false (by decide +kernel)
@[simp] theorem ne_w_words_w_Add : (w_words = w_Add) = False := eq_false (by decide +kernel)
@[simp] theorem ne_w_words_w_instruction : (w_words = w_instruction) = False := eq_false (by decide +kernel)
@[simp] theorem ne_w_words_w_body : (w_words = w_body) = False := eq_false (by decide +kernel)
@[simp] theorem ne_w_words_w_place : (w_words = w_place) = False := eq_false (by decide +kernel)
@[simp] theorem ne_w_words_w_other : (w_words = w_other) = False := eq_false (by decide +kernel)
@[simp] theorem ne_w_words_w_fit : (w_words = w_fit) = False := eq_false (by decide +kernel)
@[simp] theorem ne_w_words_w_step : (w_words = w_step) = False := eq_false (by decide +kernel)
@[simp] theorem ne_w_step_w_drop : (w_step = w_drop) = False := eq_false (by decide +kernel)
@[simp] theorem ne_w_step_w_0 : (w_step = w_0) = False := eq_false (by decide +kernel)
@[simp] theorem ne_w_step_w_fun : (w_step = w_fun) = False := eq_false (by decide +kernel)
@[simp] theorem ne_w_step_w_fill : (w_step = w_fill) = False := eq_false (by decide +kernel)
@[simp] theorem ne_w_step_w_open : (w_step = w_open) = False := eq_false (by decide +kernel)
@[simp] theorem ne_w_step_w_box : (w_step = w_box) = False := eq_false (by decide +kernel)
@[simp] theorem ne_w_step_w_same : (w_step = w_same) = False := eq_false (by decide +kernel)
@[simp] theorem ne_w_step_w_less : (w_step = w_less) = False := eq_false (by decide +kernel)
@[simp] theorem ne_w_step_w_times : (w_step = w_times) = False := eq_false (by decide +kernel)
@[simp] theorem ne_w_step_w_minus : (w_step = w_minus) = False := eq_false (by decide +kernel)
@[simp] theorem ne_w_step_w_add : (w_step = w_add) = False := eq_false (by decide +kernel)
@[simp] theorem ne_w_step_w_keep : (w_step = w_keep) = False := eq_false (by decide +kernel)
@[simp] theorem ne_w_step_w_get : (w_step = w_get) = False := eq_false (by decide +kernel)
@[simp] theorem ne_w_step_w_num : (w_step = w_num) = False := eq_false (by decide +kernel)
@[simp] theorem ne_w_step_w_say : (w_step = w_say) = False := eq_false (by decide +kernel)
@[simp] theorem ne_w_step_w_unless : (w_step = w_unless) = False := eq_false (by decide +kernel)
@[simp] theorem ne_w_step_w_jump : (w_step = w_jump) = False := eq_false (by decide +kernel)
@[simp] theorem ne_w_step_w_back : (w_step = w_back) = False := eq_false (by decide +kernel)
@[simp] theorem ne_w_step_w_call : (w_step = w_call) = False := eq_false (by decide +kernel)
@[simp] theorem ne_w_step_w_bodies : (w_step = w_bodies) = False := eq_false (by decide +kernel)
@[simp] theorem ne_w_step_w_many : (w_step = w_many) = False := eq_false (by decide +kernel)
@[simp] theorem ne_w_step_w_zero : (w_step = w_zero) = False := eq_false (by decide +kernel)
@[simp] theorem ne_w_step_w_1 : (w_step = w_1) = False := eq_false (by decide +kernel)
@[simp] theorem ne_w_step_w_a : (w_step = w_a) = False := eq_false (by decide +kernel)
@[simp] theorem ne_w_step_w_ad : (w_step = w_ad) = False := eq_false (by decide +kernel)
@[simp] theorem ne_w_step_w_Add : (w_step = w_Add) = False := eq_false (by decide +kernel)
@[simp] theorem ne_w_step_w_instruction : (w_step = w_instruction) = False := eq_false (by decide +kernel)
@[simp] theorem ne_w_step_w_body : (w_step = w_body) = False := eq_false (by decide +kernel)
@[simp] theorem ne_w_step_w_place : (w_step = w_place) = False := eq_false (by decide +kernel)
@[simp] theorem ne_w_step_w_other : (w_step = w_other) = False := eq_false (by decide +kernel)
@[simp] theorem ne_w_step_w_fit : (w_step = w_fit) = False := eq_false (by decide +kernel)
@[simp] theorem ne_w_step_w_words : (w_step = w_words) = False := eq_false (by decide +kernel)
abbrev s__law_cell : Stmt := topS 22
abbrev N__law_cell : List Str := ["_law_script", "_law_k", "_law_mixed", "_law_size"]
abbrev s__law_raw : Stmt := topS 23
abbrev N__law_raw : List Str := ["_law_script", "_law_k"]
abbrev s__law_row : Stmt := topS 25
abbrev N__law_row : List Str := ["_law_script", "_law_k", "_law_words_here", "_law_bodies", "_law_size", "_law_cell_here", "_law_word", "_law_more", "_law_far", "_law_kept", "_law_j"]
abbrev s__law_program : Stmt := topS 27
abbrev N__law_program : List Str := ["_law_script", "_law_words_here", "_law_cell_here", "_law_bodies", "_law_program_here", "_law_b", "_law_size", "_law_rows", "_law_j"]
abbrev s__law_words : Stmt := topS 26
abbrev N__law_words : List Str := ["_law_words_here"]
abbrev s__law_wrong : Stmt := topS 30
abbrev N__law_wrong : List Str := ["_law_row_here", "_law_bodies", "_law_size", "_law_parts", "_law_numbers", "_law_part", "_law_one"]
abbrev s__law_due : Stmt := topS 31
abbrev N__law_due : List Str := ["_law_program_here", "_law_body", "_law_row_here"]
abbrev s_is_plain : Stmt := topS 16
abbrev N_is_plain : List Str := ["word"]
abbrev s_is_between : Stmt := topS 15
abbrev N_is_between : List Str := ["thing", "least", "most"]
abbrev s_are_kept : Stmt := topS 17
abbrev N_are_kept : List Str := ["thing", "one"]
abbrev s_is_formed : Stmt := topS 18
abbrev N_is_formed : List Str := ["row", "word"]
abbrev s_look_at : Stmt := topS 19
abbrev N_look_at : List Str := ["row", "bodies", "size"]
abbrev s_checked : Stmt := topS 20
abbrev N_checked : List Str := ["program", "body", "row"]
abbrev s__law_kind : Stmt := topS 32
abbrev N__law_kind : List Str := ["_law_e", "_law_kinds"]
abbrev s__law_found : Stmt := topS 33
abbrev N__law_found : List Str := ["_law_program_here", "_law_e"]
abbrev s__law_whole : Stmt := topS 24
abbrev N__law_whole : List Str := ["_law_found_here"]
abbrev s__law_alike : Stmt := topS 28
abbrev N__law_alike : List Str := ["_law_found_here", "_law_due_here", "_law_k"]
abbrev s__law_odd : Stmt := topS 29
abbrev N__law_odd : List Str := ["_law_cell_here", "_law_bodies", "_law_size", "_law_far", "_law_some"]
abbrev s_law : Stmt := topS 34
abbrev N_law : List Str := ["_law_script", "_law_program_here", "_law_cell_here", "_law_b", "_law_k", "_law_at", "_law_body", "_law_odd_here", "_law_handed", "_law_due_here", "_law_found_here"]
abbrev raisedL : List Str := ["NoBodies", "NoBody", "NoInstruction", "NoPlace", "TooMany"]
def kres (k : Str) : R D := if k = "NoBodies" then .ok (.str w_bodies) else if k = "NoBody" then .ok (.str w_body) else if k = "NoInstruction" then .ok (.str w_instruction) else if k = "NoPlace" then .ok (.str w_place) else if k = "TooMany" then .ok (.str w_many) else .no
theorem kres_nex : ∀ k e, kres k ≠ .exc e := by
  intro k e h
  unfold kres at h
  split at h
  · cases h
  · split at h
    · cases h
    · split at h
      · cases h
      · split at h
        · cases h
        · split at h <;> cases h
def tres (k : Str) : R D := kres k >>= fun d => .ok (.tup [.non, d])
theorem tres_nex : ∀ k e, tres k ≠ .exc e := by
  intro k e h
  unfold tres at h
  cases hk : kres k with
  | ok d => rw [hk] at h; cases h
  | exc c => exact kres_nex k c hk
  | no => rw [hk] at h; cases h
structure Txt (K : PySem.W.Frag) (mg : Str → Option Value) : Prop where
  n_ValueError : mg "ValueError" = none
  n_abs : mg "abs" = none
  n_all : mg "all" = none
  n_bool : mg "bool" = none
  n_int : mg "int" = none
  n_isinstance : mg "isinstance" = none
  n_len : mg "len" = none
  n_list : mg "list" = none
  n_max : mg "max" = none
  n_range : mg "range" = none
  n_str : mg "str" = none
  n_tuple : mg "tuple" = none
  g_MOST_BODIES : ∃ t, mg "MOST_BODIES" = some (.int (20) t)
  g_MOST_KEPT : ∃ t, mg "MOST_KEPT" = some (.int (8) t)
  g_MOST_NUMBER : ∃ t, mg "MOST_NUMBER" = some (.int (1000000000000) t)
  g_MOST_ROWS : ∃ t, mg "MOST_ROWS" = some (.int (60) t)
  r_NoBodies : ErrC K mg "NoBodies"
  r_NoBody : ErrC K mg "NoBody"
  r_NoInstruction : ErrC K mg "NoInstruction"
  r_NoPlace : ErrC K mg "NoPlace"
  r_TooMany : ErrC K mg "TooMany"
  c_cat : ∀ k ∈ raisedL, CatC K mg k "SleepError"
  c_hasS : ∃ D, mg "SleepError" = some (.ref D)
  c_cls : ∀ k ∈ raisedL, ClsC K mg k
  k_NoBodies : ClsC K mg "NoBodies"
  k_NoBody : ClsC K mg "NoBody"
  k_NoFit : ClsC K mg "NoFit"
  k_NoInstruction : ClsC K mg "NoInstruction"
  k_NoPlace : ClsC K mg "NoPlace"
  k_NoStep : ClsC K mg "NoStep"
  k_NoWords : ClsC K mg "NoWords"
  k_TooMany : ClsC K mg "TooMany"
  i_NoBodies : ∀ k ∈ raisedL, IsC K mg k "NoBodies" (isSub k "NoBodies")
  i_NoBody : ∀ k ∈ raisedL, IsC K mg k "NoBody" (isSub k "NoBody")
  i_NoFit : ∀ k ∈ raisedL, IsC K mg k "NoFit" (isSub k "NoFit")
  i_NoInstruction : ∀ k ∈ raisedL, IsC K mg k "NoInstruction" (isSub k "NoInstruction")
  i_NoPlace : ∀ k ∈ raisedL, IsC K mg k "NoPlace" (isSub k "NoPlace")
  i_NoStep : ∀ k ∈ raisedL, IsC K mg k "NoStep" (isSub k "NoStep")
  i_NoWords : ∀ k ∈ raisedL, IsC K mg k "NoWords" (isSub k "NoWords")
  i_TooMany : ∀ k ∈ raisedL, IsC K mg k "TooMany" (isSub k "TooMany")
  b_ValueError : ∀ k ∈ raisedL, IsB K mg k "ValueError" true
  h__law_cell : Has K mg "_law_cell" s__law_cell ["_law_script", "_law_k"]
  h__law_raw : Has K mg "_law_raw" s__law_raw ["_law_script", "_law_k"]
  h__law_row : Has K mg "_law_row" s__law_row ["_law_script", "_law_k", "_law_words_here", "_law_bodies", "_law_size"]
  h__law_program : Has K mg "_law_program" s__law_program ["_law_script", "_law_words_here"]
  h__law_words : Has K mg "_law_words" s__law_words []
  h__law_wrong : Has K mg "_law_wrong" s__law_wrong ["_law_row_here", "_law_bodies", "_law_size"]
  h__law_due : Has K mg "_law_due" s__law_due ["_law_program_here"]
  h_is_plain : Has K mg "is_plain" s_is_plain ["word"]
  h_is_between : Has K mg "is_between" s_is_between ["thing", "least", "most"]
  h_are_kept : Has K mg "are_kept" s_are_kept ["thing"]
  h_is_formed : Has K mg "is_formed" s_is_formed ["row"]
  h_look_at : Has K mg "look_at" s_look_at ["row", "bodies", "size"]
  h_checked : Has K mg "checked" s_checked ["program"]
  h__law_kind : Has K mg "_law_kind" s__law_kind ["_law_e"]
  h__law_found : Has K mg "_law_found" s__law_found ["_law_program_here"]
  h__law_whole : Has K mg "_law_whole" s__law_whole ["_law_found_here"]
  h__law_alike : Has K mg "_law_alike" s__law_alike ["_law_found_here", "_law_due_here"]
  h__law_odd : Has K mg "_law_odd" s__law_odd ["_law_cell_here", "_law_bodies", "_law_size"]
section
variable {P : Program} {w : World} {K : PySem.W.Frag} {mg : Str → Option Value} {base : Heap}
theorem sc__law_cell : FnScope N__law_cell ["_law_script", "_law_k"] (defScope s__law_cell) := ⟨rfl, rfl, rfl, by decide +kernel, rfl, by decide +kernel, by decide +kernel⟩
def B__law_cell : Env → R Fl := (sSeq (sAsg 2 [] (eOp mulD (eVar 1) (eC (.int 7919)))) (sSeq (sAsg 3 [] (eCall lenD (aCons (eVar 0) aNil))) (sSeq (sIf (tB' (eOp gtD (eVar 3) (eC (.int 0)))) (sAsg 2 [] (eOp addD (eOp addD (eOp mulD (eOp ixD (eVar 0) (eOp modD (eVar 1) (eVar 3))) (eC (.int 48271))) (eVar 2)) (eOp mulD (eOp divD (eVar 1) (eVar 3)) (eC (.int 104729))))) sNext) (sSeq (sAsg 2 [] (eOp modD (eVar 2) (eC (.int 1000003)))) (sRet [] (eOp modD (eOp mulD (eVar 2) (eOp addD (eOp addD (eVar 2) (eOp mulD (eC (.int 2)) (eVar 1))) (eC (.int 17)))) (eC (.int 1000003))))))))
def F__law_cell : List D → R D := fnD 4 B__law_cell
theorem dfn__law_cell (T : Txt K mg) : DFn P w K mg base CX0 1 "_law_cell" 2 F__law_cell .fz :=
  have nd := sc__law_cell.nd
  dfn_ok (N := N__law_cell) (ps := ["_law_script", "_law_k"]) (k := 0) (fb := B__law_cell) (ωp := [.fz, .fz]) (ωl := [.fz, .fz]) (W := [2, 3]) T.h__law_cell sc__law_cell rfl rfl rfl rfl rfl rfl fun f cdv A outer s H E hr => ⟨_, [],
    (dss_cons (ds_set (i := 2) nd (de_frz (de_mul (de_var 1) de_int))) (dss_cons (ds_set (i := 3) nd (de_callB cr_len cd_len T.n_len PySem.boot_len (da_cons (de_var 0) da_nil))) (dss_cons (ds_if (dt_cmp op_gt od_gt (de_var 3) de_int (nomark _)) (dss_one (ds_set (i := 2) nd (de_frz (de_add (de_frz (de_add (de_frz (de_mul (de_ix hr (de_var 0) (de_mod (de_var 1) (de_var 3))) de_int)) (de_var 2))) (de_frz (de_mul (de_div (de_var 1) (de_var 3)) de_int)))))) dss_nil) (dss_cons (ds_set (i := 2) nd (de_mod (de_var 2) de_int)) (dss_one (ds_ret (de_mod (de_frz (de_mul (de_var 2) (de_frz (de_add (de_frz (de_add (de_var 2) (de_frz (de_mul de_int (de_var 1))))) de_int)))) de_int)))))))⟩
theorem sc__law_raw : FnScope N__law_raw ["_law_script", "_law_k"] (defScope s__law_raw) := ⟨rfl, rfl, rfl, by decide +kernel, rfl, by decide +kernel, by decide +kernel⟩
def B__law_raw : Env → R Fl := (sSeq (sIf (tB' (eOp eqD (eCall lenD (aCons (eVar 0) aNil)) (eC (.int 0)))) (sRet [] (eOp mulD (eVar 1) (eC (.int 7919)))) sNext) (sRet [] (eOp addD (eOp ixD (eVar 0) (eOp modD (eVar 1) (eCall lenD (aCons (eVar 0) aNil)))) (eOp mulD (eOp divD (eVar 1) (eCall lenD (aCons (eVar 0) aNil))) (eC (.int 104729))))))
def F__law_raw : List D → R D := fnD 2 B__law_raw
theorem dfn__law_raw (T : Txt K mg) : DFn P w K mg base CX0 1 "_law_raw" 2 F__law_raw .fz :=
  have nd := sc__law_raw.nd
  dfn_ok (N := N__law_raw) (ps := ["_law_script", "_law_k"]) (k := 0) (fb := B__law_raw) (ωp := [.fz, .fz]) (ωl := []) (W := []) T.h__law_raw sc__law_raw rfl rfl rfl rfl rfl rfl fun f cdv A outer s H E hr => ⟨_, [],
    (dss_cons (ds_if (dt_cmp (or_eq hr) od_eq (de_callB cr_len cd_len T.n_len PySem.boot_len (da_cons (de_var 0) da_nil)) de_int (nomark _)) (dss_one (ds_ret (de_frz (de_mul (de_var 1) de_int)))) dss_nil) (dss_one (ds_ret (de_frz (de_add (de_ix hr (de_var 0) (de_mod (de_var 1) (de_callB cr_len cd_len T.n_len PySem.boot_len (da_cons (de_var 0) da_nil)))) (de_frz (de_mul (de_div (de_var 1) (de_callB cr_len cd_len T.n_len PySem.boot_len (da_cons (de_var 0) da_nil))) de_int)))))))⟩
theorem sc__law_row : FnScope N__law_row ["_law_script", "_law_k", "_law_words_here", "_law_bodies", "_law_size"] (defScope s__law_row) := ⟨rfl, rfl, rfl, by decide +kernel, rfl, by decide +kernel, by decide +kernel⟩
def B__law_row : Env → R Fl := (sSeq (sAsg 5 [] (eCall (F__law_cell) (aCons (eVar 0) (aCons (eVar 1) aNil)))) (sSeq (sAsg 6 [] (eOp ixD (eVar 2) (eOp modD (eVar 5) (eCall lenD (aCons (eVar 2) aNil))))) (sSeq (sAsg 7 [] (eOp divD (eVar 5) (eCall lenD (aCons (eVar 2) aNil)))) (sSeq (sIf (tB' (eOp eqD (eVar 6) (eC (.str w_num)))) (sSeq (sAsg 8 [] (eOp subD (eOp modD (eCall (F__law_raw) (aCons (eVar 0) (aCons (eVar 1) aNil))) (eOp addD (eOp mulD (eC (.int 2)) (eOp powD (eC (.int 10)) (eC (.int 12)))) (eC (.int 1)))) (eOp powD (eC (.int 10)) (eC (.int 12))))) (sRet [] (eTup (aCons (eC (.str w_num)) (aCons (eOp ixD (eLst (aCons (eOp subD (eOp modD (eVar 7) (eC (.int 19))) (eC (.int 9))) (aCons (eVar 8) aNil))) (eOp modD (eOp divD (eVar 7) (eC (.int 19))) (eC (.int 2)))) aNil))))) sNext) (sSeq (sIf (tB' (eOp eqD (eVar 6) (eC (.str w_get)))) (sRet [] (eTup (aCons (eC (.str w_get)) (aCons (eOp ixD (eLst (aCons (eOp modD (eVar 7) (eC (.int 5))) (aCons (eOp modD (eOp divD (eVar 7) (eC (.int 5))) (eC (.int 60))) aNil))) (eCall intD (aCons (eOp eqD (eOp modD (eOp divD (eVar 7) (eC (.int 300))) (eC (.int 8))) (eC (.int 1))) aNil))) aNil)))) sNext) (sSeq (sIf (tB' (eOp eqD (eVar 6) (eC (.str w_fun)))) (sSeq (sAsg 8 [] (eOp ixD (eLst (aCons (eC (.int 5)) (aCons (eC (.int 60)) aNil))) (eCall intD (aCons (eOp eqD (eOp modD (eOp divD (eVar 7) (eC (.int 9))) (eC (.int 16))) (eC (.int 1))) aNil)))) (sSeq (sAsg 9 [] (eCall tupleD (aCons (eLc (iRange1 (eOp modD (eVar 7) (eC (.int 9)))) [10] (setN 10) cYes (eOp modD (eCall (F__law_cell) (aCons (eVar 0) (aCons (eOp addD (eOp addD (eVar 1) (eC (.int 17))) (eVar 10)) aNil))) (eVar 8))) aNil))) (sRet [] (eTup (aCons (eC (.str w_fun)) (aCons (eOp modD (eOp divD (eVar 7) (eC (.int 144))) (eVar 3)) (aCons (eVar 9) aNil))))))) sNext) (sSeq (sIf (eOrT (tB' (eOp eqD (eVar 6) (eC (.str w_jump)))) (tB' (eOp eqD (eVar 6) (eC (.str w_unless))))) (sRet [] (eTup (aCons (eVar 6) (aCons (eOp modD (eVar 7) (eOp addD (eVar 4) (eC (.int 1)))) aNil)))) sNext) (sRet [] (eTup (aCons (eVar 6) aNil))))))))))
def F__law_row : List D → R D := fnD 11 B__law_row
theorem dfn__law_row (T : Txt K mg) : DFn P w K mg base CX0 2 "_law_row" 5 F__law_row .fz :=
  have nd := sc__law_row.nd
  dfn_ok (N := N__law_row) (ps := ["_law_script", "_law_k", "_law_words_here", "_law_bodies", "_law_size"]) (k := 1) (fb := B__law_row) (ωp := [.fz, .fz, .fz, .fz, .fz]) (ωl := [.fz, .fz, .fz, .fz, .fz, .fz]) (W := [5, 6, 7, 8, 9]) T.h__law_row sc__law_row rfl rfl rfl rfl rfl rfl fun f cdv A outer s H E hr => ⟨_, [],
    (dss_cons (ds_set (i := 5) nd (de_call ((dfn__law_cell T).mono (by decide)) hr pass0 (da_cons (de_var 0) (da_cons (de_var 1) da_nil)))) (dss_cons (ds_set (i := 6) nd (de_ix hr (de_var 2) (de_mod (de_var 5) (de_callB cr_len cd_len T.n_len PySem.boot_len (da_cons (de_var 2) da_nil))))) (dss_cons (ds_set (i := 7) nd (de_div (de_var 5) (de_callB cr_len cd_len T.n_len PySem.boot_len (da_cons (de_var 2) da_nil)))) (dss_cons (ds_if (dt_cmp (or_eq hr) od_eq (de_var 6) de_str (nomark _)) (dss_cons (ds_set (i := 8) nd (de_sub (de_mod (de_call ((dfn__law_raw T).mono (by decide)) hr pass0 (da_cons (de_var 0) (da_cons (de_var 1) da_nil))) (de_frz (de_add (de_frz (de_mul de_int (de_pow de_int de_int))) de_int))) (de_pow de_int de_int))) (dss_one (ds_ret (de_tup (da_cons de_str (da_cons (de_ix hr (de_frz (de_lst (da_cons (de_sub (de_mod (de_var 7) de_int) de_int) (da_cons (de_var 8) da_nil)))) (de_mod (de_div (de_var 7) de_int) de_int)) da_nil)))))) dss_nil) (dss_cons (ds_if (dt_cmp (or_eq hr) od_eq (de_var 6) de_str (nomark _)) (dss_one (ds_ret (de_tup (da_cons de_str (da_cons (de_ix hr (de_frz (de_lst (da_cons (de_mod (de_var 7) de_int) (da_cons (de_mod (de_div (de_var 7) de_int) de_int) da_nil)))) (de_callTy cr_int cd_int T.n_int PyProof.Rows.boot_int (da_cons (de_cmp (or_eq hr) od_eq (de_mod (de_div (de_var 7) de_int) de_int) de_int (nomark _)) da_nil))) da_nil))))) dss_nil) (dss_cons (ds_if (dt_cmp (or_eq hr) od_eq (de_var 6) de_str (nomark _)) (dss_cons (ds_set (i := 8) nd (de_ix hr (de_frz (de_lst (da_cons de_int (da_cons de_int da_nil)))) (de_callTy cr_int cd_int T.n_int PyProof.Rows.boot_int (da_cons (de_cmp (or_eq hr) od_eq (de_mod (de_div (de_var 7) de_int) de_int) de_int (nomark _)) da_nil)))) (dss_cons (ds_set (i := 9) nd (de_callTy cr_tup cd_tup T.n_tuple PyProof.Rows.boot_tuple (da_cons (de_frz (de_lcE (own := [("_law_j", 10)]) (i := 10) rfl nd rfl rfl (wipe_one _ _) (di_range1 T.n_range (de_mod (de_var 7) de_int)) (blkOk_by (N := N__law_row) (sc := defScope s__law_row) (by decide +kernel)) (fun _ _ _ _ _ => pg_name (i := 10) nd rfl (Or.inl rfl)) (fun _ _ _ _ _ => ⟨_, dts_nil⟩) (fun _ _ _ _ _ => ⟨_, (de_mod (de_call ((dfn__law_cell T).mono (by decide)) hr pass0 (da_cons (de_var 0) (da_cons (de_frz (de_add (de_frz (de_add (de_var 1) de_int)) (de_var 10))) da_nil))) (de_var 8))⟩))) da_nil))) (dss_one (ds_ret (de_tup (da_cons de_str (da_cons (de_mod (de_div (de_var 7) de_int) (de_var 3)) (da_cons (de_var 9) da_nil)))))))) dss_nil) (dss_cons (ds_if (dt_of (dw_or (dt_cmp (or_eq hr) od_eq (de_var 6) de_str (nomark _)) (dw_or1 (dt_cmp (or_eq hr) od_eq (de_var 6) de_str (nomark _))))) (dss_one (ds_ret (de_tup (da_cons (de_var 6) (da_cons (de_mod (de_var 7) (de_frz (de_add (de_var 4) de_int))) da_nil))))) dss_nil) (dss_one (ds_ret (de_tup (da_cons (de_var 6) da_nil)))))))))))⟩
theorem sc__law_program : FnScope N__law_program ["_law_script", "_law_words_here"] (defScope s__law_program) := ⟨rfl, rfl, rfl, by decide +kernel, rfl, by decide +kernel, by decide +kernel⟩
def B__law_program : Env → R Fl := (sSeq (sAsg 2 [] (eCall (F__law_cell) (aCons (eVar 0) (aCons (eC (.int 0)) aNil)))) (sSeq (sAsg 3 [] (eOp addD (eC (.int 1)) (eOp modD (eVar 2) (eC (.int 3))))) (sSeq (sIf (tB' (eOp eqD (eOp modD (eOp divD (eVar 2) (eC (.int 3))) (eC (.int 16))) (eC (.int 1)))) (sAsg 3 [] (eC (.int 20))) sNext) (sSeq (sAsg 4 [] (eLst aNil)) (sSeq (sFor (iRange1 (eVar 3)) (setN 5) (sSeq (sAsg 6 [] (eOp modD (eCall (F__law_cell) (aCons (eVar 0) (aCons (eOp addD (eC (.int 20)) (eVar 5)) aNil))) (eC (.int 7)))) (sSeq (sIf (tB' (eOp eqD (eOp modD (eOp divD (eCall (F__law_cell) (aCons (eVar 0) (aCons (eOp addD (eC (.int 20)) (eVar 5)) aNil))) (eC (.int 7))) (eC (.int 32))) (eC (.int 1)))) (sAsg 6 [] (eC (.int 60))) sNext) (sSeq (sAsg 7 [] (eLc (iRange1 (eVar 6)) [8] (setN 8) cYes (eCall (F__law_row) (aCons (eVar 0) (aCons (eOp addD (eOp addD (eC (.int 1000)) (eOp mulD (eC (.int 61)) (eVar 5))) (eVar 8)) (aCons (eVar 1) (aCons (eVar 3) (aCons (eVar 6) aNil)))))))) (sApp 4 (eVar 7)))))) (sRet [4] (eVar 4)))))))
def F__law_program : List D → R D := fnD 9 B__law_program
theorem dfn__law_program (T : Txt K mg) : DFn P w K mg base CX0 3 "_law_program" 2 F__law_program (.own .fz) :=
  have nd := sc__law_program.nd
  dfn_ok (N := N__law_program) (ps := ["_law_script", "_law_words_here"]) (k := 2) (fb := B__law_program) (ωp := [.fz, .fz]) (ωl := [.fz, .fz, (.own .fz), .fz, .fz, .fz, .fz]) (W := [2, 3, 4, 5, 6, 7]) T.h__law_program sc__law_program rfl rfl rfl rfl rfl rfl fun f cdv A outer s H E hr => ⟨_, [],
    (dss_cons (ds_set (i := 2) nd (de_call ((dfn__law_cell T).mono (by decide)) hr pass0 (da_cons (de_var 0) (da_cons de_int da_nil)))) (dss_cons (ds_set (i := 3) nd (de_frz (de_add de_int (de_mod (de_var 2) de_int)))) (dss_cons (ds_if (dt_cmp (or_eq hr) od_eq (de_mod (de_div (de_var 2) de_int) de_int) de_int (nomark _)) (dss_one (ds_set (i := 3) nd de_int)) dss_nil) (dss_cons (ds_set (i := 4) nd (de_lst da_nil)) (dss_cons (ds_for PassesOwn.never rfl (di_range1 T.n_range (de_var 3)) (dg_name (i := 5) nd) (dss_cons (ds_set (i := 6) nd (de_mod (de_call ((dfn__law_cell T).mono (by decide)) hr pass0 (da_cons (de_var 0) (da_cons (de_frz (de_add de_int (de_var 5))) da_nil))) de_int)) (dss_cons (ds_if (dt_cmp (or_eq hr) od_eq (de_mod (de_div (de_call ((dfn__law_cell T).mono (by decide)) hr pass0 (da_cons (de_var 0) (da_cons (de_frz (de_add de_int (de_var 5))) da_nil))) de_int) de_int) de_int (nomark _)) (dss_one (ds_set (i := 6) nd de_int)) dss_nil) (dss_cons (ds_setLcFE (j := 7) (own := [("_law_j", 8)]) (i := 8) rfl nd rfl rfl (wipe_one _ _) (di_range1 T.n_range (de_var 6)) (blkOk_by (N := N__law_program) (sc := defScope s__law_program) (by decide +kernel)) (fun _ _ _ _ _ => pg_name (i := 8) nd rfl (Or.inl rfl)) (fun _ _ _ _ _ => ⟨_, dts_nil⟩) (fun _ _ _ _ _ => ⟨_, (de_call ((dfn__law_row T).mono (by decide)) hr pass0 (da_cons (de_var 0) (da_cons (de_frz (de_add (de_frz (de_add de_int (de_frz (de_mul de_int (de_var 5))))) (de_var 8))) (da_cons (de_var 1) (da_cons (de_var 3) (da_cons (de_var 6) da_nil))))))⟩)) (dss_one (ds_app (i := 4) (de_var 7))))))) (dss_one (ds_ret (de_move 4))))))))⟩
theorem sc__law_words : FnScope N__law_words [] (defScope s__law_words) := ⟨rfl, rfl, rfl, by decide +kernel, rfl, by decide +kernel, by decide +kernel⟩
def B__law_words : Env → R Fl := (sSeq (sAsg 0 [] (eLst (aCons (eC (.str w_num)) (aCons (eC (.str w_get)) (aCons (eC (.str w_keep)) (aCons (eC (.str w_drop)) (aCons (eC (.str w_add)) (aCons (eC (.str w_minus)) (aCons (eC (.str w_times)) (aCons (eC (.str w_less)) (aCons (eC (.str w_same)) (aCons (eC (.str w_box)) (aCons (eC (.str w_open)) (aCons (eC (.str w_fill)) (aCons (eC (.str w_fun)) aNil))))))))))))))) (sRet [] (eOp addD (eVar 0) (eLst (aCons (eC (.str w_call)) (aCons (eC (.str w_back)) (aCons (eC (.str w_jump)) (aCons (eC (.str w_unless)) (aCons (eC (.str w_say)) aNil)))))))))
def F__law_words : List D → R D := fnD 1 B__law_words
theorem dfn__law_words (T : Txt K mg) : DFn P w K mg base CX0 1 "_law_words" 0 F__law_words .fz :=
  have nd := sc__law_words.nd
  dfn_ok (N := N__law_words) (ps := []) (k := 0) (fb := B__law_words) (ωp := []) (ωl := [.fz]) (W := [0]) T.h__law_words sc__law_words rfl rfl rfl rfl rfl rfl fun f cdv A outer s H E hr => ⟨_, [],
    (dss_cons (ds_set (i := 0) nd (de_frz (de_lst (da_cons de_str (da_cons de_str (da_cons de_str (da_cons de_str (da_cons de_str (da_cons de_str (da_cons de_str (da_cons de_str (da_cons de_str (da_cons de_str (da_cons de_str (da_cons de_str (da_cons de_str da_nil)))))))))))))))) (dss_one (ds_ret (de_frz (de_add (de_var 0) (de_frz (de_lst (da_cons de_str (da_cons de_str (da_cons de_str (da_cons de_str (da_cons de_str da_nil))))))))))))⟩
theorem sc__law_wrong : FnScope N__law_wrong ["_law_row_here", "_law_bodies", "_law_size"] (defScope s__law_wrong) := ⟨rfl, rfl, rfl, by decide +kernel, rfl, by decide +kernel, by decide +kernel⟩
def B__law_wrong : Env → R Fl := (sSeq (sAsg 3 [] (eSl (eVar 0) (oSome (eC (.int 1))) oNone)) (sSeq (sAsg 4 [] (eLc (iWalk (eVar 3)) [5] (setN 5) (tB' (eUn (isiD "int") (eVar 5))) (eVar 5))) (sSeq (sIf (tB' (eOp eqD (eOp ixD (eVar 0) (eC (.int 0))) (eC (.str w_fun)))) (sSeq (sIf (eOrT (tB' (eOp neD (eCall lenD (aCons (eVar 3) aNil)) (eC (.int 2)))) (eOrT (tB' (eOp neD (eCall lenD (aCons (eVar 4) aNil)) (eC (.int 1)))) (eNotT (tB' (eUn (isiD "tuple") (eOp ixD (eVar 3) (eC (.int 1)))))))) (sRet [] (eC (.str w_instruction))) sNext) (sSeq (sIf (eOrT (tB' (eOp gtD (eCall lenD (aCons (eOp ixD (eVar 3) (eC (.int 1))) aNil)) (eC (.int 8)))) (tB' (eOp neD (eLc (iWalk (eOp ixD (eVar 3) (eC (.int 1)))) [6] (setN 6) (eOrT (tB' (eOp ltD (eVar 6) (eC (.int 0)))) (tB' (eOp gtD (eVar 6) (eC (.int 59))))) (eVar 6)) (eLst aNil)))) (sRet [] (eC (.str w_instruction))) sNext) (sRet [] (eOp ixD (eLst (aCons (eC (.str w_0)) (aCons (eC (.str w_body)) aNil))) (eCall intD (aCons (eOrV (eOp ltD (eOp ixD (eVar 3) (eC (.int 0))) (eC (.int 0))) (eOp geD (eOp ixD (eVar 3) (eC (.int 0))) (eVar 1))) aNil)))))) sNext) (sSeq (sIf (tB' (eOp inD (eOp ixD (eVar 0) (eC (.int 0))) (eTup (aCons (eC (.str w_num)) (aCons (eC (.str w_get)) (aCons (eC (.str w_jump)) (aCons (eC (.str w_unless)) aNil))))))) (sSeq (sIf (eOrT (tB' (eOp neD (eCall lenD (aCons (eVar 3) aNil)) (eC (.int 1)))) (tB' (eOp neD (eCall lenD (aCons (eVar 4) aNil)) (eC (.int 1))))) (sRet [] (eC (.str w_instruction))) sNext) (sSeq (sIf (tB' (eOp eqD (eOp ixD (eVar 0) (eC (.int 0))) (eC (.str w_num)))) (sRet [] (eOp ixD (eLst (aCons (eC (.str w_0)) (aCons (eC (.str w_instruction)) aNil))) (eCall intD (aCons (eOp gtD (eCall absD (aCons (eOp ixD (eVar 3) (eC (.int 0))) aNil)) (eOp powD (eC (.int 10)) (eC (.int 12)))) aNil)))) sNext) (sSeq (sIf (tB' (eOp eqD (eOp ixD (eVar 0) (eC (.int 0))) (eC (.str w_get)))) (sRet [] (eOp ixD (eLst (aCons (eC (.str w_0)) (aCons (eC (.str w_instruction)) aNil))) (eCall intD (aCons (eOrV (eOp ltD (eOp ixD (eVar 3) (eC (.int 0))) (eC (.int 0))) (eOp gtD (eOp ixD (eVar 3) (eC (.int 0))) (eC (.int 59)))) aNil)))) sNext) (sRet [] (eOp ixD (eLst (aCons (eC (.str w_0)) (aCons (eC (.str w_place)) aNil))) (eCall intD (aCons (eOrV (eOp ltD (eOp ixD (eVar 3) (eC (.int 0))) (eC (.int 0))) (eOp gtD (eOp ixD (eVar 3) (eC (.int 0))) (eVar 2))) aNil))))))) sNext) (sRet [] (eOp ixD (eLst (aCons (eC (.str w_0)) (aCons (eC (.str w_instruction)) aNil))) (eCall intD (aCons (eOrV (eOp neD (eVar 3) (eTup aNil)) (eOp notInD (eOp ixD (eVar 0) (eC (.int 0))) (eCall F__law_words aNil))) aNil))))))))
def F__law_wrong : List D → R D := fnD 7 B__law_wrong
theorem dfn__law_wrong (T : Txt K mg) : DFn P w K mg base CX0 2 "_law_wrong" 3 F__law_wrong .fz :=
  have nd := sc__law_wrong.nd
  dfn_ok (N := N__law_wrong) (ps := ["_law_row_here", "_law_bodies", "_law_size"]) (k := 1) (fb := B__law_wrong) (ωp := [.fz, .fz, .fz]) (ωl := [.fz, .fz, .fz, .fz]) (W := [3, 4]) T.h__law_wrong sc__law_wrong rfl rfl rfl rfl rfl rfl fun f cdv A outer s H E hr => ⟨_, [],
    (dss_cons (ds_set (i := 3) nd (de_frz (de_slice (de_var 0) (do_some de_int) do_none))) (dss_cons (ds_setLcFE (j := 4) (own := [("_law_part", 5)]) (i := 5) rfl nd rfl rfl (wipe_one _ _) (di_any (de_var 3)) (blkOk_by (N := N__law_wrong) (sc := defScope s__law_wrong) (by decide +kernel)) (fun _ _ _ _ _ => pg_name (i := 5) nd rfl (Or.inl rfl)) (fun _ _ _ _ _ => ⟨_, (dts_one (dt_val (de_isi kit_int T.n_isinstance T.n_int PyProof.Rows.boot_int (de_var 5))))⟩) (fun _ _ _ _ _ => ⟨_, (de_var 5)⟩)) (dss_cons (ds_if (dt_cmp (or_eq hr) od_eq (de_ix hr (de_var 0) de_int) de_str (nomark _)) (dss_cons (ds_if (dt_of (dw_or (dt_cmp (or_ne hr) od_ne (de_callB cr_len cd_len T.n_len PySem.boot_len (da_cons (de_var 3) da_nil)) de_int (nomark _)) (dw_or (dt_cmp (or_ne hr) od_ne (de_callB cr_len cd_len T.n_len PySem.boot_len (da_cons (de_var 4) da_nil)) de_int (nomark _)) (dw_or1 (dt_not (dt_val (de_isi kit_tuple T.n_isinstance T.n_tuple PyProof.Rows.boot_tuple (de_ix hr (de_var 3) de_int)))))))) (dss_one (ds_ret de_str)) dss_nil) (dss_cons (ds_if (dt_of (dw_or (dt_cmp op_gt od_gt (de_callB cr_len cd_len T.n_len PySem.boot_len (da_cons (de_ix hr (de_var 3) de_int) da_nil)) de_int (nomark _)) (dw_or1 (dt_cmp (or_ne hr) od_ne (de_frz (de_lcE (own := [("_law_one", 6)]) (i := 6) rfl nd rfl rfl (wipe_one _ _) (di_any (de_ix hr (de_var 3) de_int)) (blkOk_by (N := N__law_wrong) (sc := defScope s__law_wrong) (by decide +kernel)) (fun _ _ _ _ _ => pg_name (i := 6) nd rfl (Or.inl rfl)) (fun _ _ _ _ _ => ⟨_, (dts_one (dt_of (dw_or (dt_cmp op_lt od_lt (de_var 6) de_int (nomark _)) (dw_or1 (dt_cmp op_gt od_gt (de_var 6) de_int (nomark _))))))⟩) (fun _ _ _ _ _ => ⟨_, (de_var 6)⟩))) (de_frz (de_lst da_nil)) (nomark _))))) (dss_one (ds_ret de_str)) dss_nil) (dss_one (ds_ret (de_ix hr (de_frz (de_lst (da_cons de_str (da_cons de_str da_nil)))) (de_callTy cr_int cd_int T.n_int PyProof.Rows.boot_int (da_cons (de_or (de_cmp op_lt od_lt (de_ix hr (de_var 3) de_int) de_int (nomark _)) (de_one (de_cmp op_ge od_ge (de_ix hr (de_var 3) de_int) (de_var 1) (nomark _)))) da_nil))))))) dss_nil) (dss_cons (ds_if (dt_cmp (or_in hr) od_in (de_ix hr (de_var 0) de_int) (de_tup (da_cons de_str (da_cons de_str (da_cons de_str (da_cons de_str da_nil))))) rfl) (dss_cons (ds_if (dt_of (dw_or (dt_cmp (or_ne hr) od_ne (de_callB cr_len cd_len T.n_len PySem.boot_len (da_cons (de_var 3) da_nil)) de_int (nomark _)) (dw_or1 (dt_cmp (or_ne hr) od_ne (de_callB cr_len cd_len T.n_len PySem.boot_len (da_cons (de_var 4) da_nil)) de_int (nomark _))))) (dss_one (ds_ret de_str)) dss_nil) (dss_cons (ds_if (dt_cmp (or_eq hr) od_eq (de_ix hr (de_var 0) de_int) de_str (nomark _)) (dss_one (ds_ret (de_ix hr (de_frz (de_lst (da_cons de_str (da_cons de_str da_nil)))) (de_callTy cr_int cd_int T.n_int PyProof.Rows.boot_int (da_cons (de_cmp op_gt od_gt (de_callB call_abs cd_abs T.n_abs PyProof.Rows.boot_abs (da_cons (de_ix hr (de_var 3) de_int) da_nil)) (de_pow de_int de_int) (nomark _)) da_nil))))) dss_nil) (dss_cons (ds_if (dt_cmp (or_eq hr) od_eq (de_ix hr (de_var 0) de_int) de_str (nomark _)) (dss_one (ds_ret (de_ix hr (de_frz (de_lst (da_cons de_str (da_cons de_str da_nil)))) (de_callTy cr_int cd_int T.n_int PyProof.Rows.boot_int (da_cons (de_or (de_cmp op_lt od_lt (de_ix hr (de_var 3) de_int) de_int (nomark _)) (de_one (de_cmp op_gt od_gt (de_ix hr (de_var 3) de_int) de_int (nomark _)))) da_nil))))) dss_nil) (dss_one (ds_ret (de_ix hr (de_frz (de_lst (da_cons de_str (da_cons de_str da_nil)))) (de_callTy cr_int cd_int T.n_int PyProof.Rows.boot_int (da_cons (de_or (de_cmp op_lt od_lt (de_ix hr (de_var 3) de_int) de_int (nomark _)) (de_one (de_cmp op_gt od_gt (de_ix hr (de_var 3) de_int) (de_var 2) (nomark _)))) da_nil)))))))) dss_nil) (dss_one (ds_ret (de_ix hr (de_frz (de_lst (da_cons de_str (da_cons de_str da_nil)))) (de_callTy cr_int cd_int T.n_int PyProof.Rows.boot_int (da_cons (de_or (de_cmp (or_ne hr) od_ne (de_var 3) (de_tup da_nil) (nomark _)) (de_one (de_cmp (or_notIn hr) od_notIn (de_ix hr (de_var 0) de_int) (de_call0 ((dfn__law_words T).mono (by decide)) hr pass0) rfl))) da_nil)))))))))⟩
theorem sc__law_due : FnScope N__law_due ["_law_program_here"] (defScope s__law_due) := ⟨rfl, rfl, rfl, by decide +kernel, rfl, by decide +kernel, by decide +kernel⟩
def B__law_due : Env → R Fl := (sSeq (sIf (tB' (eOp eqD (eVar 0) (eLst aNil))) (sRet [] (eC (.str w_bodies))) sNext) (sSeq (sIf (tB' (eOp gtD (eCall lenD (aCons (eVar 0) aNil)) (eC (.int 20)))) (sRet [] (eC (.str w_many))) sNext) (sSeq (sFor (iWalk (eVar 0)) (setN 1) (sSeq (sIf (tB' (eOp gtD (eCall lenD (aCons (eVar 1) aNil)) (eC (.int 60)))) (sRet [] (eC (.str w_many))) sNext) (sFor (iWalk (eVar 1)) (setN 2) (sIf (tB' (eOp neD (eCall (F__law_wrong) (aCons (eVar 2) (aCons (eCall lenD (aCons (eVar 0) aNil)) (aCons (eCall lenD (aCons (eVar 1) aNil)) aNil)))) (eC (.str w_0)))) (sRet [] (eCall (F__law_wrong) (aCons (eVar 2) (aCons (eCall lenD (aCons (eVar 0) aNil)) (aCons (eCall lenD (aCons (eVar 1) aNil)) aNil))))) sNext)))) (sRet [] (eC (.str w_0))))))
def F__law_due : List D → R D := fnD 3 B__law_due
theorem dfn__law_due (T : Txt K mg) : DFn P w K mg base CX0 3 "_law_due" 1 F__law_due .fz :=
  have nd := sc__law_due.nd
  dfn_ok (N := N__law_due) (ps := ["_law_program_here"]) (k := 2) (fb := B__law_due) (ωp := [.fz]) (ωl := [.fz, .fz]) (W := [1, 2]) T.h__law_due sc__law_due rfl rfl rfl rfl rfl rfl fun f cdv A outer s H E hr => ⟨_, [],
    (dss_cons (ds_if (dt_cmp (or_eq hr) od_eq (de_var 0) (de_frz (de_lst da_nil)) (nomark _)) (dss_one (ds_ret de_str)) dss_nil) (dss_cons (ds_if (dt_cmp op_gt od_gt (de_callB cr_len cd_len T.n_len PySem.boot_len (da_cons (de_var 0) da_nil)) de_int (nomark _)) (dss_one (ds_ret de_str)) dss_nil) (dss_cons (ds_for PassesOwn.never rfl (di_any (de_var 0)) (dg_name (i := 1) nd) (dss_cons (ds_if (dt_cmp op_gt od_gt (de_callB cr_len cd_len T.n_len PySem.boot_len (da_cons (de_var 1) da_nil)) de_int (nomark _)) (dss_one (ds_ret de_str)) dss_nil) (dss_one (ds_for PassesOwn.never rfl (di_any (de_var 1)) (dg_name (i := 2) nd) (dss_one (ds_if (dt_cmp (or_ne hr) od_ne (de_call ((dfn__law_wrong T).mono (by decide)) hr pass0 (da_cons (de_var 2) (da_cons (de_callB cr_len cd_len T.n_len PySem.boot_len (da_cons (de_var 0) da_nil)) (da_cons (de_callB cr_len cd_len T.n_len PySem.boot_len (da_cons (de_var 1) da_nil)) da_nil)))) de_str (nomark _)) (dss_one (ds_ret (de_call ((dfn__law_wrong T).mono (by decide)) hr pass0 (da_cons (de_var 2) (da_cons (de_callB cr_len cd_len T.n_len PySem.boot_len (da_cons (de_var 0) da_nil)) (da_cons (de_callB cr_len cd_len T.n_len PySem.boot_len (da_cons (de_var 1) da_nil)) da_nil)))))) dss_nil)))))) (dss_one (ds_ret de_str)))))⟩
theorem sc_is_plain : FnScope N_is_plain ["word"] (defScope s_is_plain) := ⟨rfl, rfl, rfl, by decide +kernel, rfl, by decide +kernel, by decide +kernel⟩
def B_is_plain : Env → R Fl := (sSeq (sIf (tB' (eOp inD (eVar 0) (eTup (aCons (eC (.str w_keep)) (aCons (eC (.str w_drop)) (aCons (eC (.str w_add)) (aCons (eC (.str w_minus)) (aCons (eC (.str w_times)) (aCons (eC (.str w_less)) (aCons (eC (.str w_same)) aNil)))))))))) (sRet [] (eC (.bl true))) sNext) (sRet [] (eOp inD (eVar 0) (eTup (aCons (eC (.str w_box)) (aCons (eC (.str w_open)) (aCons (eC (.str w_fill)) (aCons (eC (.str w_call)) (aCons (eC (.str w_back)) (aCons (eC (.str w_say)) aNil))))))))))
def F_is_plain : List D → R D := fnD 1 B_is_plain
theorem dfn_is_plain (T : Txt K mg) : DFn P w K mg base CX0 1 "is_plain" 1 F_is_plain .fz :=
  have nd := sc_is_plain.nd
  dfn_ok (N := N_is_plain) (ps := ["word"]) (k := 0) (fb := B_is_plain) (ωp := [.fz]) (ωl := []) (W := []) T.h_is_plain sc_is_plain rfl rfl rfl rfl rfl rfl fun f cdv A outer s H E hr => ⟨_, [],
    (dss_cons (ds_if (dt_cmp (or_in hr) od_in (de_var 0) (de_tup (da_cons de_str (da_cons de_str (da_cons de_str (da_cons de_str (da_cons de_str (da_cons de_str (da_cons de_str da_nil)))))))) rfl) (dss_one (ds_ret de_bl)) dss_nil) (dss_one (ds_ret (de_cmp (or_in hr) od_in (de_var 0) (de_tup (da_cons de_str (da_cons de_str (da_cons de_str (da_cons de_str (da_cons de_str (da_cons de_str da_nil))))))) rfl))))⟩
theorem sc_is_between : FnScope N_is_between ["thing", "least", "most"] (defScope s_is_between) := ⟨rfl, rfl, rfl, by decide +kernel, rfl, by decide +kernel, by decide +kernel⟩
def B_is_between : Env → R Fl := (sRet [] (eAndV (eUn (isiD "int") (eVar 0)) (eAndV (eOp leD (eVar 1) (eVar 0)) (eOp leD (eVar 0) (eVar 2)))))
def F_is_between : List D → R D := fnD 3 B_is_between
theorem dfn_is_between (T : Txt K mg) : DFn P w K mg base CX0 1 "is_between" 3 F_is_between .fz :=
  have nd := sc_is_between.nd
  dfn_ok (N := N_is_between) (ps := ["thing", "least", "most"]) (k := 0) (fb := B_is_between) (ωp := [.fz, .fz, .fz]) (ωl := []) (W := []) T.h_is_between sc_is_between rfl rfl rfl rfl rfl rfl fun f cdv A outer s H E hr => ⟨_, [],
    (dss_one (ds_ret (de_and (de_isi kit_int T.n_isinstance T.n_int PyProof.Rows.boot_int (de_var 0)) (de_and (de_cmp op_le od_le (de_var 1) (de_var 0) (nomark _)) (de_one (de_cmp op_le od_le (de_var 0) (de_var 2) (nomark _)))))))⟩
theorem sc_are_kept : FnScope N_are_kept ["thing"] (defScope s_are_kept) := ⟨rfl, rfl, rfl, by decide +kernel, rfl, by decide +kernel, by decide +kernel⟩
def B_are_kept : Env → R Fl := (sSeq (sIf (eOrT (eNotT (tB' (eUn (isiD "tuple") (eVar 0)))) (tB' (eOp gtD (eCall lenD (aCons (eVar 0) aNil)) (eC (.int (8)))))) (sRet [] (eC (.bl false))) sNext) (sRet [] (eCall allD (aCons (eLc (iWalk (eVar 0)) [1] (setN 1) cYes (eCall (F_is_between) (aCons (eVar 1) (aCons (eC (.int 0)) (aCons (eOp subD (eC (.int (60))) (eC (.int 1))) aNil))))) aNil))))
def F_are_kept : List D → R D := fnD 2 B_are_kept
theorem dfn_are_kept (T : Txt K mg) : DFn P w K mg base CX0 2 "are_kept" 1 F_are_kept .fz :=
  have nd := sc_are_kept.nd
  dfn_ok (N := N_are_kept) (ps := ["thing"]) (k := 1) (fb := B_are_kept) (ωp := [.fz]) (ωl := [.fz]) (W := []) T.h_are_kept sc_are_kept rfl rfl rfl rfl rfl rfl fun f cdv A outer s H E hr => ⟨_, [],
    (dss_cons (ds_if (dt_of (dw_or (dt_not (dt_val (de_isi kit_tuple T.n_isinstance T.n_tuple PyProof.Rows.boot_tuple (de_var 0)))) (dw_or1 (dt_cmp op_gt od_gt (de_callB cr_len cd_len T.n_len PySem.boot_len (da_cons (de_var 0) da_nil)) (de_gint T.g_MOST_KEPT) (nomark _))))) (dss_one (ds_ret de_bl)) dss_nil) (dss_one (ds_ret (de_callB (cr_all rfl) cd_all T.n_all PyProof.Rows.boot_all (da_cons (de_frz (de_lcE (own := [("one", 1)]) (i := 1) rfl nd rfl rfl (wipe_one _ _) (di_any (de_var 0)) (blkOk_by (N := N_are_kept) (sc := defScope s_are_kept) (by decide +kernel)) (fun _ _ _ _ _ => pg_name (i := 1) nd rfl (Or.inl rfl)) (fun _ _ _ _ _ => ⟨_, dts_nil⟩) (fun _ _ _ _ _ => ⟨_, (de_call ((dfn_is_between T).mono (by decide)) hr pass0 (da_cons (de_var 1) (da_cons de_int (da_cons (de_sub (de_gint T.g_MOST_ROWS) de_int) da_nil))))⟩))) da_nil)))))⟩
theorem sc_is_formed : FnScope N_is_formed ["row"] (defScope s_is_formed) := ⟨rfl, rfl, rfl, by decide +kernel, rfl, by decide +kernel, by decide +kernel⟩
def B_is_formed : Env → R Fl := (sSeq (sAsg 1 [] (eOp ixD (eVar 0) (eC (.int 0)))) (sSeq (sIf (tB' (eCall (F_is_plain) (aCons (eVar 1) aNil))) (sRet [] (eOp eqD (eCall lenD (aCons (eVar 0) aNil)) (eC (.int 1)))) sNext) (sSeq (sIf (tB' (eOp eqD (eVar 1) (eC (.str w_fun)))) (sRet [] (eAndV (eOp eqD (eCall lenD (aCons (eVar 0) aNil)) (eC (.int 3))) (eAndV (eUn (isiD "int") (eOp ixD (eVar 0) (eC (.int 1)))) (eCall (F_are_kept) (aCons (eOp ixD (eVar 0) (eC (.int 2))) aNil))))) sNext) (sSeq (sIf (tB' (eOp neD (eCall lenD (aCons (eVar 0) aNil)) (eC (.int 2)))) (sRet [] (eC (.bl false))) sNext) (sSeq (sIf (tB' (eOp eqD (eVar 1) (eC (.str w_num)))) (sRet [] (eCall (F_is_between) (aCons (eOp ixD (eVar 0) (eC (.int 1))) (aCons (eOp subD (eC (.int 0)) (eC (.int (1000000000000)))) (aCons (eC (.int (1000000000000))) aNil))))) sNext) (sSeq (sIf (tB' (eOp eqD (eVar 1) (eC (.str w_get)))) (sRet [] (eCall (F_is_between) (aCons (eOp ixD (eVar 0) (eC (.int 1))) (aCons (eC (.int 0)) (aCons (eOp subD (eC (.int (60))) (eC (.int 1))) aNil))))) sNext) (sRet [] (eAndV (eOp inD (eVar 1) (eTup (aCons (eC (.str w_jump)) (aCons (eC (.str w_unless)) aNil)))) (eUn (isiD "int") (eOp ixD (eVar 0) (eC (.int 1))))))))))))
def F_is_formed : List D → R D := fnD 2 B_is_formed
theorem dfn_is_formed (T : Txt K mg) : DFn P w K mg base CX0 3 "is_formed" 1 F_is_formed .fz :=
  have nd := sc_is_formed.nd
  dfn_ok (N := N_is_formed) (ps := ["row"]) (k := 2) (fb := B_is_formed) (ωp := [.fz]) (ωl := [.fz]) (W := [1]) T.h_is_formed sc_is_formed rfl rfl rfl rfl rfl rfl fun f cdv A outer s H E hr => ⟨_, [],
    (dss_cons (ds_set (i := 1) nd (de_ix hr (de_var 0) de_int)) (dss_cons (ds_if (dt_val (de_call ((dfn_is_plain T).mono (by decide)) hr pass0 (da_cons (de_var 1) da_nil))) (dss_one (ds_ret (de_cmp (or_eq hr) od_eq (de_callB cr_len cd_len T.n_len PySem.boot_len (da_cons (de_var 0) da_nil)) de_int (nomark _)))) dss_nil) (dss_cons (ds_if (dt_cmp (or_eq hr) od_eq (de_var 1) de_str (nomark _)) (dss_one (ds_ret (de_and (de_cmp (or_eq hr) od_eq (de_callB cr_len cd_len T.n_len PySem.boot_len (da_cons (de_var 0) da_nil)) de_int (nomark _)) (de_and (de_isi kit_int T.n_isinstance T.n_int PyProof.Rows.boot_int (de_ix hr (de_var 0) de_int)) (de_one (de_call ((dfn_are_kept T).mono (by decide)) hr pass0 (da_cons (de_ix hr (de_var 0) de_int) da_nil))))))) dss_nil) (dss_cons (ds_if (dt_cmp (or_ne hr) od_ne (de_callB cr_len cd_len T.n_len PySem.boot_len (da_cons (de_var 0) da_nil)) de_int (nomark _)) (dss_one (ds_ret de_bl)) dss_nil) (dss_cons (ds_if (dt_cmp (or_eq hr) od_eq (de_var 1) de_str (nomark _)) (dss_one (ds_ret (de_call ((dfn_is_between T).mono (by decide)) hr pass0 (da_cons (de_ix hr (de_var 0) de_int) (da_cons (de_sub de_int (de_gint T.g_MOST_NUMBER)) (da_cons (de_gint T.g_MOST_NUMBER) da_nil)))))) dss_nil) (dss_cons (ds_if (dt_cmp (or_eq hr) od_eq (de_var 1) de_str (nomark _)) (dss_one (ds_ret (de_call ((dfn_is_between T).mono (by decide)) hr pass0 (da_cons (de_ix hr (de_var 0) de_int) (da_cons de_int (da_cons (de_sub (de_gint T.g_MOST_ROWS) de_int) da_nil)))))) dss_nil) (dss_one (ds_ret (de_and (de_cmp (or_in hr) od_in (de_var 1) (de_tup (da_cons de_str (da_cons de_str da_nil))) rfl) (de_one (de_isi kit_int T.n_isinstance T.n_int PyProof.Rows.boot_int (de_ix hr (de_var 0) de_int))))))))))))⟩
theorem sc_look_at : FnScope N_look_at ["row", "bodies", "size"] (defScope s_look_at) := ⟨rfl, rfl, rfl, by decide +kernel, rfl, by decide +kernel, by decide +kernel⟩
def BE_look_at : Env → R Fl := (sSeq (sIf (eNotT (tB' (eCall (F_is_formed) (aCons (eVar 0) aNil)))) (sRaise "NoInstruction") sNext) (sSeq (sIf (eAndT (tB' (eOp eqD (eOp ixD (eVar 0) (eC (.int 0))) (eC (.str w_fun)))) (eNotT (tB' (eCall (F_is_between) (aCons (eOp ixD (eVar 0) (eC (.int 1))) (aCons (eC (.int 0)) (aCons (eOp subD (eVar 1) (eC (.int 1))) aNil))))))) (sRaise "NoBody") sNext) (sIf (eAndT (tB' (eOp inD (eOp ixD (eVar 0) (eC (.int 0))) (eTup (aCons (eC (.str w_jump)) (aCons (eC (.str w_unless)) aNil))))) (eNotT (tB' (eCall (F_is_between) (aCons (eOp ixD (eVar 0) (eC (.int 1))) (aCons (eC (.int 0)) (aCons (eVar 2) aNil))))))) (sRaise "NoPlace") sNext)))
def FE_look_at : List D → R D := fnE true 3 BE_look_at
theorem dfe_look_at (T : Txt K mg) : DFn P w K mg base (L2N.CX P w) 4 "look_at" 3 FE_look_at .fz :=
  have nd := sc_look_at.nd
  dfn_okE (b := true) (N := N_look_at) (ps := ["row", "bodies", "size"]) (k := 3) (fb := BE_look_at) (ωp := [.fz, .fz, .fz]) (ωl := []) (W := []) T.h_look_at sc_look_at rfl rfl rfl rfl rfl rfl (fun _ => rfl) fun f cdv A outer s H E hr => ⟨_, _,
    (dss_cons (ds_if (dt_not (dt_val (de_call ((dfn_is_formed T).mono (by decide)) hr passA (da_cons (de_var 0) da_nil)))) (dss_one (ds_raise (ω' := [.fz, .fz, .fz]) rfl takesE T.r_NoInstruction)) dss_nil) (dss_cons (ds_if (dt_of (dw_and (dt_cmp (or_eq hr) od_eq (de_ix hr (de_var 0) de_int) de_str (nomark _)) (dw_and1 (dt_not (dt_val (de_call ((dfn_is_between T).mono (by decide)) hr passA (da_cons (de_ix hr (de_var 0) de_int) (da_cons de_int (da_cons (de_sub (de_var 1) de_int) da_nil))))))))) (dss_one (ds_raise (ω' := [.fz, .fz, .fz]) rfl takesE T.r_NoBody)) dss_nil) (dss_one (ds_if (dt_of (dw_and (dt_cmp (or_in hr) od_in (de_ix hr (de_var 0) de_int) (de_tup (da_cons de_str (da_cons de_str da_nil))) rfl) (dw_and1 (dt_not (dt_val (de_call ((dfn_is_between T).mono (by decide)) hr passA (da_cons (de_ix hr (de_var 0) de_int) (da_cons de_int (da_cons (de_var 2) da_nil))))))))) (dss_one (ds_raise (ω' := [.fz, .fz, .fz]) rfl takesE T.r_NoPlace)) dss_nil))))⟩
theorem sc_checked : FnScope N_checked ["program"] (defScope s_checked) := ⟨rfl, rfl, rfl, by decide +kernel, rfl, by decide +kernel, by decide +kernel⟩
def BE_checked : Env → R Fl := (sSeq (sIf (tB' (eOp eqD (eCall lenD (aCons (eVar 0) aNil)) (eC (.int 0)))) (sRaise "NoBodies") sNext) (sSeq (sIf (tB' (eOp gtD (eCall lenD (aCons (eVar 0) aNil)) (eC (.int (20))))) (sRaise "TooMany") sNext) (sSeq (sFor (iWalk (eVar 0)) (setN 1) (sSeq (sIf (tB' (eOp gtD (eCall lenD (aCons (eVar 1) aNil)) (eC (.int (60))))) (sRaise "TooMany") sNext) (sFor (iWalk (eVar 1)) (setN 2) (sExpr (eCall (FE_look_at) (aCons (eVar 2) (aCons (eCall lenD (aCons (eVar 0) aNil)) (aCons (eCall lenD (aCons (eVar 1) aNil)) aNil)))))))) (sRet [] (eLc (iWalk (eVar 0)) [1] (setN 1) cYes (eCall listD (aCons (eVar 1) aNil)))))))
def FE_checked : List D → R D := fnE false 3 BE_checked
theorem dfe_checked (T : Txt K mg) : DFn P w K mg base (L2N.CX P w) 5 "checked" 1 FE_checked (.own (.own .fz)) :=
  have nd := sc_checked.nd
  dfn_okE (b := false) (N := N_checked) (ps := ["program"]) (k := 4) (fb := BE_checked) (ωp := [.fz]) (ωl := [.fz, .fz]) (W := [1, 2]) T.h_checked sc_checked rfl rfl rfl rfl rfl rfl (fun h => by cases h) fun f cdv A outer s H E hr => ⟨_, [],
    (dss_cons (ds_if (dt_cmp (or_eq hr) od_eq (de_callB cr_len cd_len T.n_len PySem.boot_len (da_cons (de_var 0) da_nil)) de_int (nomark _)) (dss_one (ds_raise (ω' := [.fz, .fz, .fz]) rfl takesE T.r_NoBodies)) dss_nil) (dss_cons (ds_if (dt_cmp op_gt od_gt (de_callB cr_len cd_len T.n_len PySem.boot_len (da_cons (de_var 0) da_nil)) (de_gint T.g_MOST_BODIES) (nomark _)) (dss_one (ds_raise (ω' := [.fz, .fz, .fz]) rfl takesE T.r_TooMany)) dss_nil) (dss_cons (ds_for ownE rfl (di_any (de_var 0)) (dg_name (i := 1) nd) (dss_cons (ds_if (dt_cmp op_gt od_gt (de_callB cr_len cd_len T.n_len PySem.boot_len (da_cons (de_var 1) da_nil)) (de_gint T.g_MOST_ROWS) (nomark _)) (dss_one (ds_raise (ω' := [.fz, .fz, .fz]) rfl takesE T.r_TooMany)) dss_nil) (dss_one (ds_for ownE rfl (di_any (de_var 1)) (dg_name (i := 2) nd) (dss_one (ds_expr (de_call ((dfe_look_at T).mono (by decide)) hr passE (da_cons (de_var 2) (da_cons (de_callB cr_len cd_len T.n_len PySem.boot_len (da_cons (de_var 0) da_nil)) (da_cons (de_callB cr_len cd_len T.n_len PySem.boot_len (da_cons (de_var 1) da_nil)) da_nil)))))))))) (dss_one (ds_ret (de_lcOE (own := [("body", 1)]) (i := 1) rfl nd rfl rfl (wipe_one _ _) (di_any (de_var 0)) (blkOk_by (N := N_checked) (sc := defScope s_checked) (by decide +kernel)) (fun _ _ _ _ _ => pg_name (i := 1) nd rfl (Or.inl rfl)) (fun _ _ _ _ _ => ⟨_, dts_nil⟩) (fun _ _ _ _ _ => ⟨_, (de_callTy (cr_list rfl) cd_list T.n_list PyProof.Rows.boot_list (da_cons (de_var 1) da_nil))⟩)))))))⟩
theorem sc__law_kind : FnScope N__law_kind ["_law_e"] (defScope s__law_kind) := ⟨rfl, rfl, rfl, by decide +kernel, rfl, by decide +kernel, by decide +kernel⟩
def BK__law_kind (a : Addr) (k : Str) : Env → R Fl := (sSeq (sAsg 1 [] (eLst (aCons (eUn (isErr a k (isSub k "NoBodies")) (eVar 0)) (aCons (eUn (isErr a k (isSub k "TooMany")) (eVar 0)) (aCons (eUn (isErr a k (isSub k "NoInstruction")) (eVar 0)) (aCons (eUn (isErr a k (isSub k "NoBody")) (eVar 0)) aNil)))))) (sSeq (sAsg 1 [] (eOp addD (eVar 1) (eLst (aCons (eUn (isErr a k (isSub k "NoPlace")) (eVar 0)) (aCons (eUn (isErr a k (isSub k "NoStep")) (eVar 0)) (aCons (eUn (isErr a k (isSub k "NoWords")) (eVar 0)) (aCons (eUn (isErr a k (isSub k "NoFit")) (eVar 0)) aNil))))))) (sSeq (sIf (eOrT (eNotT (tB' (eUn (isErr a k true) (eVar 0)))) (tB' (eOp neD (eCountF (eVar 1) (eC (.bl true))) (eC (.int 1))))) (sRet [] (eC (.str w_other))) sNext) (sRet [] (eOp ixD (eLst (aCons (eC (.str w_bodies)) (aCons (eC (.str w_many)) (aCons (eC (.str w_instruction)) (aCons (eC (.str w_body)) (aCons (eC (.str w_place)) (aCons (eC (.str w_step)) (aCons (eC (.str w_words)) (aCons (eC (.str w_fit)) aNil))))))))) (eIndexF (eVar 1) (eC (.bl true))))))))
theorem k_ok__law_kind (a : Addr) (k : Str) (hk : k ∈ raisedL) : ∀ d, kres k = .ok d → ∃ ρ' : Env, BK__law_kind a k (errEnv 2 0 a k) = .ok (.rt d ρ') := by
  intro d hd
  have h1 : ∀ (b : Bool) (x : Option D), eUn (isErr a k b) (eVar 0) [some (.err a k), x] = .ok (.bl b) := fun b x => isErr_self a _ b
  have e0 : errEnv 2 0 a k = [some (.err a k), none] := rfl
  rw [e0]
  unfold BK__law_kind
  simp only [raisedL, List.mem_cons, List.not_mem_nil, or_false] at hk
  rcases hk with rfl | rfl | rfl | rfl | rfl
  · have hd : d = .str w_bodies := by cases hd; rfl
    subst hd
    have s0 : isSub "NoBodies" "NoBodies" = true := by decide +kernel
    have s1 : isSub "NoBodies" "TooMany" = false := by decide +kernel
    have s2 : isSub "NoBodies" "NoInstruction" = false := by decide +kernel
    have s3 : isSub "NoBodies" "NoBody" = false := by decide +kernel
    have s4 : isSub "NoBodies" "NoPlace" = false := by decide +kernel
    have s5 : isSub "NoBodies" "NoStep" = false := by decide +kernel
    have s6 : isSub "NoBodies" "NoWords" = false := by decide +kernel
    have s7 : isSub "NoBodies" "NoFit" = false := by decide +kernel
    rw [s0, s1, s2, s3, s4, s5, s6, s7]
    have h1t := fun x => h1 true x
    have h1f := fun x => h1 false x
    have ad : addD (.lst [.bl true, .bl false, .bl false, .bl false]) (.lst [.bl false, .bl false, .bl false, .bl false]) = .ok (.lst [.bl true, .bl false, .bl false, .bl false, .bl false, .bl false, .bl false, .bl false]) := rfl
    have ct : ∀ x, eCountF (eVar 1) (eC (.bl true)) [x, some (.lst [.bl true, .bl false, .bl false, .bl false, .bl false, .bl false, .bl false, .bl false])] = .ok (.int 1) := fun x => rfl
    have ix : ∀ x, eIndexF (eVar 1) (eC (.bl true)) [x, some (.lst [.bl true, .bl false, .bl false, .bl false, .bl false, .bl false, .bl false, .bl false])] = .ok (.int 0) := fun x => rfl
    have iw : ixD (.lst [.str w_bodies, .str w_many, .str w_instruction, .str w_body, .str w_place, .str w_step, .str w_words, .str w_fit]) (.int 0) = .ok (.str w_bodies) := rfl
    generalize eUn (isErr a "NoBodies" true) (eVar 0) = f1 at *
    generalize eUn (isErr a "NoBodies" false) (eVar 0) = f2 at *
    refine ⟨[some (.err a "NoBodies"), some (.lst [.bl true, .bl false, .bl false, .bl false, .bl false, .bl false, .bl false, .bl false])], ?_⟩
    simp [sSeq, sIf, sAsg, hideE, sRet, sNext, tB', asB, h1f, h1t, ad, ct, ix, iw, eLst, aCons, aNil, eNotT, -m_ixL]
  · have hd : d = .str w_body := by cases hd; rfl
    subst hd
    have s0 : isSub "NoBody" "NoBodies" = false := by decide +kernel
    have s1 : isSub "NoBody" "TooMany" = false := by decide +kernel
    have s2 : isSub "NoBody" "NoInstruction" = false := by decide +kernel
    have s3 : isSub "NoBody" "NoBody" = true := by decide +kernel
    have s4 : isSub "NoBody" "NoPlace" = false := by decide +kernel
    have s5 : isSub "NoBody" "NoStep" = false := by decide +kernel
    have s6 : isSub "NoBody" "NoWords" = false := by decide +kernel
    have s7 : isSub "NoBody" "NoFit" = false := by decide +kernel
    rw [s0, s1, s2, s3, s4, s5, s6, s7]
    have h1t := fun x => h1 true x
    have h1f := fun x => h1 false x
    have ad : addD (.lst [.bl false, .bl false, .bl false, .bl true]) (.lst [.bl false, .bl false, .bl false, .bl false]) = .ok (.lst [.bl false, .bl false, .bl false, .bl true, .bl false, .bl false, .bl false, .bl false]) := rfl
    have ct : ∀ x, eCountF (eVar 1) (eC (.bl true)) [x, some (.lst [.bl false, .bl false, .bl false, .bl true, .bl false, .bl false, .bl false, .bl false])] = .ok (.int 1) := fun x => rfl
    have ix : ∀ x, eIndexF (eVar 1) (eC (.bl true)) [x, some (.lst [.bl false, .bl false, .bl false, .bl true, .bl false, .bl false, .bl false, .bl false])] = .ok (.int 3) := fun x => rfl
    have iw : ixD (.lst [.str w_bodies, .str w_many, .str w_instruction, .str w_body, .str w_place, .str w_step, .str w_words, .str w_fit]) (.int 3) = .ok (.str w_body) := rfl
    generalize eUn (isErr a "NoBody" true) (eVar 0) = f1 at *
    generalize eUn (isErr a "NoBody" false) (eVar 0) = f2 at *
    refine ⟨[some (.err a "NoBody"), some (.lst [.bl false, .bl false, .bl false, .bl true, .bl false, .bl false, .bl false, .bl false])], ?_⟩
    simp [sSeq, sIf, sAsg, hideE, sRet, sNext, tB', asB, h1f, h1t, ad, ct, ix, iw, eLst, aCons, aNil, eNotT, -m_ixL]
  · have hd : d = .str w_instruction := by cases hd; rfl
    subst hd
    have s0 : isSub "NoInstruction" "NoBodies" = false := by decide +kernel
    have s1 : isSub "NoInstruction" "TooMany" = false := by decide +kernel
    have s2 : isSub "NoInstruction" "NoInstruction" = true := by decide +kernel
    have s3 : isSub "NoInstruction" "NoBody" = false := by decide +kernel
    have s4 : isSub "NoInstruction" "NoPlace" = false := by decide +kernel
    have s5 : isSub "NoInstruction" "NoStep" = false := by decide +kernel
    have s6 : isSub "NoInstruction" "NoWords" = false := by decide +kernel
    have s7 : isSub "NoInstruction" "NoFit" = false := by decide +kernel
    rw [s0, s1, s2, s3, s4, s5, s6, s7]
    have h1t := fun x => h1 true x
    have h1f := fun x => h1 false x
    have ad : addD (.lst [.bl false, .bl false, .bl true, .bl false]) (.lst [.bl false, .bl false, .bl false, .bl false]) = .ok (.lst [.bl false, .bl false, .bl true, .bl false, .bl false, .bl false, .bl false, .bl false]) := rfl
    have ct : ∀ x, eCountF (eVar 1) (eC (.bl true)) [x, some (.lst [.bl false, .bl false, .bl true, .bl false, .bl false, .bl false, .bl false, .bl false])] = .ok (.int 1) := fun x => rfl
    have ix : ∀ x, eIndexF (eVar 1) (eC (.bl true)) [x, some (.lst [.bl false, .bl false, .bl true, .bl false, .bl false, .bl false, .bl false, .bl false])] = .ok (.int 2) := fun x => rfl
    have iw : ixD (.lst [.str w_bodies, .str w_many, .str w_instruction, .str w_body, .str w_place, .str w_step, .str w_words, .str w_fit]) (.int 2) = .ok (.str w_instruction) := rfl
    generalize eUn (isErr a "NoInstruction" true) (eVar 0) = f1 at *
    generalize eUn (isErr a "NoInstruction" false) (eVar 0) = f2 at *
    refine ⟨[some (.err a "NoInstruction"), some (.lst [.bl false, .bl false, .bl true, .bl false, .bl false, .bl false, .bl false, .bl false])], ?_⟩
    simp [sSeq, sIf, sAsg, hideE, sRet, sNext, tB', asB, h1f, h1t, ad, ct, ix, iw, eLst, aCons, aNil, eNotT, -m_ixL]
  · have hd : d = .str w_place := by cases hd; rfl
    subst hd
    have s0 : isSub "NoPlace" "NoBodies" = false := by decide +kernel
    have s1 : isSub "NoPlace" "TooMany" = false := by decide +kernel
    have s2 : isSub "NoPlace" "NoInstruction" = false := by decide +kernel
    have s3 : isSub "NoPlace" "NoBody" = false := by decide +kernel
    have s4 : isSub "NoPlace" "NoPlace" = true := by decide +kernel
    have s5 : isSub "NoPlace" "NoStep" = false := by decide +kernel
    have s6 : isSub "NoPlace" "NoWords" = false := by decide +kernel
    have s7 : isSub "NoPlace" "NoFit" = false := by decide +kernel
    rw [s0, s1, s2, s3, s4, s5, s6, s7]
    have h1t := fun x => h1 true x
    have h1f := fun x => h1 false x
    have ad : addD (.lst [.bl false, .bl false, .bl false, .bl false]) (.lst [.bl true, .bl false, .bl false, .bl false]) = .ok (.lst [.bl false, .bl false, .bl false, .bl false, .bl true, .bl false, .bl false, .bl false]) := rfl
    have ct : ∀ x, eCountF (eVar 1) (eC (.bl true)) [x, some (.lst [.bl false, .bl false, .bl false, .bl false, .bl true, .bl false, .bl false, .bl false])] = .ok (.int 1) := fun x => rfl
    have ix : ∀ x, eIndexF (eVar 1) (eC (.bl true)) [x, some (.lst [.bl false, .bl false, .bl false, .bl false, .bl true, .bl false, .bl false, .bl false])] = .ok (.int 4) := fun x => rfl
    have iw : ixD (.lst [.str w_bodies, .str w_many, .str w_instruction, .str w_body, .str w_place, .str w_step, .str w_words, .str w_fit]) (.int 4) = .ok (.str w_place) := rfl
    generalize eUn (isErr a "NoPlace" true) (eVar 0) = f1 at *
    generalize eUn (isErr a "NoPlace" false) (eVar 0) = f2 at *
    refine ⟨[some (.err a "NoPlace"), some (.lst [.bl false, .bl false, .bl false, .bl false, .bl true, .bl false, .bl false, .bl false])], ?_⟩
    simp [sSeq, sIf, sAsg, hideE, sRet, sNext, tB', asB, h1f, h1t, ad, ct, ix, iw, eLst, aCons, aNil, eNotT, -m_ixL]
  · have hd : d = .str w_many := by cases hd; rfl
    subst hd
    have s0 : isSub "TooMany" "NoBodies" = false := by decide +kernel
    have s1 : isSub "TooMany" "TooMany" = true := by decide +kernel
    have s2 : isSub "TooMany" "NoInstruction" = false := by decide +kernel
    have s3 : isSub "TooMany" "NoBody" = false := by decide +kernel
    have s4 : isSub "TooMany" "NoPlace" = false := by decide +kernel
    have s5 : isSub "TooMany" "NoStep" = false := by decide +kernel
    have s6 : isSub "TooMany" "NoWords" = false := by decide +kernel
    have s7 : isSub "TooMany" "NoFit" = false := by decide +kernel
    rw [s0, s1, s2, s3, s4, s5, s6, s7]
    have h1t := fun x => h1 true x
    have h1f := fun x => h1 false x
    have ad : addD (.lst [.bl false, .bl true, .bl false, .bl false]) (.lst [.bl false, .bl false, .bl false, .bl false]) = .ok (.lst [.bl false, .bl true, .bl false, .bl false, .bl false, .bl false, .bl false, .bl false]) := rfl
    have ct : ∀ x, eCountF (eVar 1) (eC (.bl true)) [x, some (.lst [.bl false, .bl true, .bl false, .bl false, .bl false, .bl false, .bl false, .bl false])] = .ok (.int 1) := fun x => rfl
    have ix : ∀ x, eIndexF (eVar 1) (eC (.bl true)) [x, some (.lst [.bl false, .bl true, .bl false, .bl false, .bl false, .bl false, .bl false, .bl false])] = .ok (.int 1) := fun x => rfl
    have iw : ixD (.lst [.str w_bodies, .str w_many, .str w_instruction, .str w_body, .str w_place, .str w_step, .str w_words, .str w_fit]) (.int 1) = .ok (.str w_many) := rfl
    generalize eUn (isErr a "TooMany" true) (eVar 0) = f1 at *
    generalize eUn (isErr a "TooMany" false) (eVar 0) = f2 at *
    refine ⟨[some (.err a "TooMany"), some (.lst [.bl false, .bl true, .bl false, .bl false, .bl false, .bl false, .bl false, .bl false])], ?_⟩
    simp [sSeq, sIf, sAsg, hideE, sRet, sNext, tB', asB, h1f, h1t, ad, ct, ix, iw, eLst, aCons, aNil, eNotT, -m_ixL]
theorem dfk__law_kind (T : Txt K mg) : DFnK P w K mg base 1 "_law_kind" raisedL kres :=
  have nd := sc__law_kind.nd
  dfnk_ok (N := N__law_kind) (k := 0) (ωl := [.fz]) (W := [1]) T.h__law_kind sc__law_kind rfl (fun f cdv A outer s H E p k hr hk hp => ⟨_, BK__law_kind p.1 k, [],
    (dss_cons (ds_set (i := 1) nd (de_frz (de_lst (da_cons (de_isC hp (T.c_cls k hk) (T.i_NoBodies k hk) T.n_isinstance) (da_cons (de_isC hp (T.c_cls k hk) (T.i_TooMany k hk) T.n_isinstance) (da_cons (de_isC hp (T.c_cls k hk) (T.i_NoInstruction k hk) T.n_isinstance) (da_cons (de_isC hp (T.c_cls k hk) (T.i_NoBody k hk) T.n_isinstance) da_nil))))))) (dss_cons (ds_set (i := 1) nd (de_frz (de_add (de_var 1) (de_frz (de_lst (da_cons (de_isC hp (T.c_cls k hk) (T.i_NoPlace k hk) T.n_isinstance) (da_cons (de_isC hp (T.c_cls k hk) (T.i_NoStep k hk) T.n_isinstance) (da_cons (de_isC hp (T.c_cls k hk) (T.i_NoWords k hk) T.n_isinstance) (da_cons (de_isC hp (T.c_cls k hk) (T.i_NoFit k hk) T.n_isinstance) da_nil))))))))) (dss_cons (ds_if (dt_of (dw_or (dt_not (dt_val (de_isB hp (T.c_cls k hk) (T.b_ValueError k hk) T.n_isinstance T.n_ValueError boot_ValueError))) (dw_or1 (dt_cmp (or_neH hr) od_ne (de_countF (de_var 1) de_bl) de_int (nomark _))))) (dss_one (ds_ret de_str)) dss_nil) (dss_one (ds_ret (de_ixH hr (de_frz (de_lst (da_cons de_str (da_cons de_str (da_cons de_str (da_cons de_str (da_cons de_str (da_cons de_str (da_cons de_str (da_cons de_str da_nil)))))))))) (de_indexF (de_var 1) de_bl))))))), k_ok__law_kind p.1 k hk⟩) kres_nex
theorem sc__law_found : FnScope N__law_found ["_law_program_here"] (defScope s__law_found) := ⟨rfl, rfl, rfl, by decide +kernel, rfl, by decide +kernel, by decide +kernel⟩
def SU__law_found (a : Addr) (k : Str) : Env → R Fl := (sRet [] (eTup (aCons (eC .non) (aCons (eKind a k kres 1) aNil))))
theorem su_ok__law_found (a : Addr) (k : Str) (hk : k ∈ raisedL) : ∀ d, tres k = .ok d → ∃ ρ' : Env, ρ'.length = 2 ∧ SU__law_found a k (errEnv 2 1 a k) = .ok (.rt d ρ') := by
  intro d hd
  have e0 : errEnv 2 1 a k = [none, some (.err a k)] := rfl
  rw [e0]
  refine ⟨[none, some (.err a k)], rfl, ?_⟩
  unfold tres at hd
  cases hq : kres k with
  | exc e => exact absurd hq (kres_nex k e)
  | no => rw [hq] at hd; cases hd
  | ok r =>
    rw [hq] at hd
    cases hd
    have e1 : eKind a k kres 1 [none, some (.err a k)] = .ok r := by
      show errIs a k (kres k) (.err a k) = _
      simp [errIs, hq]
    simp [SU__law_found, sRet, eTup, aCons, aNil, e1, hideE]
def B__law_found : Env → R Fl := (sTry 2 raisedL tres (sRet [] (eTup (aCons (eCall (FE_checked) (aCons (eVar 0) aNil)) (aCons (eC (.str w_0)) aNil)))))
def F__law_found : List D → R D := fnD 2 B__law_found
theorem dfn__law_found (T : Txt K mg) : DFn P w K mg base CX0 6 "_law_found" 1 F__law_found (.tup [(.own (.own .fz)), .fz]) :=
  have nd := sc__law_found.nd
  dfn_ok (N := N__law_found) (ps := ["_law_program_here"]) (k := 5) (fb := B__law_found) (ωp := [.fz]) (ωl := [.fz]) (W := [0, 1]) T.h__law_found sc__law_found rfl rfl rfl rfl rfl rfl fun f cdv A outer s H E hr => ⟨_, [],
    (dss_one (ds_try (i := 1) (n := 2) raisedL tres T.c_cat nd (fun E' pn xe hx px => ⟨_, (dss_one (ds_ret (de_tupO (da_cons (de_call ((dfe_checked T).mono (by decide)) hr hx (da_cons (de_var 0) da_nil)) (da_cons de_str da_nil)))))⟩) (fun k a oe pn hk hp hz hf => ⟨_, SU__law_found a k, [], (dss_one (ds_ret (de_tupO (da_cons de_nonO (da_cons (de_kind ((dfk__law_kind T).mono (by decide)) hr hk hp hz hf) da_nil))))), su_ok__law_found a k hk⟩) T.c_hasS (hex := tres_nex)))⟩
theorem sc__law_whole : FnScope N__law_whole ["_law_found_here"] (defScope s__law_whole) := ⟨rfl, rfl, rfl, by decide +kernel, rfl, by decide +kernel, by decide +kernel⟩
def B__law_whole : Env → R Fl := (sRet [] (eAndV (eUn (isiD "int") (eVar 0)) (eUn notD (eUn (isiD "bool") (eVar 0)))))
def F__law_whole : List D → R D := fnD 1 B__law_whole
theorem dfn__law_whole (T : Txt K mg) : DFn P w K mg base CX0 1 "_law_whole" 1 F__law_whole .fz :=
  have nd := sc__law_whole.nd
  dfn_ok (N := N__law_whole) (ps := ["_law_found_here"]) (k := 0) (fb := B__law_whole) (ωp := [.fz]) (ωl := []) (W := []) T.h__law_whole sc__law_whole rfl rfl rfl rfl rfl rfl fun f cdv A outer s H E hr => ⟨_, [],
    (dss_one (ds_ret (de_and (de_isi kit_int T.n_isinstance T.n_int PyProof.Rows.boot_int (de_var 0)) (de_one (de_not (de_isi kit_bool T.n_isinstance T.n_bool PyProof.Rows.boot_bool (de_var 0)))))))⟩
theorem sc__law_alike : FnScope N__law_alike ["_law_found_here", "_law_due_here"] (defScope s__law_alike) := ⟨rfl, rfl, rfl, by decide +kernel, rfl, by decide +kernel, by decide +kernel⟩
def B__law_alike (self : List D → R D) : Env → R Fl := (sSeq (sIf (tB' (eUn (isi2D "tuple" "list") (eVar 1))) (sSeq (sIf (tB' (eOp neD (eUn (isiD "tuple") (eVar 0)) (eUn (isiD "tuple") (eVar 1)))) (sRet [] (eC (.bl false))) sNext) (sSeq (sIf (eOrT (eNotT (tB' (eUn (isi2D "tuple" "list") (eVar 0)))) (tB' (eOp neD (eCall lenD (aCons (eVar 0) aNil)) (eCall lenD (aCons (eVar 1) aNil))))) (sRet [] (eC (.bl false))) sNext) (sRet [] (eCall allD (aCons (eLc (iRange1 (eCall lenD (aCons (eVar 1) aNil))) [2] (setN 2) cYes (eCall self (aCons (eOp ixD (eVar 0) (eVar 2)) (aCons (eOp ixD (eVar 1) (eVar 2)) aNil)))) aNil))))) sNext) (sSeq (sIf (tB' (eUn (isiD "str") (eVar 1))) (sRet [] (eAndV (eUn (isiD "str") (eVar 0)) (eOp eqD (eVar 0) (eVar 1)))) sNext) (sSeq (sIf (tB' (eOp isD (eVar 1) (eC .non))) (sRet [] (eOp isD (eVar 0) (eC .non))) sNext) (sRet [] (eAndV (eCall (F__law_whole) (aCons (eVar 0) aNil)) (eOp eqD (eVar 0) (eVar 1)))))))
def F__law_alike : Nat → List D → R D
  | 0 => fun _ => .no
  | n + 1 => fnD 3 (B__law_alike (F__law_alike n))
theorem dfn__law_alike (T : Txt K mg) : ∀ n, DFn P w K mg base CX0 (n + 2) "_law_alike" 2 (F__law_alike n) .fz
  | 0 => dfn_no (ps := ["_law_found_here", "_law_due_here"]) (k := 1) T.h__law_alike sc__law_alike rfl
  | n + 1 =>
    have C := dfn__law_alike T n
    have nd := sc__law_alike.nd
    dfn_ok (N := N__law_alike) (ps := ["_law_found_here", "_law_due_here"]) (k := n + 2) (fb := B__law_alike (F__law_alike n)) (ωp := [.fz, .fz]) (ωl := [.fz]) (W := []) T.h__law_alike sc__law_alike rfl (Nat.add_right_comm n 1 2) rfl rfl rfl rfl fun f cdv A outer s H E hr => ⟨_, [],
      (dss_cons (ds_if (dt_val (de_isi2 kit_tuple kit_list T.n_isinstance T.n_tuple T.n_list PyProof.Rows.boot_tuple PyProof.Rows.boot_list (de_var 1))) (dss_cons (ds_if (dt_cmp (or_ne hr) od_ne (de_isi kit_tuple T.n_isinstance T.n_tuple PyProof.Rows.boot_tuple (de_var 0)) (de_isi kit_tuple T.n_isinstance T.n_tuple PyProof.Rows.boot_tuple (de_var 1)) (nomark _)) (dss_one (ds_ret de_bl)) dss_nil) (dss_cons (ds_if (dt_of (dw_or (dt_not (dt_val (de_isi2 kit_tuple kit_list T.n_isinstance T.n_tuple T.n_list PyProof.Rows.boot_tuple PyProof.Rows.boot_list (de_var 0)))) (dw_or1 (dt_cmp (or_ne hr) od_ne (de_callB cr_len cd_len T.n_len PySem.boot_len (da_cons (de_var 0) da_nil)) (de_callB cr_len cd_len T.n_len PySem.boot_len (da_cons (de_var 1) da_nil)) (nomark _))))) (dss_one (ds_ret de_bl)) dss_nil) (dss_one (ds_ret (de_callB (cr_all rfl) cd_all T.n_all PyProof.Rows.boot_all (da_cons (de_frz (de_lcE (own := [("_law_k", 2)]) (i := 2) rfl nd rfl rfl (wipe_one _ _) (di_range1 T.n_range (de_callB cr_len cd_len T.n_len PySem.boot_len (da_cons (de_var 1) da_nil))) (blkOk_by (N := N__law_alike) (sc := defScope s__law_alike) (by decide +kernel)) (fun _ _ _ _ _ => pg_name (i := 2) nd rfl (Or.inl rfl)) (fun _ _ _ _ _ => ⟨_, dts_nil⟩) (fun _ _ _ _ _ => ⟨_, (de_call C hr pass0 (da_cons (de_ix hr (de_var 0) (de_var 2)) (da_cons (de_ix hr (de_var 1) (de_var 2)) da_nil)))⟩))) da_nil)))))) dss_nil) (dss_cons (ds_if (dt_val (de_isi kit_str T.n_isinstance T.n_str PyProof.Rows.boot_str (de_var 1))) (dss_one (ds_ret (de_and (de_isi kit_str T.n_isinstance T.n_str PyProof.Rows.boot_str (de_var 0)) (de_one (de_cmp (or_eq hr) od_eq (de_var 0) (de_var 1) (nomark _)))))) dss_nil) (dss_cons (ds_if (dt_cmp op_isN od_is (de_var 1) de_non (nomark _)) (dss_one (ds_ret (de_cmp op_isN od_is (de_var 0) de_non (nomark _)))) dss_nil) (dss_one (ds_ret (de_and (de_call ((dfn__law_whole T).mono (by omega)) hr pass0 (da_cons (de_var 0) da_nil)) (de_one (de_cmp (or_eq hr) od_eq (de_var 0) (de_var 1) (nomark _)))))))))⟩
theorem sc__law_odd : FnScope N__law_odd ["_law_cell_here", "_law_bodies", "_law_size"] (defScope s__law_odd) := ⟨rfl, rfl, rfl, by decide +kernel, rfl, by decide +kernel, by decide +kernel⟩
def B__law_odd : Env → R Fl := (sSeq (sAsg 3 [] (eOp addD (eOp powD (eC (.int 10)) (eC (.int 12))) (eOp modD (eVar 0) (eOp powD (eC (.int 10)) (eC (.int 20)))))) (sSeq (sAsg 4 [] (eLst (aCons (eTup (aCons (eC (.str w_num)) (aCons (eOp powD (eC (.int 10)) (eC (.int 12))) aNil))) (aCons (eTup (aCons (eC (.str w_num)) (aCons (eOp subD (eC (.int 0)) (eOp powD (eC (.int 10)) (eC (.int 12)))) aNil))) (aCons (eTup (aCons (eC (.str w_get)) (aCons (eC (.int 59)) aNil))) (aCons (eTup (aCons (eC (.str w_fun)) (aCons (eOp subD (eVar 1) (eC (.int 1))) (aCons (eOp mulD (eTup (aCons (eC (.int 59)) aNil)) (eC (.int 8))) aNil)))) (aCons (eTup (aCons (eC (.str w_jump)) (aCons (eVar 2) aNil))) aNil))))))) (sSeq (sAsg 4 [] (eOp addD (eVar 4) (eLst (aCons (eTup (aCons (eC (.str w_unless)) (aCons (eVar 2) aNil))) (aCons (eTup (aCons (eC (.str w_fun)) (aCons (eC (.int 0)) (aCons (eTup aNil) aNil)))) (aCons (eTup (aCons (eC (.str w_num)) (aCons (eOp addD (eOp powD (eC (.int 10)) (eC (.int 12))) (eC (.int 1))) aNil))) (aCons (eTup (aCons (eC (.str w_num)) (aCons (eOp subD (eOp subD (eC (.int 0)) (eOp powD (eC (.int 10)) (eC (.int 12)))) (eC (.int 1))) aNil))) (aCons (eTup (aCons (eC (.str w_num)) aNil)) aNil)))))))) (sSeq (sAsg 4 [] (eOp addD (eVar 4) (eLst (aCons (eTup (aCons (eC (.str w_num)) (aCons (eC (.int 1)) (aCons (eC (.int 1)) aNil)))) (aCons (eTup (aCons (eC (.str w_num)) (aCons (eC (.str w_1)) aNil))) (aCons (eTup (aCons (eC (.str w_get)) (aCons (eC (.int 60)) aNil))) (aCons (eTup (aCons (eC (.str w_get)) (aCons (eOp subD (eC (.int 0)) (eC (.int 1))) aNil))) (aCons (eTup (aCons (eC (.str w_get)) aNil)) (aCons (eTup (aCons (eC (.str w_get)) (aCons (eC (.str w_zero)) aNil))) (aCons (eTup (aCons (eC (.str w_add)) (aCons (eC (.int 1)) aNil))) aNil)))))))))) (sSeq (sAsg 4 [] (eOp addD (eVar 4) (eLst (aCons (eTup (aCons (eC (.str w_Add)) aNil)) (aCons (eTup (aCons (eC (.str w_0)) aNil)) (aCons (eTup (aCons (eC (.str w_ad)) aNil)) (aCons (eTup (aCons (eC (.str w_say)) (aCons (eC (.str w_a)) aNil))) (aCons (eTup (aCons (eC (.str w_call)) (aCons (eTup aNil) aNil))) (aCons (eTup (aCons (eC (.str w_fun)) (aCons (eC (.int 0)) aNil))) (aCons (eTup (aCons (eC (.str w_fun)) (aCons (eC (.int 0)) (aCons (eTup (aCons (eC (.int 60)) aNil)) aNil)))) (aCons (eTup (aCons (eC (.str w_jump)) aNil)) aNil))))))))))) (sSeq (sAsg 4 [] (eOp addD (eVar 4) (eLst (aCons (eTup (aCons (eC (.str w_fun)) (aCons (eC (.int 0)) (aCons (eOp mulD (eTup (aCons (eC (.int 0)) aNil)) (eC (.int 9))) aNil)))) (aCons (eTup (aCons (eC (.str w_fun)) (aCons (eC (.int 0)) (aCons (eTup (aCons (eOp subD (eC (.int 0)) (eC (.int 1))) aNil)) aNil)))) (aCons (eTup (aCons (eC (.str w_fun)) (aCons (eC (.int 0)) (aCons (eC (.int 0)) aNil)))) (aCons (eTup (aCons (eC (.str w_fun)) (aCons (eC (.str w_zero)) (aCons (eTup aNil) aNil)))) aNil))))))) (sSeq (sAsg 4 [] (eOp addD (eVar 4) (eLst (aCons (eTup (aCons (eC (.str w_fun)) (aCons (eVar 1) (aCons (eTup (aCons (eC (.int 60)) aNil)) aNil)))) aNil)))) (sSeq (sAsg 4 [] (eOp addD (eVar 4) (eLst (aCons (eTup (aCons (eC (.str w_fun)) (aCons (eVar 1) (aCons (eTup aNil) aNil)))) (aCons (eTup (aCons (eC (.str w_fun)) (aCons (eOp subD (eC (.int 0)) (eC (.int 1))) (aCons (eTup aNil) aNil)))) (aCons (eTup (aCons (eC (.str w_fun)) (aCons (eVar 3) (aCons (eTup (aCons (eC (.int 1)) (aCons (eC (.int 2)) aNil))) aNil)))) aNil)))))) (sSeq (sAsg 4 [] (eOp addD (eVar 4) (eLst (aCons (eTup (aCons (eC (.str w_jump)) (aCons (eOp addD (eVar 2) (eC (.int 1))) aNil))) (aCons (eTup (aCons (eC (.str w_unless)) (aCons (eOp subD (eC (.int 0)) (eC (.int 1))) aNil))) aNil))))) (sSeq (sAsg 4 [] (eOp addD (eVar 4) (eLst (aCons (eTup (aCons (eC (.str w_num)) (aCons (eTup (aCons (eC (.int 1)) aNil)) aNil))) (aCons (eTup (aCons (eC (.str w_get)) (aCons (eTup aNil) aNil))) (aCons (eTup (aCons (eC (.str w_jump)) (aCons (eTup (aCons (eC (.int 0)) aNil)) aNil))) (aCons (eTup (aCons (eC (.str w_unless)) (aCons (eTup aNil) aNil))) (aCons (eTup (aCons (eC (.str w_fun)) (aCons (eTup (aCons (eC (.int 0)) aNil)) (aCons (eTup aNil) aNil)))) aNil)))))))) (sSeq (sAsg 4 [] (eOp addD (eVar 4) (eLst (aCons (eTup (aCons (eOp ixD (eCall F__law_words aNil) (eOp modD (eOp divD (eVar 0) (eC (.int 64))) (eC (.int 18)))) (aCons (eC (.int 0)) aNil))) (aCons (eTup (aCons (eOp ixD (eCall F__law_words aNil) (eOp modD (eOp divD (eVar 0) (eC (.int 64))) (eC (.int 18)))) aNil)) aNil))))) (sSeq (sAsg 4 [] (eOp addD (eVar 4) (eLst (aCons (eTup (aCons (eC (.str w_jump)) (aCons (eVar 3) aNil))) (aCons (eTup (aCons (eC (.str w_unless)) (aCons (eC (.str w_zero)) aNil))) (aCons (eTup (aCons (eC (.str w_jump)) (aCons (eC (.int 0)) (aCons (eC (.int 0)) aNil)))) (aCons (eTup (aCons (eC (.str w_num)) (aCons (eOp addD (eVar 3) (eC (.int 1))) aNil))) (aCons (eTup (aCons (eC (.str w_get)) (aCons (eVar 3) aNil))) aNil)))))))) (sRet [] (eOp ixD (eVar 4) (eOp modD (eVar 0) (eCall lenD (aCons (eVar 4) aNil)))))))))))))))))
def F__law_odd : List D → R D := fnD 5 B__law_odd
theorem dfn__law_odd (T : Txt K mg) : DFn P w K mg base CX0 2 "_law_odd" 3 F__law_odd .fz :=
  have nd := sc__law_odd.nd
  dfn_ok (N := N__law_odd) (ps := ["_law_cell_here", "_law_bodies", "_law_size"]) (k := 1) (fb := B__law_odd) (ωp := [.fz, .fz, .fz]) (ωl := [.fz, .fz]) (W := [3, 4]) T.h__law_odd sc__law_odd rfl rfl rfl rfl rfl rfl fun f cdv A outer s H E hr => ⟨_, [],
    (dss_cons (ds_set (i := 3) nd (de_frz (de_add (de_pow de_int de_int) (de_mod (de_var 0) (de_pow de_int de_int))))) (dss_cons (ds_set (i := 4) nd (de_frz (de_lst (da_cons (de_tup (da_cons de_str (da_cons (de_pow de_int de_int) da_nil))) (da_cons (de_tup (da_cons de_str (da_cons (de_sub de_int (de_pow de_int de_int)) da_nil))) (da_cons (de_tup (da_cons de_str (da_cons de_int da_nil))) (da_cons (de_tup (da_cons de_str (da_cons (de_sub (de_var 1) de_int) (da_cons (de_frz (de_mul (de_tup (da_cons de_int da_nil)) de_int)) da_nil)))) (da_cons (de_tup (da_cons de_str (da_cons (de_var 2) da_nil))) da_nil)))))))) (dss_cons (ds_set (i := 4) nd (de_frz (de_add (de_var 4) (de_frz (de_lst (da_cons (de_tup (da_cons de_str (da_cons (de_var 2) da_nil))) (da_cons (de_tup (da_cons de_str (da_cons de_int (da_cons (de_tup da_nil) da_nil)))) (da_cons (de_tup (da_cons de_str (da_cons (de_frz (de_add (de_pow de_int de_int) de_int)) da_nil))) (da_cons (de_tup (da_cons de_str (da_cons (de_sub (de_sub de_int (de_pow de_int de_int)) de_int) da_nil))) (da_cons (de_tup (da_cons de_str da_nil)) da_nil)))))))))) (dss_cons (ds_set (i := 4) nd (de_frz (de_add (de_var 4) (de_frz (de_lst (da_cons (de_tup (da_cons de_str (da_cons de_int (da_cons de_int da_nil)))) (da_cons (de_tup (da_cons de_str (da_cons de_str da_nil))) (da_cons (de_tup (da_cons de_str (da_cons de_int da_nil))) (da_cons (de_tup (da_cons de_str (da_cons (de_sub de_int de_int) da_nil))) (da_cons (de_tup (da_cons de_str da_nil)) (da_cons (de_tup (da_cons de_str (da_cons de_str da_nil))) (da_cons (de_tup (da_cons de_str (da_cons de_int da_nil))) da_nil)))))))))))) (dss_cons (ds_set (i := 4) nd (de_frz (de_add (de_var 4) (de_frz (de_lst (da_cons (de_tup (da_cons de_str da_nil)) (da_cons (de_tup (da_cons de_str da_nil)) (da_cons (de_tup (da_cons de_str da_nil)) (da_cons (de_tup (da_cons de_str (da_cons de_str da_nil))) (da_cons (de_tup (da_cons de_str (da_cons (de_tup da_nil) da_nil))) (da_cons (de_tup (da_cons de_str (da_cons de_int da_nil))) (da_cons (de_tup (da_cons de_str (da_cons de_int (da_cons (de_tup (da_cons de_int da_nil)) da_nil)))) (da_cons (de_tup (da_cons de_str da_nil)) da_nil))))))))))))) (dss_cons (ds_set (i := 4) nd (de_frz (de_add (de_var 4) (de_frz (de_lst (da_cons (de_tup (da_cons de_str (da_cons de_int (da_cons (de_frz (de_mul (de_tup (da_cons de_int da_nil)) de_int)) da_nil)))) (da_cons (de_tup (da_cons de_str (da_cons de_int (da_cons (de_tup (da_cons (de_sub de_int de_int) da_nil)) da_nil)))) (da_cons (de_tup (da_cons de_str (da_cons de_int (da_cons de_int da_nil)))) (da_cons (de_tup (da_cons de_str (da_cons de_str (da_cons (de_tup da_nil) da_nil)))) da_nil))))))))) (dss_cons (ds_set (i := 4) nd (de_frz (de_add (de_var 4) (de_frz (de_lst (da_cons (de_tup (da_cons de_str (da_cons (de_var 1) (da_cons (de_tup (da_cons de_int da_nil)) da_nil)))) da_nil)))))) (dss_cons (ds_set (i := 4) nd (de_frz (de_add (de_var 4) (de_frz (de_lst (da_cons (de_tup (da_cons de_str (da_cons (de_var 1) (da_cons (de_tup da_nil) da_nil)))) (da_cons (de_tup (da_cons de_str (da_cons (de_sub de_int de_int) (da_cons (de_tup da_nil) da_nil)))) (da_cons (de_tup (da_cons de_str (da_cons (de_var 3) (da_cons (de_tup (da_cons de_int (da_cons de_int da_nil))) da_nil)))) da_nil)))))))) (dss_cons (ds_set (i := 4) nd (de_frz (de_add (de_var 4) (de_frz (de_lst (da_cons (de_tup (da_cons de_str (da_cons (de_frz (de_add (de_var 2) de_int)) da_nil))) (da_cons (de_tup (da_cons de_str (da_cons (de_sub de_int de_int) da_nil))) da_nil))))))) (dss_cons (ds_set (i := 4) nd (de_frz (de_add (de_var 4) (de_frz (de_lst (da_cons (de_tup (da_cons de_str (da_cons (de_tup (da_cons de_int da_nil)) da_nil))) (da_cons (de_tup (da_cons de_str (da_cons (de_tup da_nil) da_nil))) (da_cons (de_tup (da_cons de_str (da_cons (de_tup (da_cons de_int da_nil)) da_nil))) (da_cons (de_tup (da_cons de_str (da_cons (de_tup da_nil) da_nil))) (da_cons (de_tup (da_cons de_str (da_cons (de_tup (da_cons de_int da_nil)) (da_cons (de_tup da_nil) da_nil)))) da_nil)))))))))) (dss_cons (ds_set (i := 4) nd (de_frz (de_add (de_var 4) (de_frz (de_lst (da_cons (de_tup (da_cons (de_ix hr (de_call0 ((dfn__law_words T).mono (by decide)) hr pass0) (de_mod (de_div (de_var 0) de_int) de_int)) (da_cons de_int da_nil))) (da_cons (de_tup (da_cons (de_ix hr (de_call0 ((dfn__law_words T).mono (by decide)) hr pass0) (de_mod (de_div (de_var 0) de_int) de_int)) da_nil)) da_nil))))))) (dss_cons (ds_set (i := 4) nd (de_frz (de_add (de_var 4) (de_frz (de_lst (da_cons (de_tup (da_cons de_str (da_cons (de_var 3) da_nil))) (da_cons (de_tup (da_cons de_str (da_cons de_str da_nil))) (da_cons (de_tup (da_cons de_str (da_cons de_int (da_cons de_int da_nil)))) (da_cons (de_tup (da_cons de_str (da_cons (de_frz (de_add (de_var 3) de_int)) da_nil))) (da_cons (de_tup (da_cons de_str (da_cons (de_var 3) da_nil))) da_nil)))))))))) (dss_one (ds_ret (de_ix hr (de_var 4) (de_mod (de_var 0) (de_callB cr_len cd_len T.n_len PySem.boot_len (da_cons (de_var 4) da_nil))))))))))))))))))⟩
theorem sc_law : FnScope N_law ["_law_script"] (defScope s_law) := ⟨rfl, rfl, rfl, by decide +kernel, rfl, by decide +kernel, by decide +kernel⟩
def B_law : Env → R Fl := (sSeq (sAsg 1 [] (eCall (F__law_program) (aCons (eVar 0) (aCons (eCall F__law_words aNil) aNil)))) (sSeq (sAsg 2 [] (eCall (F__law_cell) (aCons (eVar 0) (aCons (eC (.int 5)) aNil)))) (sSeq (sIf (tB' (eOp eqD (eOp modD (eVar 2) (eC (.int 16))) (eC (.int 1)))) (sAsg 1 [] (eSl (eOp mulD (eVar 1) (eC (.int 21))) oNone (oSome (eOp ixD (eLst (aCons (eC (.int 0)) (aCons (eC (.int 1)) (aCons (eC (.int 20)) (aCons (eC (.int 21)) aNil))))) (eOp modD (eOp divD (eVar 2) (eC (.int 16))) (eC (.int 4))))))) sNext) (sSeq (sIf (tB' (eOp eqD (eOp modD (eVar 2) (eC (.int 16))) (eC (.int 2)))) (sSeq (sAsg 3 [] (eOp modD (eOp divD (eVar 2) (eC (.int 16))) (eLook (eCall lenD (aCons (eVar 1) aNil))))) (sPut 1 (eVar 3) (eOp mulD (eLst (aCons (eTup (aCons (eC (.str w_drop)) aNil)) aNil)) (eOp addD (eC (.int 60)) (eOp modD (eOp divD (eVar 2) (eC (.int 320))) (eC (.int 2))))))) sNext) (sSeq (sFor (iRange1 (eOp modD (eCall (F__law_cell) (aCons (eVar 0) (aCons (eC (.int 6)) aNil))) (eC (.int 4)))) (setN 4) (sSeq (sAsg 3 [] (eOp modD (eCall (F__law_cell) (aCons (eVar 0) (aCons (eOp addD (eC (.int 7)) (eVar 4)) aNil))) (eCall max2D (aCons (eC (.int 1)) (aCons (eLook (eCall lenD (aCons (eVar 1) aNil))) aNil))))) (sIf (eAndT (tB' (eOp neD (eVar 1) (eLst aNil))) (tB' (eOp neD (eOp ixD (eVar 1) (eVar 3)) (eLst aNil)))) (sSeq (sAsg 5 [] (eOp modD (eCall (F__law_cell) (aCons (eVar 0) (aCons (eOp addD (eC (.int 11)) (eVar 4)) aNil))) (eCall lenD (aCons (eIxV 1 (eVar 3)) aNil)))) (sSeq (sAsg 6 [] (eIxV 1 (eVar 3))) (sSeq (sAsg 7 [] (eCall (F__law_odd) (aCons (eCall (F__law_raw) (aCons (eVar 0) (aCons (eOp addD (eC (.int 15)) (eVar 4)) aNil))) (aCons (eLook (eCall lenD (aCons (eVar 1) aNil))) (aCons (eCall lenD (aCons (eVar 6) aNil)) aNil))))) (sPut 1 (eVar 3) (eOp addD (eOp addD (eSl (eVar 6) oNone (oSome (eVar 5))) (eLst (aCons (eVar 7) aNil))) (eSl (eVar 6) (oSome (eOp addD (eVar 5) (eC (.int 1)))) oNone)))))) sNext))) (sSeq (sAsg 8 [] (eLc (iWalk (eVar 1)) [6] (setN 6) cYes (eCall listD (aCons (eVar 6) aNil)))) (sSeq (sAsg 9 [] (eCall (F__law_due) (aCons (eVar 1) aNil))) (sSeq (sAsg 10 [] (eCall (F__law_found) (aCons (eVar 8) aNil))) (sSeq (sIf (eOrT (tB' (eOp neD (eVar 8) (eVar 1))) (tB' (eOp neD (eOp ixD (eVar 10) (eC (.int 1))) (eVar 9)))) (sRet [] (eC (.bl false))) sNext) (sSeq (sIf (tB' (eOp neD (eVar 9) (eC (.str w_0)))) (sRet [] (eC (.bl true))) sNext) (sSeq (sIf (eNotT (tB' (eCall (F__law_alike 7) (aCons (eOp ixD (eVar 10) (eC (.int 0))) (aCons (eVar 1) aNil))))) (sRet [] (eC (.bl false))) sNext) (sSeq (sAppQ 10 (.tup [(.own (.own .fz)), .fz]) [0, 0] (eC (.int 0))) (sSeq (sAppH 10 (.tup [(.own (.own .fz)), .fz]) [0] (eLst aNil)) (sRet [] (eAndV (eOp eqD (eVar 8) (eVar 1)) (eCall (F__law_alike 7) (aCons (eCall (FE_checked) (aCons (eVar 8) aNil)) (aCons (eVar 1) aNil))))))))))))))))))
def F_law : List D → R D := fnD 11 B_law
theorem fnok_law (T : Txt K mg) {fa : Addr} {fd : FuncData} (Fn : Fun K "law" "law" s_law fa fd) : FnOk P w K mg base CX0 10 fa fd ["_law_script"] (spD K mg 1 F_law .fz) :=
  have nd := sc_law.nd
  fnok (N := N_law) (ps := ["_law_script"]) (k := 9) (fb := B_law) (ωp := [.fz]) (ωl := [(.own .fz), .fz, .fz, .fz, .fz, .fz, .fz, .fz, .fz, (.tup [(.own (.own .fz)), .fz])]) (W := [1, 2, 3, 4, 5, 6, 7, 8, 9, 10]) Fn sc_law rfl rfl rfl rfl rfl rfl fun f cdv A outer s H E hr => ⟨_, [],
    (dss_cons (ds_set (i := 1) nd (de_call ((dfn__law_program T).mono (by decide)) hr pass0 (da_cons (de_var 0) (da_cons (de_call0 ((dfn__law_words T).mono (by decide)) hr pass0) da_nil)))) (dss_cons (ds_set (i := 2) nd (de_call ((dfn__law_cell T).mono (by decide)) hr pass0 (da_cons (de_var 0) (da_cons de_int da_nil)))) (dss_cons (ds_if (dt_cmp (or_eq hr) od_eq (de_mod (de_var 2) de_int) de_int (nomark _)) (dss_froze (.same (.fz (.same (.same (.same (.same (.same (.same (.same (.same (.same Froze.nil))))))))))) (dss_one (ds_set (i := 1) nd (de_slice (de_frz (de_mul (de_var 1) de_int)) do_none (do_some (de_ix hr (de_frz (de_lst (da_cons de_int (da_cons de_int (da_cons de_int (da_cons de_int da_nil)))))) (de_mod (de_div (de_var 2) de_int) de_int))))))) dss_nil) (dss_cons (ds_if (dt_cmp (or_eq hr) od_eq (de_mod (de_var 2) de_int) de_int (nomark _)) (dss_cons (ds_set (i := 3) nd (de_mod (de_div (de_var 2) de_int) (de_look (de_callB cr_len cd_len T.n_len PySem.boot_len (da_cons (de_var 1) da_nil))))) (dss_one (ds_put (i := 1) hr (de_var 3) (de_frz (de_mul (de_frz (de_lst (da_cons (de_tup (da_cons de_str da_nil)) da_nil))) (de_frz (de_add de_int (de_mod (de_div (de_var 2) de_int) de_int)))))))) dss_nil) (dss_cons (ds_for PassesOwn.never rfl (di_range1 T.n_range (de_mod (de_call ((dfn__law_cell T).mono (by decide)) hr pass0 (da_cons (de_var 0) (da_cons de_int da_nil))) de_int)) (dg_name (i := 4) nd) (dss_cons (ds_set (i := 3) nd (de_mod (de_call ((dfn__law_cell T).mono (by decide)) hr pass0 (da_cons (de_var 0) (da_cons (de_frz (de_add de_int (de_var 4))) da_nil))) (de_callB (call_max2 rfl) cd_max2 T.n_max PyProof.Rows.boot_max (da_cons de_int (da_cons (de_look (de_callB cr_len cd_len T.n_len PySem.boot_len (da_cons (de_var 1) da_nil))) da_nil))))) (dss_one (ds_if (dt_look (dt_of (dw_and (dt_cmp (or_ne hr) od_ne (de_var 1) (de_frz (de_lst da_nil)) (nomark _)) (dw_and1 (dt_cmp (or_ne hr) od_ne (de_ix hr (de_var 1) (de_var 3)) (de_frz (de_lst da_nil)) (nomark _)))))) (dss_cons (ds_set (i := 5) nd (de_mod (de_call ((dfn__law_cell T).mono (by decide)) hr pass0 (da_cons (de_var 0) (da_cons (de_frz (de_add de_int (de_var 4))) da_nil))) (de_callB cr_len cd_len T.n_len PySem.boot_len (da_cons (de_ixV (i := 1) hr (de_var 3)) da_nil)))) (dss_cons (ds_set (i := 6) nd (de_ixV (i := 1) hr (de_var 3))) (dss_cons (ds_set (i := 7) nd (de_call ((dfn__law_odd T).mono (by decide)) hr pass0 (da_cons (de_call ((dfn__law_raw T).mono (by decide)) hr pass0 (da_cons (de_var 0) (da_cons (de_frz (de_add de_int (de_var 4))) da_nil))) (da_cons (de_look (de_callB cr_len cd_len T.n_len PySem.boot_len (da_cons (de_var 1) da_nil))) (da_cons (de_callB cr_len cd_len T.n_len PySem.boot_len (da_cons (de_var 6) da_nil)) da_nil))))) (dss_one (ds_put (i := 1) hr (de_var 3) (de_frz (de_add (de_frz (de_add (de_frz (de_slice (de_var 6) do_none (do_some (de_var 5)))) (de_frz (de_lst (da_cons (de_var 7) da_nil))))) (de_frz (de_slice (de_var 6) (do_some (de_frz (de_add (de_var 5) de_int))) do_none))))))))) dss_nil)))) (dss_froze (.same (.fz (.same (.same (.same (.same (.same (.same (.same (.same (.same Froze.nil))))))))))) (dss_cons (ds_setLcFE (j := 8) (own := [("_law_body", 6)]) (i := 6) rfl nd rfl rfl (wipe_one _ _) (di_any (de_var 1)) (blkOk_by (N := N_law) (sc := defScope s_law) (by decide +kernel)) (fun _ _ _ _ _ => pg_name (i := 6) nd rfl (Or.inl rfl)) (fun _ _ _ _ _ => ⟨_, dts_nil⟩) (fun _ _ _ _ _ => ⟨_, (de_frz (de_callTy (cr_list rfl) cd_list T.n_list PyProof.Rows.boot_list (da_cons (de_var 6) da_nil)))⟩)) (dss_cons (ds_set (i := 9) nd (de_call ((dfn__law_due T).mono (by decide)) hr pass0 (da_cons (de_var 1) da_nil))) (dss_cons (ds_set (i := 10) nd (de_call ((dfn__law_found T).mono (by decide)) hr pass0 (da_cons (de_var 8) da_nil))) (dss_cons (ds_if (dt_look (dt_of (dw_or (dt_cmp (or_ne hr) od_ne (de_var 8) (de_var 1) (nomark _)) (dw_or1 (dt_cmp (or_ne hr) od_ne (de_ix hr (de_var 10) de_int) (de_var 9) (nomark _)))))) (dss_one (ds_ret de_bl)) dss_nil) (dss_cons (ds_if (dt_cmp (or_ne hr) od_ne (de_var 9) de_str (nomark _)) (dss_one (ds_ret de_bl)) dss_nil) (dss_cons (ds_if (dt_look (dt_not (dt_val (de_call ((dfn__law_alike T 7).mono (by decide)) hr pass0 (da_cons (de_ix hr (de_var 10) de_int) (da_cons (de_var 1) da_nil)))))) (dss_one (ds_ret de_bl)) dss_nil) (dss_cons (ds_appQ (o := (.tup [(.own (.own .fz)), .fz])) (dpq_ix (j := 0) hr (dpq_ix (j := 0) hr (dpq_name 10))) de_int) (dss_cons (ds_appH (o := (.tup [(.own (.own .fz)), .fz])) (dpq_ix (j := 0) hr (dpq_name 10)) (de_lst da_nil)) (dss_one (ds_ret (de_and (de_cmp (or_eq hr) od_eq (de_var 8) (de_var 1) (nomark _)) (de_one (de_call ((dfn__law_alike T 7).mono (by decide)) hr pass0 (da_cons (de_frz (de_call ((dfe_checked T).mono (by decide)) hr passN (da_cons (de_var 8) da_nil))) (da_cons (de_var 1) da_nil)))))))))))))))))))))⟩
end
end Dn

namespace Dn
open PySem L2
def w_at : Str := "at"
end Dn

namespace Dn
open PySem L2
inductive Val where
  | num (i : Int) | ref (n : Int)
inductive Thing where
  | box (v : Val) | fn (b : Int) (vs : List Val)
structure Frm where
  body : Int
  place : Int
  own : List Val
  stack : List Val
def encV : Val → D
  | .num i => .int i
  | .ref n => .tup [.str w_at, .int n]
def encT : Thing → D
  | .box v => .tup [.str w_box, encV v]
  | .fn b vs => .tup [.str w_fun, .int b, .tup (vs.map encV)]
def encF (f : Frm) : D := .tup [.int f.body, .int f.place, .tup (f.own.map encV), .tup (f.stack.map encV)]
def encTs (ts : List (Int × Thing)) : D := .dic (ts.map fun t => (Sum.inl t.1, encT t.2))
def mostN : Int := 1000000000000000000000000000000
def okV (N : List Int) : Val → Prop
  | .num i => -mostN ≤ i ∧ i ≤ mostN
  | .ref n => n ∈ N
theorem ix_scr {ns : List Int} {i : Int} (h0 : 0 ≤ i) (h1 : i < ns.length) : ∃ z : Int, ixD (.scr ns) (.int i) = .ok (.int z) := by
  have e := atI_pos (xs := ns) h0 h1
  have h : i.toNat < ns.length := by omega
  rw [List.getElem?_eq_getElem h] at e
  refine ⟨ns[i.toNat], ?_⟩
  show (match atI ns i with
    | some d => R.ok (D.int d)
    | none => .no) = _
  rw [e]
/-- frames, things -/
def okT (N : List Int) (bodies : Int) : Thing → Prop
  | .box v => okV N v
  | .fn b vs => 0 ≤ b ∧ b < bodies ∧ vs.length ≤ 8 ∧ ∀ v ∈ vs, okV N v
theorem find_none {ts : List (Int × Thing)} {n : Int} (h : n ∉ ts.map (·.1)) : (((ts.map fun t => ((Sum.inl t.1 : L2.Key), encT t.2)).any fun kv => decide (kv.1 = Sum.inl n)) = true) = False := by
  simp only [List.any_map, eq_iff_iff, iff_false]
  intro q
  obtain ⟨t, h1, h2⟩ := List.any_eq_true.mp q
  have h3 := of_decide_eq_true h2
  have h4 : t.1 = n := by injection h3
  exact h (List.mem_map.mpr ⟨t, h1, h4⟩)
theorem put_new {ts : List (Int × Thing)} {n : Int} {t : Thing} (h : n ∉ ts.map (·.1)) : putD (ts.map fun t => ((Sum.inl t.1 : L2.Key), encT t.2)) (.inl n) (encT t) = ((ts ++ [(n, t)]).map fun t => ((Sum.inl t.1 : L2.Key), encT t.2)) := by
  unfold putD
  rw [if_neg (by rw [find_none h]; exact id)]
  simp
/-- a program, by its bodies' rows -/
def encP (prog : List (List D)) : D := .lst (prog.map .lst)
def okF (N : List Int) (prog : List (List D)) (f : Frm) : Prop :=
  0 ≤ f.body ∧ f.body < prog.length ∧ 0 ≤ f.place ∧ f.place ≤ ((prog.getD f.body.toNat []).length : Int) ∧ f.own.length ≤ 60 ∧ f.stack.length ≤ 60 ∧ (∀ v ∈ f.own, okV N v) ∧ ∀ v ∈ f.stack, okV N v
inductive Row where
  | plain (w : Str) | num (i : Int) | get (k : Int) | fn (b : Int) (ks : List Int) | jump (p : Int) | unless (p : Int)
def encR : Row → D
  | .plain w => .tup [.str w]
  | .num i => .tup [.str w_num, .int i]
  | .get k => .tup [.str w_get, .int k]
  | .fn b ks => .tup [.str w_fun, .int b, .tup (ks.map .int)]
  | .jump p => .tup [.str w_jump, .int p]
  | .unless p => .tup [.str w_unless, .int p]
def okR (ws : List Str) (bodies size : Int) : Row → Prop
  | .plain w => w ∈ ws ∧ w ≠ w_num ∧ w ≠ w_get ∧ w ≠ w_fun ∧ w ≠ w_jump ∧ w ≠ w_unless
  | .num i => w_num ∈ ws ∧ -1000000000000 ≤ i ∧ i ≤ 1000000000000
  | .get k => w_get ∈ ws ∧ 0 ≤ k ∧ k < 60
  | .fn b ks => w_fun ∈ ws ∧ 0 ≤ b ∧ b < bodies ∧ ks.length ≤ 8 ∧ ∀ k ∈ ks, 0 ≤ k ∧ k < 60
  | .jump p => w_jump ∈ ws ∧ 0 ≤ p ∧ p ≤ size
  | .unless p => w_unless ∈ ws ∧ 0 ≤ p ∧ p ≤ size
abbrev Prog := List (List Row)
def encPR (p : Prog) : D := encP (p.map fun b => b.map encR)
def okB (ws : List Str) (bodies : Int) (b : List Row) : Prop := b.length ≤ 60 ∧ ∀ r ∈ b, okR ws bodies b.length r
@[simp] theorem m_fnX (n : Nat) (I : List Nat) (f : Env → R Fl) (ds : List D) : fnX n I f ds = leaveX I (f (enter n ds)) := Eq.trans rfl rfl
theorem m_leaveX1 (d : D) (ρ : Env) (i : Nat) (e : D) (h : ρ[i]? = some (some e)) : leaveX [i] (.ok (.rt d ρ)) = .ok (d, [e]) := by
  show (match outs ρ [i] with
    | some ds => R.ok (d, ds)
    | none => .no) = _
  unfold outs
  rw [h]
  rfl
def ixVK (k : R D) : Option (Option D) → R D
  | some (some d) => k >>= fun k => ixD d k
  | _ => .no
@[simp] theorem m_ixV (i : Nat) (fb : Env → R D) (ρ : Env) : eIxV i fb ρ = ixVK (fb ρ) ρ[i]? := by
  unfold eIxV
  cases ρ[i]? with
  | none => rfl
  | some o => cases o <;> rfl
@[simp] theorem m_ixVK (d : D) (k : D) : ixVK (.ok k) (some (some d)) = ixD d k := Eq.trans rfl rfl
@[simp] theorem m_min2 (i j : Int) : min2D [.int i, .int j] = .ok (.int (if j < i then j else i)) := Eq.trans rfl rfl
@[simp] theorem m_max2 (i j : Int) : max2D [.int i, .int j] = .ok (.int (if j > i then j else i)) := Eq.trans rfl rfl
theorem top_at {fs : List Frm} (f : Frm) : atI ((fs ++ [f]).map encF) (-1) = some (encF f) := by
  rw [at_last]
  simp
theorem body_at {p : Prog} {b : Int} (h0 : 0 ≤ b) (h1 : b < p.length) : atI (p.map fun b => D.lst (b.map encR)) b = some (.lst ((p.getD b.toNat []).map encR)) := by
  have h2 : b.toNat < p.length := by omega
  rw [atI_pos h0 (by simpa using h1), List.getElem?_map, List.getD_eq_getElem?_getD, List.getElem?_eq_getElem h2]
  rfl
theorem enc_pr (p : Prog) : encPR p = .lst (p.map fun b => D.lst (b.map encR)) := by simp [encPR, encP, Function.comp_def]
/-- the row put in at a frame's place -/
def putRow (body : List Row) (pl : Int) (r : Row) : List Row := body.take pl.toNat ++ [r] ++ body.drop (pl.toNat + 1)
/-! ### alike, same_state: of a thing and itself -/
def sh : Nat → D → Bool
  | _, .non => true
  | _, .int _ => true
  | _, .str _ => true
  | n + 1, .tup xs => decide (xs.length ≤ 1000000) && xs.attach.all fun ⟨x, _⟩ => sh n x
  | n + 1, .lst xs => decide (xs.length ≤ 1000000) && xs.attach.all fun ⟨x, _⟩ => sh n x
  | _, _ => false
theorem sh_tup {n : Nat} {xs : List D} : sh (n + 1) (.tup xs) = true ↔ xs.length ≤ 1000000 ∧ ∀ x ∈ xs, sh n x = true := by
  simp [sh]
theorem sh_lst {n : Nat} {xs : List D} : sh (n + 1) (.lst xs) = true ↔ xs.length ≤ 1000000 ∧ ∀ x ∈ xs, sh n x = true := by
  simp [sh]
@[simp] theorem ne_tup (xs : List D) : notErr (.tup xs) = true := Eq.trans rfl rfl
@[simp] theorem ne_lst (xs : List D) : notErr (.lst xs) = true := Eq.trans rfl rfl
@[simp] theorem ne_dic (xs : List (L2.Key × D)) : notErr (.dic xs) = true := Eq.trans rfl rfl
@[simp] theorem ne_int (i : Int) : notErr (.int i) = true := Eq.trans rfl rfl
@[simp] theorem ne_str (i : Str) : notErr (.str i) = true := Eq.trans rfl rfl
@[simp] theorem ne_bl (i : Bool) : notErr (.bl i) = true := Eq.trans rfl rfl
@[simp] theorem ne_non : notErr .non = true := Eq.trans rfl rfl
@[simp] theorem ne_scr (ns : List Int) : notErr (.scr ns) = true := Eq.trans rfl rfl
@[simp] theorem ne_V (v : Val) : notErr (encV v) = true := by cases v <;> rfl
@[simp] theorem ne_T (v : Thing) : notErr (encT v) = true := by cases v <;> rfl
@[simp] theorem ne_F (v : Frm) : notErr (encF v) = true := Eq.trans rfl rfl
@[simp] theorem ne_Ts (v : List (Int × Thing)) : notErr (encTs v) = true := Eq.trans rfl rfl
@[simp] theorem ne_R (v : Row) : notErr (encR v) = true := by cases v <;> rfl
@[simp] theorem m_isi (T : String) (d : D) (h : notErr d = true) : isiD T d = .ok (.bl (isiB T d)) := isiD_of h
@[simp] theorem m_isi2 (T U : String) (d : D) (h : notErr d = true) : isi2D T U d = .ok (.bl (isiB T d || isiB U d)) := isi2D_of h
@[simp] theorem i_t1 (xs : List D) : isiB "tuple" (.tup xs) = true := by simp [isiB, tyName]
@[simp] theorem i_t2 (xs : List D) : isiB "tuple" (.lst xs) = false := by simp [isiB, tyName]
@[simp] theorem i_t3 (xs : Int) : isiB "tuple" (.int xs) = false := by simp [isiB, tyName]
@[simp] theorem i_t4 (xs : Str) : isiB "tuple" (.str xs) = false := by simp [isiB, tyName]
@[simp] theorem i_t5 : isiB "tuple" .non = false := by simp [isiB, tyName]
@[simp] theorem i_l1 (xs : List D) : isiB "list" (.tup xs) = false := by simp [isiB, tyName]
@[simp] theorem i_l2 (xs : List D) : isiB "list" (.lst xs) = true := by simp [isiB, tyName]
@[simp] theorem i_l3 (xs : Int) : isiB "list" (.int xs) = false := by simp [isiB, tyName]
@[simp] theorem i_l4 (xs : Str) : isiB "list" (.str xs) = false := by simp [isiB, tyName]
@[simp] theorem i_l5 : isiB "list" .non = false := by simp [isiB, tyName]
@[simp] theorem i_s1 (xs : List D) : isiB "str" (.tup xs) = false := by simp [isiB, tyName]
@[simp] theorem i_s2 (xs : List D) : isiB "str" (.lst xs) = false := by simp [isiB, tyName]
@[simp] theorem i_s3 (xs : Int) : isiB "str" (.int xs) = false := by simp [isiB, tyName]
@[simp] theorem i_s4 (xs : Str) : isiB "str" (.str xs) = true := by simp [isiB, tyName]
@[simp] theorem i_s5 : isiB "str" .non = false := by simp [isiB, tyName]
@[simp] theorem i_i1 (xs : List D) : isiB "int" (.tup xs) = false := by simp [isiB, tyName]
@[simp] theorem i_i3 (xs : Int) : isiB "int" (.int xs) = true := by simp [isiB, tyName]
@[simp] theorem i_i4 (xs : Str) : isiB "int" (.str xs) = false := by simp [isiB, tyName]
@[simp] theorem i_i5 : isiB "int" .non = false := by simp [isiB, tyName]
@[simp] theorem i_b3 (xs : Int) : isiB "bool" (.int xs) = false := by simp [isiB, tyName]
@[simp] theorem i_d1 (es : List (L2.Key × D)) : isiB "dict" (.dic es) = true := by simp [isiB, tyName]
@[simp] theorem m_eqB (a b : Bool) : eqD (.bl a) (.bl b) = .ok (.bl (a == b)) := Eq.trans rfl rfl
theorem all_true (xs : List D) : allD [.lst (xs.map fun _ => .bl true)] = .ok (.bl true) := by
  have h : blsD (xs.map fun _ => D.bl true) = some (xs.map fun _ => true) := by
    induction xs with
    | nil => rfl
    | cons x xs ih =>
      show (blsD (xs.map fun _ => D.bl true)).map (true :: ·) = _
      rw [ih]
      rfl
  show (match blsD (xs.map fun _ => D.bl true) with
    | some bs => R.ok (D.bl (bs.all id))
    | none => .no) = _
  rw [h]
  simp
theorem val_at : ∀ {ts : List (Int × Thing)} {n : Int} {t : Thing}, (ts.map (·.1)).Nodup → (n, t) ∈ ts → valK (ts.map fun t => ((Sum.inl t.1 : L2.Key), encT t.2)) (.inl n) = some (encT t)
  | [], n, t, _, h => by simp at h
  | (m, u) :: ts, n, t, nd, h => by
    rw [List.map_cons, List.nodup_cons] at nd
    unfold valK
    rw [List.map_cons, List.find?_cons]
    rcases List.mem_cons.mp h with e | h
    · cases e
      simp
    · have ne : m ≠ n := fun e => nd.1 (by rw [e]; exact List.mem_map.mpr ⟨_, h, rfl⟩)
      have e : decide ((Sum.inl m : L2.Key) = Sum.inl n) = false := decide_eq_false fun q => ne (by injection q)
      simp only [e]
      exact val_at nd.2 h
@[simp] theorem m_walkL (xs : List D) : walkD (.lst xs) = .ok xs := Eq.trans rfl rfl
theorem sh_val (n : Nat) (v : Val) : sh (n + 1) (encV v) = true := by
  cases v with
  | num i => rfl
  | ref m => exact sh_tup.mpr ⟨by show 2 ≤ 1000000; decide, fun x hx => by
      rcases List.mem_cons.mp hx with rfl | hx
      · cases n <;> rfl
      · rw [List.mem_singleton.mp hx]; cases n <;> rfl⟩
theorem sh_vals {n : Nat} {vs : List Val} (h : vs.length ≤ 100000) : sh (n + 2) (.tup (vs.map encV)) = true := sh_tup.mpr ⟨by rw [List.length_map]; omega, fun x hx => by
  obtain ⟨v, _, rfl⟩ := List.mem_map.mp hx
  exact sh_val n v⟩
theorem sh_thing {t : Thing} {N : List Int} {b : Int} (h : okT N b t) : sh 6 (encT t) = true := by
  cases t with
  | box v => exact sh_tup.mpr ⟨by show 2 ≤ 1000000; decide, fun x hx => by
      rcases List.mem_cons.mp hx with rfl | hx
      · rfl
      · rw [List.mem_singleton.mp hx]; exact sh_val 4 v⟩
  | fn b vs => exact sh_tup.mpr ⟨by show 3 ≤ 1000000; decide, fun x hx => by
      rcases List.mem_cons.mp hx with rfl | hx
      · rfl
      rcases List.mem_cons.mp hx with rfl | hx
      · rfl
      · rw [List.mem_singleton.mp hx]; exact sh_vals (n := 3) (by have := h.2.2.1; omega)⟩
theorem sh_frame {n : Nat} {f : Frm} (h1 : f.own.length ≤ 100000) (h2 : f.stack.length ≤ 100000) : sh (n + 3) (encF f) = true := sh_tup.mpr ⟨by show 4 ≤ 1000000; decide, fun x hx => by
  rcases List.mem_cons.mp hx with rfl | hx
  · rfl
  rcases List.mem_cons.mp hx with rfl | hx
  · rfl
  rcases List.mem_cons.mp hx with rfl | hx
  · exact sh_vals (n := n) h1
  · rw [List.mem_singleton.mp hx]; exact sh_vals (n := n) h2⟩
theorem sh_frames {fs : List Frm} (h : fs.length ≤ 100000) (h1 : ∀ f ∈ fs, f.own.length ≤ 100000 ∧ f.stack.length ≤ 100000) : sh 6 (.lst (fs.map encF)) = true := sh_lst.mpr ⟨by rw [List.length_map]; omega, fun x hx => by
  obtain ⟨f, hf, rfl⟩ := List.mem_map.mp hx
  exact sh_frame (n := 2) (h1 f hf).1 (h1 f hf).2⟩
@[simp] theorem m_xPure (f : Env → R D) (ρ : Env) : xPure f ρ = (f ρ >>= fun d => .ok (d, ρ)) := Eq.trans rfl rfl
@[simp] theorem m_xaNil (ρ : Env) : xaNil ρ = .ok ([], ρ) := Eq.trans rfl rfl
@[simp] theorem m_xaCons (f : Env → R (D × Env)) (g : Env → R (List D × Env)) (ρ : Env) : xaCons f g ρ = (f ρ >>= fun p => g p.2 >>= fun q => .ok (p.1 :: q.1, q.2)) := Eq.trans rfl rfl
def xvB (i : Nat) (q : List D × Env) : Option (Option D) → R (List D × Env)
  | some (some d) => .ok (d :: q.1, q.2)
  | _ => .no
def xvA (i : Nat) (g : R (List D × Env)) : Option (Option D) → R (List D × Env)
  | some (some _) => g >>= fun q => xvB i q q.2[i]?
  | _ => .no
@[simp] theorem m_xaVar (i : Nat) (g : Env → R (List D × Env)) (ρ : Env) : xaVar i g ρ = xvA i (g ρ) ρ[i]? := by
  unfold xaVar
  cases ρ[i]? with
  | none => rfl
  | some o => cases o with
    | none => rfl
    | some d =>
      show (g ρ >>= _) = (g ρ >>= _)
      congr 1
@[simp] theorem m_xvA (i : Nat) (g : R (List D × Env)) (d : D) : xvA i g (some (some d)) = (g >>= fun q => xvB i q q.2[i]?) := Eq.trans rfl rfl
@[simp] theorem m_xvB (i : Nat) (q : List D × Env) (d : D) : xvB i q (some (some d)) = .ok (d :: q.1, q.2) := Eq.trans rfl rfl
@[simp] theorem m_xCall (g : List D → R (D × List D)) (I : List Nat) (fas : Env → R (List D × Env)) (ρ : Env) : xCall g I fas ρ = (fas ρ >>= fun p => g p.1 >>= fun q => if q.2.length = I.length then .ok (q.1, putL p.2 I q.2) else .no) := Eq.trans rfl rfl
@[simp] theorem m_putL (ρ : Env) (i : Nat) (d : D) : putL ρ [i] [d] = ρ.set i (some d) := Eq.trans rfl rfl
@[simp] theorem m_asgX (i : Nat) (f : Env → R (D × Env)) (ρ : Env) : sAsgX i f ρ = (f ρ >>= fun q => .ok (.nx (q.2.set i (some q.1)))) := Eq.trans rfl rfl
@[simp] theorem m_noE {α : Type} (a : α) : noExc (R.ok a) = .ok a := Eq.trans rfl rfl
@[simp] theorem m_appP (i : Nat) (o : O) (π : List Nat) (fe : Env → R D) (ρ : Env) : sAppP i o π fe ρ = (noExc (fe ρ) >>= fun y => sAtP i o π (appD y) ρ) := Eq.trans rfl rfl
@[simp] theorem m_putP (i : Nat) (o : O) (π : List Nat) (fk fe : Env → R D) (ρ : Env) : sPutP i o π fk fe ρ = (noExc (fe ρ) >>= fun y => noExc (fk ρ) >>= fun k => sAtP i o π (storeK k y) ρ) := Eq.trans rfl rfl
theorem m_atP {i : Nat} {o : O} {π : List Nat} {g : D → R D} {ρ : Env} {d e e' : D} (h : ρ[i]? = some (some d)) (h2 : atP o d π = some (.own .fz, e)) (h3 : g e = .ok e') : sAtP i o π g ρ = .ok (.nx (ρ.set i (some (setP d π e')))) := by
  unfold sAtP
  rw [h]
  show (match atP o d π with
    | some (.own .fz, e) => g e >>= fun e' => R.ok (Fl.nx (ρ.set i (some (setP d π e'))))
    | _ => R.no) = _
  rw [h2]
  show (g e >>= _) = _
  rw [h3, ok_bind]
theorem pls_of {n : Nat} {xs : List D} (h : ∀ x ∈ xs, pl n x = true) : pls n xs = true := by
  induction xs with
  | nil => cases n <;> rfl
  | cons x xs ih =>
    rw [pls, Bool.and_eq_true]
    exact ⟨h x List.mem_cons_self, ih fun y hy => h y (List.mem_cons_of_mem _ hy)⟩
theorem nb_val (v : Val) : noBox (encV v) = true := by cases v <;> rfl
theorem nbs_vals : ∀ vs : List Val, noBoxs (vs.map encV) = true
  | [] => rfl
  | v :: vs => by
    show (noBox (encV v) && noBoxs (vs.map encV)) = true
    rw [nb_val, nbs_vals]
    rfl
theorem nb_frm (f : Frm) : noBox (encF f) = true := by
  show (true && (true && (noBoxs (f.own.map encV) && (noBoxs (f.stack.map encV) && true)))) = true
  rw [nbs_vals, nbs_vals]
  rfl
theorem nb_thing (t : Thing) : noBox (encT t) = true := by
  cases t with
  | box v =>
    show (true && (noBox (encV v) && true)) = true
    rw [nb_val]
    rfl
  | fn b vs =>
    show (true && (true && (noBoxs (vs.map encV) && true))) = true
    rw [nbs_vals]
    rfl
theorem chk_state (fs : List Frm) (ts : List (Int × Thing)) : chk (.tup [.fz, .own .fz, .own .fz]) (.tup [.non, .lst (fs.map encF), encTs ts]) = true := by
  show (true && ((fs.map encF).all (chk .fz) && (((ts.map fun t => ((Sum.inl t.1 : L2.Key), encT t.2)).all fun kv => noBox kv.2) && true))) = true
  have a : (fs.map encF).all (chk .fz) = true := List.all_eq_true.mpr fun x hx => by
    obtain ⟨f, _, rfl⟩ := List.mem_map.mp hx
    exact nb_frm f
  have b : ((ts.map fun t => ((Sum.inl t.1 : L2.Key), encT t.2)).all fun kv => noBox kv.2) = true := List.all_eq_true.mpr fun x hx => by
    obtain ⟨t, _, rfl⟩ := List.mem_map.mp hx
    exact nb_thing t.2
  rw [a, b]
  rfl
theorem put_len (body : List Row) (pl : Int) (r : Row) (x : Row) (h : x ∈ putRow body pl r) : x = r ∨ x ∈ body := by
  unfold putRow at h
  rcases List.mem_append.mp h with h | h
  · rcases List.mem_append.mp h with h | h
    · exact .inr (List.mem_of_mem_take h)
    · exact .inl (List.mem_singleton.mp h)
  · exact .inr (List.mem_of_mem_drop h)
theorem put_at (body : List Row) (pl : Int) (r : Row) (h0 : 0 ≤ pl) (h1 : pl ≤ body.length) : (putRow body pl r)[pl.toNat]? = some r := by
  unfold putRow
  have e : (body.take pl.toNat).length = pl.toNat := by
    rw [List.length_take]
    omega
  rw [List.getElem?_append_left (by rw [List.length_append, e]; simp), List.getElem?_append_right (by omega), e, Nat.sub_self]
  rfl
theorem pl_row {ws : List Str} (hw : ∀ w ∈ ws, PyData.strOk w = true) {b z : Int} {r : Row} (h : okR ws b z r) : pl 2 (encR r) = true := by
  cases r with
  | plain w => exact pls_of fun x hx => by rw [List.mem_singleton.mp hx]; exact hw w h.1
  | num i =>
    exact pls_of fun x hx => by
      rcases List.mem_cons.mp hx with rfl | hx
      · exact hw _ h.1
      · rw [List.mem_singleton.mp hx]; rfl
  | get i =>
    exact pls_of fun x hx => by
      rcases List.mem_cons.mp hx with rfl | hx
      · exact hw _ h.1
      · rw [List.mem_singleton.mp hx]; rfl
  | fn b ks =>
    exact pls_of fun x hx => by
      rcases List.mem_cons.mp hx with rfl | hx
      · exact hw _ h.1
      rcases List.mem_cons.mp hx with rfl | hx
      · rfl
      · rw [List.mem_singleton.mp hx]
        exact pls_of fun x hx => by
          obtain ⟨k, _, rfl⟩ := List.mem_map.mp hx
          rfl
  | jump i =>
    exact pls_of fun x hx => by
      rcases List.mem_cons.mp hx with rfl | hx
      · exact hw _ h.1
      · rw [List.mem_singleton.mp hx]; rfl
  | «unless» i =>
    exact pls_of fun x hx => by
      rcases List.mem_cons.mp hx with rfl | hx
      · exact hw _ h.1
      · rw [List.mem_singleton.mp hx]; rfl
theorem pl_progR {ws : List Str} (hw : ∀ w ∈ ws, PyData.strOk w = true) {p : Prog} (h : ∀ b ∈ p, ∀ r ∈ b, ∃ n z, okR ws n z r) : pl 4 (encPR p) = true := by
  rw [enc_pr]
  refine pls_of fun x hx => ?_
  obtain ⟨b, hb, rfl⟩ := List.mem_map.mp hx
  refine pls_of fun y hy => ?_
  obtain ⟨r, hr, rfl⟩ := List.mem_map.mp hy
  obtain ⟨n, z, q⟩ := h b hb r hr
  exact pl_row hw q
/-! ### a step, from what its parts give (any row) -/
theorem at_zero {α : Type} (x : α) (l : List α) : atI (x :: l) 0 = some x := by
  rw [atI_pos (by decide) (by rw [List.length_cons]; omega)]
  rfl
theorem enc_frm (f : Frm) : encF f = .tup [.int f.body, .int f.place, .tup (f.own.map encV), .tup (f.stack.map encV)] := rfl
theorem nb_str (s : Str) : noBox (.str s) = true := rfl
/-! ### numbers of things: the next one -/
theorem fold_next (ns : List Int) : ∀ n : Int, ns.foldl (fun a y => if a < y then y else a) n + 1 = ns.foldl (fun a y => if y + 1 > a then y + 1 else a) (n + 1) := by
  induction ns with
  | nil => intro n; rfl
  | cons m ns ih =>
    intro n
    rw [List.foldl_cons, List.foldl_cons, ih]
    congr 1
    by_cases h : n < m
    · rw [if_pos h, if_pos (by omega)]
    · rw [if_neg h, if_neg (by omega)]
def nextN (ns : List Int) : Int := maxZ ns (-1) + 1
theorem next_fold {ns : List Int} (h : ∀ n ∈ ns, 0 ≤ n) : ns.foldl (fun a y => if y + 1 > a then y + 1 else a) 0 = nextN ns := by
  unfold nextN
  cases ns with
  | nil => rfl
  | cons n ns =>
    show _ = ns.foldl (fun a y => if a < y then y else a) n + 1
    rw [fold_next, List.foldl_cons, if_pos (by have := h n (by simp); omega)]
theorem fold_ge (ns : List Int) : ∀ n : Int, n ≤ ns.foldl (fun a y => if a < y then y else a) n ∧ ∀ m ∈ ns, m ≤ ns.foldl (fun a y => if a < y then y else a) n := by
  induction ns with
  | nil => intro n; exact ⟨Int.le_refl _, fun _ h => by simp at h⟩
  | cons k ns ih =>
    intro n
    rw [List.foldl_cons]
    obtain ⟨h1, h2⟩ := ih (if n < k then k else n)
    have g : n ≤ (if n < k then k else n) ∧ k ≤ (if n < k then k else n) := by split <;> omega
    generalize (if n < k then k else n) = z at h1 h2 g ⊢
    refine ⟨by omega, fun m hm => ?_⟩
    rcases List.mem_cons.mp hm with rfl | hm
    · omega
    · exact h2 m hm
theorem next_new (ns : List Int) : nextN ns ∉ ns := by
  intro h
  unfold nextN at h
  cases ns with
  | nil => simp at h
  | cons n ns =>
    obtain ⟨h1, h2⟩ := fold_ge ns n
    have e : maxZ (n :: ns) (-1) = ns.foldl (fun a y => if a < y then y else a) n := rfl
    rw [e] at h
    rcases List.mem_cons.mp h with h | h
    · omega
    · have := h2 _ h
      omega
theorem ints_of (ns : List Int) : intsD (ns.map D.int) = some ns := by
  induction ns with
  | nil => rfl
  | cons n ns ih =>
    show (intsD (ns.map D.int)).map (n :: ·) = _
    rw [ih]
    rfl
theorem maxDf_ok (ns : List Int) (d : Int) : maxDf (.lst (ns.map D.int)) (.int d) = .ok (.int (maxZ ns d)) := by
  show (match intsD (ns.map D.int) with
    | some ns => R.ok (D.int (maxZ ns d))
    | none => .no) = _
  rw [ints_of]
/-! ### k03: boxes -/
theorem pl_val (v : Val) : pl 2 (encV v) = true := by
  cases v with
  | num i => rfl
  | ref n => show (PyData.strOk w_at && (true && true)) = true; decide +kernel
theorem pl_vals (vs : List Val) : pl 3 (.tup (vs.map encV)) = true := pls_of fun x hx => by
  obtain ⟨v, _, rfl⟩ := List.mem_map.mp hx
  exact pl_val v
theorem eq_nilT (vs : List Val) : eqD (.tup (vs.map encV)) (.tup []) = .ok (.bl (decide (vs = []))) := by
  refine Eq.trans (if_pos (by rw [shaped_pl (pl_vals vs) (by decide)]; rfl)) ?_
  cases vs <;> rfl
def orF (b : Bool) : D → R D
  | .bl x => .ok (.bl (b || x))
  | d => .ok d
@[simp] theorem m_orF (b x : Bool) : orF b (.bl x) = .ok (.bl (b || x)) := Eq.trans rfl rfl
@[simp] theorem m_in0 (a : Str) : inD (.str a) (.tup []) = .ok (.bl false) := Eq.trans rfl rfl
@[simp] theorem m_in1 (a b : Str) (r : List D) : inD (.str a) (.tup (.str b :: r)) = (inD (.str a) (.tup r) >>= orF (decide (a = b))) := by
  show (if (flatD (.str a) && (D.str b :: r).all flatD) = true then R.ok (D.bl (inV (toV (.str a)) ((D.str b :: r).map toV))) else .no) = ((if (flatD (.str a) && r.all flatD) = true then R.ok (D.bl (inV (toV (.str a)) (r.map toV))) else .no) >>= orF (decide (a = b)))
  have e : (flatD (.str a) && (D.str b :: r).all flatD) = (flatD (.str a) && r.all flatD) := by simp [flatD]
  rw [e]
  split
  · rw [ok_bind]
    have h : inV (toV (.str a)) ((D.str b :: r).map toV) = (decide (a = b) || inV (toV (.str a)) (r.map toV)) := by
      show ((b == a) || _) = _
      congr 1
      by_cases q : a = b
      · subst q; simp
      · rw [decide_eq_false q]
        exact beq_false_of_ne (Ne.symm q)
    rw [h]
    rfl
  · rfl
@[simp] theorem m_notIn (d e : D) : notInD d e = (inD d e >>= notD) := Eq.trans rfl rfl
@[simp] theorem i_nV (i : Int) : encV (.num i) = .int i := rfl
@[simp] theorem i_rV (i : Int) : encV (.ref i) = .tup [.str w_at, .int i] := rfl
theorem last_at (st : List Val) (v : Val) : atI ((st ++ [v]).map encV) (-1) = some (encV v) := by
  rw [at_last]
  simp
theorem cut_last (st : List Val) (v : Val) : cut ((st ++ [v]).map encV) none (some (-1)) = st.map encV := by
  rw [cut_neg _ _ (by decide), ← List.map_take]
  congr 1
  rw [List.take_left' (by simp; omega)]
theorem cut_one (st : List Val) (v : Val) : cut ((st ++ [v]).map encV) none (some ((((st ++ [v]).map encV).length : Int) - 1)) = st.map encV := by
  rw [cut_to _ _ (by simp), ← List.map_take]
  congr 1
  rw [List.take_left' (by simp)]
theorem frames_cut (fs : List Frm) (f : Frm) : cut ((fs ++ [f]).map encF) none (some (-1)) = fs.map encF := by
  rw [cut_neg _ _ (by decide), ← List.map_take]
  congr 1
  rw [List.take_left' (by simp; omega)]
theorem frames_cat (fs : List Frm) (g : Frm) (h : fs.length ≤ 100) : addD (.lst (fs.map encF)) (.lst [.tup [.int g.body, .int g.place, .tup (g.own.map encV), .tup (g.stack.map encV)]]) = .ok (.lst ((fs ++ [g]).map encF)) := by
  rw [m_catL _ _ (by simp [most]; omega)]
  simp [encF]
theorem vals_cat (st : List Val) (v : Val) (h : st.length ≤ 100) : addD (.tup (st.map encV)) (.tup [encV v]) = .ok (.tup ((st ++ [v]).map encV)) := by
  rw [m_catT _ _ (by simp [most]; omega)]
  simp
theorem own_at (O : List Val) (k : Int) (h0 : 0 ≤ k) (h1 : k < O.length) : atI (O.map encV) k = some (encV (O.getD k.toNat (.num 0))) := by
  rw [atI_pos h0 (by rw [List.length_map]; exact h1), List.getElem?_map, List.getD_eq_getElem?_getD, List.getElem?_eq_getElem (by omega)]
  rfl
theorem at_thing {ts : List (Int × Thing)} {n : Int} {t : Thing} (nd : (ts.map (·.1)).Nodup) (h : (n, t) ∈ ts) : ixD (encTs ts) (.int n) = .ok (encT t) := by
  show (match valK (ts.map fun t => ((Sum.inl t.1 : L2.Key), encT t.2)) (.inl n) with
    | some d => R.ok d
    | none => .no) = _
  rw [val_at nd h]
theorem head_thing (t : Thing) : ixD (encT t) (.int 0) = .ok (.str (match t with | .box _ => w_box | .fn _ _ => w_fun)) := by
  cases t with
  | box v => simp [encT]
  | fn b vs => simp [encT, at_zero]
@[simp] theorem m_asgT (is M : List Nat) (f : Env → R D) (ρ : Env) : sAsgT is M f ρ = (f ρ >>= fun d => setT is d (hideE ρ M) >>= fun ρ' => .ok (.nx ρ')) := Eq.trans rfl rfl
@[simp] theorem m_setT2 (i j : Nat) (a b : D) (ρ : Env) : setT [i, j] (.tup [a, b]) ρ = .ok ((ρ.set i (some a)).set j (some b)) := Eq.trans rfl rfl
theorem keys_of (ts : List (Int × Thing)) : listD [encTs ts] = .ok (.lst ((ts.map (·.1)).map D.int)) := by
  show R.ok (D.lst ((ts.map fun t => ((Sum.inl t.1 : L2.Key), encT t.2)).map fun kv => dKey kv.1)) = _
  rw [List.map_map, List.map_map]
  rfl
theorem dict_of (ts : List (Int × Thing)) : dictD [encTs ts] = .ok (encTs ts) := m_dictD _
theorem nil_or (st : List Val) : st = [] ∨ ∃ s v, st = s ++ [v] := by
  rcases List.eq_nil_or_concat st with h | ⟨s, v, h⟩
  · exact .inl h
  · exact .inr ⟨s, v, by rw [h]; simp⟩
def putT (ts : List (Int × Thing)) (n : Int) (t : Thing) : List (Int × Thing) := ts.map fun q => if q.1 = n then (n, t) else q
theorem putT_keys (ts : List (Int × Thing)) (n : Int) (t : Thing) : (putT ts n t).map (·.1) = ts.map (·.1) := by
  unfold putT
  rw [List.map_map]
  refine List.map_congr_left fun q _ => ?_
  show (if q.1 = n then (n, t) else q).1 = q.1
  split
  · rename_i h; exact h.symm
  · rfl
theorem put_old {ts : List (Int × Thing)} {n : Int} {t : Thing} (h : n ∈ ts.map (·.1)) : putD (ts.map fun t => ((Sum.inl t.1 : L2.Key), encT t.2)) (.inl n) (encT t) = ((putT ts n t).map fun t => ((Sum.inl t.1 : L2.Key), encT t.2)) := by
  unfold putD putT
  have e : ((ts.map fun t => ((Sum.inl t.1 : L2.Key), encT t.2)).any fun kv => decide (kv.1 = Sum.inl n)) = true := by
    obtain ⟨q, h1, h2⟩ := List.mem_map.mp h
    rw [List.any_map]
    exact List.any_eq_true.mpr ⟨q, h1, decide_eq_true (by show (Sum.inl q.1 : L2.Key) = Sum.inl n; rw [h2])⟩
  rw [if_pos e, List.map_map, List.map_map]
  refine List.map_congr_left fun q _ => ?_
  show (if (Sum.inl q.1 : L2.Key) = Sum.inl n then ((Sum.inl q.1 : L2.Key), encT t) else (Sum.inl q.1, encT q.2)) = (Sum.inl (if q.1 = n then (n, t) else q).1, encT (if q.1 = n then (n, t) else q).2)
  by_cases h : q.1 = n
  · rw [if_pos h, if_pos (by rw [h]), h]
  · rw [if_neg h, if_neg (fun z => h (by injection z))]
end Dn

namespace Dn
open PySem L2
/-- a comprehension that leaves some out -/
theorem lcD_filter {α : Type} {enc : α → D} {p : α → Bool} {g : α → D} {fc : Env → R Bool} {fe : Env → R D} {ρ : Env} {i : Nat} : ∀ {xs : List α}, (∀ x ∈ xs, fc (ρ.set i (some (enc x))) = .ok (p x)) → (∀ x ∈ xs, p x = true → fe (ρ.set i (some (enc x))) = .ok (g x)) → lcD (setN i) fc fe ρ (xs.map enc) = .ok ((xs.filter p).map g)
  | [], _, _ => rfl
  | x :: xs, h, h' => by
    show (fc (ρ.set i (some (enc x))) >>= fun b => if b = true then fe (ρ.set i (some (enc x))) >>= fun d => lcD (setN i) fc fe ρ (xs.map enc) >>= fun ds => R.ok (d :: ds) else lcD (setN i) fc fe ρ (xs.map enc)) = _
    have ih := lcD_filter (xs := xs) (fun y hy => h y (List.mem_cons_of_mem _ hy)) (fun y hy => h' y (List.mem_cons_of_mem _ hy))
    rw [h x List.mem_cons_self, ok_bind]
    cases q : p x with
    | true =>
      rw [if_pos rfl, h' x List.mem_cons_self q, ok_bind, ih, ok_bind, List.filter_cons_of_pos q]
      rfl
    | false => rw [if_neg (by simp), ih, List.filter_cons_of_neg (by simp [q])]
theorem eLc_filter {α : Type} {enc : α → D} {p : α → Bool} {g : α → D} {fi : Env → R (List D)} {vs : List Nat} {i : Nat} {fc : Env → R Bool} {fe : Env → R D} {ρ : Env} {xs : List α} (h : fi ρ = .ok (xs.map enc)) (hn : xs.length ≤ 1000000)
    (hc : ∀ x ∈ xs, fc ((wipeE ρ vs).set i (some (enc x))) = .ok (p x)) (he : ∀ x ∈ xs, p x = true → fe ((wipeE ρ vs).set i (some (enc x))) = .ok (g x)) : eLc fi vs (setN i) fc fe ρ = .ok (.lst ((xs.filter p).map g)) := by
  rw [eLc_eq h (by simpa using hn), lcD_filter hc he, ok_bind]
theorem eq_nilI (N : List Int) : eqD (.lst (N.map .int)) (.lst []) = .ok (.bl (decide (N = []))) := by
  have h : pl 1 (.lst (N.map D.int)) = true := by
    show pls 0 _ = true
    induction N with
    | nil => rfl
    | cons n N ih => simpa [pls, pl] using ih
  refine Eq.trans (if_pos (by rw [shaped_pl h (by decide)]; rfl)) ?_
  cases N <;> rfl
@[simp] theorem m_index (fa fe : Env → R D) (ρ : Env) : eIndex fa fe ρ = (fa ρ >>= fun d => match d with
  | .lst ds => fe ρ >>= indexD (.lst ds)
  | _ => .no) := Eq.trans rfl rfl
/-- the law's own count of the next number: the loop's slots i, i+1 -/
theorem count_gen {ns : List Int} {i j : Nat} (hij : i ≠ j) : ∀ (z : Int) (ρ : Env), i < ρ.length → j < ρ.length → ρ[i]? = some (some (.int z)) → ∃ y', forD (setN j) (sAsg i [] (eCall max2D (aCons (eVar i) (aCons (eOp addD (eVar j) (eC (.int 1))) aNil)))) (ns.map D.int) ρ =
    .ok (.nx ((ρ.set j y').set i (some (.int (ns.foldl (fun a y => if y + 1 > a then y + 1 else a) z))))) := by
  induction ns with
  | nil =>
    intro z ρ hi hj h
    refine ⟨ρ[j], ?_⟩
    show R.ok (Fl.nx ρ) = _
    have e1 : ρ.set j ρ[j] = ρ := List.set_getElem_self hj
    rw [e1]
    have e2 : ρ.set i (some (.int z)) = ρ := list_set_self h
    exact congrArg (fun x => R.ok (Fl.nx x)) e2.symm
  | cons n ns ih =>
    intro z ρ hi hj h
    obtain ⟨y', e⟩ := ih (if n + 1 > z then n + 1 else z) ((ρ.set j (some (.int n))).set i (some (.int (if n + 1 > z then n + 1 else z)))) (by simpa using hi) (by simpa using hj) (by rw [List.getElem?_set_self (by simpa using hi)])
    refine ⟨y', ?_⟩
    rw [List.foldl_cons]
    have e3 : ((((ρ.set j (some (.int n))).set i (some (.int (if n + 1 > z then n + 1 else z)))).set j y').set i (some (.int (ns.foldl (fun a y => if y + 1 > a then y + 1 else a) (if n + 1 > z then n + 1 else z))))) = ((ρ.set j y').set i (some (.int (ns.foldl (fun a y => if y + 1 > a then y + 1 else a) (if n + 1 > z then n + 1 else z))))) := by
      generalize (some (D.int (if n + 1 > z then n + 1 else z)) : Option D) = a
      generalize (some (D.int (ns.foldl (fun a y => if y + 1 > a then y + 1 else a) (if n + 1 > z then n + 1 else z))) : Option D) = b
      rw [List.set_comm _ _ hij, List.set_set, List.set_set]
    rw [e3] at e
    rw [← e]
    have g1 : (ρ.set j (some (.int n)))[i]? = some (some (.int z)) := by rw [List.getElem?_set_ne (Ne.symm hij)]; exact h
    have g2 : (ρ.set j (some (.int n)))[j]? = some (some (.int n)) := List.getElem?_set_self hj
    show (setN j (.int n) ρ >>= fun ρ1 => _) = _
    simp [g1, g2]
/-- a loop over typed items, its invariant told by what is reckoned so far -/
theorem forD_fold {α β : Type} {enc : α → D} {set : D → Env → R Env} {body : Env → R Fl} (I : β → Env → Prop) (step : β → α → β) : ∀ {xs : List α} {b : β} {ρ : Env}, I b ρ → (∀ b x ρ, x ∈ xs → I b ρ → ∃ ρ1 ρ2, set (enc x) ρ = .ok ρ1 ∧ body ρ1 = .ok (.nx ρ2) ∧ I (step b x) ρ2) → ∃ ρ', forD set body (xs.map enc) ρ = .ok (.nx ρ') ∧ I (xs.foldl step b) ρ'
  | [], b, ρ, h, _ => ⟨ρ, rfl, h⟩
  | x :: xs, b, ρ, h, st => by
    obtain ⟨ρ1, ρ2, h1, h2, h3⟩ := st b x ρ List.mem_cons_self h
    obtain ⟨ρ', h4, h5⟩ := forD_fold I step (xs := xs) h3 fun b y ρ hy => st b y ρ (List.mem_cons_of_mem _ hy)
    refine ⟨ρ', ?_, h5⟩
    show (set (enc x) ρ >>= fun ρ1 => body ρ1 >>= fun fl => _) = _
    rw [h1, ok_bind, h2, ok_bind]
    exact h4
/-- .. where the state of the loop is bounded -/
theorem forD_foldP {α β : Type} {enc : α → D} {set : D → Env → R Env} {body : Env → R Fl} (I : List α → β → Env → Prop) (step : β → α → β) : ∀ {xs : List α} {b : β} {ρ : Env}, I xs b ρ → (∀ x xs b ρ, I (x :: xs) b ρ → ∃ ρ1 ρ2, set (enc x) ρ = .ok ρ1 ∧ body ρ1 = .ok (.nx ρ2) ∧ I xs (step b x) ρ2) → ∃ ρ', forD set body (xs.map enc) ρ = .ok (.nx ρ') ∧ I [] (xs.foldl step b) ρ'
  | [], b, ρ, h, _ => ⟨ρ, rfl, h⟩
  | x :: xs, b, ρ, h, st => by
    obtain ⟨ρ1, ρ2, h1, h2, h3⟩ := st x xs b ρ h
    obtain ⟨ρ', h4, h5⟩ := forD_foldP I step (xs := xs) h3 st
    refine ⟨ρ', ?_, h5⟩
    show (set (enc x) ρ >>= fun ρ1 => body ρ1 >>= fun fl => _) = _
    rw [h1, ok_bind, h2, ok_bind]
    exact h4
@[simp] theorem m_while (n : Nat) (c : Env → R Bool) (body : Env → R Fl) (ρ : Env) : sWhile n c body ρ = whileD c body n ρ := Eq.trans rfl rfl
theorem while_go {c : Env → R Bool} {body : Env → R Fl} {n : Nat} {ρ ρ1 : Env} (h1 : c ρ = .ok true) (h2 : body ρ = .ok (.nx ρ1)) : whileD c body (n + 1) ρ = whileD c body n ρ1 := by
  show (c ρ >>= fun b => if b = true then body ρ >>= fun fl => (match fl with
    | .nx ρ' => whileD c body n ρ'
    | .rt d ρ' => .ok (.rt d ρ')) else .ok (.nx ρ)) = _
  rw [h1, ok_bind, if_pos rfl, h2, ok_bind]
theorem while_end {c : Env → R Bool} {body : Env → R Fl} {n : Nat} {ρ : Env} (h1 : c ρ = .ok false) : whileD c body (n + 1) ρ = .ok (.nx ρ) := by
  show (c ρ >>= fun b => if b = true then body ρ >>= fun fl => (match fl with
    | .nx ρ' => whileD c body n ρ'
    | .rt d ρ' => .ok (.rt d ρ')) else .ok (.nx ρ)) = _
  rw [h1, ok_bind, if_neg (by simp)]
theorem in_ints (n : Int) (N : List Int) : inD (.int n) (.lst (N.map .int)) = .ok (.bl (decide (n ∈ N))) := by
  have h : (flatD (.int n) && (N.map D.int).all flatD) = true := by simp [flatD]
  refine Eq.trans (if_pos h) ?_
  have e : inV (toV (.int n)) ((N.map D.int).map toV) = decide (n ∈ N) := by
    clear h
    induction N with
    | nil => rfl
    | cons m N ih =>
      have ih' : inV (toV (.int n)) ((N.map D.int).map toV) = decide (n ∈ N) := ih
      show (eqV (.int m) (.int n) || inV (toV (.int n)) ((N.map D.int).map toV)) = _
      rw [ih']
      by_cases h : n = m
      · subst h; simp [eqV]
      · simp [eqV, h, Ne.symm h]
  rw [e]
end Dn

namespace Dn
open PySem L2
/-! ### rules for simp: expressions that change what names own -/
def popK (ρ : Env) (i : Nat) : Option (Option D) → R (D × Env)
  | some (some (.lst ds)) => (match ds.getLast? with
    | some d => .ok (d, ρ.set i (some (.lst ds.dropLast)))
    | none => .no)
  | _ => .no
@[simp] theorem m_xPop (i : Nat) (ρ : Env) : xPop i ρ = popK ρ i ρ[i]? := by
  unfold xPop
  cases ρ[i]? with
  | none => rfl
  | some o => cases o with
    | none => rfl
    | some d => cases d <;> rfl
theorem pop_snoc (ρ : Env) (i : Nat) (xs : List D) (x : D) : popK ρ i (some (some (.lst (xs ++ [x])))) = .ok (x, ρ.set i (some (.lst xs))) := by
  unfold popK
  simp
@[simp] theorem m_xTup (fas : Env → R (List D × Env)) (ρ : Env) : xTup fas ρ = (fas ρ >>= fun q => .ok (.tup q.1, q.2)) := Eq.trans rfl rfl
@[simp] theorem m_retX (f : Env → R (D × Env)) (ρ : Env) : sRetX f ρ = (f ρ >>= fun q => .ok (.rt q.1 q.2)) := Eq.trans rfl rfl
def apxB (i : Nat) (q : D × Env) : Option (Option D) → R Fl
  | some (some (.lst ds)) => putE q.2 i (appD q.1 (.lst ds))
  | _ => .no
def apxA (i : Nat) (g : R (D × Env)) : Option (Option D) → R Fl
  | some (some (.lst _)) => g >>= fun q => apxB i q q.2[i]?
  | _ => .no
@[simp] theorem m_appX (i : Nat) (fe : Env → R (D × Env)) (ρ : Env) : sAppX i fe ρ = apxA i (fe ρ) ρ[i]? := by
  unfold sAppX
  have e : (fun q : D × Env => (match q.2[i]? with
    | some (some (.lst ds)) => putE q.2 i (appD q.1 (.lst ds))
    | _ => .no : R Fl)) = fun q => apxB i q q.2[i]? := by
    funext q
    cases q.2[i]? with
    | none => rfl
    | some o => cases o with
      | none => rfl
      | some d => cases d <;> rfl
  cases ρ[i]? with
  | none => rfl
  | some o => cases o with
    | none => rfl
    | some d => cases d <;> first | rfl | exact congrArg (fun k => fe ρ >>= k) e
@[simp] theorem m_apxA (i : Nat) (g : R (D × Env)) (ds : List D) : apxA i g (some (some (.lst ds))) = (g >>= fun q => apxB i q q.2[i]?) := Eq.trans rfl rfl
theorem m_apxB (i : Nat) (q : D × Env) (ds : List D) (h : ds.length < most) : apxB i q (some (some (.lst ds))) = .ok (.nx (q.2.set i (some (.lst (ds ++ [q.1]))))) := by
  show putE q.2 i (if ds.length < most then _ else _) = _
  rw [if_pos h]
  rfl
def ptxB (i : Nat) (fk : Env → R D) (q : D × Env) : Option (Option D) → R Fl
  | some (some d) => noExc (fk q.2) >>= fun k => putE q.2 i (storeD d k q.1)
  | _ => .no
@[simp] theorem m_putX (i : Nat) (fk : Env → R D) (fe : Env → R (D × Env)) (ρ : Env) : sPutX i fk fe ρ = (fe ρ >>= fun q => ptxB i fk q q.2[i]?) := by
  unfold sPutX
  congr 1
@[simp] theorem m_ptxB (i : Nat) (fk : Env → R D) (q : D × Env) (d : D) : ptxB i fk q (some (some d)) = (noExc (fk q.2) >>= fun k => putE q.2 i (storeD d k q.1)) := Eq.trans rfl rfl
@[simp] theorem m_forX (fe : Env → R (D × Env)) (set : D → Env → R Env) (body : Env → R Fl) (ρ : Env) : sForX fe set body ρ = (fe ρ >>= fun q => rng1 q.1 >>= fun xs => forD set body xs q.2) := Eq.trans rfl rfl
@[simp] theorem m_xCallD (g : List D → R D) (fas : Env → R (List D × Env)) (ρ : Env) : xCallD g fas ρ = (fas ρ >>= fun p => g p.1 >>= fun d => .ok (d, p.2)) := Eq.trans rfl rfl
@[simp] theorem m_putL2 (ρ : Env) (i j : Nat) (d e : D) : putL ρ [i, j] [d, e] = (ρ.set i (some d)).set j (some e) := Eq.trans rfl rfl
theorem m_leaveX2 (d : D) (ρ : Env) (i j : Nat) (e f : D) (h : ρ[i]? = some (some e)) (h2 : ρ[j]? = some (some f)) : leaveX [i, j] (.ok (.rt d ρ)) = .ok (d, [e, f]) := by
  show (match outs ρ [i, j] with
    | some ds => R.ok (d, ds)
    | none => .no) = _
  unfold outs
  rw [h]
  unfold outs
  rw [h2]
  rfl
theorem m_forK {i : Nat} {n : Int} {set : D → Env → R Env} {body : Env → R Fl} {ρ : Env} {ds : List D} {es : List (L2.Key × D)} (h : ρ[i]? = some (some (.tup ds))) (h2 : atI ds n = some (.dic es)) : sForK i n set body ρ = noExcF (forD set body (es.map fun kv : L2.Key × D => dKey kv.1) ρ) := by
  unfold sForK
  rw [h]
  show (match atI ds n with
    | some (.dic es) => noExcF (forD set body (es.map fun kv : L2.Key × D => dKey kv.1) ρ)
    | _ => .no) = _
  rw [h2]
@[simp] theorem m_noEF (fl : Fl) : noExcF (.ok fl) = .ok fl := Eq.trans rfl rfl
@[simp] theorem m_lenStr (z : Str) : lenD [.str z] = if z.length ≤ most then .ok (.int z.length) else .no := Eq.trans rfl rfl
end Dn

/-! Cells, words and rows, for the laws that make programs of pieces. -/
namespace Dn
open PySem L2
section
variable {ns : List Int} (hn : ns.length ≤ 63)
include hn
theorem cell_ok {k : Int} (hk : 0 ≤ k) : ∃ c, F__law_cell [.scr ns, .int k] = .ok (.int c) ∧ 0 ≤ c ∧ c < 1000003 := by
  have hm : ∀ x : Int, fits64 (x % 1000003) = true := fun x => m_fits _ (by omega) (by omega)
  by_cases h : 0 < ns.length
  · obtain ⟨z, hz⟩ := ix_scr (ns := ns) (Int.emod_nonneg k (by omega : (ns.length : Int) ≠ 0)) (Int.emod_lt_of_pos k (by omega))
    have h1 : (0 : Int) < ns.length := by omega
    have h2 : (ns.length : Int) < 1073741824 := by omega
    simp [F__law_cell, B__law_cell, hm, m_mul, m_mulL, m_fits, hz, h, h2]
    exact ⟨Int.emod_nonneg _ (by decide), Int.emod_lt_of_pos _ (by decide)⟩
  · have : ns.length = 0 := by omega
    simp [F__law_cell, B__law_cell, hm, m_mul, m_mulL, m_fits, this]
    exact ⟨Int.emod_nonneg _ (by decide), Int.emod_lt_of_pos _ (by decide)⟩
theorem raw_ok {k : Int} (hk : 0 ≤ k) : ∃ z, F__law_raw [.scr ns, .int k] = .ok (.int z) := by
  by_cases h : 0 < ns.length
  · obtain ⟨z, hz⟩ := ix_scr (ns := ns) (Int.emod_nonneg k (by omega : (ns.length : Int) ≠ 0)) (Int.emod_lt_of_pos k (by omega))
    have h1 : (0 : Int) < ns.length := by omega
    have h2 : (ns.length : Int) < 1073741824 := by omega
    have h3 : ¬ ns = [] := by intro q; simp [q] at h
    simp [F__law_raw, B__law_raw, m_mul, m_mulL, m_fits, hz, h, h2, h3]
  · have : ns.length = 0 := by omega
    have h3 : ns = [] := by simpa using this
    simp [F__law_raw, B__law_raw, m_mul, m_mulL, m_fits, this, h3]
end
section
variable {ns : List Int} (hn : ns.length ≤ 63)
include hn
theorem row_ok {ws : List Str} (hw : 0 < ws.length) (hw2 : ws.length ≤ 100) {k b z : Int} (hk : 0 ≤ k) (hb : 0 < b) (hz : 0 ≤ z) :
    ∃ r : Row, F__law_row [.scr ns, .int k, .lst (ws.map .str), .int b, .int z] = .ok (encR r) ∧ okR ws b z r := by
  obtain ⟨c, hc, h0, h1⟩ := cell_ok hn hk
  obtain ⟨y, hy⟩ := raw_ok hn hk
  have l0 : 0 ≤ c % (ws.length : Int) := Int.emod_nonneg _ (by omega)
  have l1 : c % (ws.length : Int) < ws.length := Int.emod_lt_of_pos _ (by omega)
  have l2 : (c % (ws.length : Int)).toNat < ws.length := by omega
  obtain ⟨w, hw3⟩ : ∃ w, w = ws[(c % (ws.length : Int)).toNat] := ⟨_, rfl⟩
  have mem : w ∈ ws := by rw [hw3]; exact List.getElem_mem l2
  have l3 : atI (ws.map D.str) (c % (ws.length : Int)) = some (.str w) := by
    rw [atI_pos l0 (by simpa using l1), List.getElem?_map, List.getElem?_eq_getElem l2, hw3]
    rfl
  have hw4 : (0 : Int) < ws.length := by omega
  have hw5 : (ws.length : Int) < 1073741824 := by omega
  have m0 : 0 ≤ c / (ws.length : Int) := Int.ediv_nonneg h0 (by omega)
  generalize hm : c / (ws.length : Int) = m at m0
  have key : ∀ far : Int, 0 < far → far ≤ 60 → ∃ ks : List Int, eLc (iRange1 (eOp modD (eVar 7) (eC (.int 9)))) [10] (setN 10) cYes (eOp modD (eCall (F__law_cell) (aCons (eVar 0) (aCons (eOp addD (eOp addD (eVar 1) (eC (.int 17))) (eVar 10)) aNil))) (eVar 8))
      [some (.scr ns), some (.int k), some (.lst (ws.map .str)), some (.int b), some (.int z), some (.int c), some (.str w), some (.int m), some (.int far), none, none] = .ok (.lst (ks.map .int)) ∧ ks.length ≤ 8 ∧ ∀ k ∈ ks, 0 ≤ k ∧ k < 60 := fun far f0 f1 => by
    obtain ⟨ks, q1, q2, q3⟩ := eLc_enc (enc := D.int) (P := fun k => 0 ≤ k ∧ k < 60) (fi := iRange1 (eOp modD (eVar 7) (eC (.int 9)))) (vs := [10]) (i := 10) (ρ := [some (.scr ns), some (.int k), some (.lst (ws.map .str)), some (.int b), some (.int z), some (.int c), some (.str w), some (.int m), some (.int far), none, none]) (xs := rangeD 0 (m % 9).toNat)
      (fe := eOp modD (eCall (F__law_cell) (aCons (eVar 0) (aCons (eOp addD (eOp addD (eVar 1) (eC (.int 17))) (eVar 10)) aNil))) (eVar 8)) (by simp [rng1_ok (by omega : 0 ≤ m % 9) (by omega)]) (by simp; omega) fun x hx => by
        obtain ⟨j, hj, rfl⟩ := mem_range.mp hx
        obtain ⟨d, hd, _, _⟩ := cell_ok hn (by omega : 0 ≤ k + 17 + (j : Int))
        have a := Int.emod_nonneg d (b := far) (by omega)
        have a2 := Int.emod_lt_of_pos d f0
        exact ⟨d % far, by simp [wipeE, hd, f0], a, by omega⟩
    exact ⟨ks, q1, by simp at q2; omega, q3⟩
  by_cases e1 : w = w_num
  · rw [e1] at l3 mem
    rcases (by omega : m / 19 % 2 = 0 ∨ m / 19 % 2 = 1) with e | e
    · refine ⟨.num (m % 19 - 9), ?_, mem, by omega, by omega⟩
      simp [F__law_row, B__law_row, encR, hc, hy, l3, hw, hw4, hw5, hm, e, m_mul, m_fits]
    · refine ⟨.num (y % 2000000000001 - 1000000000000), ?_, mem, by omega, by omega⟩
      simp [F__law_row, B__law_row, encR, hc, hy, l3, hw, hw4, hw5, hm, e, m_mul, m_fits]
  by_cases e2 : w = w_get
  · rw [e2] at l3 mem
    by_cases e : m / 300 % 8 = 1
    · refine ⟨.get (m / 5 % 60), ?_, mem, by omega, by omega⟩
      simp [F__law_row, B__law_row, encR, hc, hy, l3, hw, hw4, hw5, hm, e]
    · refine ⟨.get (m % 5), ?_, mem, by omega, by omega⟩
      simp [F__law_row, B__law_row, encR, hc, hy, l3, hw, hw4, hw5, hm, e]
  by_cases e3 : w = w_fun
  · have bb := Int.emod_nonneg (m / 144) (b := b) (by omega)
    have bb2 := Int.emod_lt_of_pos (m / 144) hb
    rw [e3] at l3 mem key
    by_cases e : m / 9 % 16 = 1
    · obtain ⟨ks, k1, k2, k3⟩ := key 60 (by decide) (by decide)
      refine ⟨.fn (m / 144 % b) ks, ?_, mem, bb, bb2, k2, k3⟩
      simp [F__law_row, B__law_row, encR, hc, hy, l3, hw, hw4, hw5, hm, e, hb, k1]
    · obtain ⟨ks, k1, k2, k3⟩ := key 5 (by decide) (by decide)
      refine ⟨.fn (m / 144 % b) ks, ?_, mem, bb, bb2, k2, k3⟩
      simp [F__law_row, B__law_row, encR, hc, hy, l3, hw, hw4, hw5, hm, e, hb, k1]
  have zz := Int.emod_nonneg m (b := z + 1) (by omega)
  have zz2 := Int.emod_lt_of_pos m (b := z + 1) (by omega)
  have zp : 0 < z + 1 := by omega
  by_cases e4 : w = w_jump
  · rw [e4] at l3 mem
    refine ⟨.jump (m % (z + 1)), ?_, mem, zz, by omega⟩
    simp [F__law_row, B__law_row, encR, hc, hy, l3, hw, hw4, hw5, hm, zp]
  by_cases e5 : w = w_unless
  · rw [e5] at l3 mem
    refine ⟨.unless (m % (z + 1)), ?_, mem, zz, by omega⟩
    simp [F__law_row, B__law_row, encR, hc, hy, l3, hw, hw4, hw5, hm, zp]
  · refine ⟨.plain w, ?_, mem, e1, e2, e3, e4, e5⟩
    simp [F__law_row, B__law_row, encR, hc, hy, l3, hw, hw4, hw5, hm, zp, e1, e2, e3, e4, e5]
end

def allW : List Str := [w_num, w_get, w_keep, w_drop, w_add, w_minus, w_times, w_less, w_same, w_box, w_open, w_fill, w_fun, w_call, w_back, w_jump, w_unless, w_say]
theorem words_ok : F__law_words [] = .ok (.lst (allW.map .str)) := by
  have c : addD (.lst [.str w_num, .str w_get, .str w_keep, .str w_drop, .str w_add, .str w_minus, .str w_times, .str w_less, .str w_same, .str w_box, .str w_open, .str w_fill, .str w_fun]) (.lst [.str w_call, .str w_back, .str w_jump, .str w_unless, .str w_say]) = .ok (.lst (allW.map .str)) := m_catL _ _ (by show 18 ≤ 16777216; decide)
  generalize allW.map D.str = W at *
  simp [F__law_words, B__law_words, c]
theorem strW {w : Str} (h : w ∈ allW) : PyData.strOk w = true := by
  simp only [allW, List.mem_cons, List.not_mem_nil, or_false] at h
  rcases h with rfl | rfl | rfl | rfl | rfl | rfl | rfl | rfl | rfl | rfl | rfl | rfl | rfl | rfl | rfl | rfl | rfl | rfl <;> decide +kernel
def prBody : Env → R Fl := (sSeq (sAsg 6 [] (eOp modD (eCall (F__law_cell) (aCons (eVar 0) (aCons (eOp addD (eC (.int 20)) (eVar 5)) aNil))) (eC (.int 7)))) (sSeq (sIf (tB' (eOp eqD (eOp modD (eOp divD (eCall (F__law_cell) (aCons (eVar 0) (aCons (eOp addD (eC (.int 20)) (eVar 5)) aNil))) (eC (.int 7))) (eC (.int 32))) (eC (.int 1)))) (sAsg 6 [] (eC (.int 60))) sNext) (sSeq (sAsg 7 [] (eLc (iRange1 (eVar 6)) [8] (setN 8) cYes (eCall (F__law_row) (aCons (eVar 0) (aCons (eOp addD (eOp addD (eC (.int 1000)) (eOp mulD (eC (.int 61)) (eVar 5))) (eVar 8)) (aCons (eVar 1) (aCons (eVar 3) (aCons (eVar 6) aNil)))))))) (sApp 4 (eVar 7)))))
def prI (ns : List Int) (ws : List Str) (c m : Int) (k : Nat) (ρ : Env) : Prop := ∃ (p : Prog) (a x y z : Option D), ρ = [some (.scr ns), some (.lst (ws.map .str)), some (.int c), some (.int m), some (encPR p), a, x, y, z] ∧ p.length = k ∧ ∀ b ∈ p, okB ws m b
section
variable {ns : List Int} (hn : ns.length ≤ 63)
include hn
theorem prog_step {ws : List Str} (hw : 0 < ws.length) (hw2 : ws.length ≤ 100) {c m : Int} (hm : 0 < m) (hm2 : m ≤ 20) (j : Nat) (x : D) (ρ : Env) (hI : prI ns ws c m j ρ) (hx : (rangeD 0 m.toNat)[j]? = some x) :
    ∃ ρ1 ρ2, setN 5 x ρ = .ok ρ1 ∧ prBody ρ1 = .ok (.nx ρ2) ∧ prI ns ws c m (j + 1) ρ2 := by
  obtain ⟨p, a, x', y, z, rfl, q1, q2⟩ := hI
  have hj : j < m.toNat := by
    have := (List.getElem?_eq_some_iff.mp hx).1
    simpa using this
  obtain rfl : x = .int (0 + (j : Int)) := by
    unfold rangeD at hx
    rw [List.getElem?_map, List.getElem?_range hj] at hx
    exact (Option.some.inj hx).symm
  obtain ⟨d, hd, d0, d1⟩ := cell_ok hn (by omega : (0 : Int) ≤ 20 + (j : Int))
  have lt : (p.map fun b => D.lst (b.map encR)).length < most := by
    rw [List.length_map, q1]
    unfold most
    omega
  have key : ∀ sz : Int, 0 ≤ sz → sz ≤ 60 → ∃ b : List Row, eLc (iRange1 (eVar 6)) [8] (setN 8) cYes (eCall (F__law_row) (aCons (eVar 0) (aCons (eOp addD (eOp addD (eC (.int 1000)) (eOp mulD (eC (.int 61)) (eVar 5))) (eVar 8)) (aCons (eVar 1) (aCons (eVar 3) (aCons (eVar 6) aNil)))))) [some (.scr ns), some (.lst (ws.map .str)), some (.int c), some (.int m), some (encPR p), some (.int (j : Int)), some (.int sz), y, z] = .ok (.lst (b.map encR)) ∧ okB ws m b := fun sz s0 s1 => by
    obtain ⟨b, k1, k2, k3⟩ := eLc_enc (enc := encR) (P := okR ws m sz) (fi := iRange1 (eVar 6)) (vs := [8]) (i := 8) (ρ := [some (.scr ns), some (.lst (ws.map .str)), some (.int c), some (.int m), some (encPR p), some (.int (j : Int)), some (.int sz), y, z]) (xs := rangeD 0 sz.toNat)
      (fe := eCall (F__law_row) (aCons (eVar 0) (aCons (eOp addD (eOp addD (eC (.int 1000)) (eOp mulD (eC (.int 61)) (eVar 5))) (eVar 8)) (aCons (eVar 1) (aCons (eVar 3) (aCons (eVar 6) aNil)))))) (by simp [rng1_ok s0 (by omega)]) (by simp; omega) fun x hx => by
        obtain ⟨i, hi, rfl⟩ := mem_range.mp hx
        obtain ⟨r, hr, hr2⟩ := row_ok hn hw hw2 (by omega : 0 ≤ 1000 + 61 * (j : Int) + (i : Int)) hm s0
        exact ⟨r, by simp [wipeE, m_mulL, m_fits, hr], hr2⟩
    have k4 : b.length = sz.toNat := by simpa using k2
    have k5 : (b.length : Int) = sz := by omega
    exact ⟨b, k1, by omega, by rw [k5]; exact k3⟩
  have fin : ∀ b : List Row, okB ws m b → encPR (p ++ [b]) = .lst ((p.map fun b => D.lst (b.map encR)) ++ [.lst (b.map encR)]) ∧ (p ++ [b]).length = j + 1 ∧ ∀ b' ∈ p ++ [b], okB ws m b' := fun b hb => by
    refine ⟨by simp [encPR, encP, Function.comp_def], by simp [q1], fun b' h => ?_⟩
    rcases List.mem_append.mp h with h | h
    · exact q2 b' h
    · rw [List.mem_singleton.mp h]; exact hb
  have ep : encPR p = .lst (p.map fun b => D.lst (b.map encR)) := by simp [encPR, encP, Function.comp_def]
  by_cases h : d / 7 % 32 = 1
  · obtain ⟨b, b1, b2⟩ := key 60 (by decide) (by decide)
    obtain ⟨f1, f2, f3⟩ := fin b b2
    refine ⟨_, [some (.scr ns), some (.lst (ws.map .str)), some (.int c), some (.int m), some (encPR (p ++ [b])), some (.int (j : Int)), some (.int 60), some (.lst (b.map encR)), z], rfl, ?_, p ++ [b], _, _, _, _, rfl, f2, f3⟩
    rw [ep] at b1 ⊢
    rw [f1]
    simp [prBody, hd, h, b1, m_appK _ _ _ _ lt]
  · obtain ⟨b, b1, b2⟩ := key (d % 7) (by omega) (by omega)
    obtain ⟨f1, f2, f3⟩ := fin b b2
    refine ⟨_, [some (.scr ns), some (.lst (ws.map .str)), some (.int c), some (.int m), some (encPR (p ++ [b])), some (.int (j : Int)), some (.int (d % 7)), some (.lst (b.map encR)), z], rfl, ?_, p ++ [b], _, _, _, _, rfl, f2, f3⟩
    rw [ep] at b1 ⊢
    rw [f1]
    simp [prBody, hd, h, b1, m_appK _ _ _ _ lt]
theorem program_ok {ws : List Str} (hw : 0 < ws.length) (hw2 : ws.length ≤ 100) : ∃ p : Prog, F__law_program [.scr ns, .lst (ws.map .str)] = .ok (encPR p) ∧ 0 < p.length ∧ p.length ≤ 20 ∧ ∀ b ∈ p, okB ws p.length b := by
  obtain ⟨c, hc, h0, h1⟩ := cell_ok hn (by decide : (0 : Int) ≤ 0)
  have key : ∀ m : Int, 0 < m → m ≤ 20 → ∃ ρ' p a x y z, forD (setN 5) prBody (rangeD 0 m.toNat) [some (.scr ns), some (.lst (ws.map .str)), some (.int c), some (.int m), some (.lst []), none, none, none, none] = .ok (.nx ρ') ∧
      ρ' = [some (.scr ns), some (.lst (ws.map .str)), some (.int c), some (.int m), some (encPR p), a, x, y, z] ∧ p.length = m.toNat ∧ ∀ b ∈ p, okB ws m b := fun m hm hm2 => by
    obtain ⟨ρ', k1, k2⟩ := forD_inv (set := setN 5) (body := prBody) (prI ns ws c m) (xs := rangeD 0 m.toNat) (ρ := [some (.scr ns), some (.lst (ws.map .str)), some (.int c), some (.int m), some (.lst []), none, none, none, none]) (k := 0) ⟨[], none, none, none, none, rfl, rfl, fun _ h => by simp at h⟩ fun j x ρ q1 q2 => by
      rw [Nat.zero_add] at q1 ⊢
      exact prog_step hn hw hw2 hm hm2 j x ρ q1 q2
    rw [len_range, Nat.zero_add] at k2
    obtain ⟨p, a, x, y, z, e1, e2, e3⟩ := k2
    exact ⟨ρ', p, a, x, y, z, k1, e1, e2, e3⟩
  by_cases h : c / 3 % 16 = 1
  · obtain ⟨ρ', p, a, x, y, z, k1, e1, e2, e3⟩ := key 20 (by decide) (by decide)
    have e4 : (p.length : Int) = 20 := by omega
    refine ⟨p, ?_, by omega, by omega, by rw [e4]; exact e3⟩
    subst e1
    unfold prBody at k1
    rw [show Int.toNat 20 = 20 from rfl] at k1
    simp [F__law_program, B__law_program, hc, h, rng1_ok (by decide : (0 : Int) ≤ 20) (by decide), k1]
  · obtain ⟨ρ', p, a, x, y, z, k1, e1, e2, e3⟩ := key (1 + c % 3) (by omega) (by omega)
    have e4 : (p.length : Int) = 1 + c % 3 := by omega
    refine ⟨p, ?_, by omega, by omega, by rw [e4]; exact e3⟩
    subst e1
    unfold prBody at k1
    simp [F__law_program, B__law_program, hc, h, rng1_ok (by omega : (0 : Int) ≤ 1 + c % 3) (by omega), k1]
end

end Dn

namespace Dn
open PySem L2
/-! ### rows, odd ones too -/
inductive Part where
  | int (i : Int) | str (s : Str) | tupI (l : List Int)
def encPt : Part → D
  | .int i => .int i
  | .str s => .str s
  | .tupI l => .tup (l.map .int)
def isI : Part → Bool
  | .int _ => true
  | _ => false
def encRw (w : Str) (ps : List Part) : D := .tup (.str w :: ps.map encPt)
def plainW : List Str := [w_keep, w_drop, w_add, w_minus, w_times, w_less, w_same, w_box, w_open, w_fill, w_call, w_back, w_say]
def farN (k : Int) : Bool := decide (k < 0) || decide (59 < k)
def funM (b : Int) (ps : List Part) : Str := match ps with
  | [.int i, .tupI l] => if 8 < l.length ∨ l.any farN = true then w_instruction else if i < 0 ∨ b ≤ i then w_body else w_0
  | _ => w_instruction
theorem funM_two {b i : Int} {l : List Int} : funM b [.int i, .tupI l] = if 8 < l.length ∨ l.any farN = true then w_instruction else if i < 0 ∨ b ≤ i then w_body else w_0 := rfl
theorem funM_other {b : Int} {ps : List Part} (h : ¬ ∃ p q, ps = [p, q]) : funM b ps = w_instruction := by
  unfold funM
  split
  · exact absurd ⟨_, _, rfl⟩ h
  · rfl
def wrongM (b z : Int) (w : Str) (ps : List Part) : Str :=
  if w = w_fun then funM b ps
  else if w = w_num then (match ps with
    | [.int i] => if 1000000000000 < i ∨ i < -1000000000000 then w_instruction else w_0
    | _ => w_instruction)
  else if w = w_get then (match ps with
    | [.int i] => if i < 0 ∨ 59 < i then w_instruction else w_0
    | _ => w_instruction)
  else if w = w_jump ∨ w = w_unless then (match ps with
    | [.int i] => if i < 0 ∨ z < i then w_place else w_0
    | _ => w_instruction)
  else if w ∈ plainW then (if ps = [] then w_0 else w_instruction) else w_instruction
theorem row_head (w : Str) (P : List D) : ixD (.tup (.str w :: P)) (.int 0) = .ok (.str w) := by simp [at_zero]
theorem row_tail (w : Str) (P : List D) : slD (.tup (.str w :: P)) (some 1) none = .ok (.tup P) := by
  rw [m_slT, cut_from _ _ (by decide)]
  rfl
theorem isi_part (p : Part) : isiB "int" (encPt p) = isI p := by cases p <;> rfl
theorem nums_ok {w : Str} {ps : List Part} (hl : ps.length ≤ 1000) (a b c x y : Option D) : eLc (iWalk (eVar 3)) [5] (setN 5) (tB' (eUn (isiD "int") (eVar 5))) (eVar 5) [a, b, c, some (.tup (ps.map encPt)), x, none, y] = .ok (.lst ((ps.filter isI).map encPt)) := by
  exact eLc_filter (enc := encPt) (p := isI) (g := encPt) (xs := ps) (fi := iWalk (eVar 3)) (vs := [5]) (i := 5) (fc := tB' (eUn (isiD "int") (eVar 5))) (fe := eVar 5) (ρ := [a, b, c, some (.tup (ps.map encPt)), x, none, y]) rfl (by omega) (fun p hp => by
    cases p <;> simp [wipeE, encPt, isI]) (fun p hp h => by simp [wipeE])
theorem far_ok {l : List Int} (hl : l.length ≤ 1000) (p : D) (a b c x : Option D) : eLc (iWalk (eOp ixD (eVar 3) (eC (.int 1)))) [6] (setN 6) (eOrT (tB' (eOp ltD (eVar 6) (eC (.int 0)))) (tB' (eOp gtD (eVar 6) (eC (.int 59))))) (eVar 6) [a, b, c, some (.tup [p, .tup (l.map .int)]), x, none, none] = .ok (.lst ((l.filter farN).map .int)) := by
  exact eLc_filter (enc := D.int) (p := farN) (g := D.int) (xs := l) (fi := iWalk (eOp ixD (eVar 3) (eC (.int 1)))) (vs := [6]) (i := 6) (fc := eOrT (tB' (eOp ltD (eVar 6) (eC (.int 0)))) (tB' (eOp gtD (eVar 6) (eC (.int 59))))) (fe := eVar 6) (ρ := [a, b, c, some (.tup [p, .tup (l.map .int)]), x, none, none]) (by
    have : atI [p, D.tup (l.map .int)] 1 = some (.tup (l.map .int)) := rfl
    simp [this]
    rfl) (by omega) (fun k hk => by
    by_cases h0 : k < 0
    · simp [wipeE, farN, h0]
    · by_cases h1 : 59 < k <;> simp [wipeE, farN, h0, h1]) (fun p hp h => by simp [wipeE])
theorem far_nil (l : List Int) : eqD (.lst ((l.filter farN).map .int)) (.lst []) = .ok (.bl (!l.any farN)) := by
  rw [eq_nilI]
  congr 2
  rw [Bool.eq_iff_iff, decide_eq_true_eq, List.filter_eq_nil_iff]
  simp
theorem words_in (w : Str) : inD (.str w) (.lst (allW.map .str)) = .ok (.bl (decide (w ∈ allW))) := by
  have e : inD (.str w) (.lst (allW.map .str)) = inD (.str w) (.tup (allW.map .str)) := rfl
  rw [e]
  simp [allW]
theorem tup_nil {P : List D} (h : P ≠ []) (hp : pl 5 (.tup P) = true) : eqD (.tup P) (.tup []) = .ok (.bl false) := by
  refine Eq.trans (if_pos (by rw [shaped_pl hp (by decide), shaped_pl (show pl 5 (.tup []) = true from rfl) (by decide)]; rfl)) ?_
  cases P with
  | nil => exact absurd rfl h
  | cons a b => rfl
def okPt : Part → Prop
  | .int _ => True
  | .str s => PyData.strOk s = true
  | .tupI l => l.length ≤ 1000
structure okRw (w : Str) (ps : List Part) : Prop where
  w : PyData.strOk w = true
  l : ps.length ≤ 1000
  p : ∀ p ∈ ps, okPt p
theorem pl_part {p : Part} (h : okPt p) : pl 2 (encPt p) = true := by
  cases p with
  | int i => rfl
  | str s => exact h
  | tupI l =>
    refine pls_of fun x hx => ?_
    obtain ⟨i, _, rfl⟩ := List.mem_map.mp hx
    rfl
theorem pl_parts {ps : List Part} (h : ∀ p ∈ ps, okPt p) : pl 5 (.tup (ps.map encPt)) = true := pls_of fun x hx => by
  obtain ⟨p, hp, rfl⟩ := List.mem_map.mp hx
  have := h p hp
  cases p with
  | int i => rfl
  | str s => exact this
  | tupI l =>
    refine pls_of fun x hx => ?_
    obtain ⟨i, _, rfl⟩ := List.mem_map.mp hx
    rfl
theorem memW (w : Str) (h1 : ¬ w = w_fun) (h2 : ¬ w = w_num) (h3 : ¬ w = w_get) (h4 : ¬ w = w_jump) (h5 : ¬ w = w_unless) : (w ∈ allW) ↔ w ∈ plainW := by
  simp only [allW, plainW, List.mem_cons, List.not_mem_nil, or_false]
  constructor
  · rintro (h | h | h | h | h | h | h | h | h | h | h | h | h | h | h | h | h | h) <;> simp_all
  · rintro (h | h | h | h | h | h | h | h | h | h | h | h | h) <;> simp_all
theorem lwrong {b z : Int} {w : Str} {ps : List Part} (ok : okRw w ps) : F__law_wrong [encRw w ps, .int b, .int z] = .ok (.str (wrongM b z w ps)) := by
  have h0 := row_head w (ps.map encPt)
  have h1 := row_tail w (ps.map encPt)
  have nm := fun a b c x y => nums_ok (w := w) ok.l a b c x y
  have p12 : powD (.int 10) (.int 12) = .ok (.int 1000000000000) := by rw [m_pow, if_pos (by decide)]; rfl
  have x0 : ∀ s : Str, atI [D.str w_0, D.str s] 0 = some (.str w_0) := fun s => rfl
  have x1 : ∀ s : Str, atI [D.str w_0, D.str s] 1 = some (.str s) := fun s => rfl
  have wi := words_in w
  have wo := words_ok
  unfold wrongM
  by_cases hf : w = w_fun
  · rw [if_pos hf]
    subst hf
    unfold encRw
    by_cases l2 : ∃ p q, ps = [p, q]
    · obtain ⟨p, q, rfl⟩ := l2
      have a0 : ∀ x y : D, atI [x, y] 0 = some x := fun _ _ => rfl
      have a1 : ∀ x y : D, atI [x, y] 1 = some y := fun _ _ => rfl
      cases p with
      | int i => cases q with
        | tupI l =>
          have hl : l.length ≤ 1000 := ok.p (.tupI l) (by simp)
          have fo := fun a b c x => far_ok hl (.int i) a b c x
          have fn := far_nil l
          simp only [List.map_cons, List.map_nil, encPt, List.filter, isI] at h0 h1 nm ⊢
          have ll : ((l.map D.int).length : Int) = l.length := by rw [List.length_map]
          rw [funM_two]
          generalize (l.filter farN).map D.int = FL at *
          generalize l.map D.int = LL at *
          by_cases q8 : 8 < l.length
          · have q8' : (8 : Int) < l.length := by omega
            rw [if_pos (.inl q8)]
            simp [F__law_wrong, B__law_wrong, h0, h1, nm, a0, a1, ll, q8, q8']
          · have q8' : ¬ (8 : Int) < l.length := by omega
            cases hfar : l.any farN with
            | true =>
              rw [hfar] at fn
              rw [if_pos (.inr rfl)]
              simp [F__law_wrong, B__law_wrong, h0, h1, nm, a0, a1, ll, q8, q8', fo, fn]
            | false =>
              rw [hfar] at fn
              rw [if_neg (by simp [q8])]
              by_cases qi : i < 0
              · rw [if_pos (.inl qi)]
                simp [F__law_wrong, B__law_wrong, h0, h1, nm, a0, a1, ll, q8, q8', fo, fn, qi]
              · by_cases qb : b ≤ i
                · rw [if_pos (.inr qb)]
                  simp [F__law_wrong, B__law_wrong, h0, h1, nm, a0, a1, ll, q8, q8', fo, fn, qi, qb]
                · rw [if_neg (by simp [qi, qb])]
                  simp [F__law_wrong, B__law_wrong, h0, h1, nm, a0, a1, ll, q8, q8', fo, fn, qi, qb]
        | int j =>
          simp only [List.map_cons, List.map_nil, encPt, List.filter, isI] at h0 h1 nm ⊢
          simp [F__law_wrong, B__law_wrong, h0, h1, nm, a0, a1, funM]
        | str s =>
          simp only [List.map_cons, List.map_nil, encPt, List.filter, isI] at h0 h1 nm ⊢
          simp [F__law_wrong, B__law_wrong, h0, h1, nm, a0, a1, funM]
      | str t => cases q with
        | tupI l =>
          simp only [List.map_cons, List.map_nil, encPt, List.filter, isI] at h0 h1 nm ⊢
          generalize l.map D.int = LL at *
          simp [F__law_wrong, B__law_wrong, h0, h1, nm, a0, a1, funM]
        | int j =>
          simp only [List.map_cons, List.map_nil, encPt, List.filter, isI] at h0 h1 nm ⊢
          simp [F__law_wrong, B__law_wrong, h0, h1, nm, a0, a1, funM]
        | str s =>
          simp only [List.map_cons, List.map_nil, encPt, List.filter, isI] at h0 h1 nm ⊢
          simp [F__law_wrong, B__law_wrong, h0, h1, nm, a0, a1, funM]
      | tupI k => cases q with
        | tupI l =>
          simp only [List.map_cons, List.map_nil, encPt, List.filter, isI] at h0 h1 nm ⊢
          generalize l.map D.int = LL at *
          generalize k.map D.int = KK at *
          simp [F__law_wrong, B__law_wrong, h0, h1, nm, a0, a1, funM]
        | int j =>
          simp only [List.map_cons, List.map_nil, encPt, List.filter, isI] at h0 h1 nm ⊢
          generalize k.map D.int = KK at *
          simp [F__law_wrong, B__law_wrong, h0, h1, nm, a0, a1, funM]
        | str s =>
          simp only [List.map_cons, List.map_nil, encPt, List.filter, isI] at h0 h1 nm ⊢
          generalize k.map D.int = KK at *
          simp [F__law_wrong, B__law_wrong, h0, h1, nm, a0, a1, funM]
    · have n2 : ¬ (ps.length : Int) = 2 := fun q => by
        cases ps with
        | nil => simp at q
        | cons p t => cases t with
          | nil => simp at q
          | cons r u => cases u with
            | nil => exact l2 ⟨p, r, rfl⟩
            | cons _ _ => simp at q; omega
      rw [funM_other l2]
      generalize hN : (ps.filter isI).map encPt = N at *
      generalize hP : ps.map encPt = P at *
      have lP : (P.length : Int) = (ps.length : Nat) := by rw [← hP, List.length_map]
      simp [F__law_wrong, B__law_wrong, h0, h1, nm, lP, n2]
  rw [if_neg hf]
  have key1 : ∀ (hw : w = w_num ∨ w = w_get ∨ w = w_jump ∨ w = w_unless), (∀ i, ps ≠ [.int i]) → F__law_wrong [encRw w ps, .int b, .int z] = .ok (.str w_instruction) := fun hw hps => by
    have : ¬ ((ps.length : Int) = 1 ∧ (((ps.filter isI).length : Nat) : Int) = 1) := fun ⟨q1, q2⟩ => by
      cases ps with
      | nil => simp at q1
      | cons p t =>
        cases t with
        | cons _ _ => simp at q1; omega
        | nil =>
          cases p with
          | int i => exact hps i rfl
          | str s => simp [isI] at q2
          | tupI l => simp [isI] at q2
    unfold encRw
    clear ok
    by_cases q1 : (ps.length : Int) = 1
    · have q2 : ¬ (((ps.filter isI).length : Nat) : Int) = 1 := fun q => this ⟨q1, q⟩
      generalize hN : (ps.filter isI).map encPt = N at *
      have lN : (N.length : Int) = ((ps.filter isI).length : Nat) := by rw [← hN, List.length_map]
      generalize hP : ps.map encPt = P at *
      have lP : (P.length : Int) = (ps.length : Nat) := by rw [← hP, List.length_map]
      rcases hw with rfl | rfl | rfl | rfl <;> simp [F__law_wrong, B__law_wrong, h0, h1, nm, lP, lN, q1, q2]
    · generalize hN : (ps.filter isI).map encPt = N at *
      generalize hP : ps.map encPt = P at *
      have lP : (P.length : Int) = (ps.length : Nat) := by rw [← hP, List.length_map]
      rcases hw with rfl | rfl | rfl | rfl <;> simp [F__law_wrong, B__law_wrong, h0, h1, nm, lP, q1]
  by_cases one : ∃ i, ps = [.int i]
  · obtain ⟨i, rfl⟩ := one
    have a0 : ∀ x : D, atI [x] 0 = some x := fun _ => rfl
    unfold encRw
    simp only [List.map_cons, List.map_nil, encPt, List.filter, isI] at h0 h1 nm ⊢
    by_cases hn : w = w_num
    · subst hn
      rw [if_pos rfl]
      have ab : ∃ m, absD [.int i] = .ok (.int m) ∧ ((1000000000000 < m) ↔ (1000000000000 < i ∨ i < -1000000000000)) := ⟨if i < 0 then -i else i, rfl, by split <;> omega⟩
      obtain ⟨m, ab, am⟩ := ab
      by_cases hm : 1000000000000 < m
      · rw [if_pos (am.mp hm)]
        simp [F__law_wrong, B__law_wrong, h0, h1, nm, a0, p12, ab, hm]
      · rw [if_neg (fun q => hm (am.mpr q))]
        simp [F__law_wrong, B__law_wrong, h0, h1, nm, a0, p12, ab, hm]
    rw [if_neg hn]
    by_cases hg : w = w_get
    · subst hg
      rw [if_pos rfl]
      by_cases q0 : i < 0
      · rw [if_pos (.inl q0)]
        simp [F__law_wrong, B__law_wrong, h0, h1, nm, a0, q0]
      · by_cases q1 : 59 < i
        · rw [if_pos (.inr q1)]
          simp [F__law_wrong, B__law_wrong, h0, h1, nm, a0, q0, q1]
        · rw [if_neg (by simp [q0, q1])]
          simp [F__law_wrong, B__law_wrong, h0, h1, nm, a0, q0, q1]
    rw [if_neg hg]
    by_cases hj : w = w_jump ∨ w = w_unless
    · rw [if_pos hj]
      by_cases q0 : i < 0
      · rw [if_pos (.inl q0)]
        rcases hj with rfl | rfl <;> simp [F__law_wrong, B__law_wrong, h0, h1, nm, a0, q0]
      · by_cases q1 : z < i
        · rw [if_pos (.inr q1)]
          rcases hj with rfl | rfl <;> simp [F__law_wrong, B__law_wrong, h0, h1, nm, a0, q0, q1]
        · rw [if_neg (by simp [q0, q1])]
          rcases hj with rfl | rfl <;> simp [F__law_wrong, B__law_wrong, h0, h1, nm, a0, q0, q1]
    rw [if_neg hj]
    simp only [not_or] at hj
    obtain ⟨j1, j2⟩ := hj
    have tn := tup_nil (P := [D.int i]) (by simp) rfl
    have e : (if w ∈ plainW then (if [Part.int i] = [] then w_0 else w_instruction) else w_instruction) = w_instruction := by simp
    rw [e]
    simp [F__law_wrong, B__law_wrong, h0, h1, nm, hf, hn, hg, j1, j2, tn]
  · have no : ∀ i, ps ≠ [.int i] := fun i e => one ⟨i, e⟩
    by_cases hw : w = w_num ∨ w = w_get ∨ w = w_jump ∨ w = w_unless
    · rw [key1 hw no]
      congr 2
      rcases hw with rfl | rfl | rfl | rfl
      · rw [if_pos rfl]
        split
        · exact absurd rfl (no _)
        · rfl
      · rw [if_neg (by simp), if_pos rfl]
        split
        · exact absurd rfl (no _)
        · rfl
      · rw [if_neg (by simp), if_neg (by simp), if_pos (.inl rfl)]
        split
        · exact absurd rfl (no _)
        · rfl
      · rw [if_neg (by simp), if_neg (by simp), if_pos (.inr rfl)]
        split
        · exact absurd rfl (no _)
        · rfl
    · simp only [not_or] at hw
      obtain ⟨g1, g2, g3, g4⟩ := hw
      rw [if_neg g1, if_neg g2, if_neg (by simp [g3, g4])]
      have mw := memW w hf g1 g2 g3 g4
      unfold encRw
      by_cases he : ps = []
      · subst he
        simp only [List.map_nil, List.filter] at h0 h1 nm ⊢
        have te : eqD (.tup []) (.tup []) = .ok (.bl true) := eqD_self (n := 1) rfl (by decide)
        generalize allW.map D.str = WW at *
        by_cases hm : w ∈ plainW
        · rw [if_pos hm]
          rw [decide_eq_true (mw.mpr hm)] at wi
          simp [F__law_wrong, B__law_wrong, h0, h1, nm, hf, g1, g2, g3, g4, te, wo, wi]
        · rw [if_neg hm]
          rw [decide_eq_false (fun q => hm (mw.mp q))] at wi
          simp [F__law_wrong, B__law_wrong, h0, h1, nm, hf, g1, g2, g3, g4, te, wo, wi]
      · have tn := tup_nil (P := ps.map encPt) (by simpa using he) (pl_parts ok.p)
        have e : (if w ∈ plainW then (if ps = [] then w_0 else w_instruction) else w_instruction) = w_instruction := by simp [he]
        rw [e]
        generalize (ps.filter isI).map encPt = N at *
        generalize ps.map encPt = P at *
        simp [F__law_wrong, B__law_wrong, h0, h1, nm, hf, g1, g2, g3, g4, tn]
end Dn

namespace Dn
open PySem L2
theorem plain_ok (w : Str) : F_is_plain [.str w] = .ok (.bl (decide (w ∈ plainW))) := by
  by_cases h : w ∈ plainW
  · rw [decide_eq_true h]
    simp only [plainW, List.mem_cons, List.not_mem_nil, or_false] at h
    rcases h with rfl | rfl | rfl | rfl | rfl | rfl | rfl | rfl | rfl | rfl | rfl | rfl | rfl <;> simp [F_is_plain, B_is_plain]
  · rw [decide_eq_false h]
    simp only [plainW, List.mem_cons, List.not_mem_nil, or_false, not_or] at h
    obtain ⟨h1, h2, h3, h4, h5, h6, h7, h8, h9, h10, h11, h12, h13⟩ := h
    simp [F_is_plain, B_is_plain, h1, h2, h3, h4, h5, h6, h7, h8, h9, h10, h11, h12, h13]
theorem btw_int (i a b : Int) : F_is_between [.int i, .int a, .int b] = .ok (.bl (decide (a ≤ i) && decide (i ≤ b))) := by
  by_cases h : a ≤ i
  · simp [F_is_between, B_is_between, h]
  · simp [F_is_between, B_is_between, h]
theorem btw_str (s : Str) (a b : D) : F_is_between [.str s, a, b] = .ok (.bl false) := by simp [F_is_between, B_is_between]
theorem btw_tup (xs : List D) (a b : D) : F_is_between [.tup xs, a, b] = .ok (.bl false) := by simp [F_is_between, B_is_between]
theorem all_bl {α : Type} (p : α → Bool) : ∀ xs : List α, allD [.lst (xs.map fun x => .bl (p x))] = .ok (.bl (xs.all p)) := fun xs => by
  have h : blsD (xs.map fun x => D.bl (p x)) = some (xs.map p) := by
    induction xs with
    | nil => rfl
    | cons x xs ih =>
      show (blsD (xs.map fun x => D.bl (p x))).map (p x :: ·) = _
      rw [ih]
      rfl
  show (match blsD (xs.map fun x => D.bl (p x)) with
    | some bs => R.ok (D.bl (bs.all id))
    | none => .no) = _
  rw [h]
  simp
theorem kept_ok {l : List Int} (hl : l.length ≤ 1000) : F_are_kept [.tup (l.map .int)] = .ok (.bl (decide (l.length ≤ 8) && !l.any farN)) := by
  have lc := eLc_filter (enc := D.int) (p := fun _ => true) (g := fun k => D.bl (!farN k)) (xs := l) (fi := iWalk (eVar 0)) (vs := [1]) (i := 1) (fc := cYes) (fe := eCall F_is_between (aCons (eVar 1) (aCons (eC (.int 0)) (aCons (eOp subD (eC (.int (60))) (eC (.int 1))) aNil)))) (ρ := [some (.tup (l.map .int)), none]) rfl (by omega) (fun _ _ => rfl) (fun k hk _ => by
    have e := btw_int k 0 59
    have f : (decide (0 ≤ k) && decide (k ≤ 59)) = !farN k := by
      unfold farN
      by_cases q0 : k < 0
      · rw [decide_eq_false (by omega : ¬ 0 ≤ k), decide_eq_true q0]; rfl
      · rw [decide_eq_true (by omega : 0 ≤ k), decide_eq_false q0]
        by_cases q1 : 59 < k
        · rw [decide_eq_false (by omega : ¬ k ≤ 59), decide_eq_true q1]; rfl
        · rw [decide_eq_true (by omega : k ≤ 59), decide_eq_false q1]; rfl
    rw [f] at e
    simp [wipeE, e])
  rw [List.filter_eq_self.mpr (fun _ _ => rfl)] at lc
  have al := all_bl (fun k => !farN k) l
  have nf : (l.all fun k => !farN k) = !l.any farN := by
    rw [Bool.eq_iff_iff]
    simp
  rw [nf] at al
  have ll : ((l.map D.int).length : Int) = l.length := by rw [List.length_map]
  generalize l.map (fun k => D.bl (!farN k)) = BB at *
  generalize l.map D.int = LL at *
  by_cases q8 : l.length ≤ 8
  · have q8' : ¬ (8 : Int) < l.length := by omega
    simp [F_are_kept, B_are_kept, ll, q8, q8', lc, al]
  · have q8' : (8 : Int) < l.length := by omega
    simp [F_are_kept, B_are_kept, ll, q8, q8']
theorem kept_int (i : Int) : F_are_kept [.int i] = .ok (.bl false) := by simp [F_are_kept, B_are_kept]
theorem kept_str (s : Str) : F_are_kept [.str s] = .ok (.bl false) := by simp [F_are_kept, B_are_kept]
def formM (w : Str) (ps : List Part) : Bool :=
  if w ∈ plainW then decide (ps = [])
  else if w = w_fun then (match ps with
    | [.int _, .tupI l] => decide (l.length ≤ 8) && !l.any farN
    | _ => false)
  else match ps with
    | [.int i] => if w = w_num then decide (-1000000000000 ≤ i) && decide (i ≤ 1000000000000) else if w = w_get then decide (0 ≤ i) && decide (i ≤ 59) else decide (w = w_jump) || decide (w = w_unless)
    | _ => false
theorem formed_ok {w : Str} {ps : List Part} (ok : okRw w ps) : F_is_formed [encRw w ps] = .ok (.bl (formM w ps)) := by
  have h0 := row_head w (ps.map encPt)
  have pw := plain_ok w
  have ln : ((D.str w :: ps.map encPt).length : Int) = (ps.length : Int) + 1 := by simp
  unfold formM encRw
  by_cases hp : w ∈ plainW
  · rw [if_pos hp]
    rw [decide_eq_true hp] at pw
    by_cases he : ps = []
    · subst he
      simp [F_is_formed, B_is_formed, h0, pw]
    · have l0 : ¬ (ps.length : Int) + 1 = 1 := by
        have : ps.length ≠ 0 := fun q => he (List.eq_nil_of_length_eq_zero q)
        omega
      rw [decide_eq_false he]
      generalize hP : ps.map encPt = P at *
      have lP : (P.length : Int) = (ps.length : Nat) := by rw [← hP, List.length_map]
      have l1 : ¬ (P.length : Int) + 1 = 1 := by omega
      have l2 : ¬ P = [] := by rw [← hP]; simpa using he
      simp [F_is_formed, B_is_formed, h0, pw, l1, l2]
  rw [if_neg hp]
  rw [decide_eq_false hp] at pw
  by_cases hf : w = w_fun
  · rw [if_pos hf]
    by_cases l2 : ∃ p q, ps = [p, q]
    · obtain ⟨p, q, rfl⟩ := l2
      have a1 : ∀ x y z : D, atI [x, y, z] 1 = some y := fun _ _ _ => rfl
      have a2 : ∀ x y z : D, atI [x, y, z] 2 = some z := fun _ _ _ => rfl
      simp only [List.map_cons, List.map_nil] at h0 ⊢
      subst hf
      cases p with
      | int i => cases q with
        | tupI l =>
          have hl : l.length ≤ 1000 := ok.p (.tupI l) (by simp)
          have kp := kept_ok hl
          simp only [encPt] at h0 ⊢
          generalize l.map D.int = LL at *
          simp [F_is_formed, B_is_formed, h0, pw, a1, a2, kp]
        | int j =>
          have kp := kept_int j
          simp only [encPt] at h0 ⊢
          simp [F_is_formed, B_is_formed, h0, pw, a1, a2, kp]
        | str s =>
          have kp := kept_str s
          simp only [encPt] at h0 ⊢
          simp [F_is_formed, B_is_formed, h0, pw, a1, a2, kp]
      | str t =>
        simp only [encPt] at h0 ⊢
        generalize encPt q = Q at *
        simp [F_is_formed, B_is_formed, h0, pw, a1, a2]
      | tupI k =>
        simp only [encPt] at h0 ⊢
        generalize encPt q = Q at *
        generalize k.map D.int = KK at *
        simp [F_is_formed, B_is_formed, h0, pw, a1, a2]
    · have n2 : ¬ (ps.length : Int) + 1 = 3 := fun q => by
        cases ps with
        | nil => simp at q
        | cons p t => cases t with
          | nil => simp at q
          | cons r u => cases u with
            | nil => exact l2 ⟨p, r, rfl⟩
            | cons _ _ => simp at q; omega
      have we : (match (generalizing := false) ps with
        | [.int _, .tupI l] => decide (l.length ≤ 8) && !l.any farN
        | _ => false) = false := by
        split
        · exact absurd ⟨_, _, rfl⟩ l2
        · rfl
      rw [we]
      subst hf
      generalize hP : ps.map encPt = P at *
      have lP : (P.length : Int) = (ps.length : Nat) := by rw [← hP, List.length_map]
      have n3 : ¬ (P.length : Int) + 1 = 3 := by omega
      have n4 : ¬ P.length + 1 = 3 := by omega
      simp [F_is_formed, B_is_formed, h0, pw, n3, n4]
  rw [if_neg hf]
  by_cases l1 : ∃ p, ps = [p]
  · obtain ⟨p, rfl⟩ := l1
    have a1 : ∀ x y : D, atI [x, y] 1 = some y := fun _ _ => rfl
    simp only [List.map_cons, List.map_nil] at h0 ⊢
    cases p with
    | int i =>
      have b1 := btw_int i (-1000000000000) 1000000000000
      have b2 := btw_int i 0 59
      simp only [encPt] at h0 ⊢
      by_cases hn : w = w_num
      · subst hn
        simp [F_is_formed, B_is_formed, h0, pw, a1, b1]
      · by_cases hg : w = w_get
        · subst hg
          simp [F_is_formed, B_is_formed, h0, pw, a1, b2]
        · rw [if_neg hn, if_neg hg]
          by_cases hj : w = w_jump
          · subst hj
            simp [F_is_formed, B_is_formed, h0, pw, a1]
          · by_cases hu : w = w_unless
            · subst hu
              simp [F_is_formed, B_is_formed, h0, pw, a1]
            · simp [F_is_formed, B_is_formed, h0, pw, a1, hf, hn, hg, hj, hu]
    | str t =>
      have b1 := btw_str t
      simp only [encPt] at h0 ⊢
      by_cases hn : w = w_num
      · subst hn
        simp [F_is_formed, B_is_formed, h0, pw, a1, b1]
      · by_cases hg : w = w_get
        · subst hg
          simp [F_is_formed, B_is_formed, h0, pw, a1, b1]
        · by_cases hj : w = w_jump
          · subst hj
            simp [F_is_formed, B_is_formed, h0, pw, a1]
          · by_cases hu : w = w_unless
            · subst hu
              simp [F_is_formed, B_is_formed, h0, pw, a1]
            · simp [F_is_formed, B_is_formed, h0, pw, a1, hf, hn, hg, hj, hu]
    | tupI l =>
      simp only [encPt] at h0 ⊢
      generalize l.map D.int = LL at *
      have b1 := btw_tup LL
      by_cases hn : w = w_num
      · subst hn
        simp [F_is_formed, B_is_formed, h0, pw, a1, b1]
      · by_cases hg : w = w_get
        · subst hg
          simp [F_is_formed, B_is_formed, h0, pw, a1, b1]
        · by_cases hj : w = w_jump
          · subst hj
            simp [F_is_formed, B_is_formed, h0, pw, a1]
          · by_cases hu : w = w_unless
            · subst hu
              simp [F_is_formed, B_is_formed, h0, pw, a1]
            · simp [F_is_formed, B_is_formed, h0, pw, a1, hf, hn, hg, hj, hu]
  · have we : (match (generalizing := false) ps with
      | [.int i] => if w = w_num then decide (-1000000000000 ≤ i) && decide (i ≤ 1000000000000) else if w = w_get then decide (0 ≤ i) && decide (i ≤ 59) else decide (w = w_jump) || decide (w = w_unless)
      | _ => false) = false := by
      split
      · exact absurd ⟨_, rfl⟩ l1
      · rfl
    rw [we]
    have n2 : ¬ ps.length + 1 = 2 := fun q => by
      cases ps with
      | nil => simp at q
      | cons p t => cases t with
        | nil => exact l1 ⟨p, rfl⟩
        | cons r u => simp at q
    generalize hP : ps.map encPt = P at *
    have lP : P.length = ps.length := by rw [← hP, List.length_map]
    have n3 : ¬ P.length + 1 = 2 := by omega
    have n4 : ¬ (P.length : Int) + 1 = 2 := by omega
    simp [F_is_formed, B_is_formed, h0, pw, hf, n3, n4]
def resW (s : Str) : R D := if s = w_0 then .ok .non else if s = w_instruction then .exc "NoInstruction" else if s = w_body then .exc "NoBody" else .exc "NoPlace"
theorem flook {b z : Int} {w : Str} {ps : List Part} (ok : okRw w ps) : FE_look_at [encRw w ps, .int b, .int z] = resW (wrongM b z w ps) := by
  have fo := formed_ok ok
  have h0 := row_head w (ps.map encPt)
  have r1 : resW w_instruction = .exc "NoInstruction" := by unfold resW; rw [if_neg (by simp), if_pos rfl]
  have r0 : resW w_0 = .ok .non := by unfold resW; rw [if_pos rfl]
  have r2 : resW w_body = .exc "NoBody" := by unfold resW; rw [if_neg (by simp), if_neg (by simp), if_pos rfl]
  have r3 : resW w_place = .exc "NoPlace" := by unfold resW; rw [if_neg (by simp), if_neg (by simp), if_neg (by simp)]
  -- what is not formed is refused; the word tells it
  have notf : formM w ps = false → wrongM b z w ps = w_instruction → FE_look_at [encRw w ps, .int b, .int z] = resW (wrongM b z w ps) := fun h1 h2 => by
    rw [h2, r1]
    rw [h1] at fo
    generalize encRw w ps = X at *
    simp [FE_look_at, fnE, BE_look_at, fo, leaveE, sRaise]
  have npl : ∀ u, w = u → u ∉ plainW → w ∉ plainW := fun u e h => by rw [e]; exact h
  by_cases hf : w = w_fun
  · have np : w ∉ plainW := npl _ hf (by simp [plainW])
    by_cases t : ∃ i l, ps = [.int i, .tupI l]
    · obtain ⟨i, l, rfl⟩ := t
      have fm : formM w [.int i, .tupI l] = (decide (l.length ≤ 8) && !l.any farN) := by unfold formM; rw [if_neg np, if_pos hf]
      have wm : wrongM b z w [.int i, .tupI l] = if 8 < l.length ∨ l.any farN = true then w_instruction else if i < 0 ∨ b ≤ i then w_body else w_0 := by unfold wrongM; rw [if_pos hf]; rfl
      by_cases q : 8 < l.length ∨ l.any farN = true
      · refine notf ?_ (by rw [wm, if_pos q])
        rw [fm]
        rcases q with q | q
        · rw [decide_eq_false (by omega)]; rfl
        · rw [q]; simp
      · rw [wm, if_neg q]
        simp only [not_or, Nat.not_lt, Bool.not_eq_true] at q
        rw [fm, decide_eq_true q.1, q.2] at fo
        have bt := btw_int i 0 (b - 1)
        have a1 : ∀ x y z : D, atI [x, y, z] 1 = some y := fun _ _ _ => rfl
        unfold encRw at fo ⊢
        simp only [List.map_cons, List.map_nil, encPt] at fo h0 ⊢
        generalize l.map D.int = LL at *
        subst hf
        by_cases q0 : i < 0
        · rw [if_pos (.inl q0), r2]
          rw [decide_eq_false (by omega : ¬ 0 ≤ i)] at bt
          simp [FE_look_at, fnE, BE_look_at, fo, h0, a1, bt, leaveE, sRaise]
        · by_cases q1 : b ≤ i
          · rw [if_pos (.inr q1), r2]
            rw [decide_eq_true (by omega : 0 ≤ i), decide_eq_false (by omega : ¬ i ≤ b - 1)] at bt
            simp [FE_look_at, fnE, BE_look_at, fo, h0, a1, bt, leaveE, sRaise]
          · rw [if_neg (by simp [q0, q1]), r0]
            rw [decide_eq_true (by omega : 0 ≤ i), decide_eq_true (by omega : i ≤ b - 1)] at bt
            simp [FE_look_at, fnE, BE_look_at, fo, h0, a1, bt, leaveE, sRaise]
    · refine notf ?_ ?_
      · unfold formM
        rw [if_neg np, if_pos hf]
        split
        · exact absurd ⟨_, _, rfl⟩ t
        · rfl
      · unfold wrongM
        rw [if_pos hf]
        unfold funM
        split
        · exact absurd ⟨_, _, rfl⟩ t
        · rfl
  by_cases one : (w = w_num ∨ w = w_get ∨ w = w_jump ∨ w = w_unless)
  · have np : w ∉ plainW := by rcases one with h | h | h | h <;> exact npl _ h (by simp [plainW])
    by_cases t : ∃ i, ps = [.int i]
    · obtain ⟨i, rfl⟩ := t
      have a1 : ∀ x y : D, atI [x, y] 1 = some y := fun _ _ => rfl
      have bt := btw_int i 0 z
      by_cases hn : w = w_num
      · have fm : formM w [.int i] = (decide (-1000000000000 ≤ i) && decide (i ≤ 1000000000000)) := by unfold formM; rw [if_neg np, if_neg hf]; simp [hn]
        have wm : wrongM b z w [.int i] = if 1000000000000 < i ∨ i < -1000000000000 then w_instruction else w_0 := by unfold wrongM; rw [if_neg hf, if_pos hn]
        by_cases q : 1000000000000 < i ∨ i < -1000000000000
        · refine notf ?_ (by rw [wm, if_pos q])
          rw [fm]
          rcases q with q | q
          · rw [decide_eq_false (by omega : ¬ i ≤ 1000000000000)]; simp
          · rw [decide_eq_false (by omega : ¬ -1000000000000 ≤ i)]; rfl
        · rw [wm, if_neg q, r0]
          rw [fm, decide_eq_true (by omega : -1000000000000 ≤ i), decide_eq_true (by omega : i ≤ 1000000000000)] at fo
          unfold encRw at fo ⊢
          simp only [List.map_cons, List.map_nil, encPt] at fo h0 ⊢
          subst hn
          simp [FE_look_at, fnE, BE_look_at, fo, h0, leaveE, sRaise]
      by_cases hg : w = w_get
      · have fm : formM w [.int i] = (decide (0 ≤ i) && decide (i ≤ 59)) := by unfold formM; rw [if_neg np, if_neg hf]; simp [hg]
        have wm : wrongM b z w [.int i] = if i < 0 ∨ 59 < i then w_instruction else w_0 := by unfold wrongM; rw [if_neg hf, if_neg hn, if_pos hg]
        by_cases q : i < 0 ∨ 59 < i
        · refine notf ?_ (by rw [wm, if_pos q])
          rw [fm]
          rcases q with q | q
          · rw [decide_eq_false (by omega : ¬ 0 ≤ i)]; rfl
          · rw [decide_eq_false (by omega : ¬ i ≤ 59)]; simp
        · rw [wm, if_neg q, r0]
          rw [fm, decide_eq_true (by omega : 0 ≤ i), decide_eq_true (by omega : i ≤ 59)] at fo
          unfold encRw at fo ⊢
          simp only [List.map_cons, List.map_nil, encPt] at fo h0 ⊢
          subst hg
          simp [FE_look_at, fnE, BE_look_at, fo, h0, leaveE, sRaise]
      have hj : w = w_jump ∨ w = w_unless := by
        rcases one with h | h | h | h
        · exact absurd h hn
        · exact absurd h hg
        · exact .inl h
        · exact .inr h
      have fm : formM w [.int i] = true := by
        unfold formM
        rw [if_neg np, if_neg hf]
        rcases hj with h | h <;> simp [h]
      have wm : wrongM b z w [.int i] = if i < 0 ∨ z < i then w_place else w_0 := by unfold wrongM; rw [if_neg hf, if_neg hn, if_neg hg, if_pos hj]
      rw [fm] at fo
      unfold encRw at fo ⊢
      simp only [List.map_cons, List.map_nil, encPt] at fo h0 ⊢
      rw [wm]
      by_cases q0 : i < 0
      · rw [if_pos (.inl q0), r3]
        rw [decide_eq_false (by omega : ¬ 0 ≤ i)] at bt
        rcases hj with rfl | rfl <;> simp [FE_look_at, fnE, BE_look_at, fo, h0, a1, bt, leaveE, sRaise]
      · by_cases q1 : z < i
        · rw [if_pos (.inr q1), r3]
          rw [decide_eq_true (by omega : 0 ≤ i), decide_eq_false (by omega : ¬ i ≤ z)] at bt
          rcases hj with rfl | rfl <;> simp [FE_look_at, fnE, BE_look_at, fo, h0, a1, bt, leaveE, sRaise]
        · rw [if_neg (by simp [q0, q1]), r0]
          rw [decide_eq_true (by omega : 0 ≤ i), decide_eq_true (by omega : i ≤ z)] at bt
          rcases hj with rfl | rfl <;> simp [FE_look_at, fnE, BE_look_at, fo, h0, a1, bt, leaveE, sRaise]
    · refine notf ?_ ?_
      · unfold formM
        rw [if_neg np, if_neg hf]
        split
        · exact absurd ⟨_, rfl⟩ t
        · rfl
      · have key : ∀ f : Int → Str, (match (generalizing := false) ps with
          | [.int i] => f i
          | _ => w_instruction) = w_instruction := fun f => by
          split
          · exact absurd ⟨_, rfl⟩ t
          · rfl
        unfold wrongM
        rw [if_neg hf]
        by_cases hn : w = w_num
        · rw [if_pos hn]
          exact key fun i => if 1000000000000 < i ∨ i < -1000000000000 then w_instruction else w_0
        rw [if_neg hn]
        by_cases hg : w = w_get
        · rw [if_pos hg]
          exact key fun i => if i < 0 ∨ 59 < i then w_instruction else w_0
        rw [if_neg hg, if_pos (by
          rcases one with h | h | h | h
          · exact absurd h hn
          · exact absurd h hg
          · exact .inl h
          · exact .inr h)]
        exact key fun i => if i < 0 ∨ z < i then w_place else w_0
  · simp only [not_or] at one
    obtain ⟨g1, g2, g3, g4⟩ := one
    have wm : wrongM b z w ps = if w ∈ plainW then (if ps = [] then w_0 else w_instruction) else w_instruction := by unfold wrongM; rw [if_neg hf, if_neg g1, if_neg g2, if_neg (by simp [g3, g4])]
    by_cases hp : w ∈ plainW
    · have fm : formM w ps = decide (ps = []) := by unfold formM; rw [if_pos hp]
      by_cases he : ps = []
      · rw [wm, if_pos hp, if_pos he, r0]
        rw [fm, decide_eq_true he] at fo
        unfold encRw at fo ⊢
        generalize ps.map encPt = P at *
        simp [FE_look_at, fnE, BE_look_at, fo, h0, hf, g3, g4, leaveE, sRaise]
      · exact notf (by rw [fm, decide_eq_false he]) (by rw [wm, if_pos hp, if_neg he])
    · refine notf ?_ (by rw [wm, if_neg hp])
      unfold formM
      rw [if_neg hp, if_neg hf]
      split
      · simp [g1, g2, g3, g4]
      · rfl
end Dn

namespace Dn
open PySem L2
abbrev Rw := Str × List Part
def encBd (bd : List Rw) : D := .lst (bd.map fun r => encRw r.1 r.2)
def encPgm (P : List (List Rw)) : D := .lst (P.map encBd)
def rowsW (b z : Int) : List Rw → Str
  | [] => w_0
  | r :: t => if wrongM b z r.1 r.2 = w_0 then rowsW b z t else wrongM b z r.1 r.2
def bodiesW (b : Int) : List (List Rw) → Str
  | [] => w_0
  | bd :: t => if 60 < bd.length then w_many else if rowsW b bd.length bd = w_0 then bodiesW b t else rowsW b bd.length bd
def dueM (P : List (List Rw)) : Str := if P = [] then w_bodies else if 20 < P.length then w_many else bodiesW P.length P
def okBd (bd : List Rw) : Prop := ∀ r ∈ bd, okRw r.1 r.2
def excOf (s : Str) : Str := if s = w_instruction then "NoInstruction" else if s = w_body then "NoBody" else if s = w_place then "NoPlace" else if s = w_many then "TooMany" else "NoBodies"
def liB : Env → R Fl := (sIf (tB' (eOp neD (eCall (F__law_wrong) (aCons (eVar 2) (aCons (eCall lenD (aCons (eVar 0) aNil)) (aCons (eCall lenD (aCons (eVar 1) aNil)) aNil)))) (eC (.str w_0)))) (sRet [] (eCall (F__law_wrong) (aCons (eVar 2) (aCons (eCall lenD (aCons (eVar 0) aNil)) (aCons (eCall lenD (aCons (eVar 1) aNil)) aNil))))) sNext)
theorem li_loop {b z : Int} {A B : D} (hA : lenD [A] = .ok (.int b)) (hB : lenD [B] = .ok (.int z)) : ∀ (rs : List Rw) (x : Option D), okBd rs →
    (rowsW b z rs = w_0 → ∃ y, forD (setN 2) liB (rs.map fun r => encRw r.1 r.2) [some A, some B, x] = .ok (.nx [some A, some B, y])) ∧
    (¬ rowsW b z rs = w_0 → ∃ ρ', forD (setN 2) liB (rs.map fun r => encRw r.1 r.2) [some A, some B, x] = .ok (.rt (.str (rowsW b z rs)) ρ'))
  | [], x, _ => ⟨fun _ => ⟨x, rfl⟩, fun h => absurd rfl h⟩
  | r :: rs, x, ok => by
    have st : forD (setN 2) liB ((r :: rs).map fun r => encRw r.1 r.2) [some A, some B, x] = (liB [some A, some B, some (encRw r.1 r.2)] >>= fun fl => match fl with
      | .nx ρ'' => forD (setN 2) liB (rs.map fun r => encRw r.1 r.2) ρ''
      | .rt d ρ3 => R.ok (.rt d ρ3)) := rfl
    rw [st]
    have lw := lwrong (b := b) (z := z) (ok r (by simp))
    obtain ⟨i1, i2⟩ := li_loop hA hB rs (some (encRw r.1 r.2)) (fun q hq => ok q (by simp [hq]))
    unfold rowsW
    generalize encRw r.1 r.2 = R0 at *
    generalize wrongM b z r.1 r.2 = W at *
    by_cases h : W = w_0
    · have e1 : liB [some A, some B, some R0] = .ok (.nx [some A, some B, some R0]) := by
        subst h
        simp [liB, hA, hB, lw]
      rw [e1, ok_bind]
      simp only [if_pos h]
      exact ⟨i1, i2⟩
    · have e1 : liB [some A, some B, some R0] = .ok (.rt (.str W) [some A, some B, some R0]) := by
        simp [liB, hA, hB, lw, h]
      rw [e1, ok_bind]
      simp only [if_neg h]
      exact ⟨fun q => absurd q h, fun _ => ⟨_, rfl⟩⟩
def loB : Env → R Fl := (sSeq (sIf (tB' (eOp gtD (eCall lenD (aCons (eVar 1) aNil)) (eC (.int 60)))) (sRet [] (eC (.str w_many))) sNext) (sFor (iWalk (eVar 1)) (setN 2) liB))
theorem len_bd (bd : List Rw) : lenD [encBd bd] = .ok (.int (bd.length : Nat)) := by
  unfold encBd
  rw [m_lenL, List.length_map]
theorem lo_loop {b : Int} {A : D} (hA : lenD [A] = .ok (.int b)) : ∀ (bs : List (List Rw)) (x y : Option D), (∀ bd ∈ bs, okBd bd) →
    (bodiesW b bs = w_0 → ∃ x' y', forD (setN 1) loB (bs.map encBd) [some A, x, y] = .ok (.nx [some A, x', y'])) ∧
    (¬ bodiesW b bs = w_0 → ∃ ρ', forD (setN 1) loB (bs.map encBd) [some A, x, y] = .ok (.rt (.str (bodiesW b bs)) ρ'))
  | [], x, y, _ => ⟨fun _ => ⟨x, y, rfl⟩, fun h => absurd rfl h⟩
  | bd :: bs, x, y, ok => by
    have st : forD (setN 1) loB ((bd :: bs).map encBd) [some A, x, y] = (loB [some A, some (encBd bd), y] >>= fun fl => match fl with
      | .nx ρ'' => forD (setN 1) loB (bs.map encBd) ρ''
      | .rt d ρ3 => R.ok (.rt d ρ3)) := rfl
    rw [st]
    have lb := len_bd bd
    have wk : walkD (encBd bd) = .ok (bd.map fun r => encRw r.1 r.2) := rfl
    obtain ⟨l1, l2⟩ := li_loop hA lb bd y (ok bd (by simp))
    unfold bodiesW
    by_cases h60 : 60 < bd.length
    · have h60' : (60 : Int) < bd.length := by omega
      have e1 : loB [some A, some (encBd bd), y] = .ok (.rt (.str w_many) [some A, some (encBd bd), y]) := by
        generalize encBd bd = B at *
        simp [loB, lb, h60, h60']
      rw [e1, ok_bind]
      simp only [if_pos h60]
      exact ⟨fun q => absurd q (by simp), fun _ => ⟨_, rfl⟩⟩
    have h60' : ¬ (60 : Int) < bd.length := by omega
    simp only [if_neg h60]
    generalize rowsW b (bd.length : Nat) bd = W at *
    generalize (bd.map fun r => encRw r.1 r.2) = RR at *
    by_cases h : W = w_0
    · obtain ⟨y', l1⟩ := l1 h
      obtain ⟨i1, i2⟩ := lo_loop hA bs (some (encBd bd)) y' (fun q hq => ok q (by simp [hq]))
      have e1 : loB [some A, some (encBd bd), y] = .ok (.nx [some A, some (encBd bd), y']) := by
        generalize encBd bd = B at *
        simp [loB, lb, h60, h60', wk, l1]
      rw [e1, ok_bind]
      simp only [if_pos h]
      exact ⟨i1, i2⟩
    · obtain ⟨ρ', l2⟩ := l2 h
      have e1 : loB [some A, some (encBd bd), y] = .ok (.rt (.str W) ρ') := by
        generalize encBd bd = B at *
        simp [loB, lb, h60, h60', wk, l2]
      rw [e1, ok_bind]
      simp only [if_neg h]
      exact ⟨fun q => absurd q h, fun _ => ⟨ρ', rfl⟩⟩
def piB : Env → R Fl := (sExpr (eCall (FE_look_at) (aCons (eVar 2) (aCons (eCall lenD (aCons (eVar 0) aNil)) (aCons (eCall lenD (aCons (eVar 1) aNil)) aNil)))))
theorem wrong_is (b z : Int) (w : Str) (ps : List Part) : wrongM b z w ps = w_0 ∨ wrongM b z w ps = w_instruction ∨ wrongM b z w ps = w_body ∨ wrongM b z w ps = w_place := by
  unfold wrongM funM
  repeat' split
  all_goals simp
theorem res_exc {s : Str} (h : s = w_0 ∨ s = w_instruction ∨ s = w_body ∨ s = w_place) (n : ¬ s = w_0) : resW s = .exc (excOf s) := by
  unfold resW excOf
  rcases h with h | rfl | rfl | rfl
  · exact absurd h n
  · simp
  · simp
  · simp
theorem pi_loop {b z : Int} {A B : D} (hA : lenD [A] = .ok (.int b)) (hB : lenD [B] = .ok (.int z)) : ∀ (rs : List Rw) (x : Option D), okBd rs →
    (rowsW b z rs = w_0 → ∃ y, forD (setN 2) piB (rs.map fun r => encRw r.1 r.2) [some A, some B, x] = .ok (.nx [some A, some B, y])) ∧
    (¬ rowsW b z rs = w_0 → forD (setN 2) piB (rs.map fun r => encRw r.1 r.2) [some A, some B, x] = .exc (excOf (rowsW b z rs)))
  | [], x, _ => ⟨fun _ => ⟨x, rfl⟩, fun h => absurd rfl h⟩
  | r :: rs, x, ok => by
    have st : forD (setN 2) piB ((r :: rs).map fun r => encRw r.1 r.2) [some A, some B, x] = (piB [some A, some B, some (encRw r.1 r.2)] >>= fun fl => match fl with
      | .nx ρ'' => forD (setN 2) piB (rs.map fun r => encRw r.1 r.2) ρ''
      | .rt d ρ3 => R.ok (.rt d ρ3)) := rfl
    rw [st]
    have lw := flook (b := b) (z := z) (ok r (by simp))
    have wi := wrong_is b z r.1 r.2
    obtain ⟨i1, i2⟩ := pi_loop hA hB rs (some (encRw r.1 r.2)) (fun q hq => ok q (by simp [hq]))
    unfold rowsW
    generalize encRw r.1 r.2 = R0 at *
    generalize wrongM b z r.1 r.2 = W at *
    by_cases h : W = w_0
    · have e0 : resW W = .ok .non := by unfold resW; rw [if_pos h]
      rw [e0] at lw
      have e1 : piB [some A, some B, some R0] = .ok (.nx [some A, some B, some R0]) := by
        simp [piB, sExpr, hA, hB, lw]
      rw [e1, ok_bind]
      simp only [if_pos h]
      exact ⟨i1, i2⟩
    · rw [res_exc wi h] at lw
      have e1 : piB [some A, some B, some R0] = .exc (excOf W) := by
        simp [piB, sExpr, hA, hB, lw]
      rw [e1]
      simp only [if_neg h]
      exact ⟨fun q => absurd q h, fun _ => rfl⟩
def poB : Env → R Fl := (sSeq (sIf (tB' (eOp gtD (eCall lenD (aCons (eVar 1) aNil)) (eC (.int (60))))) (sRaise "TooMany") sNext) (sFor (iWalk (eVar 1)) (setN 2) piB))
theorem po_loop {b : Int} {A : D} (hA : lenD [A] = .ok (.int b)) : ∀ (bs : List (List Rw)) (x y : Option D), (∀ bd ∈ bs, okBd bd) →
    (bodiesW b bs = w_0 → ∃ x' y', forD (setN 1) poB (bs.map encBd) [some A, x, y] = .ok (.nx [some A, x', y'])) ∧
    (¬ bodiesW b bs = w_0 → forD (setN 1) poB (bs.map encBd) [some A, x, y] = .exc (excOf (bodiesW b bs)))
  | [], x, y, _ => ⟨fun _ => ⟨x, y, rfl⟩, fun h => absurd rfl h⟩
  | bd :: bs, x, y, ok => by
    have st : forD (setN 1) poB ((bd :: bs).map encBd) [some A, x, y] = (poB [some A, some (encBd bd), y] >>= fun fl => match fl with
      | .nx ρ'' => forD (setN 1) poB (bs.map encBd) ρ''
      | .rt d ρ3 => R.ok (.rt d ρ3)) := rfl
    rw [st]
    have lb := len_bd bd
    have wk : walkD (encBd bd) = .ok (bd.map fun r => encRw r.1 r.2) := rfl
    obtain ⟨l1, l2⟩ := pi_loop hA lb bd y (ok bd (by simp))
    unfold bodiesW
    by_cases h60 : 60 < bd.length
    · have h60' : (60 : Int) < bd.length := by omega
      have e1 : poB [some A, some (encBd bd), y] = .exc "TooMany" := by
        generalize encBd bd = B at *
        simp [poB, lb, h60, h60', sRaise]
      rw [e1]
      simp only [if_pos h60]
      refine ⟨fun q => absurd q (by simp), fun _ => ?_⟩
      have : excOf w_many = "TooMany" := by simp [excOf]
      rw [this]
      rfl
    have h60' : ¬ (60 : Int) < bd.length := by omega
    simp only [if_neg h60]
    generalize rowsW b (bd.length : Nat) bd = W at *
    generalize (bd.map fun r => encRw r.1 r.2) = RR at *
    by_cases h : W = w_0
    · obtain ⟨y', l1⟩ := l1 h
      obtain ⟨i1, i2⟩ := po_loop hA bs (some (encBd bd)) y' (fun q hq => ok q (by simp [hq]))
      have e1 : poB [some A, some (encBd bd), y] = .ok (.nx [some A, some (encBd bd), y']) := by
        generalize encBd bd = B at *
        simp [poB, lb, h60, h60', wk, l1]
      rw [e1, ok_bind]
      simp only [if_pos h]
      exact ⟨i1, i2⟩
    · have l2 := l2 h
      have e1 : poB [some A, some (encBd bd), y] = .exc (excOf W) := by
        generalize encBd bd = B at *
        simp [poB, lb, h60, h60', wk, l2]
      rw [e1]
      simp only [if_neg h]
      exact ⟨fun q => absurd q h, fun _ => rfl⟩
end Dn

namespace Dn
open PySem L2
theorem pl_rowP {w : Str} {ps : List Part} (ok : okRw w ps) : pl 7 (encRw w ps) = true := pls_of fun x hx => by
  rcases List.mem_cons.mp hx with rfl | hx
  · exact ok.w
  · obtain ⟨p, hp, rfl⟩ := List.mem_map.mp hx
    have := ok.p p hp
    cases p with
    | int i => rfl
    | str s => exact this
    | tupI l =>
      refine pls_of fun x hx => ?_
      obtain ⟨i, _, rfl⟩ := List.mem_map.mp hx
      rfl
theorem pl_pgm {P : List (List Rw)} (ok : ∀ bd ∈ P, okBd bd) : pl 9 (encPgm P) = true := pls_of fun x hx => by
  obtain ⟨bd, hb, rfl⟩ := List.mem_map.mp hx
  refine pls_of fun y hy => ?_
  obtain ⟨r, hr, rfl⟩ := List.mem_map.mp hy
  exact pl_rowP (ok bd hb r hr)
theorem eq_nilPg {P : List (List Rw)} (ok : ∀ bd ∈ P, okBd bd) : eqD (encPgm P) (.lst []) = .ok (.bl (decide (P = []))) := by
  refine Eq.trans (if_pos (by rw [shaped_pl (pl_pgm ok) (by decide)]; rfl)) ?_
  cases P <;> rfl
theorem len_pgm (P : List (List Rw)) : lenD [encPgm P] = .ok (.int (P.length : Nat)) := by
  unfold encPgm
  rw [m_lenL, List.length_map]
theorem ldue {P : List (List Rw)} (ok : ∀ bd ∈ P, okBd bd) : F__law_due [encPgm P] = .ok (.str (dueM P)) := by
  have e0 := eq_nilPg ok
  have ln := len_pgm P
  have wk : walkD (encPgm P) = .ok (P.map encBd) := rfl
  obtain ⟨l1, l2⟩ := lo_loop ln P none none ok
  unfold loB liB at l1 l2
  unfold dueM
  by_cases h0 : P = []
  · rw [decide_eq_true h0] at e0
    rw [if_pos h0]
    generalize encPgm P = A at *
    simp [F__law_due, B__law_due, e0]
  rw [decide_eq_false h0] at e0
  rw [if_neg h0]
  by_cases h20 : 20 < P.length
  · have h20' : (20 : Int) < P.length := by omega
    rw [if_pos h20]
    generalize encPgm P = A at *
    simp [F__law_due, B__law_due, e0, ln, h20, h20']
  have h20' : ¬ (20 : Int) < P.length := by omega
  rw [if_neg h20]
  generalize bodiesW (P.length : Nat) P = W at *
  generalize P.map encBd = BB at *
  generalize encPgm P = A at *
  by_cases h : W = w_0
  · obtain ⟨x', y', l1⟩ := l1 h
    simp [F__law_due, B__law_due, e0, ln, h20, h20', wk, l1, h]
  · obtain ⟨ρ', l2⟩ := l2 h
    simp [F__law_due, B__law_due, e0, ln, h20, h20', wk, l2]
theorem copy_pgm {P : List (List Rw)} (hl : P.length ≤ 100000) (x y : Option D) : eLc (iWalk (eVar 0)) [1] (setN 1) cYes (eCall listD (aCons (eVar 1) aNil)) [some (encPgm P), x, y] = .ok (encPgm P) := by
  have q := eLc_map (fi := iWalk (eVar 0)) (vs := [1]) (i := 1) (fe := eCall listD (aCons (eVar 1) aNil)) (ρ := [some (encPgm P), x, y]) (xs := P.map encBd) (g := fun x => x) rfl (by simp; omega) fun x hx => by
    obtain ⟨b', _, rfl⟩ := List.mem_map.mp hx
    unfold encBd
    simp [wipeE]
  rw [q, List.map_id']
  rfl
theorem fchecked {P : List (List Rw)} (ok : ∀ bd ∈ P, okBd bd) : FE_checked [encPgm P] = if dueM P = w_0 then .ok (encPgm P) else .exc (excOf (dueM P)) := by
  have ln := len_pgm P
  have wk : walkD (encPgm P) = .ok (P.map encBd) := rfl
  obtain ⟨l1, l2⟩ := po_loop ln P none none ok
  unfold poB piB at l1 l2
  unfold dueM
  by_cases h0 : P = []
  · have z : (P.length : Int) = 0 := by rw [h0]; rfl
    rw [if_pos h0, if_neg (by simp)]
    have : excOf w_bodies = "NoBodies" := by simp [excOf]
    rw [this]
    generalize encPgm P = A at *
    subst h0
    simp [FE_checked, fnE, BE_checked, ln, leaveE, sRaise]
  have z : ¬ (P.length : Int) = 0 := fun q => h0 (List.eq_nil_of_length_eq_zero (by omega))
  rw [if_neg h0]
  by_cases h20 : 20 < P.length
  · have h20' : (20 : Int) < P.length := by omega
    rw [if_pos h20, if_neg (by simp)]
    have : excOf w_many = "TooMany" := by simp [excOf]
    rw [this]
    generalize encPgm P = A at *
    simp [FE_checked, fnE, BE_checked, ln, z, h0, h20, h20', leaveE, sRaise]
  have h20' : ¬ (20 : Int) < P.length := by omega
  rw [if_neg h20]
  have cp := copy_pgm (P := P) (by omega)
  generalize bodiesW (P.length : Nat) P = W at *
  generalize P.map encBd = BB at *
  generalize encPgm P = A at *
  by_cases h : W = w_0
  · obtain ⟨x', y', l1⟩ := l1 h
    rw [if_pos h]
    simp [FE_checked, fnE, BE_checked, ln, z, h0, h20, h20', wk, l1, cp, leaveE]
  · have l2 := l2 h
    rw [if_neg h]
    simp [FE_checked, fnE, BE_checked, ln, z, h0, h20, h20', wk, l2, leaveE]
theorem due_is (P : List (List Rw)) : dueM P = w_0 ∨ dueM P = w_bodies ∨ dueM P = w_many ∨ dueM P = w_instruction ∨ dueM P = w_body ∨ dueM P = w_place := by
  have rw1 : ∀ (b z : Int) (rs : List Rw), rowsW b z rs = w_0 ∨ rowsW b z rs = w_instruction ∨ rowsW b z rs = w_body ∨ rowsW b z rs = w_place := fun b z rs => by
    induction rs with
    | nil => exact .inl rfl
    | cons r t ih =>
      unfold rowsW
      split
      · exact ih
      · exact wrong_is _ _ _ _
  have bw : ∀ (b : Int) (bs : List (List Rw)), bodiesW b bs = w_0 ∨ bodiesW b bs = w_many ∨ bodiesW b bs = w_instruction ∨ bodiesW b bs = w_body ∨ bodiesW b bs = w_place := fun b bs => by
    induction bs with
    | nil => exact .inl rfl
    | cons bd t ih =>
      unfold bodiesW
      split
      · exact .inr (.inl rfl)
      split
      · exact ih
      · rcases rw1 b bd.length bd with h | h | h | h
        · exact .inl h
        · exact .inr (.inr (.inl h))
        · exact .inr (.inr (.inr (.inl h)))
        · exact .inr (.inr (.inr (.inr h)))
  unfold dueM
  split
  · exact .inr (.inl rfl)
  split
  · exact .inr (.inr (.inl rfl))
  · rcases bw P.length P with h | h | h | h | h
    · exact .inl h
    · exact .inr (.inr (.inl h))
    · exact .inr (.inr (.inr (.inl h)))
    · exact .inr (.inr (.inr (.inr (.inl h))))
    · exact .inr (.inr (.inr (.inr (.inr h))))
theorem tres_of {s : Str} (h : s = w_bodies ∨ s = w_many ∨ s = w_instruction ∨ s = w_body ∨ s = w_place) : tres (excOf s) = .ok (.tup [.non, .str s]) ∧ excOf s ∈ raisedL := by
  have k : ∀ (a b : Str), decide (a = b) = false → ¬ a = b := fun a b h => of_decide_eq_false h
  rcases h with rfl | rfl | rfl | rfl | rfl
  · have : excOf w_bodies = "NoBodies" := by simp [excOf]
    rw [this]
    exact ⟨by unfold tres kres; rw [if_pos rfl]; rfl, by simp [raisedL]⟩
  · have : excOf w_many = "TooMany" := by simp [excOf]
    rw [this]
    exact ⟨by unfold tres kres; rw [if_neg (k _ _ (by decide +kernel)), if_neg (k _ _ (by decide +kernel)), if_neg (k _ _ (by decide +kernel)), if_neg (k _ _ (by decide +kernel)), if_pos rfl]; rfl, by simp [raisedL]⟩
  · have : excOf w_instruction = "NoInstruction" := by simp [excOf]
    rw [this]
    exact ⟨by unfold tres kres; rw [if_neg (k _ _ (by decide +kernel)), if_neg (k _ _ (by decide +kernel)), if_pos rfl]; rfl, by simp [raisedL]⟩
  · have : excOf w_body = "NoBody" := by simp [excOf]
    rw [this]
    exact ⟨by unfold tres kres; rw [if_neg (k _ _ (by decide +kernel)), if_pos rfl]; rfl, by simp [raisedL]⟩
  · have : excOf w_place = "NoPlace" := by simp [excOf]
    rw [this]
    exact ⟨by unfold tres kres; rw [if_neg (k _ _ (by decide +kernel)), if_neg (k _ _ (by decide +kernel)), if_neg (k _ _ (by decide +kernel)), if_pos rfl]; rfl, by simp [raisedL]⟩
theorem lfound {P : List (List Rw)} (ok : ∀ bd ∈ P, okBd bd) : F__law_found [encPgm P] = .ok (.tup [if dueM P = w_0 then encPgm P else .non, .str (dueM P)]) := by
  have fc := fchecked ok
  have di := due_is P
  generalize encPgm P = A at *
  generalize dueM P = W at *
  by_cases h : W = w_0
  · rw [if_pos h] at fc ⊢
    show leave (sTry 2 raisedL tres _ _) = _
    unfold sTry
    simp [fc, h]
  · rw [if_neg h] at fc ⊢
    obtain ⟨t1, t2⟩ := tres_of (di.resolve_left h)
    have m1 : (excOf W ∈ raisedL) = True := eq_true t2
    show leave (sTry 2 raisedL tres _ _) = _
    unfold sTry
    simp [fc, m1, t1, -List.mem_cons]
end Dn

namespace Dn
open PySem L2
theorem okRw0 {w : Str} (h : PyData.strOk w = true) : okRw w [] := ⟨h, by simp, fun p hp => by cases hp⟩
theorem okRw1 {w : Str} {a : Part} (h : PyData.strOk w = true) (ha : okPt a) : okRw w [a] := ⟨h, by simp, fun p hp => by rw [List.mem_singleton.mp hp]; exact ha⟩
theorem okRw2 {w : Str} {a b : Part} (h : PyData.strOk w = true) (ha : okPt a) (hb : okPt b) : okRw w [a, b] := ⟨h, by simp, fun p hp => by
  rcases List.mem_cons.mp hp with rfl | hp
  · exact ha
  · rw [List.mem_singleton.mp hp]; exact hb⟩
def rowD (d : D) : Prop := ∃ (w : Str) (ps : List Part), d = encRw w ps ∧ okRw w ps
theorem all_nil : ∀ d ∈ ([] : List D), rowD d := fun d h => by cases h
theorem all_cons {d : D} {L : List D} (h : rowD d) (hL : ∀ d ∈ L, rowD d) : ∀ x ∈ d :: L, rowD x := fun x hx => by
  rcases List.mem_cons.mp hx with rfl | hx
  · exact h
  · exact hL x hx
theorem lodd {c b z : Int} : ∃ w ps, F__law_odd [.int c, .int b, .int z] = .ok (encRw w ps) ∧ okRw w ps := by
  have p12 : powD (.int 10) (.int 12) = .ok (.int 1000000000000) := by rw [m_pow, if_pos (by decide)]; rfl
  have p20 : powD (.int 10) (.int 20) = .ok (.int 100000000000000000000) := by rw [m_pow, if_pos (by decide)]; rfl
  have md : modD (.int c) (.int 100000000000000000000) = .ok (.int (c % 100000000000000000000)) := by rw [m_mod, if_pos (by decide)]
  have e8 : mulD (.tup [.int 59]) (.int 8) = .ok (.tup [.int 59, .int 59, .int 59, .int 59, .int 59, .int 59, .int 59, .int 59]) := rfl
  have e9 : mulD (.tup [.int 0]) (.int 9) = .ok (.tup [.int 0, .int 0, .int 0, .int 0, .int 0, .int 0, .int 0, .int 0, .int 0]) := rfl
  have wo := words_ok
  have i0 : 0 ≤ c / 64 % 18 := by omega
  have i1 : c / 64 % 18 < 18 := by omega
  obtain ⟨u, iu, um⟩ : ∃ u, ixD (.lst (allW.map .str)) (.int (c / 64 % 18)) = .ok (.str u) ∧ u ∈ allW := by
    have la : allW.length = 18 := rfl
    rw [m_ixL, atI_pos i0 (by rw [List.length_map, la]; exact i1), List.getElem?_map, List.getElem?_eq_getElem (by rw [la]; omega)]
    exact ⟨_, rfl, List.getElem_mem _⟩
  have hu := strW um
  generalize (1000000000000 : Int) = A at *
  generalize (100000000000000000000 : Int) = M at *
  generalize c % M = m at *
  have n0 : 0 ≤ c % 47 := by omega
  have n1 : c % 47 < 47 := by omega
  have a1 : addD (.lst [.tup [.str w_num, .int (A)], .tup [.str w_num, .int (-A)], .tup [.str w_get, .int (59)], .tup [.str w_fun, .int (b - 1), .tup [.int (59), .int (59), .int (59), .int (59), .int (59), .int (59), .int (59), .int (59)]], .tup [.str w_jump, .int (z)]]) (.lst [.tup [.str w_unless, .int (z)], .tup [.str w_fun, .int (0), .tup []], .tup [.str w_num, .int (A + 1)], .tup [.str w_num, .int (-A - 1)], .tup [.str w_num]]) = .ok (.lst [.tup [.str w_num, .int (A)], .tup [.str w_num, .int (-A)], .tup [.str w_get, .int (59)], .tup [.str w_fun, .int (b - 1), .tup [.int (59), .int (59), .int (59), .int (59), .int (59), .int (59), .int (59), .int (59)]], .tup [.str w_jump, .int (z)], .tup [.str w_unless, .int (z)], .tup [.str w_fun, .int (0), .tup []], .tup [.str w_num, .int (A + 1)], .tup [.str w_num, .int (-A - 1)], .tup [.str w_num]]) := m_catL _ _ (by show 10 ≤ 16777216; decide)
  have a2 : addD (.lst [.tup [.str w_num, .int (A)], .tup [.str w_num, .int (-A)], .tup [.str w_get, .int (59)], .tup [.str w_fun, .int (b - 1), .tup [.int (59), .int (59), .int (59), .int (59), .int (59), .int (59), .int (59), .int (59)]], .tup [.str w_jump, .int (z)], .tup [.str w_unless, .int (z)], .tup [.str w_fun, .int (0), .tup []], .tup [.str w_num, .int (A + 1)], .tup [.str w_num, .int (-A - 1)], .tup [.str w_num]]) (.lst [.tup [.str w_num, .int (1), .int (1)], .tup [.str w_num, .str w_1], .tup [.str w_get, .int (60)], .tup [.str w_get, .int (-1)], .tup [.str w_get], .tup [.str w_get, .str w_zero], .tup [.str w_add, .int (1)]]) = .ok (.lst [.tup [.str w_num, .int (A)], .tup [.str w_num, .int (-A)], .tup [.str w_get, .int (59)], .tup [.str w_fun, .int (b - 1), .tup [.int (59), .int (59), .int (59), .int (59), .int (59), .int (59), .int (59), .int (59)]], .tup [.str w_jump, .int (z)], .tup [.str w_unless, .int (z)], .tup [.str w_fun, .int (0), .tup []], .tup [.str w_num, .int (A + 1)], .tup [.str w_num, .int (-A - 1)], .tup [.str w_num], .tup [.str w_num, .int (1), .int (1)], .tup [.str w_num, .str w_1], .tup [.str w_get, .int (60)], .tup [.str w_get, .int (-1)], .tup [.str w_get], .tup [.str w_get, .str w_zero], .tup [.str w_add, .int (1)]]) := m_catL _ _ (by show 17 ≤ 16777216; decide)
  have a3 : addD (.lst [.tup [.str w_num, .int (A)], .tup [.str w_num, .int (-A)], .tup [.str w_get, .int (59)], .tup [.str w_fun, .int (b - 1), .tup [.int (59), .int (59), .int (59), .int (59), .int (59), .int (59), .int (59), .int (59)]], .tup [.str w_jump, .int (z)], .tup [.str w_unless, .int (z)], .tup [.str w_fun, .int (0), .tup []], .tup [.str w_num, .int (A + 1)], .tup [.str w_num, .int (-A - 1)], .tup [.str w_num], .tup [.str w_num, .int (1), .int (1)], .tup [.str w_num, .str w_1], .tup [.str w_get, .int (60)], .tup [.str w_get, .int (-1)], .tup [.str w_get], .tup [.str w_get, .str w_zero], .tup [.str w_add, .int (1)]]) (.lst [.tup [.str w_Add], .tup [.str w_0], .tup [.str w_ad], .tup [.str w_say, .str w_a], .tup [.str w_call, .tup []], .tup [.str w_fun, .int (0)], .tup [.str w_fun, .int (0), .tup [.int (60)]], .tup [.str w_jump]]) = .ok (.lst [.tup [.str w_num, .int (A)], .tup [.str w_num, .int (-A)], .tup [.str w_get, .int (59)], .tup [.str w_fun, .int (b - 1), .tup [.int (59), .int (59), .int (59), .int (59), .int (59), .int (59), .int (59), .int (59)]], .tup [.str w_jump, .int (z)], .tup [.str w_unless, .int (z)], .tup [.str w_fun, .int (0), .tup []], .tup [.str w_num, .int (A + 1)], .tup [.str w_num, .int (-A - 1)], .tup [.str w_num], .tup [.str w_num, .int (1), .int (1)], .tup [.str w_num, .str w_1], .tup [.str w_get, .int (60)], .tup [.str w_get, .int (-1)], .tup [.str w_get], .tup [.str w_get, .str w_zero], .tup [.str w_add, .int (1)], .tup [.str w_Add], .tup [.str w_0], .tup [.str w_ad], .tup [.str w_say, .str w_a], .tup [.str w_call, .tup []], .tup [.str w_fun, .int (0)], .tup [.str w_fun, .int (0), .tup [.int (60)]], .tup [.str w_jump]]) := m_catL _ _ (by show 25 ≤ 16777216; decide)
  have a4 : addD (.lst [.tup [.str w_num, .int (A)], .tup [.str w_num, .int (-A)], .tup [.str w_get, .int (59)], .tup [.str w_fun, .int (b - 1), .tup [.int (59), .int (59), .int (59), .int (59), .int (59), .int (59), .int (59), .int (59)]], .tup [.str w_jump, .int (z)], .tup [.str w_unless, .int (z)], .tup [.str w_fun, .int (0), .tup []], .tup [.str w_num, .int (A + 1)], .tup [.str w_num, .int (-A - 1)], .tup [.str w_num], .tup [.str w_num, .int (1), .int (1)], .tup [.str w_num, .str w_1], .tup [.str w_get, .int (60)], .tup [.str w_get, .int (-1)], .tup [.str w_get], .tup [.str w_get, .str w_zero], .tup [.str w_add, .int (1)], .tup [.str w_Add], .tup [.str w_0], .tup [.str w_ad], .tup [.str w_say, .str w_a], .tup [.str w_call, .tup []], .tup [.str w_fun, .int (0)], .tup [.str w_fun, .int (0), .tup [.int (60)]], .tup [.str w_jump]]) (.lst [.tup [.str w_fun, .int (0), .tup [.int (0), .int (0), .int (0), .int (0), .int (0), .int (0), .int (0), .int (0), .int (0)]], .tup [.str w_fun, .int (0), .tup [.int (-1)]], .tup [.str w_fun, .int (0), .int (0)], .tup [.str w_fun, .str w_zero, .tup []]]) = .ok (.lst [.tup [.str w_num, .int (A)], .tup [.str w_num, .int (-A)], .tup [.str w_get, .int (59)], .tup [.str w_fun, .int (b - 1), .tup [.int (59), .int (59), .int (59), .int (59), .int (59), .int (59), .int (59), .int (59)]], .tup [.str w_jump, .int (z)], .tup [.str w_unless, .int (z)], .tup [.str w_fun, .int (0), .tup []], .tup [.str w_num, .int (A + 1)], .tup [.str w_num, .int (-A - 1)], .tup [.str w_num], .tup [.str w_num, .int (1), .int (1)], .tup [.str w_num, .str w_1], .tup [.str w_get, .int (60)], .tup [.str w_get, .int (-1)], .tup [.str w_get], .tup [.str w_get, .str w_zero], .tup [.str w_add, .int (1)], .tup [.str w_Add], .tup [.str w_0], .tup [.str w_ad], .tup [.str w_say, .str w_a], .tup [.str w_call, .tup []], .tup [.str w_fun, .int (0)], .tup [.str w_fun, .int (0), .tup [.int (60)]], .tup [.str w_jump], .tup [.str w_fun, .int (0), .tup [.int (0), .int (0), .int (0), .int (0), .int (0), .int (0), .int (0), .int (0), .int (0)]], .tup [.str w_fun, .int (0), .tup [.int (-1)]], .tup [.str w_fun, .int (0), .int (0)], .tup [.str w_fun, .str w_zero, .tup []]]) := m_catL _ _ (by show 29 ≤ 16777216; decide)
  have a5 : addD (.lst [.tup [.str w_num, .int (A)], .tup [.str w_num, .int (-A)], .tup [.str w_get, .int (59)], .tup [.str w_fun, .int (b - 1), .tup [.int (59), .int (59), .int (59), .int (59), .int (59), .int (59), .int (59), .int (59)]], .tup [.str w_jump, .int (z)], .tup [.str w_unless, .int (z)], .tup [.str w_fun, .int (0), .tup []], .tup [.str w_num, .int (A + 1)], .tup [.str w_num, .int (-A - 1)], .tup [.str w_num], .tup [.str w_num, .int (1), .int (1)], .tup [.str w_num, .str w_1], .tup [.str w_get, .int (60)], .tup [.str w_get, .int (-1)], .tup [.str w_get], .tup [.str w_get, .str w_zero], .tup [.str w_add, .int (1)], .tup [.str w_Add], .tup [.str w_0], .tup [.str w_ad], .tup [.str w_say, .str w_a], .tup [.str w_call, .tup []], .tup [.str w_fun, .int (0)], .tup [.str w_fun, .int (0), .tup [.int (60)]], .tup [.str w_jump], .tup [.str w_fun, .int (0), .tup [.int (0), .int (0), .int (0), .int (0), .int (0), .int (0), .int (0), .int (0), .int (0)]], .tup [.str w_fun, .int (0), .tup [.int (-1)]], .tup [.str w_fun, .int (0), .int (0)], .tup [.str w_fun, .str w_zero, .tup []]]) (.lst [.tup [.str w_fun, .int (b), .tup [.int (60)]]]) = .ok (.lst [.tup [.str w_num, .int (A)], .tup [.str w_num, .int (-A)], .tup [.str w_get, .int (59)], .tup [.str w_fun, .int (b - 1), .tup [.int (59), .int (59), .int (59), .int (59), .int (59), .int (59), .int (59), .int (59)]], .tup [.str w_jump, .int (z)], .tup [.str w_unless, .int (z)], .tup [.str w_fun, .int (0), .tup []], .tup [.str w_num, .int (A + 1)], .tup [.str w_num, .int (-A - 1)], .tup [.str w_num], .tup [.str w_num, .int (1), .int (1)], .tup [.str w_num, .str w_1], .tup [.str w_get, .int (60)], .tup [.str w_get, .int (-1)], .tup [.str w_get], .tup [.str w_get, .str w_zero], .tup [.str w_add, .int (1)], .tup [.str w_Add], .tup [.str w_0], .tup [.str w_ad], .tup [.str w_say, .str w_a], .tup [.str w_call, .tup []], .tup [.str w_fun, .int (0)], .tup [.str w_fun, .int (0), .tup [.int (60)]], .tup [.str w_jump], .tup [.str w_fun, .int (0), .tup [.int (0), .int (0), .int (0), .int (0), .int (0), .int (0), .int (0), .int (0), .int (0)]], .tup [.str w_fun, .int (0), .tup [.int (-1)]], .tup [.str w_fun, .int (0), .int (0)], .tup [.str w_fun, .str w_zero, .tup []], .tup [.str w_fun, .int (b), .tup [.int (60)]]]) := m_catL _ _ (by show 30 ≤ 16777216; decide)
  have a6 : addD (.lst [.tup [.str w_num, .int (A)], .tup [.str w_num, .int (-A)], .tup [.str w_get, .int (59)], .tup [.str w_fun, .int (b - 1), .tup [.int (59), .int (59), .int (59), .int (59), .int (59), .int (59), .int (59), .int (59)]], .tup [.str w_jump, .int (z)], .tup [.str w_unless, .int (z)], .tup [.str w_fun, .int (0), .tup []], .tup [.str w_num, .int (A + 1)], .tup [.str w_num, .int (-A - 1)], .tup [.str w_num], .tup [.str w_num, .int (1), .int (1)], .tup [.str w_num, .str w_1], .tup [.str w_get, .int (60)], .tup [.str w_get, .int (-1)], .tup [.str w_get], .tup [.str w_get, .str w_zero], .tup [.str w_add, .int (1)], .tup [.str w_Add], .tup [.str w_0], .tup [.str w_ad], .tup [.str w_say, .str w_a], .tup [.str w_call, .tup []], .tup [.str w_fun, .int (0)], .tup [.str w_fun, .int (0), .tup [.int (60)]], .tup [.str w_jump], .tup [.str w_fun, .int (0), .tup [.int (0), .int (0), .int (0), .int (0), .int (0), .int (0), .int (0), .int (0), .int (0)]], .tup [.str w_fun, .int (0), .tup [.int (-1)]], .tup [.str w_fun, .int (0), .int (0)], .tup [.str w_fun, .str w_zero, .tup []], .tup [.str w_fun, .int (b), .tup [.int (60)]]]) (.lst [.tup [.str w_fun, .int (b), .tup []], .tup [.str w_fun, .int (-1), .tup []], .tup [.str w_fun, .int (A + m), .tup [.int (1), .int (2)]]]) = .ok (.lst [.tup [.str w_num, .int (A)], .tup [.str w_num, .int (-A)], .tup [.str w_get, .int (59)], .tup [.str w_fun, .int (b - 1), .tup [.int (59), .int (59), .int (59), .int (59), .int (59), .int (59), .int (59), .int (59)]], .tup [.str w_jump, .int (z)], .tup [.str w_unless, .int (z)], .tup [.str w_fun, .int (0), .tup []], .tup [.str w_num, .int (A + 1)], .tup [.str w_num, .int (-A - 1)], .tup [.str w_num], .tup [.str w_num, .int (1), .int (1)], .tup [.str w_num, .str w_1], .tup [.str w_get, .int (60)], .tup [.str w_get, .int (-1)], .tup [.str w_get], .tup [.str w_get, .str w_zero], .tup [.str w_add, .int (1)], .tup [.str w_Add], .tup [.str w_0], .tup [.str w_ad], .tup [.str w_say, .str w_a], .tup [.str w_call, .tup []], .tup [.str w_fun, .int (0)], .tup [.str w_fun, .int (0), .tup [.int (60)]], .tup [.str w_jump], .tup [.str w_fun, .int (0), .tup [.int (0), .int (0), .int (0), .int (0), .int (0), .int (0), .int (0), .int (0), .int (0)]], .tup [.str w_fun, .int (0), .tup [.int (-1)]], .tup [.str w_fun, .int (0), .int (0)], .tup [.str w_fun, .str w_zero, .tup []], .tup [.str w_fun, .int (b), .tup [.int (60)]], .tup [.str w_fun, .int (b), .tup []], .tup [.str w_fun, .int (-1), .tup []], .tup [.str w_fun, .int (A + m), .tup [.int (1), .int (2)]]]) := m_catL _ _ (by show 33 ≤ 16777216; decide)
  have a7 : addD (.lst [.tup [.str w_num, .int (A)], .tup [.str w_num, .int (-A)], .tup [.str w_get, .int (59)], .tup [.str w_fun, .int (b - 1), .tup [.int (59), .int (59), .int (59), .int (59), .int (59), .int (59), .int (59), .int (59)]], .tup [.str w_jump, .int (z)], .tup [.str w_unless, .int (z)], .tup [.str w_fun, .int (0), .tup []], .tup [.str w_num, .int (A + 1)], .tup [.str w_num, .int (-A - 1)], .tup [.str w_num], .tup [.str w_num, .int (1), .int (1)], .tup [.str w_num, .str w_1], .tup [.str w_get, .int (60)], .tup [.str w_get, .int (-1)], .tup [.str w_get], .tup [.str w_get, .str w_zero], .tup [.str w_add, .int (1)], .tup [.str w_Add], .tup [.str w_0], .tup [.str w_ad], .tup [.str w_say, .str w_a], .tup [.str w_call, .tup []], .tup [.str w_fun, .int (0)], .tup [.str w_fun, .int (0), .tup [.int (60)]], .tup [.str w_jump], .tup [.str w_fun, .int (0), .tup [.int (0), .int (0), .int (0), .int (0), .int (0), .int (0), .int (0), .int (0), .int (0)]], .tup [.str w_fun, .int (0), .tup [.int (-1)]], .tup [.str w_fun, .int (0), .int (0)], .tup [.str w_fun, .str w_zero, .tup []], .tup [.str w_fun, .int (b), .tup [.int (60)]], .tup [.str w_fun, .int (b), .tup []], .tup [.str w_fun, .int (-1), .tup []], .tup [.str w_fun, .int (A + m), .tup [.int (1), .int (2)]]]) (.lst [.tup [.str w_jump, .int (z + 1)], .tup [.str w_unless, .int (-1)]]) = .ok (.lst [.tup [.str w_num, .int (A)], .tup [.str w_num, .int (-A)], .tup [.str w_get, .int (59)], .tup [.str w_fun, .int (b - 1), .tup [.int (59), .int (59), .int (59), .int (59), .int (59), .int (59), .int (59), .int (59)]], .tup [.str w_jump, .int (z)], .tup [.str w_unless, .int (z)], .tup [.str w_fun, .int (0), .tup []], .tup [.str w_num, .int (A + 1)], .tup [.str w_num, .int (-A - 1)], .tup [.str w_num], .tup [.str w_num, .int (1), .int (1)], .tup [.str w_num, .str w_1], .tup [.str w_get, .int (60)], .tup [.str w_get, .int (-1)], .tup [.str w_get], .tup [.str w_get, .str w_zero], .tup [.str w_add, .int (1)], .tup [.str w_Add], .tup [.str w_0], .tup [.str w_ad], .tup [.str w_say, .str w_a], .tup [.str w_call, .tup []], .tup [.str w_fun, .int (0)], .tup [.str w_fun, .int (0), .tup [.int (60)]], .tup [.str w_jump], .tup [.str w_fun, .int (0), .tup [.int (0), .int (0), .int (0), .int (0), .int (0), .int (0), .int (0), .int (0), .int (0)]], .tup [.str w_fun, .int (0), .tup [.int (-1)]], .tup [.str w_fun, .int (0), .int (0)], .tup [.str w_fun, .str w_zero, .tup []], .tup [.str w_fun, .int (b), .tup [.int (60)]], .tup [.str w_fun, .int (b), .tup []], .tup [.str w_fun, .int (-1), .tup []], .tup [.str w_fun, .int (A + m), .tup [.int (1), .int (2)]], .tup [.str w_jump, .int (z + 1)], .tup [.str w_unless, .int (-1)]]) := m_catL _ _ (by show 35 ≤ 16777216; decide)
  have a8 : addD (.lst [.tup [.str w_num, .int (A)], .tup [.str w_num, .int (-A)], .tup [.str w_get, .int (59)], .tup [.str w_fun, .int (b - 1), .tup [.int (59), .int (59), .int (59), .int (59), .int (59), .int (59), .int (59), .int (59)]], .tup [.str w_jump, .int (z)], .tup [.str w_unless, .int (z)], .tup [.str w_fun, .int (0), .tup []], .tup [.str w_num, .int (A + 1)], .tup [.str w_num, .int (-A - 1)], .tup [.str w_num], .tup [.str w_num, .int (1), .int (1)], .tup [.str w_num, .str w_1], .tup [.str w_get, .int (60)], .tup [.str w_get, .int (-1)], .tup [.str w_get], .tup [.str w_get, .str w_zero], .tup [.str w_add, .int (1)], .tup [.str w_Add], .tup [.str w_0], .tup [.str w_ad], .tup [.str w_say, .str w_a], .tup [.str w_call, .tup []], .tup [.str w_fun, .int (0)], .tup [.str w_fun, .int (0), .tup [.int (60)]], .tup [.str w_jump], .tup [.str w_fun, .int (0), .tup [.int (0), .int (0), .int (0), .int (0), .int (0), .int (0), .int (0), .int (0), .int (0)]], .tup [.str w_fun, .int (0), .tup [.int (-1)]], .tup [.str w_fun, .int (0), .int (0)], .tup [.str w_fun, .str w_zero, .tup []], .tup [.str w_fun, .int (b), .tup [.int (60)]], .tup [.str w_fun, .int (b), .tup []], .tup [.str w_fun, .int (-1), .tup []], .tup [.str w_fun, .int (A + m), .tup [.int (1), .int (2)]], .tup [.str w_jump, .int (z + 1)], .tup [.str w_unless, .int (-1)]]) (.lst [.tup [.str w_num, .tup [.int (1)]], .tup [.str w_get, .tup []], .tup [.str w_jump, .tup [.int (0)]], .tup [.str w_unless, .tup []], .tup [.str w_fun, .tup [.int (0)], .tup []]]) = .ok (.lst [.tup [.str w_num, .int (A)], .tup [.str w_num, .int (-A)], .tup [.str w_get, .int (59)], .tup [.str w_fun, .int (b - 1), .tup [.int (59), .int (59), .int (59), .int (59), .int (59), .int (59), .int (59), .int (59)]], .tup [.str w_jump, .int (z)], .tup [.str w_unless, .int (z)], .tup [.str w_fun, .int (0), .tup []], .tup [.str w_num, .int (A + 1)], .tup [.str w_num, .int (-A - 1)], .tup [.str w_num], .tup [.str w_num, .int (1), .int (1)], .tup [.str w_num, .str w_1], .tup [.str w_get, .int (60)], .tup [.str w_get, .int (-1)], .tup [.str w_get], .tup [.str w_get, .str w_zero], .tup [.str w_add, .int (1)], .tup [.str w_Add], .tup [.str w_0], .tup [.str w_ad], .tup [.str w_say, .str w_a], .tup [.str w_call, .tup []], .tup [.str w_fun, .int (0)], .tup [.str w_fun, .int (0), .tup [.int (60)]], .tup [.str w_jump], .tup [.str w_fun, .int (0), .tup [.int (0), .int (0), .int (0), .int (0), .int (0), .int (0), .int (0), .int (0), .int (0)]], .tup [.str w_fun, .int (0), .tup [.int (-1)]], .tup [.str w_fun, .int (0), .int (0)], .tup [.str w_fun, .str w_zero, .tup []], .tup [.str w_fun, .int (b), .tup [.int (60)]], .tup [.str w_fun, .int (b), .tup []], .tup [.str w_fun, .int (-1), .tup []], .tup [.str w_fun, .int (A + m), .tup [.int (1), .int (2)]], .tup [.str w_jump, .int (z + 1)], .tup [.str w_unless, .int (-1)], .tup [.str w_num, .tup [.int (1)]], .tup [.str w_get, .tup []], .tup [.str w_jump, .tup [.int (0)]], .tup [.str w_unless, .tup []], .tup [.str w_fun, .tup [.int (0)], .tup []]]) := m_catL _ _ (by show 40 ≤ 16777216; decide)
  have a9 : addD (.lst [.tup [.str w_num, .int (A)], .tup [.str w_num, .int (-A)], .tup [.str w_get, .int (59)], .tup [.str w_fun, .int (b - 1), .tup [.int (59), .int (59), .int (59), .int (59), .int (59), .int (59), .int (59), .int (59)]], .tup [.str w_jump, .int (z)], .tup [.str w_unless, .int (z)], .tup [.str w_fun, .int (0), .tup []], .tup [.str w_num, .int (A + 1)], .tup [.str w_num, .int (-A - 1)], .tup [.str w_num], .tup [.str w_num, .int (1), .int (1)], .tup [.str w_num, .str w_1], .tup [.str w_get, .int (60)], .tup [.str w_get, .int (-1)], .tup [.str w_get], .tup [.str w_get, .str w_zero], .tup [.str w_add, .int (1)], .tup [.str w_Add], .tup [.str w_0], .tup [.str w_ad], .tup [.str w_say, .str w_a], .tup [.str w_call, .tup []], .tup [.str w_fun, .int (0)], .tup [.str w_fun, .int (0), .tup [.int (60)]], .tup [.str w_jump], .tup [.str w_fun, .int (0), .tup [.int (0), .int (0), .int (0), .int (0), .int (0), .int (0), .int (0), .int (0), .int (0)]], .tup [.str w_fun, .int (0), .tup [.int (-1)]], .tup [.str w_fun, .int (0), .int (0)], .tup [.str w_fun, .str w_zero, .tup []], .tup [.str w_fun, .int (b), .tup [.int (60)]], .tup [.str w_fun, .int (b), .tup []], .tup [.str w_fun, .int (-1), .tup []], .tup [.str w_fun, .int (A + m), .tup [.int (1), .int (2)]], .tup [.str w_jump, .int (z + 1)], .tup [.str w_unless, .int (-1)], .tup [.str w_num, .tup [.int (1)]], .tup [.str w_get, .tup []], .tup [.str w_jump, .tup [.int (0)]], .tup [.str w_unless, .tup []], .tup [.str w_fun, .tup [.int (0)], .tup []]]) (.lst [.tup [.str u, .int (0)], .tup [.str u]]) = .ok (.lst [.tup [.str w_num, .int (A)], .tup [.str w_num, .int (-A)], .tup [.str w_get, .int (59)], .tup [.str w_fun, .int (b - 1), .tup [.int (59), .int (59), .int (59), .int (59), .int (59), .int (59), .int (59), .int (59)]], .tup [.str w_jump, .int (z)], .tup [.str w_unless, .int (z)], .tup [.str w_fun, .int (0), .tup []], .tup [.str w_num, .int (A + 1)], .tup [.str w_num, .int (-A - 1)], .tup [.str w_num], .tup [.str w_num, .int (1), .int (1)], .tup [.str w_num, .str w_1], .tup [.str w_get, .int (60)], .tup [.str w_get, .int (-1)], .tup [.str w_get], .tup [.str w_get, .str w_zero], .tup [.str w_add, .int (1)], .tup [.str w_Add], .tup [.str w_0], .tup [.str w_ad], .tup [.str w_say, .str w_a], .tup [.str w_call, .tup []], .tup [.str w_fun, .int (0)], .tup [.str w_fun, .int (0), .tup [.int (60)]], .tup [.str w_jump], .tup [.str w_fun, .int (0), .tup [.int (0), .int (0), .int (0), .int (0), .int (0), .int (0), .int (0), .int (0), .int (0)]], .tup [.str w_fun, .int (0), .tup [.int (-1)]], .tup [.str w_fun, .int (0), .int (0)], .tup [.str w_fun, .str w_zero, .tup []], .tup [.str w_fun, .int (b), .tup [.int (60)]], .tup [.str w_fun, .int (b), .tup []], .tup [.str w_fun, .int (-1), .tup []], .tup [.str w_fun, .int (A + m), .tup [.int (1), .int (2)]], .tup [.str w_jump, .int (z + 1)], .tup [.str w_unless, .int (-1)], .tup [.str w_num, .tup [.int (1)]], .tup [.str w_get, .tup []], .tup [.str w_jump, .tup [.int (0)]], .tup [.str w_unless, .tup []], .tup [.str w_fun, .tup [.int (0)], .tup []], .tup [.str u, .int (0)], .tup [.str u]]) := m_catL _ _ (by show 42 ≤ 16777216; decide)
  have a10 : addD (.lst [.tup [.str w_num, .int (A)], .tup [.str w_num, .int (-A)], .tup [.str w_get, .int (59)], .tup [.str w_fun, .int (b - 1), .tup [.int (59), .int (59), .int (59), .int (59), .int (59), .int (59), .int (59), .int (59)]], .tup [.str w_jump, .int (z)], .tup [.str w_unless, .int (z)], .tup [.str w_fun, .int (0), .tup []], .tup [.str w_num, .int (A + 1)], .tup [.str w_num, .int (-A - 1)], .tup [.str w_num], .tup [.str w_num, .int (1), .int (1)], .tup [.str w_num, .str w_1], .tup [.str w_get, .int (60)], .tup [.str w_get, .int (-1)], .tup [.str w_get], .tup [.str w_get, .str w_zero], .tup [.str w_add, .int (1)], .tup [.str w_Add], .tup [.str w_0], .tup [.str w_ad], .tup [.str w_say, .str w_a], .tup [.str w_call, .tup []], .tup [.str w_fun, .int (0)], .tup [.str w_fun, .int (0), .tup [.int (60)]], .tup [.str w_jump], .tup [.str w_fun, .int (0), .tup [.int (0), .int (0), .int (0), .int (0), .int (0), .int (0), .int (0), .int (0), .int (0)]], .tup [.str w_fun, .int (0), .tup [.int (-1)]], .tup [.str w_fun, .int (0), .int (0)], .tup [.str w_fun, .str w_zero, .tup []], .tup [.str w_fun, .int (b), .tup [.int (60)]], .tup [.str w_fun, .int (b), .tup []], .tup [.str w_fun, .int (-1), .tup []], .tup [.str w_fun, .int (A + m), .tup [.int (1), .int (2)]], .tup [.str w_jump, .int (z + 1)], .tup [.str w_unless, .int (-1)], .tup [.str w_num, .tup [.int (1)]], .tup [.str w_get, .tup []], .tup [.str w_jump, .tup [.int (0)]], .tup [.str w_unless, .tup []], .tup [.str w_fun, .tup [.int (0)], .tup []], .tup [.str u, .int (0)], .tup [.str u]]) (.lst [.tup [.str w_jump, .int (A + m)], .tup [.str w_unless, .str w_zero], .tup [.str w_jump, .int (0), .int (0)], .tup [.str w_num, .int (A + m + 1)], .tup [.str w_get, .int (A + m)]]) = .ok (.lst [.tup [.str w_num, .int (A)], .tup [.str w_num, .int (-A)], .tup [.str w_get, .int (59)], .tup [.str w_fun, .int (b - 1), .tup [.int (59), .int (59), .int (59), .int (59), .int (59), .int (59), .int (59), .int (59)]], .tup [.str w_jump, .int (z)], .tup [.str w_unless, .int (z)], .tup [.str w_fun, .int (0), .tup []], .tup [.str w_num, .int (A + 1)], .tup [.str w_num, .int (-A - 1)], .tup [.str w_num], .tup [.str w_num, .int (1), .int (1)], .tup [.str w_num, .str w_1], .tup [.str w_get, .int (60)], .tup [.str w_get, .int (-1)], .tup [.str w_get], .tup [.str w_get, .str w_zero], .tup [.str w_add, .int (1)], .tup [.str w_Add], .tup [.str w_0], .tup [.str w_ad], .tup [.str w_say, .str w_a], .tup [.str w_call, .tup []], .tup [.str w_fun, .int (0)], .tup [.str w_fun, .int (0), .tup [.int (60)]], .tup [.str w_jump], .tup [.str w_fun, .int (0), .tup [.int (0), .int (0), .int (0), .int (0), .int (0), .int (0), .int (0), .int (0), .int (0)]], .tup [.str w_fun, .int (0), .tup [.int (-1)]], .tup [.str w_fun, .int (0), .int (0)], .tup [.str w_fun, .str w_zero, .tup []], .tup [.str w_fun, .int (b), .tup [.int (60)]], .tup [.str w_fun, .int (b), .tup []], .tup [.str w_fun, .int (-1), .tup []], .tup [.str w_fun, .int (A + m), .tup [.int (1), .int (2)]], .tup [.str w_jump, .int (z + 1)], .tup [.str w_unless, .int (-1)], .tup [.str w_num, .tup [.int (1)]], .tup [.str w_get, .tup []], .tup [.str w_jump, .tup [.int (0)]], .tup [.str w_unless, .tup []], .tup [.str w_fun, .tup [.int (0)], .tup []], .tup [.str u, .int (0)], .tup [.str u], .tup [.str w_jump, .int (A + m)], .tup [.str w_unless, .str w_zero], .tup [.str w_jump, .int (0), .int (0)], .tup [.str w_num, .int (A + m + 1)], .tup [.str w_get, .int (A + m)]]) := m_catL _ _ (by show 47 ≤ 16777216; decide)
  have okL : ∀ d ∈ ([.tup [.str w_num, .int (A)], .tup [.str w_num, .int (-A)], .tup [.str w_get, .int (59)], .tup [.str w_fun, .int (b - 1), .tup [.int (59), .int (59), .int (59), .int (59), .int (59), .int (59), .int (59), .int (59)]], .tup [.str w_jump, .int (z)], .tup [.str w_unless, .int (z)], .tup [.str w_fun, .int (0), .tup []], .tup [.str w_num, .int (A + 1)], .tup [.str w_num, .int (-A - 1)], .tup [.str w_num], .tup [.str w_num, .int (1), .int (1)], .tup [.str w_num, .str w_1], .tup [.str w_get, .int (60)], .tup [.str w_get, .int (-1)], .tup [.str w_get], .tup [.str w_get, .str w_zero], .tup [.str w_add, .int (1)], .tup [.str w_Add], .tup [.str w_0], .tup [.str w_ad], .tup [.str w_say, .str w_a], .tup [.str w_call, .tup []], .tup [.str w_fun, .int (0)], .tup [.str w_fun, .int (0), .tup [.int (60)]], .tup [.str w_jump], .tup [.str w_fun, .int (0), .tup [.int (0), .int (0), .int (0), .int (0), .int (0), .int (0), .int (0), .int (0), .int (0)]], .tup [.str w_fun, .int (0), .tup [.int (-1)]], .tup [.str w_fun, .int (0), .int (0)], .tup [.str w_fun, .str w_zero, .tup []], .tup [.str w_fun, .int (b), .tup [.int (60)]], .tup [.str w_fun, .int (b), .tup []], .tup [.str w_fun, .int (-1), .tup []], .tup [.str w_fun, .int (A + m), .tup [.int (1), .int (2)]], .tup [.str w_jump, .int (z + 1)], .tup [.str w_unless, .int (-1)], .tup [.str w_num, .tup [.int (1)]], .tup [.str w_get, .tup []], .tup [.str w_jump, .tup [.int (0)]], .tup [.str w_unless, .tup []], .tup [.str w_fun, .tup [.int (0)], .tup []], .tup [.str u, .int (0)], .tup [.str u], .tup [.str w_jump, .int (A + m)], .tup [.str w_unless, .str w_zero], .tup [.str w_jump, .int (0), .int (0)], .tup [.str w_num, .int (A + m + 1)], .tup [.str w_get, .int (A + m)]] : List D), rowD d := all_cons ⟨w_num, [.int (A)], rfl, (okRw1 (by decide +kernel) trivial)⟩ (all_cons ⟨w_num, [.int (-A)], rfl, (okRw1 (by decide +kernel) trivial)⟩ (all_cons ⟨w_get, [.int (59)], rfl, (okRw1 (by decide +kernel) trivial)⟩ (all_cons ⟨w_fun, [.int (b - 1), .tupI [59, 59, 59, 59, 59, 59, 59, 59]], rfl, (okRw2 (by decide +kernel) trivial (by show List.length _ ≤ 1000; simp))⟩ (all_cons ⟨w_jump, [.int (z)], rfl, (okRw1 (by decide +kernel) trivial)⟩ (all_cons ⟨w_unless, [.int (z)], rfl, (okRw1 (by decide +kernel) trivial)⟩ (all_cons ⟨w_fun, [.int (0), .tupI []], rfl, (okRw2 (by decide +kernel) trivial (by show List.length _ ≤ 1000; simp))⟩ (all_cons ⟨w_num, [.int (A + 1)], rfl, (okRw1 (by decide +kernel) trivial)⟩ (all_cons ⟨w_num, [.int (-A - 1)], rfl, (okRw1 (by decide +kernel) trivial)⟩ (all_cons ⟨w_num, [], rfl, (okRw0 (by decide +kernel))⟩ (all_cons ⟨w_num, [.int (1), .int (1)], rfl, (okRw2 (by decide +kernel) trivial trivial)⟩ (all_cons ⟨w_num, [.str w_1], rfl, (okRw1 (by decide +kernel) (by show PyData.strOk _ = true; decide +kernel))⟩ (all_cons ⟨w_get, [.int (60)], rfl, (okRw1 (by decide +kernel) trivial)⟩ (all_cons ⟨w_get, [.int (-1)], rfl, (okRw1 (by decide +kernel) trivial)⟩ (all_cons ⟨w_get, [], rfl, (okRw0 (by decide +kernel))⟩ (all_cons ⟨w_get, [.str w_zero], rfl, (okRw1 (by decide +kernel) (by show PyData.strOk _ = true; decide +kernel))⟩ (all_cons ⟨w_add, [.int (1)], rfl, (okRw1 (by decide +kernel) trivial)⟩ (all_cons ⟨w_Add, [], rfl, (okRw0 (by decide +kernel))⟩ (all_cons ⟨w_0, [], rfl, (okRw0 (by decide +kernel))⟩ (all_cons ⟨w_ad, [], rfl, (okRw0 (by decide +kernel))⟩ (all_cons ⟨w_say, [.str w_a], rfl, (okRw1 (by decide +kernel) (by show PyData.strOk _ = true; decide +kernel))⟩ (all_cons ⟨w_call, [.tupI []], rfl, (okRw1 (by decide +kernel) (by show List.length _ ≤ 1000; simp))⟩ (all_cons ⟨w_fun, [.int (0)], rfl, (okRw1 (by decide +kernel) trivial)⟩ (all_cons ⟨w_fun, [.int (0), .tupI [60]], rfl, (okRw2 (by decide +kernel) trivial (by show List.length _ ≤ 1000; simp))⟩ (all_cons ⟨w_jump, [], rfl, (okRw0 (by decide +kernel))⟩ (all_cons ⟨w_fun, [.int (0), .tupI [0, 0, 0, 0, 0, 0, 0, 0, 0]], rfl, (okRw2 (by decide +kernel) trivial (by show List.length _ ≤ 1000; simp))⟩ (all_cons ⟨w_fun, [.int (0), .tupI [-1]], rfl, (okRw2 (by decide +kernel) trivial (by show List.length _ ≤ 1000; simp))⟩ (all_cons ⟨w_fun, [.int (0), .int (0)], rfl, (okRw2 (by decide +kernel) trivial trivial)⟩ (all_cons ⟨w_fun, [.str w_zero, .tupI []], rfl, (okRw2 (by decide +kernel) (by show PyData.strOk _ = true; decide +kernel) (by show List.length _ ≤ 1000; simp))⟩ (all_cons ⟨w_fun, [.int (b), .tupI [60]], rfl, (okRw2 (by decide +kernel) trivial (by show List.length _ ≤ 1000; simp))⟩ (all_cons ⟨w_fun, [.int (b), .tupI []], rfl, (okRw2 (by decide +kernel) trivial (by show List.length _ ≤ 1000; simp))⟩ (all_cons ⟨w_fun, [.int (-1), .tupI []], rfl, (okRw2 (by decide +kernel) trivial (by show List.length _ ≤ 1000; simp))⟩ (all_cons ⟨w_fun, [.int (A + m), .tupI [1, 2]], rfl, (okRw2 (by decide +kernel) trivial (by show List.length _ ≤ 1000; simp))⟩ (all_cons ⟨w_jump, [.int (z + 1)], rfl, (okRw1 (by decide +kernel) trivial)⟩ (all_cons ⟨w_unless, [.int (-1)], rfl, (okRw1 (by decide +kernel) trivial)⟩ (all_cons ⟨w_num, [.tupI [1]], rfl, (okRw1 (by decide +kernel) (by show List.length _ ≤ 1000; simp))⟩ (all_cons ⟨w_get, [.tupI []], rfl, (okRw1 (by decide +kernel) (by show List.length _ ≤ 1000; simp))⟩ (all_cons ⟨w_jump, [.tupI [0]], rfl, (okRw1 (by decide +kernel) (by show List.length _ ≤ 1000; simp))⟩ (all_cons ⟨w_unless, [.tupI []], rfl, (okRw1 (by decide +kernel) (by show List.length _ ≤ 1000; simp))⟩ (all_cons ⟨w_fun, [.tupI [0], .tupI []], rfl, (okRw2 (by decide +kernel) (by show List.length _ ≤ 1000; simp) (by show List.length _ ≤ 1000; simp))⟩ (all_cons ⟨u, [.int (0)], rfl, (okRw1 hu trivial)⟩ (all_cons ⟨u, [], rfl, (okRw0 hu)⟩ (all_cons ⟨w_jump, [.int (A + m)], rfl, (okRw1 (by decide +kernel) trivial)⟩ (all_cons ⟨w_unless, [.str w_zero], rfl, (okRw1 (by decide +kernel) (by show PyData.strOk _ = true; decide +kernel))⟩ (all_cons ⟨w_jump, [.int (0), .int (0)], rfl, (okRw2 (by decide +kernel) trivial trivial)⟩ (all_cons ⟨w_num, [.int (A + m + 1)], rfl, (okRw1 (by decide +kernel) trivial)⟩ (all_cons ⟨w_get, [.int (A + m)], rfl, (okRw1 (by decide +kernel) trivial)⟩ (all_nil)))))))))))))))))))))))))))))))))))))))))))))))
  obtain ⟨y, hy, ym⟩ : ∃ y, atI ([.tup [.str w_num, .int (A)], .tup [.str w_num, .int (-A)], .tup [.str w_get, .int (59)], .tup [.str w_fun, .int (b - 1), .tup [.int (59), .int (59), .int (59), .int (59), .int (59), .int (59), .int (59), .int (59)]], .tup [.str w_jump, .int (z)], .tup [.str w_unless, .int (z)], .tup [.str w_fun, .int (0), .tup []], .tup [.str w_num, .int (A + 1)], .tup [.str w_num, .int (-A - 1)], .tup [.str w_num], .tup [.str w_num, .int (1), .int (1)], .tup [.str w_num, .str w_1], .tup [.str w_get, .int (60)], .tup [.str w_get, .int (-1)], .tup [.str w_get], .tup [.str w_get, .str w_zero], .tup [.str w_add, .int (1)], .tup [.str w_Add], .tup [.str w_0], .tup [.str w_ad], .tup [.str w_say, .str w_a], .tup [.str w_call, .tup []], .tup [.str w_fun, .int (0)], .tup [.str w_fun, .int (0), .tup [.int (60)]], .tup [.str w_jump], .tup [.str w_fun, .int (0), .tup [.int (0), .int (0), .int (0), .int (0), .int (0), .int (0), .int (0), .int (0), .int (0)]], .tup [.str w_fun, .int (0), .tup [.int (-1)]], .tup [.str w_fun, .int (0), .int (0)], .tup [.str w_fun, .str w_zero, .tup []], .tup [.str w_fun, .int (b), .tup [.int (60)]], .tup [.str w_fun, .int (b), .tup []], .tup [.str w_fun, .int (-1), .tup []], .tup [.str w_fun, .int (A + m), .tup [.int (1), .int (2)]], .tup [.str w_jump, .int (z + 1)], .tup [.str w_unless, .int (-1)], .tup [.str w_num, .tup [.int (1)]], .tup [.str w_get, .tup []], .tup [.str w_jump, .tup [.int (0)]], .tup [.str w_unless, .tup []], .tup [.str w_fun, .tup [.int (0)], .tup []], .tup [.str u, .int (0)], .tup [.str u], .tup [.str w_jump, .int (A + m)], .tup [.str w_unless, .str w_zero], .tup [.str w_jump, .int (0), .int (0)], .tup [.str w_num, .int (A + m + 1)], .tup [.str w_get, .int (A + m)]] : List D) (c % 47) = some y ∧ y ∈ ([.tup [.str w_num, .int (A)], .tup [.str w_num, .int (-A)], .tup [.str w_get, .int (59)], .tup [.str w_fun, .int (b - 1), .tup [.int (59), .int (59), .int (59), .int (59), .int (59), .int (59), .int (59), .int (59)]], .tup [.str w_jump, .int (z)], .tup [.str w_unless, .int (z)], .tup [.str w_fun, .int (0), .tup []], .tup [.str w_num, .int (A + 1)], .tup [.str w_num, .int (-A - 1)], .tup [.str w_num], .tup [.str w_num, .int (1), .int (1)], .tup [.str w_num, .str w_1], .tup [.str w_get, .int (60)], .tup [.str w_get, .int (-1)], .tup [.str w_get], .tup [.str w_get, .str w_zero], .tup [.str w_add, .int (1)], .tup [.str w_Add], .tup [.str w_0], .tup [.str w_ad], .tup [.str w_say, .str w_a], .tup [.str w_call, .tup []], .tup [.str w_fun, .int (0)], .tup [.str w_fun, .int (0), .tup [.int (60)]], .tup [.str w_jump], .tup [.str w_fun, .int (0), .tup [.int (0), .int (0), .int (0), .int (0), .int (0), .int (0), .int (0), .int (0), .int (0)]], .tup [.str w_fun, .int (0), .tup [.int (-1)]], .tup [.str w_fun, .int (0), .int (0)], .tup [.str w_fun, .str w_zero, .tup []], .tup [.str w_fun, .int (b), .tup [.int (60)]], .tup [.str w_fun, .int (b), .tup []], .tup [.str w_fun, .int (-1), .tup []], .tup [.str w_fun, .int (A + m), .tup [.int (1), .int (2)]], .tup [.str w_jump, .int (z + 1)], .tup [.str w_unless, .int (-1)], .tup [.str w_num, .tup [.int (1)]], .tup [.str w_get, .tup []], .tup [.str w_jump, .tup [.int (0)]], .tup [.str w_unless, .tup []], .tup [.str w_fun, .tup [.int (0)], .tup []], .tup [.str u, .int (0)], .tup [.str u], .tup [.str w_jump, .int (A + m)], .tup [.str w_unless, .str w_zero], .tup [.str w_jump, .int (0), .int (0)], .tup [.str w_num, .int (A + m + 1)], .tup [.str w_get, .int (A + m)]] : List D) := by
    have el : ([.tup [.str w_num, .int (A)], .tup [.str w_num, .int (-A)], .tup [.str w_get, .int (59)], .tup [.str w_fun, .int (b - 1), .tup [.int (59), .int (59), .int (59), .int (59), .int (59), .int (59), .int (59), .int (59)]], .tup [.str w_jump, .int (z)], .tup [.str w_unless, .int (z)], .tup [.str w_fun, .int (0), .tup []], .tup [.str w_num, .int (A + 1)], .tup [.str w_num, .int (-A - 1)], .tup [.str w_num], .tup [.str w_num, .int (1), .int (1)], .tup [.str w_num, .str w_1], .tup [.str w_get, .int (60)], .tup [.str w_get, .int (-1)], .tup [.str w_get], .tup [.str w_get, .str w_zero], .tup [.str w_add, .int (1)], .tup [.str w_Add], .tup [.str w_0], .tup [.str w_ad], .tup [.str w_say, .str w_a], .tup [.str w_call, .tup []], .tup [.str w_fun, .int (0)], .tup [.str w_fun, .int (0), .tup [.int (60)]], .tup [.str w_jump], .tup [.str w_fun, .int (0), .tup [.int (0), .int (0), .int (0), .int (0), .int (0), .int (0), .int (0), .int (0), .int (0)]], .tup [.str w_fun, .int (0), .tup [.int (-1)]], .tup [.str w_fun, .int (0), .int (0)], .tup [.str w_fun, .str w_zero, .tup []], .tup [.str w_fun, .int (b), .tup [.int (60)]], .tup [.str w_fun, .int (b), .tup []], .tup [.str w_fun, .int (-1), .tup []], .tup [.str w_fun, .int (A + m), .tup [.int (1), .int (2)]], .tup [.str w_jump, .int (z + 1)], .tup [.str w_unless, .int (-1)], .tup [.str w_num, .tup [.int (1)]], .tup [.str w_get, .tup []], .tup [.str w_jump, .tup [.int (0)]], .tup [.str w_unless, .tup []], .tup [.str w_fun, .tup [.int (0)], .tup []], .tup [.str u, .int (0)], .tup [.str u], .tup [.str w_jump, .int (A + m)], .tup [.str w_unless, .str w_zero], .tup [.str w_jump, .int (0), .int (0)], .tup [.str w_num, .int (A + m + 1)], .tup [.str w_get, .int (A + m)]] : List D).length = 47 := rfl
    generalize ([.tup [.str w_num, .int (A)], .tup [.str w_num, .int (-A)], .tup [.str w_get, .int (59)], .tup [.str w_fun, .int (b - 1), .tup [.int (59), .int (59), .int (59), .int (59), .int (59), .int (59), .int (59), .int (59)]], .tup [.str w_jump, .int (z)], .tup [.str w_unless, .int (z)], .tup [.str w_fun, .int (0), .tup []], .tup [.str w_num, .int (A + 1)], .tup [.str w_num, .int (-A - 1)], .tup [.str w_num], .tup [.str w_num, .int (1), .int (1)], .tup [.str w_num, .str w_1], .tup [.str w_get, .int (60)], .tup [.str w_get, .int (-1)], .tup [.str w_get], .tup [.str w_get, .str w_zero], .tup [.str w_add, .int (1)], .tup [.str w_Add], .tup [.str w_0], .tup [.str w_ad], .tup [.str w_say, .str w_a], .tup [.str w_call, .tup []], .tup [.str w_fun, .int (0)], .tup [.str w_fun, .int (0), .tup [.int (60)]], .tup [.str w_jump], .tup [.str w_fun, .int (0), .tup [.int (0), .int (0), .int (0), .int (0), .int (0), .int (0), .int (0), .int (0), .int (0)]], .tup [.str w_fun, .int (0), .tup [.int (-1)]], .tup [.str w_fun, .int (0), .int (0)], .tup [.str w_fun, .str w_zero, .tup []], .tup [.str w_fun, .int (b), .tup [.int (60)]], .tup [.str w_fun, .int (b), .tup []], .tup [.str w_fun, .int (-1), .tup []], .tup [.str w_fun, .int (A + m), .tup [.int (1), .int (2)]], .tup [.str w_jump, .int (z + 1)], .tup [.str w_unless, .int (-1)], .tup [.str w_num, .tup [.int (1)]], .tup [.str w_get, .tup []], .tup [.str w_jump, .tup [.int (0)]], .tup [.str w_unless, .tup []], .tup [.str w_fun, .tup [.int (0)], .tup []], .tup [.str u, .int (0)], .tup [.str u], .tup [.str w_jump, .int (A + m)], .tup [.str w_unless, .str w_zero], .tup [.str w_jump, .int (0), .int (0)], .tup [.str w_num, .int (A + m + 1)], .tup [.str w_get, .int (A + m)]] : List D) = LL at *
    rw [atI_pos n0 (by rw [el]; exact n1), List.getElem?_eq_getElem (by rw [el]; omega)]
    exact ⟨_, rfl, List.getElem_mem _⟩
  obtain ⟨w, ps, rfl, ok⟩ := okL y ym
  refine ⟨w, ps, ?_, ok⟩
  have ln : lenD [.lst [.tup [.str w_num, .int (A)], .tup [.str w_num, .int (-A)], .tup [.str w_get, .int (59)], .tup [.str w_fun, .int (b - 1), .tup [.int (59), .int (59), .int (59), .int (59), .int (59), .int (59), .int (59), .int (59)]], .tup [.str w_jump, .int (z)], .tup [.str w_unless, .int (z)], .tup [.str w_fun, .int (0), .tup []], .tup [.str w_num, .int (A + 1)], .tup [.str w_num, .int (-A - 1)], .tup [.str w_num], .tup [.str w_num, .int (1), .int (1)], .tup [.str w_num, .str w_1], .tup [.str w_get, .int (60)], .tup [.str w_get, .int (-1)], .tup [.str w_get], .tup [.str w_get, .str w_zero], .tup [.str w_add, .int (1)], .tup [.str w_Add], .tup [.str w_0], .tup [.str w_ad], .tup [.str w_say, .str w_a], .tup [.str w_call, .tup []], .tup [.str w_fun, .int (0)], .tup [.str w_fun, .int (0), .tup [.int (60)]], .tup [.str w_jump], .tup [.str w_fun, .int (0), .tup [.int (0), .int (0), .int (0), .int (0), .int (0), .int (0), .int (0), .int (0), .int (0)]], .tup [.str w_fun, .int (0), .tup [.int (-1)]], .tup [.str w_fun, .int (0), .int (0)], .tup [.str w_fun, .str w_zero, .tup []], .tup [.str w_fun, .int (b), .tup [.int (60)]], .tup [.str w_fun, .int (b), .tup []], .tup [.str w_fun, .int (-1), .tup []], .tup [.str w_fun, .int (A + m), .tup [.int (1), .int (2)]], .tup [.str w_jump, .int (z + 1)], .tup [.str w_unless, .int (-1)], .tup [.str w_num, .tup [.int (1)]], .tup [.str w_get, .tup []], .tup [.str w_jump, .tup [.int (0)]], .tup [.str w_unless, .tup []], .tup [.str w_fun, .tup [.int (0)], .tup []], .tup [.str u, .int (0)], .tup [.str u], .tup [.str w_jump, .int (A + m)], .tup [.str w_unless, .str w_zero], .tup [.str w_jump, .int (0), .int (0)], .tup [.str w_num, .int (A + m + 1)], .tup [.str w_get, .int (A + m)]]] = .ok (.int 47) := rfl
  have iy : ixD (.lst [.tup [.str w_num, .int (A)], .tup [.str w_num, .int (-A)], .tup [.str w_get, .int (59)], .tup [.str w_fun, .int (b - 1), .tup [.int (59), .int (59), .int (59), .int (59), .int (59), .int (59), .int (59), .int (59)]], .tup [.str w_jump, .int (z)], .tup [.str w_unless, .int (z)], .tup [.str w_fun, .int (0), .tup []], .tup [.str w_num, .int (A + 1)], .tup [.str w_num, .int (-A - 1)], .tup [.str w_num], .tup [.str w_num, .int (1), .int (1)], .tup [.str w_num, .str w_1], .tup [.str w_get, .int (60)], .tup [.str w_get, .int (-1)], .tup [.str w_get], .tup [.str w_get, .str w_zero], .tup [.str w_add, .int (1)], .tup [.str w_Add], .tup [.str w_0], .tup [.str w_ad], .tup [.str w_say, .str w_a], .tup [.str w_call, .tup []], .tup [.str w_fun, .int (0)], .tup [.str w_fun, .int (0), .tup [.int (60)]], .tup [.str w_jump], .tup [.str w_fun, .int (0), .tup [.int (0), .int (0), .int (0), .int (0), .int (0), .int (0), .int (0), .int (0), .int (0)]], .tup [.str w_fun, .int (0), .tup [.int (-1)]], .tup [.str w_fun, .int (0), .int (0)], .tup [.str w_fun, .str w_zero, .tup []], .tup [.str w_fun, .int (b), .tup [.int (60)]], .tup [.str w_fun, .int (b), .tup []], .tup [.str w_fun, .int (-1), .tup []], .tup [.str w_fun, .int (A + m), .tup [.int (1), .int (2)]], .tup [.str w_jump, .int (z + 1)], .tup [.str w_unless, .int (-1)], .tup [.str w_num, .tup [.int (1)]], .tup [.str w_get, .tup []], .tup [.str w_jump, .tup [.int (0)]], .tup [.str w_unless, .tup []], .tup [.str w_fun, .tup [.int (0)], .tup []], .tup [.str u, .int (0)], .tup [.str u], .tup [.str w_jump, .int (A + m)], .tup [.str w_unless, .str w_zero], .tup [.str w_jump, .int (0), .int (0)], .tup [.str w_num, .int (A + m + 1)], .tup [.str w_get, .int (A + m)]]) (.int (c % 47)) = .ok (encRw w ps) := by rw [m_ixL, hy]; rfl
  clear hy okL ym
  generalize hL10 : (.lst [.tup [.str w_num, .int (A)], .tup [.str w_num, .int (-A)], .tup [.str w_get, .int (59)], .tup [.str w_fun, .int (b - 1), .tup [.int (59), .int (59), .int (59), .int (59), .int (59), .int (59), .int (59), .int (59)]], .tup [.str w_jump, .int (z)], .tup [.str w_unless, .int (z)], .tup [.str w_fun, .int (0), .tup []], .tup [.str w_num, .int (A + 1)], .tup [.str w_num, .int (-A - 1)], .tup [.str w_num], .tup [.str w_num, .int (1), .int (1)], .tup [.str w_num, .str w_1], .tup [.str w_get, .int (60)], .tup [.str w_get, .int (-1)], .tup [.str w_get], .tup [.str w_get, .str w_zero], .tup [.str w_add, .int (1)], .tup [.str w_Add], .tup [.str w_0], .tup [.str w_ad], .tup [.str w_say, .str w_a], .tup [.str w_call, .tup []], .tup [.str w_fun, .int (0)], .tup [.str w_fun, .int (0), .tup [.int (60)]], .tup [.str w_jump], .tup [.str w_fun, .int (0), .tup [.int (0), .int (0), .int (0), .int (0), .int (0), .int (0), .int (0), .int (0), .int (0)]], .tup [.str w_fun, .int (0), .tup [.int (-1)]], .tup [.str w_fun, .int (0), .int (0)], .tup [.str w_fun, .str w_zero, .tup []], .tup [.str w_fun, .int (b), .tup [.int (60)]], .tup [.str w_fun, .int (b), .tup []], .tup [.str w_fun, .int (-1), .tup []], .tup [.str w_fun, .int (A + m), .tup [.int (1), .int (2)]], .tup [.str w_jump, .int (z + 1)], .tup [.str w_unless, .int (-1)], .tup [.str w_num, .tup [.int (1)]], .tup [.str w_get, .tup []], .tup [.str w_jump, .tup [.int (0)]], .tup [.str w_unless, .tup []], .tup [.str w_fun, .tup [.int (0)], .tup []], .tup [.str u, .int (0)], .tup [.str u], .tup [.str w_jump, .int (A + m)], .tup [.str w_unless, .str w_zero], .tup [.str w_jump, .int (0), .int (0)], .tup [.str w_num, .int (A + m + 1)], .tup [.str w_get, .int (A + m)]] : D) = L10 at *
  generalize hL9 : (.lst [.tup [.str w_num, .int (A)], .tup [.str w_num, .int (-A)], .tup [.str w_get, .int (59)], .tup [.str w_fun, .int (b - 1), .tup [.int (59), .int (59), .int (59), .int (59), .int (59), .int (59), .int (59), .int (59)]], .tup [.str w_jump, .int (z)], .tup [.str w_unless, .int (z)], .tup [.str w_fun, .int (0), .tup []], .tup [.str w_num, .int (A + 1)], .tup [.str w_num, .int (-A - 1)], .tup [.str w_num], .tup [.str w_num, .int (1), .int (1)], .tup [.str w_num, .str w_1], .tup [.str w_get, .int (60)], .tup [.str w_get, .int (-1)], .tup [.str w_get], .tup [.str w_get, .str w_zero], .tup [.str w_add, .int (1)], .tup [.str w_Add], .tup [.str w_0], .tup [.str w_ad], .tup [.str w_say, .str w_a], .tup [.str w_call, .tup []], .tup [.str w_fun, .int (0)], .tup [.str w_fun, .int (0), .tup [.int (60)]], .tup [.str w_jump], .tup [.str w_fun, .int (0), .tup [.int (0), .int (0), .int (0), .int (0), .int (0), .int (0), .int (0), .int (0), .int (0)]], .tup [.str w_fun, .int (0), .tup [.int (-1)]], .tup [.str w_fun, .int (0), .int (0)], .tup [.str w_fun, .str w_zero, .tup []], .tup [.str w_fun, .int (b), .tup [.int (60)]], .tup [.str w_fun, .int (b), .tup []], .tup [.str w_fun, .int (-1), .tup []], .tup [.str w_fun, .int (A + m), .tup [.int (1), .int (2)]], .tup [.str w_jump, .int (z + 1)], .tup [.str w_unless, .int (-1)], .tup [.str w_num, .tup [.int (1)]], .tup [.str w_get, .tup []], .tup [.str w_jump, .tup [.int (0)]], .tup [.str w_unless, .tup []], .tup [.str w_fun, .tup [.int (0)], .tup []], .tup [.str u, .int (0)], .tup [.str u]] : D) = L9 at *
  generalize hL8 : (.lst [.tup [.str w_num, .int (A)], .tup [.str w_num, .int (-A)], .tup [.str w_get, .int (59)], .tup [.str w_fun, .int (b - 1), .tup [.int (59), .int (59), .int (59), .int (59), .int (59), .int (59), .int (59), .int (59)]], .tup [.str w_jump, .int (z)], .tup [.str w_unless, .int (z)], .tup [.str w_fun, .int (0), .tup []], .tup [.str w_num, .int (A + 1)], .tup [.str w_num, .int (-A - 1)], .tup [.str w_num], .tup [.str w_num, .int (1), .int (1)], .tup [.str w_num, .str w_1], .tup [.str w_get, .int (60)], .tup [.str w_get, .int (-1)], .tup [.str w_get], .tup [.str w_get, .str w_zero], .tup [.str w_add, .int (1)], .tup [.str w_Add], .tup [.str w_0], .tup [.str w_ad], .tup [.str w_say, .str w_a], .tup [.str w_call, .tup []], .tup [.str w_fun, .int (0)], .tup [.str w_fun, .int (0), .tup [.int (60)]], .tup [.str w_jump], .tup [.str w_fun, .int (0), .tup [.int (0), .int (0), .int (0), .int (0), .int (0), .int (0), .int (0), .int (0), .int (0)]], .tup [.str w_fun, .int (0), .tup [.int (-1)]], .tup [.str w_fun, .int (0), .int (0)], .tup [.str w_fun, .str w_zero, .tup []], .tup [.str w_fun, .int (b), .tup [.int (60)]], .tup [.str w_fun, .int (b), .tup []], .tup [.str w_fun, .int (-1), .tup []], .tup [.str w_fun, .int (A + m), .tup [.int (1), .int (2)]], .tup [.str w_jump, .int (z + 1)], .tup [.str w_unless, .int (-1)], .tup [.str w_num, .tup [.int (1)]], .tup [.str w_get, .tup []], .tup [.str w_jump, .tup [.int (0)]], .tup [.str w_unless, .tup []], .tup [.str w_fun, .tup [.int (0)], .tup []]] : D) = L8 at *
  generalize hL7 : (.lst [.tup [.str w_num, .int (A)], .tup [.str w_num, .int (-A)], .tup [.str w_get, .int (59)], .tup [.str w_fun, .int (b - 1), .tup [.int (59), .int (59), .int (59), .int (59), .int (59), .int (59), .int (59), .int (59)]], .tup [.str w_jump, .int (z)], .tup [.str w_unless, .int (z)], .tup [.str w_fun, .int (0), .tup []], .tup [.str w_num, .int (A + 1)], .tup [.str w_num, .int (-A - 1)], .tup [.str w_num], .tup [.str w_num, .int (1), .int (1)], .tup [.str w_num, .str w_1], .tup [.str w_get, .int (60)], .tup [.str w_get, .int (-1)], .tup [.str w_get], .tup [.str w_get, .str w_zero], .tup [.str w_add, .int (1)], .tup [.str w_Add], .tup [.str w_0], .tup [.str w_ad], .tup [.str w_say, .str w_a], .tup [.str w_call, .tup []], .tup [.str w_fun, .int (0)], .tup [.str w_fun, .int (0), .tup [.int (60)]], .tup [.str w_jump], .tup [.str w_fun, .int (0), .tup [.int (0), .int (0), .int (0), .int (0), .int (0), .int (0), .int (0), .int (0), .int (0)]], .tup [.str w_fun, .int (0), .tup [.int (-1)]], .tup [.str w_fun, .int (0), .int (0)], .tup [.str w_fun, .str w_zero, .tup []], .tup [.str w_fun, .int (b), .tup [.int (60)]], .tup [.str w_fun, .int (b), .tup []], .tup [.str w_fun, .int (-1), .tup []], .tup [.str w_fun, .int (A + m), .tup [.int (1), .int (2)]], .tup [.str w_jump, .int (z + 1)], .tup [.str w_unless, .int (-1)]] : D) = L7 at *
  generalize hL6 : (.lst [.tup [.str w_num, .int (A)], .tup [.str w_num, .int (-A)], .tup [.str w_get, .int (59)], .tup [.str w_fun, .int (b - 1), .tup [.int (59), .int (59), .int (59), .int (59), .int (59), .int (59), .int (59), .int (59)]], .tup [.str w_jump, .int (z)], .tup [.str w_unless, .int (z)], .tup [.str w_fun, .int (0), .tup []], .tup [.str w_num, .int (A + 1)], .tup [.str w_num, .int (-A - 1)], .tup [.str w_num], .tup [.str w_num, .int (1), .int (1)], .tup [.str w_num, .str w_1], .tup [.str w_get, .int (60)], .tup [.str w_get, .int (-1)], .tup [.str w_get], .tup [.str w_get, .str w_zero], .tup [.str w_add, .int (1)], .tup [.str w_Add], .tup [.str w_0], .tup [.str w_ad], .tup [.str w_say, .str w_a], .tup [.str w_call, .tup []], .tup [.str w_fun, .int (0)], .tup [.str w_fun, .int (0), .tup [.int (60)]], .tup [.str w_jump], .tup [.str w_fun, .int (0), .tup [.int (0), .int (0), .int (0), .int (0), .int (0), .int (0), .int (0), .int (0), .int (0)]], .tup [.str w_fun, .int (0), .tup [.int (-1)]], .tup [.str w_fun, .int (0), .int (0)], .tup [.str w_fun, .str w_zero, .tup []], .tup [.str w_fun, .int (b), .tup [.int (60)]], .tup [.str w_fun, .int (b), .tup []], .tup [.str w_fun, .int (-1), .tup []], .tup [.str w_fun, .int (A + m), .tup [.int (1), .int (2)]]] : D) = L6 at *
  generalize hL5 : (.lst [.tup [.str w_num, .int (A)], .tup [.str w_num, .int (-A)], .tup [.str w_get, .int (59)], .tup [.str w_fun, .int (b - 1), .tup [.int (59), .int (59), .int (59), .int (59), .int (59), .int (59), .int (59), .int (59)]], .tup [.str w_jump, .int (z)], .tup [.str w_unless, .int (z)], .tup [.str w_fun, .int (0), .tup []], .tup [.str w_num, .int (A + 1)], .tup [.str w_num, .int (-A - 1)], .tup [.str w_num], .tup [.str w_num, .int (1), .int (1)], .tup [.str w_num, .str w_1], .tup [.str w_get, .int (60)], .tup [.str w_get, .int (-1)], .tup [.str w_get], .tup [.str w_get, .str w_zero], .tup [.str w_add, .int (1)], .tup [.str w_Add], .tup [.str w_0], .tup [.str w_ad], .tup [.str w_say, .str w_a], .tup [.str w_call, .tup []], .tup [.str w_fun, .int (0)], .tup [.str w_fun, .int (0), .tup [.int (60)]], .tup [.str w_jump], .tup [.str w_fun, .int (0), .tup [.int (0), .int (0), .int (0), .int (0), .int (0), .int (0), .int (0), .int (0), .int (0)]], .tup [.str w_fun, .int (0), .tup [.int (-1)]], .tup [.str w_fun, .int (0), .int (0)], .tup [.str w_fun, .str w_zero, .tup []], .tup [.str w_fun, .int (b), .tup [.int (60)]]] : D) = L5 at *
  generalize hL4 : (.lst [.tup [.str w_num, .int (A)], .tup [.str w_num, .int (-A)], .tup [.str w_get, .int (59)], .tup [.str w_fun, .int (b - 1), .tup [.int (59), .int (59), .int (59), .int (59), .int (59), .int (59), .int (59), .int (59)]], .tup [.str w_jump, .int (z)], .tup [.str w_unless, .int (z)], .tup [.str w_fun, .int (0), .tup []], .tup [.str w_num, .int (A + 1)], .tup [.str w_num, .int (-A - 1)], .tup [.str w_num], .tup [.str w_num, .int (1), .int (1)], .tup [.str w_num, .str w_1], .tup [.str w_get, .int (60)], .tup [.str w_get, .int (-1)], .tup [.str w_get], .tup [.str w_get, .str w_zero], .tup [.str w_add, .int (1)], .tup [.str w_Add], .tup [.str w_0], .tup [.str w_ad], .tup [.str w_say, .str w_a], .tup [.str w_call, .tup []], .tup [.str w_fun, .int (0)], .tup [.str w_fun, .int (0), .tup [.int (60)]], .tup [.str w_jump], .tup [.str w_fun, .int (0), .tup [.int (0), .int (0), .int (0), .int (0), .int (0), .int (0), .int (0), .int (0), .int (0)]], .tup [.str w_fun, .int (0), .tup [.int (-1)]], .tup [.str w_fun, .int (0), .int (0)], .tup [.str w_fun, .str w_zero, .tup []]] : D) = L4 at *
  generalize hL3 : (.lst [.tup [.str w_num, .int (A)], .tup [.str w_num, .int (-A)], .tup [.str w_get, .int (59)], .tup [.str w_fun, .int (b - 1), .tup [.int (59), .int (59), .int (59), .int (59), .int (59), .int (59), .int (59), .int (59)]], .tup [.str w_jump, .int (z)], .tup [.str w_unless, .int (z)], .tup [.str w_fun, .int (0), .tup []], .tup [.str w_num, .int (A + 1)], .tup [.str w_num, .int (-A - 1)], .tup [.str w_num], .tup [.str w_num, .int (1), .int (1)], .tup [.str w_num, .str w_1], .tup [.str w_get, .int (60)], .tup [.str w_get, .int (-1)], .tup [.str w_get], .tup [.str w_get, .str w_zero], .tup [.str w_add, .int (1)], .tup [.str w_Add], .tup [.str w_0], .tup [.str w_ad], .tup [.str w_say, .str w_a], .tup [.str w_call, .tup []], .tup [.str w_fun, .int (0)], .tup [.str w_fun, .int (0), .tup [.int (60)]], .tup [.str w_jump]] : D) = L3 at *
  generalize hL2 : (.lst [.tup [.str w_num, .int (A)], .tup [.str w_num, .int (-A)], .tup [.str w_get, .int (59)], .tup [.str w_fun, .int (b - 1), .tup [.int (59), .int (59), .int (59), .int (59), .int (59), .int (59), .int (59), .int (59)]], .tup [.str w_jump, .int (z)], .tup [.str w_unless, .int (z)], .tup [.str w_fun, .int (0), .tup []], .tup [.str w_num, .int (A + 1)], .tup [.str w_num, .int (-A - 1)], .tup [.str w_num], .tup [.str w_num, .int (1), .int (1)], .tup [.str w_num, .str w_1], .tup [.str w_get, .int (60)], .tup [.str w_get, .int (-1)], .tup [.str w_get], .tup [.str w_get, .str w_zero], .tup [.str w_add, .int (1)]] : D) = L2 at *
  generalize hL1 : (.lst [.tup [.str w_num, .int (A)], .tup [.str w_num, .int (-A)], .tup [.str w_get, .int (59)], .tup [.str w_fun, .int (b - 1), .tup [.int (59), .int (59), .int (59), .int (59), .int (59), .int (59), .int (59), .int (59)]], .tup [.str w_jump, .int (z)], .tup [.str w_unless, .int (z)], .tup [.str w_fun, .int (0), .tup []], .tup [.str w_num, .int (A + 1)], .tup [.str w_num, .int (-A - 1)], .tup [.str w_num]] : D) = L1 at *
  generalize encRw w ps = Y at *
  generalize allW.map D.str = WW at *
  have p53 : (0 : Int) < 47 := by decide
  simp [F__law_odd, B__law_odd, p12, p20, md, e8, e9, wo, iu, a1, a2, a3, a4, a5, a6, a7, a8, a9, a10, ln, iy]
end Dn

namespace Dn
open PySem L2
theorem whole_ok (i : Int) : F__law_whole [.int i] = .ok (.bl true) := by
  simp [F__law_whole, B__law_whole]
theorem alike_items {n : Nat} {xs : List D} {d : D} (hd : d = .tup xs ∨ d = .lst xs) (hl : xs.length ≤ 1000000) (h : ∀ x ∈ xs, F__law_alike n [x, x] = .ok (.bl true)) :
    eLc (iRange1 (eCall lenD (aCons (eVar 1) aNil))) [2] (setN 2) cYes (eCall (F__law_alike n) (aCons (eOp ixD (eVar 0) (eVar 2)) (aCons (eOp ixD (eVar 1) (eVar 2)) aNil))) [some d, some d, none] = .ok (.lst ((rangeD 0 xs.length).map fun _ => .bl true)) := by
  have e : lenD [d] = .ok (.int xs.length) := by rcases hd with rfl | rfl <;> simp
  have r : rng1 (.int (xs.length : Int)) = .ok (rangeD 0 xs.length) := rng1_ok (by omega) (by omega)
  refine eLc_map (xs := rangeD 0 xs.length) (by simp [e, r]) (by simpa using hl) fun x hx => ?_
  obtain ⟨j, hj, rfl⟩ := mem_range.mp hx
  have a : atI xs (j : Int) = some xs[j] := by
    rw [atI_pos (by omega) (by omega), Int.toNat_natCast, List.getElem?_eq_getElem hj]
  have b : ixD d (.int (j : Int)) = .ok xs[j] := by rcases hd with rfl | rfl <;> simp [a]
  simp [wipeE, b, h _ (List.getElem_mem hj)]
theorem alike_self : ∀ (n : Nat) (d : D), sh n d = true → F__law_alike (n + 1) [d, d] = .ok (.bl true)
  | n, .non, _ => by simp [F__law_alike, B__law_alike]
  | n, .int i, _ => by simp [F__law_alike, B__law_alike, whole_ok]
  | n, .str s, _ => by simp [F__law_alike, B__law_alike]
  | n + 1, .tup xs, h => by
    obtain ⟨h1, h2⟩ := sh_tup.mp h
    have k := alike_items (n := n + 1) (.inl rfl) h1 fun x hx => alike_self n x (h2 x hx)
    show fnD 3 (B__law_alike (F__law_alike (n + 1))) _ = _
    generalize F__law_alike (n + 1) = G at k ⊢
    simp [B__law_alike, k, all_true]
  | n + 1, .lst xs, h => by
    obtain ⟨h1, h2⟩ := sh_lst.mp h
    have k := alike_items (n := n + 1) (.inr rfl) h1 fun x hx => alike_self n x (h2 x hx)
    show fnD 3 (B__law_alike (F__law_alike (n + 1))) _ = _
    generalize F__law_alike (n + 1) = G at k ⊢
    simp [B__law_alike, k, all_true]
  | 0, .tup _, h => by simp [sh] at h
  | 0, .lst _, h => by simp [sh] at h
  | n, .bl _, h => by simp [sh] at h
  | n, .dic _, h => by simp [sh] at h
  | n, .scr _, h => by simp [sh] at h
  | n, .err _ _, h => by simp [sh] at h
def inB : Env → R Fl := (sSeq (sAsg 5 [] (eOp modD (eCall (F__law_cell) (aCons (eVar 0) (aCons (eOp addD (eC (.int 11)) (eVar 4)) aNil))) (eCall lenD (aCons (eIxV 1 (eVar 3)) aNil)))) (sSeq (sAsg 6 [] (eIxV 1 (eVar 3))) (sSeq (sAsg 7 [] (eCall (F__law_odd) (aCons (eCall (F__law_raw) (aCons (eVar 0) (aCons (eOp addD (eC (.int 15)) (eVar 4)) aNil))) (aCons (eLook (eCall lenD (aCons (eVar 1) aNil))) (aCons (eCall lenD (aCons (eVar 6) aNil)) aNil))))) (sPut 1 (eVar 3) (eOp addD (eOp addD (eSl (eVar 6) oNone (oSome (eVar 5))) (eLst (aCons (eVar 7) aNil))) (eSl (eVar 6) (oSome (eOp addD (eVar 5) (eC (.int 1)))) oNone))))))
def odB : Env → R Fl := (sSeq (sAsg 3 [] (eOp modD (eCall (F__law_cell) (aCons (eVar 0) (aCons (eOp addD (eC (.int 7)) (eVar 4)) aNil))) (eCall max2D (aCons (eC (.int 1)) (aCons (eLook (eCall lenD (aCons (eVar 1) aNil))) aNil))))) (sIf (eAndT (tB' (eOp neD (eVar 1) (eLst aNil))) (tB' (eOp neD (eOp ixD (eVar 1) (eVar 3)) (eLst aNil)))) inB sNext))
def rsB : Env → R Fl := (sSeq (sAsg 8 [] (eLc (iWalk (eVar 1)) [6] (setN 6) cYes (eCall listD (aCons (eVar 6) aNil)))) (sSeq (sAsg 9 [] (eCall (F__law_due) (aCons (eVar 1) aNil))) (sSeq (sAsg 10 [] (eCall (F__law_found) (aCons (eVar 8) aNil))) (sSeq (sIf (eOrT (tB' (eOp neD (eVar 8) (eVar 1))) (tB' (eOp neD (eOp ixD (eVar 10) (eC (.int 1))) (eVar 9)))) (sRet [] (eC (.bl false))) sNext) (sSeq (sIf (tB' (eOp neD (eVar 9) (eC (.str w_0)))) (sRet [] (eC (.bl true))) sNext) (sSeq (sIf (eNotT (tB' (eCall (F__law_alike 7) (aCons (eOp ixD (eVar 10) (eC (.int 0))) (aCons (eVar 1) aNil))))) (sRet [] (eC (.bl false))) sNext) (sSeq (sAppQ 10 (.tup [(.own (.own .fz)), .fz]) [0, 0] (eC (.int 0))) (sSeq (sAppH 10 (.tup [(.own (.own .fz)), .fz]) [0] (eLst aNil)) (sRet [] (eAndV (eOp eqD (eVar 8) (eVar 1)) (eCall (F__law_alike 7) (aCons (eCall (FE_checked) (aCons (eVar 8) aNil)) (aCons (eVar 1) aNil)))))))))))))
theorem B_cut : B_law = (sSeq (sAsg 1 [] (eCall (F__law_program) (aCons (eVar 0) (aCons (eCall F__law_words aNil) aNil)))) (sSeq (sAsg 2 [] (eCall (F__law_cell) (aCons (eVar 0) (aCons (eC (.int 5)) aNil)))) (sSeq (sIf (tB' (eOp eqD (eOp modD (eVar 2) (eC (.int 16))) (eC (.int 1)))) (sAsg 1 [] (eSl (eOp mulD (eVar 1) (eC (.int 21))) oNone (oSome (eOp ixD (eLst (aCons (eC (.int 0)) (aCons (eC (.int 1)) (aCons (eC (.int 20)) (aCons (eC (.int 21)) aNil))))) (eOp modD (eOp divD (eVar 2) (eC (.int 16))) (eC (.int 4))))))) sNext) (sSeq (sIf (tB' (eOp eqD (eOp modD (eVar 2) (eC (.int 16))) (eC (.int 2)))) (sSeq (sAsg 3 [] (eOp modD (eOp divD (eVar 2) (eC (.int 16))) (eLook (eCall lenD (aCons (eVar 1) aNil))))) (sPut 1 (eVar 3) (eOp mulD (eLst (aCons (eTup (aCons (eC (.str w_drop)) aNil)) aNil)) (eOp addD (eC (.int 60)) (eOp modD (eOp divD (eVar 2) (eC (.int 320))) (eC (.int 2))))))) sNext) (sSeq (sFor (iRange1 (eOp modD (eCall (F__law_cell) (aCons (eVar 0) (aCons (eC (.int 6)) aNil))) (eC (.int 4)))) (setN 4) odB) rsB))))) := rfl
def toRw : Row → Rw
  | .num i => (w_num, [.int i])
  | .get k => (w_get, [.int k])
  | .fn b ks => (w_fun, [.int b, .tupI ks])
  | .jump p => (w_jump, [.int p])
  | .unless p => (w_unless, [.int p])
  | .plain w => (w, [])
theorem enc_rw (r : Row) : encR r = encRw (toRw r).1 (toRw r).2 := by cases r <;> rfl
theorem rw_ok {b z : Int} {r : Row} (h : okR allW b z r) : okRw (toRw r).1 (toRw r).2 := by
  cases r with
  | num i => exact okRw1 (w := w_num) (by decide +kernel) trivial
  | get i => exact okRw1 (w := w_get) (by decide +kernel) trivial
  | jump i => exact okRw1 (w := w_jump) (by decide +kernel) trivial
  | «unless» i => exact okRw1 (w := w_unless) (by decide +kernel) trivial
  | plain w => exact okRw0 (strW h.1)
  | fn b ks => exact okRw2 (w := w_fun) (by decide +kernel) trivial (by show ks.length ≤ 1000; have := h.2.2.2.1; omega)
def toPg (p : Prog) : List (List Rw) := p.map fun b => b.map toRw
theorem enc_pg (p : Prog) : encPR p = encPgm (toPg p) := by
  rw [enc_pr]
  unfold encPgm toPg
  rw [List.map_map]
  congr 1
  refine List.map_congr_left fun b _ => ?_
  show D.lst (b.map encR) = encBd (b.map toRw)
  unfold encBd
  rw [List.map_map]
  congr 1
  exact List.map_congr_left fun r _ => enc_rw r
structure okP (P : List (List Rw)) : Prop where
  ok : ∀ bd ∈ P, okBd bd
  l : P.length ≤ 21
  b : ∀ bd ∈ P, bd.length ≤ 61
theorem at_bd {P : List (List Rw)} {i : Int} (h0 : 0 ≤ i) (h1 : i < P.length) : ∃ bd, ixD (encPgm P) (.int i) = .ok (encBd bd) ∧ bd ∈ P := by
  unfold encPgm
  rw [m_ixL, atI_pos h0 (by rw [List.length_map]; exact h1), List.getElem?_map, List.getElem?_eq_getElem (by omega)]
  exact ⟨_, rfl, List.getElem_mem _⟩
theorem put_bd {P : List (List Rw)} {i : Int} (h0 : 0 ≤ i) (h1 : i < P.length) (nb : List Rw) : storeD (encPgm P) (.int i) (encBd nb) = .ok (encPgm (P.set i.toNat nb)) := by
  unfold encPgm
  have e : ixN (P.map encBd).length i = some i.toNat := by
    rw [List.length_map]
    unfold ixN
    rw [if_pos h0, if_pos h1]
  show (match ixN (P.map encBd).length i with
    | some j => R.ok (D.lst ((P.map encBd).set j (encBd nb)))
    | none => .no) = _
  rw [e, List.map_set]
theorem set_okP {P : List (List Rw)} (h : okP P) (i : Nat) {nb : List Rw} (h1 : okBd nb) (h2 : nb.length ≤ 61) : okP (P.set i nb) := by
  refine ⟨fun bd hb => ?_, by rw [List.length_set]; exact h.l, fun bd hb => ?_⟩
  · rcases List.mem_or_eq_of_mem_set hb with q | q
    · exact h.ok bd q
    · rw [q]; exact h1
  · rcases List.mem_or_eq_of_mem_set hb with q | q
    · exact h.b bd q
    · rw [q]; exact h2
theorem pl_bd {bd : List Rw} (ok : okBd bd) : pl 8 (encBd bd) = true := pls_of fun y hy => by
  obtain ⟨r, hr, rfl⟩ := List.mem_map.mp hy
  exact pl_rowP (ok r hr)
theorem eq_nilBd {bd : List Rw} (ok : okBd bd) : eqD (encBd bd) (.lst []) = .ok (.bl (decide (bd = []))) := by
  refine Eq.trans (if_pos (by rw [shaped_pl (pl_bd ok) (by decide)]; rfl)) ?_
  cases bd <;> rfl
theorem take_bd (bd : List Rw) {k : Int} (h : 0 ≤ k) : slD (encBd bd) none (some k) = .ok (encBd (bd.take k.toNat)) := by
  unfold encBd
  rw [m_slL, cut_to _ _ h, ← List.map_take]
theorem drop_bd (bd : List Rw) {k : Int} (h : 0 ≤ k) : slD (encBd bd) (some k) none = .ok (encBd (bd.drop k.toNat)) := by
  unfold encBd
  rw [m_slL, cut_from _ _ h, ← List.map_drop]
theorem cat_bd {a b : List Rw} (h : a.length + b.length ≤ 1000) : addD (encBd a) (encBd b) = .ok (encBd (a ++ b)) := by
  unfold encBd
  rw [m_catL _ _ (by simp [most]; omega), ← List.map_append]
theorem sh_part {p : Part} {n : Nat} (h : okPt p) : sh (n + 2) (encPt p) = true := by
  cases p with
  | int i => rfl
  | str s => rfl
  | tupI l => exact sh_tup.mpr ⟨by rw [List.length_map]; have : l.length ≤ 1000 := h; omega, fun x hx => by
      obtain ⟨i, _, rfl⟩ := List.mem_map.mp hx
      rfl⟩
theorem sh_pgm {P : List (List Rw)} (h : okP P) : sh 6 (encPgm P) = true := sh_lst.mpr ⟨by rw [List.length_map]; have := h.l; omega, fun x hx => by
  obtain ⟨bd, hb, rfl⟩ := List.mem_map.mp hx
  refine sh_lst.mpr ⟨by rw [List.length_map]; have := h.b bd hb; omega, fun y hy => ?_⟩
  obtain ⟨r, hr, rfl⟩ := List.mem_map.mp hy
  have ok := h.ok bd hb r hr
  refine sh_tup.mpr ⟨by have := ok.l; simp; omega, fun q hq => ?_⟩
  rcases List.mem_cons.mp hq with rfl | hq
  · rfl
  · obtain ⟨p, hp, rfl⟩ := List.mem_map.mp hq
    exact sh_part (ok.p p hp)⟩
theorem rest_ok {P : List (List Rw)} (h : okP P) (a x2 x3 x4 x5 x6 x7 : Option D) : ∃ ρ', rsB [a, some (encPgm P), x2, x3, x4, x5, x6, x7, none, none, none] = .ok (.rt (.bl true) ρ') := by
  have hl := h.l
  have q := eLc_map (fi := iWalk (eVar 1)) (vs := [6]) (i := 6) (fe := eCall listD (aCons (eVar 6) aNil)) (ρ := [a, some (encPgm P), x2, x3, x4, x5, x6, x7, none, none, none]) (xs := P.map encBd) (g := fun x => x) rfl (by simp; omega) fun x hx => by
    obtain ⟨b', _, rfl⟩ := List.mem_map.mp hx
    unfold encBd
    simp [wipeE]
  rw [List.map_id'] at q
  have q : _ = R.ok (encPgm P) := q
  have ld := ldue h.ok
  have lf := lfound h.ok
  have fc := fchecked h.ok
  have ee := eqD_self (pl_pgm h.ok) (by decide)
  have al : F__law_alike 7 [encPgm P, encPgm P] = .ok (.bl true) := alike_self 6 _ (sh_pgm h)
  by_cases hd : dueM P = w_0
  · rw [hd] at ld lf fc
    rw [if_pos rfl] at lf fc
    have hne : P ≠ [] := fun e => by
      rw [e] at hd
      simp [dueM] at hd
    obtain ⟨bd, t, rfl⟩ : ∃ bd t, P = bd :: t := by
      cases P with
      | nil => exact absurd rfl hne
      | cons bd t => exact ⟨bd, t, rfl⟩
    have lb : bd.length < most := by have := h.b bd (by simp); unfold most; omega
    have hQ : ∀ ρ : Env, ρ[10]? = some (some (.tup [encPgm (bd :: t), .str w_0])) → sAtQ 10 (.tup [(.own (.own .fz)), .fz]) [0, 0] (appD (.int 0)) ρ = .ok (.nx (ρ.set 10 (some (.tup [.lst (.lst ((bd.map fun r => encRw r.1 r.2) ++ [.int 0]) :: t.map encBd), .str w_0])))) := fun ρ hρ => by
      unfold sAtQ
      rw [hρ]
      have a1 : atQ (.tup [(.own (.own .fz)), .fz]) (.tup [encPgm (bd :: t), .str w_0]) [0, 0] = some (.own .fz, encBd bd) := rfl
      have a2 : appD (.int 0) (encBd bd) = .ok (.lst ((bd.map fun r => encRw r.1 r.2) ++ [.int 0])) := if_pos (by rw [List.length_map]; exact lb)
      have a3 : ∀ e, setQ (.tup [encPgm (bd :: t), .str w_0]) [0, 0] e = .tup [.lst (e :: t.map encBd), .str w_0] := fun e => rfl
      show (match atQ (.tup [(.own (.own .fz)), .fz]) (.tup [encPgm (bd :: t), .str w_0]) [0, 0] with
        | some (.own .fz, e) => appD (.int 0) e >>= fun e' => R.ok (Fl.nx (ρ.set 10 (some (setQ (.tup [encPgm (bd :: t), .str w_0]) [0, 0] e'))))
        | _ => .no) = _
      rw [a1]
      show (appD (.int 0) (encBd bd) >>= fun e' => R.ok (Fl.nx (ρ.set 10 (some (setQ (.tup [encPgm (bd :: t), .str w_0]) [0, 0] e'))))) = _
      rw [a2, ok_bind, a3]
    have hH : ∀ (ρ : Env) (y : D), ρ[10]? = some (some (.tup [.lst (y :: t.map encBd), .str w_0])) → sAppH 10 (.tup [(.own (.own .fz)), .fz]) [0] (eLst aNil) ρ = .ok (.nx (ρ.set 10 none)) := fun ρ y hρ => by
      unfold sAppH
      rw [hρ]
      have lt : (y :: t.map encBd).length < most := by simp [most]; simp at hl; omega
      show (if (y :: t.map encBd).length < most then R.ok (Fl.nx (ρ.set 10 none)) else .no) = _
      rw [if_pos lt]
    generalize (.lst ((bd.map fun r => encRw r.1 r.2) ++ [.int 0]) : D) = Y at *
    generalize encPgm (bd :: t) = A at *
    generalize t.map encBd = TT at *
    simp [rsB, q, ld, lf, ee, al, sAppQ, noExc, hQ, hH, fc]
  · rw [if_neg hd] at lf
    generalize encPgm P = A at *
    generalize dueM P = W at *
    simp [rsB, q, ld, lf, ee, hd]
end Dn

namespace Dn
open PySem L2
theorem od_nil {ns : List Int} {j : Nat} {c : Int} {A : D} (x2 x3 x5 x6 x7 x8 x9 x10 : Option D) (hc : F__law_cell [.scr ns, .int (7 + (j : Int))] = .ok (.int c)) (ln : lenD [A] = .ok (.int 0)) (e0 : eqD A (.lst []) = .ok (.bl true)) :
    odB [some (.scr ns), some A, x2, x3, some (.int (j : Int)), x5, x6, x7, x8, x9, x10] = .ok (.nx [some (.scr ns), some A, x2, some (.int 0), some (.int (j : Int)), x5, x6, x7, x8, x9, x10]) := by
  simp [odB, hc, ln]
  simp [e0]
section
variable {ns : List Int} (hn : ns.length ≤ 63)
include hn
theorem od_step {P : List (List Rw)} (h : okP P) {j : Nat} (hj : j ≤ 5) (x2 x3 x5 x6 x7 x8 x9 x10 : Option D) :
    ∃ P' y3 y5 y6 y7, okP P' ∧ odB [some (.scr ns), some (encPgm P), x2, x3, some (.int (j : Int)), x5, x6, x7, x8, x9, x10] = .ok (.nx [some (.scr ns), some (encPgm P'), x2, y3, some (.int (j : Int)), y5, y6, y7, x8, x9, x10]) := by
  obtain ⟨c, hc, c0, c1⟩ := cell_ok hn (by omega : (0 : Int) ≤ 7 + (j : Int))
  obtain ⟨c2, hc2, c20, c21⟩ := cell_ok hn (by omega : (0 : Int) ≤ 11 + (j : Int))
  obtain ⟨r, hr⟩ := raw_ok hn (by omega : (0 : Int) ≤ 15 + (j : Int))
  have ln := len_pgm P
  have e0 := eq_nilPg h.ok
  have hl := h.l
  have mx : max2D [.int 1, .int (P.length : Nat)] = .ok (.int (if (P.length : Int) > 1 then (P.length : Int) else 1)) := rfl
  by_cases hP : P = []
  · subst hP
    have e0 : eqD (encPgm []) (.lst []) = .ok (.bl true) := eqD_self (n := 1) rfl (by decide)
    exact ⟨[], some (.int 0), x5, x6, x7, h, od_nil x2 x3 x5 x6 x7 x8 x9 x10 hc rfl e0⟩
  rw [decide_eq_false hP] at e0
  have lp : 0 < P.length := by
    cases P with
    | nil => exact absurd rfl hP
    | cons a b => simp
  have mx : max2D [.int 1, .int (P.length : Nat)] = .ok (.int (P.length : Nat)) := by
    rw [mx]
    have e : (if (P.length : Int) > 1 then (P.length : Int) else 1) = P.length := by split <;> omega
    rw [e]
  have lp' : (0 : Int) < P.length := by omega
  have b0 := Int.emod_nonneg c (b := (P.length : Int)) (by omega)
  have b1 := Int.emod_lt_of_pos c lp'
  generalize hb : c % (P.length : Int) = b at *
  obtain ⟨bd, ib, bm⟩ := at_bd b0 b1
  have okb := h.ok bd bm
  have lb := h.b bd bm
  have eb := eq_nilBd okb
  have lbd := len_bd bd
  by_cases hB : bd = []
  · rw [decide_eq_true hB] at eb
    refine ⟨P, some (.int b), x5, x6, x7, h, ?_⟩
    generalize encPgm P = A at *
    generalize encBd bd = B at *
    simp [odB, hc, ln, mx, lp, lp', hb, e0, ib, eb]
  rw [decide_eq_false hB] at eb
  have l0 : 0 < bd.length := by
    cases bd with
    | nil => exact absurd rfl hB
    | cons a b => simp
  have l0' : (0 : Int) < bd.length := by omega
  have a0 := Int.emod_nonneg c2 (b := (bd.length : Int)) (by omega)
  have a1 := Int.emod_lt_of_pos c2 l0'
  generalize ha : c2 % (bd.length : Int) = at' at *
  obtain ⟨w, ps, ho, ow⟩ := lodd (c := r) (b := (P.length : Nat)) (z := (bd.length : Nat))
  have t1 := take_bd bd (k := at') a0
  have t2 := drop_bd bd (k := at' + 1) (by omega)
  have lt1 : (bd.take at'.toNat).length = at'.toNat := by rw [List.length_take]; omega
  have lt2 : (bd.drop (at' + 1).toNat).length = bd.length - (at' + 1).toNat := List.length_drop
  have o1 : okBd (bd.take at'.toNat) := fun x hx => okb x (List.mem_of_mem_take hx)
  have o2 : okBd (bd.drop (at' + 1).toNat) := fun x hx => okb x (List.mem_of_mem_drop hx)
  generalize bd.take at'.toNat = T1 at *
  generalize bd.drop (at' + 1).toNat = T2 at *
  have ct1 : addD (encBd T1) (.lst [encRw w ps]) = .ok (encBd (T1 ++ [(w, ps)])) := cat_bd (a := T1) (b := [(w, ps)]) (by simp; omega)
  have ct2 := cat_bd (a := T1 ++ [(w, ps)]) (b := T2) (by simp; omega)
  have pt := put_bd b0 b1 (T1 ++ [(w, ps)] ++ T2)
  refine ⟨P.set b.toNat (T1 ++ [(w, ps)] ++ T2), some (.int b), some (.int at'), some (encBd bd), some (encRw w ps), set_okP h _ (fun x hx => ?_) (by simp; omega), ?_⟩
  · rcases List.mem_append.mp hx with hx | hx
    · rcases List.mem_append.mp hx with hx | hx
      · exact o1 x hx
      · rw [List.mem_singleton.mp hx]; exact ow
    · exact o2 x hx
  · generalize encPgm (P.set b.toNat (T1 ++ [(w, ps)] ++ T2)) = A2 at *
    generalize encBd (T1 ++ [(w, ps)] ++ T2) = B2 at *
    generalize encBd (T1 ++ [(w, ps)]) = B1 at *
    generalize encBd T1 = E1 at *
    generalize encBd T2 = E2 at *
    generalize encRw w ps = Y at *
    generalize encPgm P = A at *
    generalize encBd bd = B at *
    have inn : ∀ x5 x6 x7 : Option D, inB [some (.scr ns), some A, x2, some (.int b), some (.int (j : Int)), x5, x6, x7, x8, x9, x10] = .ok (.nx [some (.scr ns), some A2, x2, some (.int b), some (.int (j : Int)), some (.int at'), some B, some Y, x8, x9, x10]) := fun x5 x6 x7 => by
      simp [inB, hc2, ib, lbd, l0, l0', ha, hr, ln, ho, t1, t2, ct1, ct2, pt]
    simp [odB, hc, ln, mx, lp, lp', hb, e0, ib, eb, inn]
theorem od_loop {m : Nat} (hm : m ≤ 3) {P : List (List Rw)} (h : okP P) (x2 x3 x8 x9 x10 : Option D) :
    ∃ P' y3 y4 y5 y6 y7, okP P' ∧ forD (setN 4) odB (rangeD 0 m) [some (.scr ns), some (encPgm P), x2, x3, none, none, none, none, x8, x9, x10] = .ok (.nx [some (.scr ns), some (encPgm P'), x2, y3, y4, y5, y6, y7, x8, x9, x10]) := by
  obtain ⟨ρ', h1, h2⟩ := forD_inv (set := setN 4) (body := odB) (fun _ ρ => ∃ P' y3 y4 y5 y6 y7, okP P' ∧ ρ = [some (.scr ns), some (encPgm P'), x2, y3, y4, y5, y6, y7, x8, x9, x10]) (xs := rangeD 0 m) (ρ := [some (.scr ns), some (encPgm P), x2, x3, none, none, none, none, x8, x9, x10]) (k := 0) ⟨P, x3, none, none, none, none, h, rfl⟩ fun j x ρ q1 q2 => by
    obtain ⟨P', y3, y4, y5, y6, y7, o, rfl⟩ := q1
    have jl : j < m := by have := (List.getElem?_eq_some_iff.mp q2).1; rwa [len_range] at this
    have hx : x = .int (j : Int) := by
      unfold rangeD at q2
      rw [List.getElem?_map, List.getElem?_range jl] at q2
      simp at q2
      exact q2.symm
    subst hx
    obtain ⟨P2, z3, z5, z6, z7, o2, e⟩ := od_step hn o (j := j) (by omega) x2 y3 y5 y6 y7 x8 x9 x10
    exact ⟨_, _, rfl, e, P2, z3, some (.int (j : Int)), z5, z6, z7, o2, rfl⟩
  obtain ⟨P', y3, y4, y5, y6, y7, o, rfl⟩ := h2
  exact ⟨P', y3, y4, y5, y6, y7, o, h1⟩
end
theorem law_true (ns : List Int) (hn : ns.length ≤ 63) : F_law [.scr ns] = .ok (.bl true) := by
  obtain ⟨p, p1, p2, p3, p4⟩ := program_ok hn (ws := allW) (by decide) (by decide)
  rw [enc_pg] at p1
  have okp : okP (toPg p) := by
    refine ⟨fun bd hb => ?_, by unfold toPg; rw [List.length_map]; omega, fun bd hb => ?_⟩
    · obtain ⟨b, hb2, rfl⟩ := List.mem_map.mp hb
      intro r hr
      obtain ⟨q, hq, rfl⟩ := List.mem_map.mp hr
      exact rw_ok ((p4 b hb2).2 q hq)
    · obtain ⟨b, hb2, rfl⟩ := List.mem_map.mp hb
      rw [List.length_map]
      have := (p4 b hb2).1
      omega
  have lp : 0 < (toPg p).length := by unfold toPg; rw [List.length_map]; exact p2
  have lq : (toPg p).length ≤ 20 := by unfold toPg; rw [List.length_map]; exact p3
  generalize toPg p = P at *
  obtain ⟨c, hc, c0, c1⟩ := cell_ok hn (by decide : (0 : Int) ≤ 5)
  obtain ⟨c6, h6, a6, b6⟩ := cell_ok hn (by decide : (0 : Int) ≤ 6)
  obtain ⟨m, hm⟩ : ∃ m : Nat, c6 % 4 = m := ⟨(c6 % 4).toNat, by omega⟩
  have m3 : m ≤ 3 := by omega
  have rg := rng1_ok (n := (m : Int)) (by omega) (by omega)
  rw [Int.toNat_natCast] at rg
  have ln := len_pgm P
  have wo := words_ok
  -- the program, changed
  obtain ⟨P1, y3, o1, k1⟩ : ∃ P1 y3, okP P1 ∧ ∀ K : Env → R Fl, ((sSeq (sIf (tB' (eOp eqD (eOp modD (eVar 2) (eC (.int 16))) (eC (.int 1)))) (sAsg 1 [] (eSl (eOp mulD (eVar 1) (eC (.int 21))) oNone (oSome (eOp ixD (eLst (aCons (eC (.int 0)) (aCons (eC (.int 1)) (aCons (eC (.int 20)) (aCons (eC (.int 21)) aNil))))) (eOp modD (eOp divD (eVar 2) (eC (.int 16))) (eC (.int 4))))))) sNext) (sSeq (sIf (tB' (eOp eqD (eOp modD (eVar 2) (eC (.int 16))) (eC (.int 2)))) (sSeq (sAsg 3 [] (eOp modD (eOp divD (eVar 2) (eC (.int 16))) (eLook (eCall lenD (aCons (eVar 1) aNil))))) (sPut 1 (eVar 3) (eOp mulD (eLst (aCons (eTup (aCons (eC (.str w_drop)) aNil)) aNil)) (eOp addD (eC (.int 60)) (eOp modD (eOp divD (eVar 2) (eC (.int 320))) (eC (.int 2))))))) sNext) K)) [some (.scr ns), some (encPgm P), some (.int c), none, none, none, none, none, none, none, none]) = K [some (.scr ns), some (encPgm P1), some (.int c), y3, none, none, none, none, none, none, none] := by
    by_cases g1 : c % 16 = 1
    · obtain ⟨n, hn4, n0, n21⟩ : ∃ n : Int, atI [D.int 0, .int 1, .int 20, .int 21] (c / 16 % 4) = some (.int n) ∧ 0 ≤ n ∧ n ≤ 21 := by
        have q0 : 0 ≤ c / 16 % 4 := by omega
        have q1 : c / 16 % 4 < 4 := by omega
        generalize c / 16 % 4 = q at *
        have : q = 0 ∨ q = 1 ∨ q = 2 ∨ q = 3 := by omega
        rcases this with rfl | rfl | rfl | rfl
        · exact ⟨0, rfl, by decide, by decide⟩
        · exact ⟨1, rfl, by decide, by decide⟩
        · exact ⟨20, rfl, by decide, by decide⟩
        · exact ⟨21, rfl, by decide, by decide⟩
      have ml : mulD (encPgm P) (.int 21) = .ok (encPgm (List.replicate 21 P).flatten) := by
        refine Eq.trans (if_pos ⟨by decide, by decide, by rw [List.length_map]; show P.length * 21 ≤ most; unfold most; omega⟩) ?_
        unfold encPgm
        rw [List.map_flatten, List.map_replicate]
        rfl
      have sl : slD (encPgm (List.replicate 21 P).flatten) none (some n) = .ok (encPgm ((List.replicate 21 P).flatten.take n.toNat)) := by
        unfold encPgm
        rw [m_slL, cut_to _ _ n0, ← List.map_take]
      have mem : ∀ bd ∈ (List.replicate 21 P).flatten.take n.toNat, bd ∈ P := fun bd hb => by
        obtain ⟨l, hl, hb⟩ := List.mem_flatten.mp (List.mem_of_mem_take hb)
        rw [(List.mem_replicate.mp hl).2] at hb
        exact hb
      refine ⟨(List.replicate 21 P).flatten.take n.toNat, none, ⟨fun bd hb => okp.ok bd (mem bd hb), by rw [List.length_take]; omega, fun bd hb => okp.b bd (mem bd hb)⟩, fun K => ?_⟩
      have g2 : ¬ c % 16 = 2 := by omega
      generalize encPgm ((List.replicate 21 P).flatten.take n.toNat) = A2 at *
      generalize encPgm (List.replicate 21 P).flatten = A1 at *
      generalize encPgm P = A at *
      simp [g1, g2, ml, hn4, sl]
    · by_cases g2 : c % 16 = 2
      · have lp' : (0 : Int) < P.length := by omega
        have b0 := Int.emod_nonneg (c / 16) (b := (P.length : Int)) (by omega)
        have b1 := Int.emod_lt_of_pos (c / 16) lp'
        generalize hb : c / 16 % (P.length : Int) = b at *
        have q0 : 0 ≤ c / 320 % 2 := by omega
        have q1 : c / 320 % 2 < 2 := by omega
        generalize hq : c / 320 % 2 = q at *
        have ml : mulD (.lst [.tup [.str w_drop]]) (.int (60 + q)) = .ok (encBd (List.replicate (60 + q).toNat (w_drop, []))) := by
          refine Eq.trans (if_pos ⟨by omega, by omega, by simp [most]; omega⟩) ?_
          unfold encBd
          rw [List.flatten_replicate_singleton, List.map_replicate]
          rfl
        have pt := put_bd b0 b1 (List.replicate (60 + q).toNat (w_drop, []))
        refine ⟨P.set b.toNat (List.replicate (60 + q).toNat (w_drop, [])), some (.int b), set_okP okp _ (fun x hx => ?_) (by rw [List.length_replicate]; omega), fun K => ?_⟩
        · rw [(List.mem_replicate.mp hx).2]
          exact okRw0 (by decide +kernel)
        · generalize encPgm (P.set b.toNat (List.replicate (60 + q).toNat (w_drop, []))) = A2 at *
          generalize encBd (List.replicate (60 + q).toNat (w_drop, [])) = B at *
          generalize encPgm P = A at *
          simp [g1, g2, ln, lp, lp', hb, hq, ml, pt]
      · refine ⟨P, none, okp, fun K => ?_⟩
        generalize encPgm P = A at *
        simp [g1, g2]
  obtain ⟨P2, z3, z4, z5, z6, z7, o2, lp2⟩ := od_loop hn m3 o1 (some (.int c)) y3 none none none
  obtain ⟨ρ', rs⟩ := rest_ok o2 (some (.scr ns)) (some (.int c)) z3 z4 z5 z6 z7
  have tail : ((sSeq (sFor (iRange1 (eOp modD (eCall (F__law_cell) (aCons (eVar 0) (aCons (eC (.int 6)) aNil))) (eC (.int 4)))) (setN 4) odB) rsB) [some (.scr ns), some (encPgm P1), some (.int c), y3, none, none, none, none, none, none, none]) = .ok (.rt (.bl true) ρ') := by
    generalize encPgm P1 = A1 at *
    generalize encPgm P2 = A2 at *
    generalize rangeD 0 m = RR at *
    simp [h6, hm, rg, lp2, rs]
  have k2 := (k1 _).trans tail
  show leave (B_law (enter 11 [.scr ns])) = _
  rw [B_cut]
  have st : ∀ K : Env → R Fl, ((sSeq (sAsg 1 [] (eCall (F__law_program) (aCons (eVar 0) (aCons (eCall F__law_words aNil) aNil)))) (sSeq (sAsg 2 [] (eCall (F__law_cell) (aCons (eVar 0) (aCons (eC (.int 5)) aNil)))) K)) [some (.scr ns), none, none, none, none, none, none, none, none, none, none]) = K [some (.scr ns), some (encPgm P), some (.int c), none, none, none, none, none, none, none, none] := fun K => by
    clear k1 k2 tail lp2
    generalize allW.map D.str = WW at *
    generalize encPgm P = A at *
    simp [wo, p1, hc]
  have e0 : enter 11 [.scr ns] = [some (.scr ns), none, none, none, none, none, none, none, none, none, none] := rfl
  rw [e0, st, k2]
  rfl
end Dn

open PySem PySem.W PyProof.Rows in
set_option maxRecDepth 100000 in
set_option maxHeartbeats 0 in
theorem PySem.Challenge.cw_sleepwalk_k05_programs_checked_holds : PySem.Challenge.rw_sleepwalk_k05_programs_checked.Holds := by
  w_on; o_law; k_head; (case hw => w_witness2)
  k_fill
  refine Dn.walk_d (l := PySem.Challenge.rw_sleepwalk_k05_programs_checked) (g := Dn.F_law) (k := 10) (x := "_law_script") rfl rfl ⟨rfl, by decide, by decide⟩ (fun w h Y => PySem.W.kIn_of Y) ?F Dn.law_true
  case F =>
    intro w mg fa h KX G GX hmg
    have n_ValueError : mg "ValueError" = none := PySem.W.mg_none_of KX G (by k_is)
    have n_abs : mg "abs" = none := PySem.W.mg_none_of KX G (by k_is)
    have n_all : mg "all" = none := PySem.W.mg_none_of KX G (by k_is)
    have n_bool : mg "bool" = none := PySem.W.mg_none_of KX G (by k_is)
    have n_int : mg "int" = none := PySem.W.mg_none_of KX G (by k_is)
    have n_isinstance : mg "isinstance" = none := PySem.W.mg_none_of KX G (by k_is)
    have n_len : mg "len" = none := PySem.W.mg_none_of KX G (by k_is)
    have n_list : mg "list" = none := PySem.W.mg_none_of KX G (by k_is)
    have n_max : mg "max" = none := PySem.W.mg_none_of KX G (by k_is)
    have n_range : mg "range" = none := PySem.W.mg_none_of KX G (by k_is)
    have n_str : mg "str" = none := PySem.W.mg_none_of KX G (by k_is)
    have n_tuple : mg "tuple" = none := PySem.W.mg_none_of KX G (by k_is)
    have g_MOST_BODIES : ∃ t, mg "MOST_BODIES" = some (.int (20) t) := ⟨_, PySem.W.mg_of KX G (by k_is)⟩
    have g_MOST_KEPT : ∃ t, mg "MOST_KEPT" = some (.int (8) t) := ⟨_, PySem.W.mg_of KX G (by k_is)⟩
    have g_MOST_NUMBER : ∃ t, mg "MOST_NUMBER" = some (.int (1000000000000) t) := Dn.loose_int GX (by simp)
    have g_MOST_ROWS : ∃ t, mg "MOST_ROWS" = some (.int (60) t) := ⟨_, PySem.W.mg_of KX G (by k_is)⟩
    have r_NoBodies : Dn.ErrC (Dn.fragOf KX) mg "NoBodies" := by
      dsimp only [Dn.fragOf]
      refine' Dn.err_mk KX G ?z0 ?z1 ?z2 ?z3 ?z4
      (case z0 => k_is)
      (case z1 => k_exc)
      (case z2 => k_is)
      (case z3 => k_is)
      (case z4 => k_is)
    have r_NoBody : Dn.ErrC (Dn.fragOf KX) mg "NoBody" := by
      dsimp only [Dn.fragOf]
      refine' Dn.err_mk KX G ?z5 ?z6 ?z7 ?z8 ?z9
      (case z5 => k_is)
      (case z6 => k_exc)
      (case z7 => k_is)
      (case z8 => k_is)
      (case z9 => k_is)
    have r_NoInstruction : Dn.ErrC (Dn.fragOf KX) mg "NoInstruction" := by
      dsimp only [Dn.fragOf]
      refine' Dn.err_mk KX G ?z10 ?z11 ?z12 ?z13 ?z14
      (case z10 => k_is)
      (case z11 => k_exc)
      (case z12 => k_is)
      (case z13 => k_is)
      (case z14 => k_is)
    have r_NoPlace : Dn.ErrC (Dn.fragOf KX) mg "NoPlace" := by
      dsimp only [Dn.fragOf]
      refine' Dn.err_mk KX G ?z15 ?z16 ?z17 ?z18 ?z19
      (case z15 => k_is)
      (case z16 => k_exc)
      (case z17 => k_is)
      (case z18 => k_is)
      (case z19 => k_is)
    have r_TooMany : Dn.ErrC (Dn.fragOf KX) mg "TooMany" := by
      dsimp only [Dn.fragOf]
      refine' Dn.err_mk KX G ?z20 ?z21 ?z22 ?z23 ?z24
      (case z20 => k_is)
      (case z21 => k_exc)
      (case z22 => k_is)
      (case z23 => k_is)
      (case z24 => k_is)
    have c_cat : ∀ k ∈ Dn.raisedL, Dn.CatC (Dn.fragOf KX) mg k "SleepError" := by
      intro k hk; simp only [Dn.raisedL, List.mem_cons, List.not_mem_nil, or_false] at hk
      rcases hk with rfl | rfl | rfl | rfl | rfl
      · dsimp only [Dn.fragOf]
        refine' Dn.cat_mk KX G ?z25 ?z26 ?z27 ?z28 ?z29 ?z30
        (case z25 => k_is)
        (case z26 => k_is)
        (case z27 => k_is)
        (case z28 => k_is)
        (case z29 => k_is)
        (case z30 => k_is)
      · dsimp only [Dn.fragOf]
        refine' Dn.cat_mk KX G ?z31 ?z32 ?z33 ?z34 ?z35 ?z36
        (case z31 => k_is)
        (case z32 => k_is)
        (case z33 => k_is)
        (case z34 => k_is)
        (case z35 => k_is)
        (case z36 => k_is)
      · dsimp only [Dn.fragOf]
        refine' Dn.cat_mk KX G ?z37 ?z38 ?z39 ?z40 ?z41 ?z42
        (case z37 => k_is)
        (case z38 => k_is)
        (case z39 => k_is)
        (case z40 => k_is)
        (case z41 => k_is)
        (case z42 => k_is)
      · dsimp only [Dn.fragOf]
        refine' Dn.cat_mk KX G ?z43 ?z44 ?z45 ?z46 ?z47 ?z48
        (case z43 => k_is)
        (case z44 => k_is)
        (case z45 => k_is)
        (case z46 => k_is)
        (case z47 => k_is)
        (case z48 => k_is)
      · dsimp only [Dn.fragOf]
        refine' Dn.cat_mk KX G ?z49 ?z50 ?z51 ?z52 ?z53 ?z54
        (case z49 => k_is)
        (case z50 => k_is)
        (case z51 => k_is)
        (case z52 => k_is)
        (case z53 => k_is)
        (case z54 => k_is)
    have c_hasS : ∃ D, mg "SleepError" = some (.ref D) := by
      refine' Dn.hasCls KX G ?z55
      (case z55 => k_is)
    have c_cls : ∀ k ∈ Dn.raisedL, Dn.ClsC (Dn.fragOf KX) mg k := by
      intro k hk; simp only [Dn.raisedL, List.mem_cons, List.not_mem_nil, or_false] at hk
      rcases hk with rfl | rfl | rfl | rfl | rfl
      · dsimp only [Dn.fragOf]
        refine' Dn.cls_mk KX G ?z56 ?z57 ?z58 ?z59 ?z60 ?z61 ?z62 ?z63 ?z64
        (case z56 => k_is)
        (case z57 => k_is)
        (case z58 => k_is)
        (case z59 => k_is)
        (case z60 => k_is)
        (case z61 => k_is)
        (case z62 => k_is)
        (case z63 => k_is)
        (case z64 => k_is)
      · dsimp only [Dn.fragOf]
        refine' Dn.cls_mk KX G ?z65 ?z66 ?z67 ?z68 ?z69 ?z70 ?z71 ?z72 ?z73
        (case z65 => k_is)
        (case z66 => k_is)
        (case z67 => k_is)
        (case z68 => k_is)
        (case z69 => k_is)
        (case z70 => k_is)
        (case z71 => k_is)
        (case z72 => k_is)
        (case z73 => k_is)
      · dsimp only [Dn.fragOf]
        refine' Dn.cls_mk KX G ?z74 ?z75 ?z76 ?z77 ?z78 ?z79 ?z80 ?z81 ?z82
        (case z74 => k_is)
        (case z75 => k_is)
        (case z76 => k_is)
        (case z77 => k_is)
        (case z78 => k_is)
        (case z79 => k_is)
        (case z80 => k_is)
        (case z81 => k_is)
        (case z82 => k_is)
      · dsimp only [Dn.fragOf]
        refine' Dn.cls_mk KX G ?z83 ?z84 ?z85 ?z86 ?z87 ?z88 ?z89 ?z90 ?z91
        (case z83 => k_is)
        (case z84 => k_is)
        (case z85 => k_is)
        (case z86 => k_is)
        (case z87 => k_is)
        (case z88 => k_is)
        (case z89 => k_is)
        (case z90 => k_is)
        (case z91 => k_is)
      · dsimp only [Dn.fragOf]
        refine' Dn.cls_mk KX G ?z92 ?z93 ?z94 ?z95 ?z96 ?z97 ?z98 ?z99 ?z100
        (case z92 => k_is)
        (case z93 => k_is)
        (case z94 => k_is)
        (case z95 => k_is)
        (case z96 => k_is)
        (case z97 => k_is)
        (case z98 => k_is)
        (case z99 => k_is)
        (case z100 => k_is)
    have k_NoBodies : Dn.ClsC (Dn.fragOf KX) mg "NoBodies" := by
      dsimp only [Dn.fragOf]
      refine' Dn.cls_mk KX G ?z101 ?z102 ?z103 ?z104 ?z105 ?z106 ?z107 ?z108 ?z109
      (case z101 => k_is)
      (case z102 => k_is)
      (case z103 => k_is)
      (case z104 => k_is)
      (case z105 => k_is)
      (case z106 => k_is)
      (case z107 => k_is)
      (case z108 => k_is)
      (case z109 => k_is)
    have k_NoBody : Dn.ClsC (Dn.fragOf KX) mg "NoBody" := by
      dsimp only [Dn.fragOf]
      refine' Dn.cls_mk KX G ?z110 ?z111 ?z112 ?z113 ?z114 ?z115 ?z116 ?z117 ?z118
      (case z110 => k_is)
      (case z111 => k_is)
      (case z112 => k_is)
      (case z113 => k_is)
      (case z114 => k_is)
      (case z115 => k_is)
      (case z116 => k_is)
      (case z117 => k_is)
      (case z118 => k_is)
    have k_NoFit : Dn.ClsC (Dn.fragOf KX) mg "NoFit" := by
      dsimp only [Dn.fragOf]
      refine' Dn.cls_mk KX G ?z119 ?z120 ?z121 ?z122 ?z123 ?z124 ?z125 ?z126 ?z127
      (case z119 => k_is)
      (case z120 => k_is)
      (case z121 => k_is)
      (case z122 => k_is)
      (case z123 => k_is)
      (case z124 => k_is)
      (case z125 => k_is)
      (case z126 => k_is)
      (case z127 => k_is)
    have k_NoInstruction : Dn.ClsC (Dn.fragOf KX) mg "NoInstruction" := by
      dsimp only [Dn.fragOf]
      refine' Dn.cls_mk KX G ?z128 ?z129 ?z130 ?z131 ?z132 ?z133 ?z134 ?z135 ?z136
      (case z128 => k_is)
      (case z129 => k_is)
      (case z130 => k_is)
      (case z131 => k_is)
      (case z132 => k_is)
      (case z133 => k_is)
      (case z134 => k_is)
      (case z135 => k_is)
      (case z136 => k_is)
    have k_NoPlace : Dn.ClsC (Dn.fragOf KX) mg "NoPlace" := by
      dsimp only [Dn.fragOf]
      refine' Dn.cls_mk KX G ?z137 ?z138 ?z139 ?z140 ?z141 ?z142 ?z143 ?z144 ?z145
      (case z137 => k_is)
      (case z138 => k_is)
      (case z139 => k_is)
      (case z140 => k_is)
      (case z141 => k_is)
      (case z142 => k_is)
      (case z143 => k_is)
      (case z144 => k_is)
      (case z145 => k_is)
    have k_NoStep : Dn.ClsC (Dn.fragOf KX) mg "NoStep" := by
      dsimp only [Dn.fragOf]
      refine' Dn.cls_mk KX G ?z146 ?z147 ?z148 ?z149 ?z150 ?z151 ?z152 ?z153 ?z154
      (case z146 => k_is)
      (case z147 => k_is)
      (case z148 => k_is)
      (case z149 => k_is)
      (case z150 => k_is)
      (case z151 => k_is)
      (case z152 => k_is)
      (case z153 => k_is)
      (case z154 => k_is)
    have k_NoWords : Dn.ClsC (Dn.fragOf KX) mg "NoWords" := by
      dsimp only [Dn.fragOf]
      refine' Dn.cls_mk KX G ?z155 ?z156 ?z157 ?z158 ?z159 ?z160 ?z161 ?z162 ?z163
      (case z155 => k_is)
      (case z156 => k_is)
      (case z157 => k_is)
      (case z158 => k_is)
      (case z159 => k_is)
      (case z160 => k_is)
      (case z161 => k_is)
      (case z162 => k_is)
      (case z163 => k_is)
    have k_TooMany : Dn.ClsC (Dn.fragOf KX) mg "TooMany" := by
      dsimp only [Dn.fragOf]
      refine' Dn.cls_mk KX G ?z164 ?z165 ?z166 ?z167 ?z168 ?z169 ?z170 ?z171 ?z172
      (case z164 => k_is)
      (case z165 => k_is)
      (case z166 => k_is)
      (case z167 => k_is)
      (case z168 => k_is)
      (case z169 => k_is)
      (case z170 => k_is)
      (case z171 => k_is)
      (case z172 => k_is)
    have i_NoBodies : ∀ k ∈ Dn.raisedL, Dn.IsC (Dn.fragOf KX) mg k "NoBodies" (Dn.isSub k "NoBodies") := by
      intro k hk; simp only [Dn.raisedL, List.mem_cons, List.not_mem_nil, or_false] at hk
      rcases hk with rfl | rfl | rfl | rfl | rfl
      · rw [show Dn.isSub "NoBodies" "NoBodies" = true from by decide +kernel]
        dsimp only [Dn.fragOf]
        refine' Dn.is_mk KX G ?z173 ?z174 ?z175
        (case z173 => k_is)
        (case z174 => k_is)
        (case z175 => kit_is)
      · rw [show Dn.isSub "NoBody" "NoBodies" = false from by decide +kernel]
        dsimp only [Dn.fragOf]
        refine' Dn.is_mk KX G ?z176 ?z177 ?z178
        (case z176 => k_is)
        (case z177 => k_is)
        (case z178 => kit_is)
      · rw [show Dn.isSub "NoInstruction" "NoBodies" = false from by decide +kernel]
        dsimp only [Dn.fragOf]
        refine' Dn.is_mk KX G ?z179 ?z180 ?z181
        (case z179 => k_is)
        (case z180 => k_is)
        (case z181 => kit_is)
      · rw [show Dn.isSub "NoPlace" "NoBodies" = false from by decide +kernel]
        dsimp only [Dn.fragOf]
        refine' Dn.is_mk KX G ?z182 ?z183 ?z184
        (case z182 => k_is)
        (case z183 => k_is)
        (case z184 => kit_is)
      · rw [show Dn.isSub "TooMany" "NoBodies" = false from by decide +kernel]
        dsimp only [Dn.fragOf]
        refine' Dn.is_mk KX G ?z185 ?z186 ?z187
        (case z185 => k_is)
        (case z186 => k_is)
        (case z187 => kit_is)
    have i_NoBody : ∀ k ∈ Dn.raisedL, Dn.IsC (Dn.fragOf KX) mg k "NoBody" (Dn.isSub k "NoBody") := by
      intro k hk; simp only [Dn.raisedL, List.mem_cons, List.not_mem_nil, or_false] at hk
      rcases hk with rfl | rfl | rfl | rfl | rfl
      · rw [show Dn.isSub "NoBodies" "NoBody" = false from by decide +kernel]
        dsimp only [Dn.fragOf]
        refine' Dn.is_mk KX G ?z188 ?z189 ?z190
        (case z188 => k_is)
        (case z189 => k_is)
        (case z190 => kit_is)
      · rw [show Dn.isSub "NoBody" "NoBody" = true from by decide +kernel]
        dsimp only [Dn.fragOf]
        refine' Dn.is_mk KX G ?z191 ?z192 ?z193
        (case z191 => k_is)
        (case z192 => k_is)
        (case z193 => kit_is)
      · rw [show Dn.isSub "NoInstruction" "NoBody" = false from by decide +kernel]
        dsimp only [Dn.fragOf]
        refine' Dn.is_mk KX G ?z194 ?z195 ?z196
        (case z194 => k_is)
        (case z195 => k_is)
        (case z196 => kit_is)
      · rw [show Dn.isSub "NoPlace" "NoBody" = false from by decide +kernel]
        dsimp only [Dn.fragOf]
        refine' Dn.is_mk KX G ?z197 ?z198 ?z199
        (case z197 => k_is)
        (case z198 => k_is)
        (case z199 => kit_is)
      · rw [show Dn.isSub "TooMany" "NoBody" = false from by decide +kernel]
        dsimp only [Dn.fragOf]
        refine' Dn.is_mk KX G ?z200 ?z201 ?z202
        (case z200 => k_is)
        (case z201 => k_is)
        (case z202 => kit_is)
    have i_NoFit : ∀ k ∈ Dn.raisedL, Dn.IsC (Dn.fragOf KX) mg k "NoFit" (Dn.isSub k "NoFit") := by
      intro k hk; simp only [Dn.raisedL, List.mem_cons, List.not_mem_nil, or_false] at hk
      rcases hk with rfl | rfl | rfl | rfl | rfl
      · rw [show Dn.isSub "NoBodies" "NoFit" = false from by decide +kernel]
        dsimp only [Dn.fragOf]
        refine' Dn.is_mk KX G ?z203 ?z204 ?z205
        (case z203 => k_is)
        (case z204 => k_is)
        (case z205 => kit_is)
      · rw [show Dn.isSub "NoBody" "NoFit" = false from by decide +kernel]
        dsimp only [Dn.fragOf]
        refine' Dn.is_mk KX G ?z206 ?z207 ?z208
        (case z206 => k_is)
        (case z207 => k_is)
        (case z208 => kit_is)
      · rw [show Dn.isSub "NoInstruction" "NoFit" = false from by decide +kernel]
        dsimp only [Dn.fragOf]
        refine' Dn.is_mk KX G ?z209 ?z210 ?z211
        (case z209 => k_is)
        (case z210 => k_is)
        (case z211 => kit_is)
      · rw [show Dn.isSub "NoPlace" "NoFit" = false from by decide +kernel]
        dsimp only [Dn.fragOf]
        refine' Dn.is_mk KX G ?z212 ?z213 ?z214
        (case z212 => k_is)
        (case z213 => k_is)
        (case z214 => kit_is)
      · rw [show Dn.isSub "TooMany" "NoFit" = false from by decide +kernel]
        dsimp only [Dn.fragOf]
        refine' Dn.is_mk KX G ?z215 ?z216 ?z217
        (case z215 => k_is)
        (case z216 => k_is)
        (case z217 => kit_is)
    have i_NoInstruction : ∀ k ∈ Dn.raisedL, Dn.IsC (Dn.fragOf KX) mg k "NoInstruction" (Dn.isSub k "NoInstruction") := by
      intro k hk; simp only [Dn.raisedL, List.mem_cons, List.not_mem_nil, or_false] at hk
      rcases hk with rfl | rfl | rfl | rfl | rfl
      · rw [show Dn.isSub "NoBodies" "NoInstruction" = false from by decide +kernel]
        dsimp only [Dn.fragOf]
        refine' Dn.is_mk KX G ?z218 ?z219 ?z220
        (case z218 => k_is)
        (case z219 => k_is)
        (case z220 => kit_is)
      · rw [show Dn.isSub "NoBody" "NoInstruction" = false from by decide +kernel]
        dsimp only [Dn.fragOf]
        refine' Dn.is_mk KX G ?z221 ?z222 ?z223
        (case z221 => k_is)
        (case z222 => k_is)
        (case z223 => kit_is)
      · rw [show Dn.isSub "NoInstruction" "NoInstruction" = true from by decide +kernel]
        dsimp only [Dn.fragOf]
        refine' Dn.is_mk KX G ?z224 ?z225 ?z226
        (case z224 => k_is)
        (case z225 => k_is)
        (case z226 => kit_is)
      · rw [show Dn.isSub "NoPlace" "NoInstruction" = false from by decide +kernel]
        dsimp only [Dn.fragOf]
        refine' Dn.is_mk KX G ?z227 ?z228 ?z229
        (case z227 => k_is)
        (case z228 => k_is)
        (case z229 => kit_is)
      · rw [show Dn.isSub "TooMany" "NoInstruction" = false from by decide +kernel]
        dsimp only [Dn.fragOf]
        refine' Dn.is_mk KX G ?z230 ?z231 ?z232
        (case z230 => k_is)
        (case z231 => k_is)
        (case z232 => kit_is)
    have i_NoPlace : ∀ k ∈ Dn.raisedL, Dn.IsC (Dn.fragOf KX) mg k "NoPlace" (Dn.isSub k "NoPlace") := by
      intro k hk; simp only [Dn.raisedL, List.mem_cons, List.not_mem_nil, or_false] at hk
      rcases hk with rfl | rfl | rfl | rfl | rfl
      · rw [show Dn.isSub "NoBodies" "NoPlace" = false from by decide +kernel]
        dsimp only [Dn.fragOf]
        refine' Dn.is_mk KX G ?z233 ?z234 ?z235
        (case z233 => k_is)
        (case z234 => k_is)
        (case z235 => kit_is)
      · rw [show Dn.isSub "NoBody" "NoPlace" = false from by decide +kernel]
        dsimp only [Dn.fragOf]
        refine' Dn.is_mk KX G ?z236 ?z237 ?z238
        (case z236 => k_is)
        (case z237 => k_is)
        (case z238 => kit_is)
      · rw [show Dn.isSub "NoInstruction" "NoPlace" = false from by decide +kernel]
        dsimp only [Dn.fragOf]
        refine' Dn.is_mk KX G ?z239 ?z240 ?z241
        (case z239 => k_is)
        (case z240 => k_is)
        (case z241 => kit_is)
      · rw [show Dn.isSub "NoPlace" "NoPlace" = true from by decide +kernel]
        dsimp only [Dn.fragOf]
        refine' Dn.is_mk KX G ?z242 ?z243 ?z244
        (case z242 => k_is)
        (case z243 => k_is)
        (case z244 => kit_is)
      · rw [show Dn.isSub "TooMany" "NoPlace" = false from by decide +kernel]
        dsimp only [Dn.fragOf]
        refine' Dn.is_mk KX G ?z245 ?z246 ?z247
        (case z245 => k_is)
        (case z246 => k_is)
        (case z247 => kit_is)
    have i_NoStep : ∀ k ∈ Dn.raisedL, Dn.IsC (Dn.fragOf KX) mg k "NoStep" (Dn.isSub k "NoStep") := by
      intro k hk; simp only [Dn.raisedL, List.mem_cons, List.not_mem_nil, or_false] at hk
      rcases hk with rfl | rfl | rfl | rfl | rfl
      · rw [show Dn.isSub "NoBodies" "NoStep" = false from by decide +kernel]
        dsimp only [Dn.fragOf]
        refine' Dn.is_mk KX G ?z248 ?z249 ?z250
        (case z248 => k_is)
        (case z249 => k_is)
        (case z250 => kit_is)
      · rw [show Dn.isSub "NoBody" "NoStep" = false from by decide +kernel]
        dsimp only [Dn.fragOf]
        refine' Dn.is_mk KX G ?z251 ?z252 ?z253
        (case z251 => k_is)
        (case z252 => k_is)
        (case z253 => kit_is)
      · rw [show Dn.isSub "NoInstruction" "NoStep" = false from by decide +kernel]
        dsimp only [Dn.fragOf]
        refine' Dn.is_mk KX G ?z254 ?z255 ?z256
        (case z254 => k_is)
        (case z255 => k_is)
        (case z256 => kit_is)
      · rw [show Dn.isSub "NoPlace" "NoStep" = false from by decide +kernel]
        dsimp only [Dn.fragOf]
        refine' Dn.is_mk KX G ?z257 ?z258 ?z259
        (case z257 => k_is)
        (case z258 => k_is)
        (case z259 => kit_is)
      · rw [show Dn.isSub "TooMany" "NoStep" = false from by decide +kernel]
        dsimp only [Dn.fragOf]
        refine' Dn.is_mk KX G ?z260 ?z261 ?z262
        (case z260 => k_is)
        (case z261 => k_is)
        (case z262 => kit_is)
    have i_NoWords : ∀ k ∈ Dn.raisedL, Dn.IsC (Dn.fragOf KX) mg k "NoWords" (Dn.isSub k "NoWords") := by
      intro k hk; simp only [Dn.raisedL, List.mem_cons, List.not_mem_nil, or_false] at hk
      rcases hk with rfl | rfl | rfl | rfl | rfl
      · rw [show Dn.isSub "NoBodies" "NoWords" = false from by decide +kernel]
        dsimp only [Dn.fragOf]
        refine' Dn.is_mk KX G ?z263 ?z264 ?z265
        (case z263 => k_is)
        (case z264 => k_is)
        (case z265 => kit_is)
      · rw [show Dn.isSub "NoBody" "NoWords" = false from by decide +kernel]
        dsimp only [Dn.fragOf]
        refine' Dn.is_mk KX G ?z266 ?z267 ?z268
        (case z266 => k_is)
        (case z267 => k_is)
        (case z268 => kit_is)
      · rw [show Dn.isSub "NoInstruction" "NoWords" = false from by decide +kernel]
        dsimp only [Dn.fragOf]
        refine' Dn.is_mk KX G ?z269 ?z270 ?z271
        (case z269 => k_is)
        (case z270 => k_is)
        (case z271 => kit_is)
      · rw [show Dn.isSub "NoPlace" "NoWords" = false from by decide +kernel]
        dsimp only [Dn.fragOf]
        refine' Dn.is_mk KX G ?z272 ?z273 ?z274
        (case z272 => k_is)
        (case z273 => k_is)
        (case z274 => kit_is)
      · rw [show Dn.isSub "TooMany" "NoWords" = false from by decide +kernel]
        dsimp only [Dn.fragOf]
        refine' Dn.is_mk KX G ?z275 ?z276 ?z277
        (case z275 => k_is)
        (case z276 => k_is)
        (case z277 => kit_is)
    have i_TooMany : ∀ k ∈ Dn.raisedL, Dn.IsC (Dn.fragOf KX) mg k "TooMany" (Dn.isSub k "TooMany") := by
      intro k hk; simp only [Dn.raisedL, List.mem_cons, List.not_mem_nil, or_false] at hk
      rcases hk with rfl | rfl | rfl | rfl | rfl
      · rw [show Dn.isSub "NoBodies" "TooMany" = false from by decide +kernel]
        dsimp only [Dn.fragOf]
        refine' Dn.is_mk KX G ?z278 ?z279 ?z280
        (case z278 => k_is)
        (case z279 => k_is)
        (case z280 => kit_is)
      · rw [show Dn.isSub "NoBody" "TooMany" = false from by decide +kernel]
        dsimp only [Dn.fragOf]
        refine' Dn.is_mk KX G ?z281 ?z282 ?z283
        (case z281 => k_is)
        (case z282 => k_is)
        (case z283 => kit_is)
      · rw [show Dn.isSub "NoInstruction" "TooMany" = false from by decide +kernel]
        dsimp only [Dn.fragOf]
        refine' Dn.is_mk KX G ?z284 ?z285 ?z286
        (case z284 => k_is)
        (case z285 => k_is)
        (case z286 => kit_is)
      · rw [show Dn.isSub "NoPlace" "TooMany" = false from by decide +kernel]
        dsimp only [Dn.fragOf]
        refine' Dn.is_mk KX G ?z287 ?z288 ?z289
        (case z287 => k_is)
        (case z288 => k_is)
        (case z289 => kit_is)
      · rw [show Dn.isSub "TooMany" "TooMany" = true from by decide +kernel]
        dsimp only [Dn.fragOf]
        refine' Dn.is_mk KX G ?z290 ?z291 ?z292
        (case z290 => k_is)
        (case z291 => k_is)
        (case z292 => kit_is)
    have b_ValueError : ∀ k ∈ Dn.raisedL, Dn.IsB (Dn.fragOf KX) mg k "ValueError" true := by
      intro k hk; simp only [Dn.raisedL, List.mem_cons, List.not_mem_nil, or_false] at hk
      rcases hk with rfl | rfl | rfl | rfl | rfl
      · dsimp only [Dn.fragOf]
        refine' Dn.isb_mk KX G ?z293 ?z294
        (case z293 => k_is)
        (case z294 => kit_is)
      · dsimp only [Dn.fragOf]
        refine' Dn.isb_mk KX G ?z295 ?z296
        (case z295 => k_is)
        (case z296 => kit_is)
      · dsimp only [Dn.fragOf]
        refine' Dn.isb_mk KX G ?z297 ?z298
        (case z297 => k_is)
        (case z298 => kit_is)
      · dsimp only [Dn.fragOf]
        refine' Dn.isb_mk KX G ?z299 ?z300
        (case z299 => k_is)
        (case z300 => kit_is)
      · dsimp only [Dn.fragOf]
        refine' Dn.isb_mk KX G ?z301 ?z302
        (case z301 => k_is)
        (case z302 => kit_is)
    have h__law_cell : Dn.Has (Dn.fragOf KX) mg "_law_cell" Dn.s__law_cell ["_law_script", "_law_k"] := by
      dsimp only [Dn.fragOf]
      refine' Dn.has_mk KX G ?a22 ?l22 ?c22 ?k22 ?b22
      (case a22 => k_is)
      (case l22 => k_is)
      (case c22 => k_is)
      (case k22 => k_is)
      exact fun _ _ _ _ _ _ us hl => match us, hl with | [_, _], _ => rfl
    have h__law_raw : Dn.Has (Dn.fragOf KX) mg "_law_raw" Dn.s__law_raw ["_law_script", "_law_k"] := by
      dsimp only [Dn.fragOf]
      refine' Dn.has_mk KX G ?a23 ?l23 ?c23 ?k23 ?b23
      (case a23 => k_is)
      (case l23 => k_is)
      (case c23 => k_is)
      (case k23 => k_is)
      exact fun _ _ _ _ _ _ us hl => match us, hl with | [_, _], _ => rfl
    have h__law_row : Dn.Has (Dn.fragOf KX) mg "_law_row" Dn.s__law_row ["_law_script", "_law_k", "_law_words_here", "_law_bodies", "_law_size"] := by
      dsimp only [Dn.fragOf]
      refine' Dn.has_mk KX G ?a25 ?l25 ?c25 ?k25 ?b25
      (case a25 => k_is)
      (case l25 => k_is)
      (case c25 => k_is)
      (case k25 => k_is)
      exact fun _ _ _ _ _ _ us hl => match us, hl with | [_, _, _, _, _], _ => rfl
    have h__law_program : Dn.Has (Dn.fragOf KX) mg "_law_program" Dn.s__law_program ["_law_script", "_law_words_here"] := by
      dsimp only [Dn.fragOf]
      refine' Dn.has_mk KX G ?a27 ?l27 ?c27 ?k27 ?b27
      (case a27 => k_is)
      (case l27 => k_is)
      (case c27 => k_is)
      (case k27 => k_is)
      exact fun _ _ _ _ _ _ us hl => match us, hl with | [_, _], _ => rfl
    have h__law_words : Dn.Has (Dn.fragOf KX) mg "_law_words" Dn.s__law_words [] := by
      dsimp only [Dn.fragOf]
      refine' Dn.has_mk KX G ?a26 ?l26 ?c26 ?k26 ?b26
      (case a26 => k_is)
      (case l26 => k_is)
      (case c26 => k_is)
      (case k26 => k_is)
      exact fun _ _ _ _ _ _ us hl => match us, hl with | [], _ => rfl
    have h__law_wrong : Dn.Has (Dn.fragOf KX) mg "_law_wrong" Dn.s__law_wrong ["_law_row_here", "_law_bodies", "_law_size"] := by
      dsimp only [Dn.fragOf]
      refine' Dn.has_mk KX G ?a30 ?l30 ?c30 ?k30 ?b30
      (case a30 => k_is)
      (case l30 => k_is)
      (case c30 => k_is)
      (case k30 => k_is)
      exact fun _ _ _ _ _ _ us hl => match us, hl with | [_, _, _], _ => rfl
    have h__law_due : Dn.Has (Dn.fragOf KX) mg "_law_due" Dn.s__law_due ["_law_program_here"] := by
      dsimp only [Dn.fragOf]
      refine' Dn.has_mk KX G ?a31 ?l31 ?c31 ?k31 ?b31
      (case a31 => k_is)
      (case l31 => k_is)
      (case c31 => k_is)
      (case k31 => k_is)
      exact fun _ _ _ _ _ _ us hl => match us, hl with | [_], _ => rfl
    have h_is_plain : Dn.Has (Dn.fragOf KX) mg "is_plain" Dn.s_is_plain ["word"] := by
      dsimp only [Dn.fragOf]
      refine' Dn.has_mk KX G ?a16 ?l16 ?c16 ?k16 ?b16
      (case a16 => k_is)
      (case l16 => k_is)
      (case c16 => k_is)
      (case k16 => k_is)
      exact fun _ _ _ _ _ _ us hl => match us, hl with | [_], _ => rfl
    have h_is_between : Dn.Has (Dn.fragOf KX) mg "is_between" Dn.s_is_between ["thing", "least", "most"] := by
      dsimp only [Dn.fragOf]
      refine' Dn.has_mk KX G ?a15 ?l15 ?c15 ?k15 ?b15
      (case a15 => k_is)
      (case l15 => k_is)
      (case c15 => k_is)
      (case k15 => k_is)
      exact fun _ _ _ _ _ _ us hl => match us, hl with | [_, _, _], _ => rfl
    have h_are_kept : Dn.Has (Dn.fragOf KX) mg "are_kept" Dn.s_are_kept ["thing"] := by
      dsimp only [Dn.fragOf]
      refine' Dn.has_mk KX G ?a17 ?l17 ?c17 ?k17 ?b17
      (case a17 => k_is)
      (case l17 => k_is)
      (case c17 => k_is)
      (case k17 => k_is)
      exact fun _ _ _ _ _ _ us hl => match us, hl with | [_], _ => rfl
    have h_is_formed : Dn.Has (Dn.fragOf KX) mg "is_formed" Dn.s_is_formed ["row"] := by
      dsimp only [Dn.fragOf]
      refine' Dn.has_mk KX G ?a18 ?l18 ?c18 ?k18 ?b18
      (case a18 => k_is)
      (case l18 => k_is)
      (case c18 => k_is)
      (case k18 => k_is)
      exact fun _ _ _ _ _ _ us hl => match us, hl with | [_], _ => rfl
    have h_look_at : Dn.Has (Dn.fragOf KX) mg "look_at" Dn.s_look_at ["row", "bodies", "size"] := by
      dsimp only [Dn.fragOf]
      refine' Dn.has_mk KX G ?a19 ?l19 ?c19 ?k19 ?b19
      (case a19 => k_is)
      (case l19 => k_is)
      (case c19 => k_is)
      (case k19 => k_is)
      exact fun _ _ _ _ _ _ us hl => match us, hl with | [_, _, _], _ => rfl
    have h_checked : Dn.Has (Dn.fragOf KX) mg "checked" Dn.s_checked ["program"] := by
      dsimp only [Dn.fragOf]
      refine' Dn.has_mk KX G ?a20 ?l20 ?c20 ?k20 ?b20
      (case a20 => k_is)
      (case l20 => k_is)
      (case c20 => k_is)
      (case k20 => k_is)
      exact fun _ _ _ _ _ _ us hl => match us, hl with | [_], _ => rfl
    have h__law_kind : Dn.Has (Dn.fragOf KX) mg "_law_kind" Dn.s__law_kind ["_law_e"] := by
      dsimp only [Dn.fragOf]
      refine' Dn.has_mk KX G ?a32 ?l32 ?c32 ?k32 ?b32
      (case a32 => k_is)
      (case l32 => k_is)
      (case c32 => k_is)
      (case k32 => k_is)
      exact fun _ _ _ _ _ _ us hl => match us, hl with | [_], _ => rfl
    have h__law_found : Dn.Has (Dn.fragOf KX) mg "_law_found" Dn.s__law_found ["_law_program_here"] := by
      dsimp only [Dn.fragOf]
      refine' Dn.has_mk KX G ?a33 ?l33 ?c33 ?k33 ?b33
      (case a33 => k_is)
      (case l33 => k_is)
      (case c33 => k_is)
      (case k33 => k_is)
      exact fun _ _ _ _ _ _ us hl => match us, hl with | [_], _ => rfl
    have h__law_whole : Dn.Has (Dn.fragOf KX) mg "_law_whole" Dn.s__law_whole ["_law_found_here"] := by
      dsimp only [Dn.fragOf]
      refine' Dn.has_mk KX G ?a24 ?l24 ?c24 ?k24 ?b24
      (case a24 => k_is)
      (case l24 => k_is)
      (case c24 => k_is)
      (case k24 => k_is)
      exact fun _ _ _ _ _ _ us hl => match us, hl with | [_], _ => rfl
    have h__law_alike : Dn.Has (Dn.fragOf KX) mg "_law_alike" Dn.s__law_alike ["_law_found_here", "_law_due_here"] := by
      dsimp only [Dn.fragOf]
      refine' Dn.has_mk KX G ?a28 ?l28 ?c28 ?k28 ?b28
      (case a28 => k_is)
      (case l28 => k_is)
      (case c28 => k_is)
      (case k28 => k_is)
      exact fun _ _ _ _ _ _ us hl => match us, hl with | [_, _], _ => rfl
    have h__law_odd : Dn.Has (Dn.fragOf KX) mg "_law_odd" Dn.s__law_odd ["_law_cell_here", "_law_bodies", "_law_size"] := by
      dsimp only [Dn.fragOf]
      refine' Dn.has_mk KX G ?a29 ?l29 ?c29 ?k29 ?b29
      (case a29 => k_is)
      (case l29 => k_is)
      (case c29 => k_is)
      (case k29 => k_is)
      exact fun _ _ _ _ _ _ us hl => match us, hl with | [_, _, _], _ => rfl
    refine' Dn.law_mk KX G hmg ?a ?l ?c ?k ?b fun base fd Fn => Dn.fnok_law ⟨n_ValueError, n_abs, n_all, n_bool, n_int, n_isinstance, n_len, n_list, n_max, n_range, n_str, n_tuple, g_MOST_BODIES, g_MOST_KEPT, g_MOST_NUMBER, g_MOST_ROWS, r_NoBodies, r_NoBody, r_NoInstruction, r_NoPlace, r_TooMany, c_cat, c_hasS, c_cls, k_NoBodies, k_NoBody, k_NoFit, k_NoInstruction, k_NoPlace, k_NoStep, k_NoWords, k_TooMany, i_NoBodies, i_NoBody, i_NoFit, i_NoInstruction, i_NoPlace, i_NoStep, i_NoWords, i_TooMany, b_ValueError, h__law_cell, h__law_raw, h__law_row, h__law_program, h__law_words, h__law_wrong, h__law_due, h_is_plain, h_is_between, h_are_kept, h_is_formed, h_look_at, h_checked, h__law_kind, h__law_found, h__law_whole, h__law_alike, h__law_odd⟩ Fn
    (case a => k_is)
    (case l => k_is)
    (case c => k_is)
    (case k => k_is)
    (case b => exact fun s v => .of_eq rfl)
