import PyProof.Rows.All
import Wide.All
import OpenK.AllK
import Wide.FinOn
import HandS.ForMost
import HandS.Exc
import KE.DataCmp
import HandS.WideBits
import HandS.Style
import PyProof.StrOps2
import PyProof.ReprReads
import HandS.IsInst
import KE.DataAny
import PyProof.Rows.CallKwBuiltin
import KE.DataMinMax
import HandS.NoneIn
import HandS.Iter
import KE.KStateDown
import HandS.ExcOwn
import HandS.ExcInit
import HandS.TryOnly
import HandS.Text
import PyProof.FactsAll.list_0
import PyProof.FactsAll.list_3
import HandS.ExcField
import HandS.ExcIs
import HandS.Words
import HandS.Ends
import HandS.Defaults
import HandS.Codes
import PySem.Challenge.RW_asforetold_k42_cut_on_schedule
set_option Elab.async false
set_option linter.all false
set_option maxRecDepth 100000
set_option maxHeartbeats 1000000
/-! Fx 1: the values of the small language, its store, and how they lie in the abstract heap of the hand layer. -/
namespace Fx
open PySem PySem.Spec PyProof.Rows L2

/-- a value: tuples and finished lists are trees; a mutable object is a number -/
inductive D where
  | non | bl (b : Bool) | int (i : Int) | str (x : Str) | tup (ds : List D) | lst (ds : List D) | obj (n : Nat)
  deriving Inhabited
/-- a mutable object -/
inductive O where
  | lst (ds : List D) | ins (c : Nat) (fs : List (Str × D)) | dic (kvs : List (D × D)) | set (ds : List D)
  deriving Inhabited
abbrev Sto := List O

mutual
/-- the value as the library's datum (an object has none: .none) -/
def D.py : D → PyData
  | .non => .none
  | .bl b => .bool b
  | .int i => .int i
  | .str x => .str x
  | .tup ds => .tuple (D.pyAll ds)
  | .lst ds => .list (D.pyAll ds)
  | .obj _ => .none
def D.pyAll : List D → List PyData
  | [] => []
  | d :: ds => d.py :: D.pyAll ds
end
mutual
/-- no object in it -/
def D.flat : D → Bool
  | .tup ds => D.flatAll ds
  | .lst ds => D.flatAll ds
  | .obj _ => false
  | .non | .bl _ | .int _ | .str _ => true
def D.flatAll : List D → Bool
  | [] => true
  | d :: ds => d.flat && D.flatAll ds
end
mutual
/-- its objects' numbers are below n -/
def D.lim (n : Nat) : D → Bool
  | .tup ds => D.limAll n ds
  | .lst ds => D.limAll n ds
  | .obj k => decide (k < n)
  | .non | .bl _ | .int _ | .str _ => true
def D.limAll (n : Nat) : List D → Bool
  | [] => true
  | d :: ds => d.lim n && D.limAll n ds
end

theorem D.pyAll_map : ∀ ds : List D, D.pyAll ds = ds.map D.py
  | [] => rfl
  | d :: ds => by rw [D.pyAll, List.map_cons, D.pyAll_map ds]
theorem D.flatAll_iff : ∀ ds : List D, D.flatAll ds = true ↔ ∀ d ∈ ds, d.flat = true
  | [] => by simp [D.flatAll]
  | d :: ds => by rw [D.flatAll, Bool.and_eq_true, D.flatAll_iff ds]; simp
theorem D.limAll_iff (n : Nat) : ∀ ds : List D, D.limAll n ds = true ↔ ∀ d ∈ ds, d.lim n = true
  | [] => by simp [D.limAll]
  | d :: ds => by rw [D.limAll, Bool.and_eq_true, D.limAll_iff n ds]; simp

/-! ### the relation -/
section
variable (K : PySem.W.Frag) (P : Addr → Prop) (m : List Addr) (H : Hp)
/-- an address whose object may change: one of the store's, or one that is none of ours -/
def Bad (a : Addr) : Prop := a ∈ m ∨ P a
def TupAt (a : Addr) (vs : List V) : Prop :=
  (Rd H a (.tup vs) ∧ ¬ Bad P m a) ∨
    ∃ (o : Obj) (its : Array Value) (n : Nat), K.lookup a = some o ∧ o.cls = .type "tuple" ∧ o.data = .seq its n ∧ its.size ≤ sizeLine ∧ Vals vs its.toList
def LstAt (a : Addr) (vs : List V) : Prop :=
  (Rd H a (.lst vs) ∧ ¬ Bad P m a) ∨
    ∃ (o : Obj) (its : Array Value) (n : Nat), K.lookup a = some o ∧ o.cls = .type "list" ∧ o.dict = none ∧ o.data = .seq its n ∧ its.size ≤ sizeLine ∧ Vals vs its.toList
mutual
def Rel : D → V → Prop
  | .non, v => v = .non
  | .bl b, v => v = .bl b
  | .int i, v => v = .int i
  | .str x, v => v = .str x
  | .tup ds, v => ∃ a vs, v = .ref a ∧ TupAt K P m H a vs ∧ RelL ds vs
  | .lst ds, v => ∃ a vs, v = .ref a ∧ LstAt K P m H a vs ∧ RelL ds vs
  | .obj n, v => ∃ a, v = .ref a ∧ m[n]? = some a
def RelL : List D → List V → Prop
  | [], vs => vs = []
  | d :: ds, vs => ∃ w ws, vs = w :: ws ∧ Rel d w ∧ RelL ds ws
end
end

section
variable {K : PySem.W.Frag} {P P' : Addr → Prop} {m m' : List Addr} {H H' : Hp}
theorem TupAt.sq {a : Addr} {vs : List V} (h : TupAt K P m H a vs) : SqT K H a vs := h.imp And.left id
theorem LstAt.sq {a : Addr} {vs : List V} (h : LstAt K P m H a vs) : SqL K H a vs := h.imp And.left id

theorem relL_length : ∀ {ds : List D} {vs : List V}, RelL K P m H ds vs → ds.length = vs.length
  | [], _, h => by cases h; rfl
  | d :: ds, _, h => by
    obtain ⟨w, ws, rfl, _, h2⟩ := h
    simp [relL_length h2]
theorem relL_get : ∀ {ds : List D} {vs : List V} {i : Nat} {d : D}, RelL K P m H ds vs → ds[i]? = some d → ∃ v, vs[i]? = some v ∧ Rel K P m H d v
  | [], _, _, _, _, e => by simp at e
  | d :: ds, _, 0, x, h, e => by
    obtain ⟨w, ws, rfl, h1, _⟩ := h
    simp at e; subst e
    exact ⟨w, rfl, h1⟩
  | d :: ds, _, i + 1, x, h, e => by
    obtain ⟨w, ws, rfl, _, h2⟩ := h
    obtain ⟨v, e1, r⟩ := relL_get h2 (by simpa using e)
    exact ⟨v, by simpa using e1, r⟩
theorem relL_get' : ∀ {ds : List D} {vs : List V} {i : Nat} {v : V}, RelL K P m H ds vs → vs[i]? = some v → ∃ d, ds[i]? = some d ∧ Rel K P m H d v
  | [], _, _, _, h, e => by cases h; simp at e
  | d :: ds, _, 0, x, h, e => by
    obtain ⟨w, ws, rfl, h1, _⟩ := h
    simp at e; subst e
    exact ⟨d, rfl, h1⟩
  | d :: ds, _, i + 1, x, h, e => by
    obtain ⟨w, ws, rfl, _, h2⟩ := h
    obtain ⟨v, e1, r⟩ := relL_get' h2 (by simpa using e)
    exact ⟨v, by simpa using e1, r⟩
theorem relL_append : ∀ {ds es : List D} {vs ws : List V}, RelL K P m H ds vs → RelL K P m H es ws → RelL K P m H (ds ++ es) (vs ++ ws)
  | [], _, _, _, h, g => by cases h; exact g
  | d :: ds, es, _, ws, h, g => by
    obtain ⟨w, ws', rfl, h1, h2⟩ := h
    exact ⟨w, ws' ++ ws, rfl, h1, relL_append h2 g⟩
theorem relL_one {d : D} {v : V} (h : Rel K P m H d v) : RelL K P m H [d] [v] := ⟨v, [], rfl, h, rfl⟩
theorem relL_take : ∀ {ds : List D} {vs : List V} (n : Nat), RelL K P m H ds vs → RelL K P m H (ds.take n) (vs.take n)
  | _, _, 0, _ => by simp [RelL]
  | [], _, n + 1, h => by cases h; simp [RelL]
  | d :: ds, _, n + 1, h => by
    obtain ⟨w, ws, rfl, h1, h2⟩ := h
    exact ⟨w, ws.take n, rfl, h1, relL_take n h2⟩
theorem relL_drop : ∀ {ds : List D} {vs : List V} (n : Nat), RelL K P m H ds vs → RelL K P m H (ds.drop n) (vs.drop n)
  | _, _, 0, h => by simpa using h
  | [], _, n + 1, h => by cases h; simp [RelL]
  | d :: ds, _, n + 1, h => by
    obtain ⟨w, ws, rfl, h1, h2⟩ := h
    exact relL_drop n h2
theorem relL_set : ∀ {ds : List D} {vs : List V} {d : D} {v : V} (n : Nat), RelL K P m H ds vs → Rel K P m H d v → RelL K P m H (ds.set n d) (vs.set n v)
  | [], _, _, _, n, h, _ => by cases h; simp [RelL]
  | d :: ds, _, e, v, 0, h, r => by
    obtain ⟨w, ws, rfl, h1, h2⟩ := h
    exact ⟨v, ws, rfl, r, h2⟩
  | d :: ds, _, e, v, n + 1, h, r => by
    obtain ⟨w, ws, rfl, h1, h2⟩ := h
    exact ⟨w, ws.set n v, rfl, h1, relL_set n h2 r⟩
theorem relL_cons_inv {d : D} {ds : List D} {w : V} {ws : List V} (h : RelL K P m H (d :: ds) (w :: ws)) : Rel K P m H d w ∧ RelL K P m H ds ws := by
  obtain ⟨w', ws', e, h1, h2⟩ := h
  cases e
  exact ⟨h1, h2⟩
theorem relL_ints : ∀ {is : List Int} {vs : List V}, RelL K P m H (is.map D.int) vs → vs = is.map V.int
  | [], _, h => h
  | i :: is, _, h => by
    obtain ⟨w, ws, rfl, h1, h2⟩ := h
    have h1' : w = V.int i := h1
    rw [h1', relL_ints h2]; rfl
theorem relL_of_ints : ∀ (is : List Int), RelL K P m H (is.map D.int) (is.map V.int)
  | [] => rfl
  | i :: is => ⟨_, _, rfl, rfl, relL_of_ints is⟩
theorem relL_strs : ∀ {is : List Str} {vs : List V}, RelL K P m H (is.map D.str) vs → vs = is.map V.str
  | [], _, h => h
  | i :: is, _, h => by
    obtain ⟨w, ws, rfl, h1, h2⟩ := h
    have h1' : w = V.str i := h1
    rw [h1', relL_strs h2]; rfl
theorem relL_of_strs : ∀ (is : List Str), RelL K P m H (is.map D.str) (is.map V.str)
  | [] => rfl
  | i :: is => ⟨_, _, rfl, rfl, relL_of_strs is⟩
theorem relL_bls : ∀ {is : List Bool} {vs : List V}, RelL K P m H (is.map D.bl) vs → vs = is.map V.bl
  | [], _, h => h
  | i :: is, _, h => by
    obtain ⟨w, ws, rfl, h1, h2⟩ := h
    have h1' : w = V.bl i := h1
    rw [h1', relL_bls h2]; rfl

/-! ### steps of the heap -/
/-- all that is not the store's stands -/
def Ext (m : List Addr) (H H' : Hp) : Prop := ∀ a o, H a = some o → a ∉ m → H' a = some o
theorem Ext.refl (m : List Addr) (H : Hp) : Ext m H H := fun _ _ h _ => h
/-- from (m, H) to (m', H'): the store's objects are more, the new ones are new -/
structure Step (m : List Addr) (H : Hp) (m' : List Addr) (H' : Hp) : Prop where
  pre : ∃ t, m' = m ++ t
  new : ∀ a ∈ m', a ∈ m ∨ H a = none
  ext : Ext m H H'
theorem Step.refl (m : List Addr) (H : Hp) : Step m H m H := ⟨⟨[], by simp⟩, fun _ h => .inl h, Ext.refl m H⟩
theorem Step.free {a : Addr} (s : Step m H m' H') (h : H' a = none) (n : a ∉ m) : H a = none := by
  cases e : H a with
  | none => rfl
  | some o => rw [s.ext a o e n] at h; cases h
theorem Step.trans {m2 : List Addr} {H2 : Hp} (s : Step m H m' H') (t : Step m' H' m2 H2) : Step m H m2 H2 := by
  obtain ⟨⟨t1, e1⟩, n1, x1⟩ := s
  obtain ⟨⟨t2, e2⟩, n2, x2⟩ := t
  have notin : ∀ {a o}, H a = some o → a ∉ m → a ∉ m' := fun {a o} h hn hm => by
    rcases n1 a hm with h1 | h1
    · exact hn h1
    · rw [h] at h1; cases h1
  refine ⟨⟨t1 ++ t2, by rw [e2, e1, List.append_assoc]⟩, fun a ha => ?_, fun a o h hn => x2 a o (x1 a o h hn) (notin h hn)⟩
  by_cases hm : a ∈ m
  · exact .inl hm
  · refine .inr ?_
    rcases n2 a ha with h2 | h2
    · rcases n1 a h2 with h3 | h3
      · exact absurd h3 hm
      · exact h3
    · cases e : H a with
      | none => rfl
      | some o => rw [x1 a o e hm] at h2; cases h2
/-- a new thing is laid at p -/
theorem Step.laid {p : Addr} {o : HO} (h : H p = none) : Step m H m (upd H p o) :=
  ⟨⟨[], by simp⟩, fun _ h => .inl h, fun a u e _ => by rw [upd_ne (ne_of_none e h)]; exact e⟩
theorem Step.rd {a : Addr} {u : HO} (s : Step m H m' H') (h : Rd H a u) (n : a ∉ m) : Rd H' a u := by
  rcases h with h | ⟨o, h⟩
  · exact .inl (s.ext _ _ h n)
  · exact .inr ⟨o, s.ext _ _ h n⟩
theorem Rd.some {a : Addr} {u : HO} (h : Rd H a u) : ∃ o, H a = some o := by
  rcases h with h | ⟨o, h⟩
  · exact ⟨_, h⟩
  · exact ⟨_, h⟩
theorem Step.bad {a : Addr} {u : HO} (s : Step m H m' H') (h : Rd H a u) (n : ¬ Bad P m a) : ¬ Bad P m' a := fun hb => by
  rcases hb with hb | hb
  · rcases s.new a hb with h1 | h1
    · exact n (.inl h1)
    · obtain ⟨o, e⟩ := Rd.some h
      rw [e] at h1; cases h1
  · exact n (.inr hb)
theorem TupAt.step {a : Addr} {vs : List V} (s : Step m H m' H') (h : TupAt K P m H a vs) : TupAt K P m' H' a vs := by
  rcases h with ⟨h, n⟩ | h
  · exact .inl ⟨s.rd h fun z => n (.inl z), s.bad h n⟩
  · exact .inr h
theorem LstAt.step {a : Addr} {vs : List V} (s : Step m H m' H') (h : LstAt K P m H a vs) : LstAt K P m' H' a vs := by
  rcases h with ⟨h, n⟩ | h
  · exact .inl ⟨s.rd h fun z => n (.inl z), s.bad h n⟩
  · exact .inr h
mutual
theorem Rel.step (s : Step m H m' H') : ∀ (d : D) {v : V}, Rel K P m H d v → Rel K P m' H' d v
  | .non, _, h => h
  | .bl _, _, h => h
  | .int _, _, h => h
  | .str _, _, h => h
  | .tup ds, _, h => by
    obtain ⟨a, vs, e, ht, hl⟩ := h
    exact ⟨a, vs, e, ht.step s, RelL.step s ds hl⟩
  | .lst ds, _, h => by
    obtain ⟨a, vs, e, ht, hl⟩ := h
    exact ⟨a, vs, e, ht.step s, RelL.step s ds hl⟩
  | .obj n, _, h => by
    obtain ⟨a, e, hm⟩ := h
    obtain ⟨⟨t, e1⟩, _, _⟩ := s
    refine ⟨a, e, ?_⟩
    rw [e1, List.getElem?_append_left (List.getElem?_eq_some_iff.mp hm).1]
    exact hm
theorem RelL.step (s : Step m H m' H') : ∀ (ds : List D) {vs : List V}, RelL K P m H ds vs → RelL K P m' H' ds vs
  | [], _, h => h
  | d :: ds, _, h => by
    obtain ⟨w, ws, e, h1, h2⟩ := h
    exact ⟨w, ws, e, Rel.step s d h1, RelL.step s ds h2⟩
end
/-- fewer bad addresses -/
theorem TupAt.weak {a : Addr} {vs : List V} (b : ∀ a, Bad P' m' a → Bad P m a) (h : TupAt K P m H a vs) : TupAt K P' m' H a vs := by
  rcases h with ⟨h, n⟩ | h
  · exact .inl ⟨h, fun z => n (b a z)⟩
  · exact .inr h
theorem LstAt.weak {a : Addr} {vs : List V} (b : ∀ a, Bad P' m' a → Bad P m a) (h : LstAt K P m H a vs) : LstAt K P' m' H a vs := by
  rcases h with ⟨h, n⟩ | h
  · exact .inl ⟨h, fun z => n (b a z)⟩
  · exact .inr h
mutual
theorem Rel.weak (b : ∀ a, Bad P' m' a → Bad P m a) (n : Nat) (hn : ∀ i, i < n → m'[i]? = m[i]?) : ∀ (d : D) {v : V}, d.lim n = true → Rel K P m H d v → Rel K P' m' H d v
  | .non, _, _, h => h
  | .bl _, _, _, h => h
  | .int _, _, _, h => h
  | .str _, _, _, h => h
  | .tup ds, _, hb, h => by
    obtain ⟨a, vs, e, ht, hl⟩ := h
    exact ⟨a, vs, e, ht.weak b, RelL.weak b n hn ds (by simpa [D.lim] using hb) hl⟩
  | .lst ds, _, hb, h => by
    obtain ⟨a, vs, e, ht, hl⟩ := h
    exact ⟨a, vs, e, ht.weak b, RelL.weak b n hn ds (by simpa [D.lim] using hb) hl⟩
  | .obj k, _, hb, h => by
    obtain ⟨a, e, hm⟩ := h
    exact ⟨a, e, by rw [hn k (by simpa [D.lim] using hb)]; exact hm⟩
theorem RelL.weak (b : ∀ a, Bad P' m' a → Bad P m a) (n : Nat) (hn : ∀ i, i < n → m'[i]? = m[i]?) : ∀ (ds : List D) {vs : List V}, D.limAll n ds = true → RelL K P m H ds vs → RelL K P' m' H ds vs
  | [], _, _, h => h
  | d :: ds, _, hb, h => by
    obtain ⟨w, ws, e, h1, h2⟩ := h
    have hb' : d.lim n = true ∧ D.limAll n ds = true := by simpa [D.limAll] using hb
    exact ⟨w, ws, e, Rel.weak b n hn d hb'.1 h1, RelL.weak b n hn ds hb'.2 h2⟩
end
mutual
theorem Rel.lim : ∀ (d : D) {v : V}, Rel K P m H d v → d.lim m.length = true
  | .non, _, _ => rfl
  | .bl _, _, _ => rfl
  | .int _, _, _ => rfl
  | .str _, _, _ => rfl
  | .tup ds, _, h => by
    obtain ⟨a, vs, e, ht, hl⟩ := h
    simpa [D.lim] using RelL.lim ds hl
  | .lst ds, _, h => by
    obtain ⟨a, vs, e, ht, hl⟩ := h
    simpa [D.lim] using RelL.lim ds hl
  | .obj k, _, h => by
    obtain ⟨a, e, hm⟩ := h
    simpa [D.lim] using (List.getElem?_eq_some_iff.mp hm).1
theorem RelL.lim : ∀ (ds : List D) {vs : List V}, RelL K P m H ds vs → D.limAll m.length ds = true
  | [], _, _ => rfl
  | d :: ds, _, h => by
    obtain ⟨w, ws, e, h1, h2⟩ := h
    simp [D.limAll, Rel.lim d h1, RelL.lim ds h2]
end
/-- fewer bad addresses, the same store -/
theorem Rel.fewer (b : ∀ a, P' a → P a) {d : D} {v : V} (h : Rel K P m H d v) : Rel K P' m H d v :=
  Rel.weak (fun a z => z.imp id (b a)) m.length (fun _ _ => rfl) d (Rel.lim d h) h
theorem RelL.fewer (b : ∀ a, P' a → P a) {ds : List D} {vs : List V} (h : RelL K P m H ds vs) : RelL K P' m H ds vs :=
  RelL.weak (fun a z => z.imp id (b a)) m.length (fun _ _ => rfl) ds (RelL.lim ds h) h
mutual
theorem D.flat_lim (n : Nat) : ∀ d : D, d.flat = true → d.lim n = true
  | .non, _ => rfl
  | .bl _, _ => rfl
  | .int _, _ => rfl
  | .str _, _ => rfl
  | .tup ds, h => by simpa [D.lim] using D.flatAll_lim n ds (by simpa [D.flat] using h)
  | .lst ds, h => by simpa [D.lim] using D.flatAll_lim n ds (by simpa [D.flat] using h)
  | .obj _, h => by simp [D.flat] at h
theorem D.flatAll_lim (n : Nat) : ∀ ds : List D, D.flatAll ds = true → D.limAll n ds = true
  | [], _ => rfl
  | d :: ds, h => by
    have h' : d.flat = true ∧ D.flatAll ds = true := by simpa [D.flatAll] using h
    simp [D.limAll, D.flat_lim n d h'.1, D.flatAll_lim n ds h'.2]
end

/-! ### as the library's data -/
mutual
theorem Rel.dp : ∀ (d : D) {v : V}, d.flat = true → Rel K P m H d v → Dp K H v d.py
  | .non, _, _, h => by cases h; rw [D.py]; exact .non
  | .bl b, _, _, h => by cases h; rw [D.py]; exact .bl b
  | .int i, _, _, h => by cases h; rw [D.py]; exact .int i
  | .str x, _, _, h => by cases h; rw [D.py]; exact .str x
  | .tup ds, _, hf, h => by
    obtain ⟨a, vs, rfl, ht, hl⟩ := h
    rw [D.py]
    exact .tup ht.sq (RelL.dp ds (by simpa [D.flat] using hf) hl)
  | .lst ds, _, hf, h => by
    obtain ⟨a, vs, rfl, ht, hl⟩ := h
    rw [D.py]
    exact .lst ht.sq (RelL.dp ds (by simpa [D.flat] using hf) hl)
  | .obj n, _, hf, _ => by simp [D.flat] at hf
theorem RelL.dp : ∀ (ds : List D) {vs : List V}, D.flatAll ds = true → RelL K P m H ds vs → DpAll K H vs (D.pyAll ds)
  | [], _, _, h => by cases h; rw [D.pyAll]; exact .nil
  | d :: ds, _, hf, h => by
    obtain ⟨w, ws, rfl, h1, h2⟩ := h
    have hf' : d.flat = true ∧ D.flatAll ds = true := by simpa [D.flatAll] using hf
    rw [D.pyAll]
    exact .cons (Rel.dp d hf'.1 h1) (RelL.dp ds hf'.2 h2)
end
end

/-! ### the store in the heap -/
section
variable (K : PySem.W.Frag) (cls : Nat → Option Addr) (P : Addr → Prop) (m : List Addr) (H : Hp)
def ObjR : O → Addr → Prop
  | .lst ds, a => ∃ vs, H a = some (.lst vs) ∧ RelL K P m H ds vs
  | .ins c fs, a => ∃ C dx fvs, cls c = some C ∧ H a = some (.ins C dx fvs) ∧ fvs.map (·.1) = fs.map (·.1) ∧ RelL K P m H (fs.map (·.2)) (fvs.map (·.2))
  | .dic _, _ => False
  | .set _, _ => False
structure StR (st : Sto) : Prop where
  len : m.length = st.length
  nd : m.Nodup
  out : ∀ a ∈ m, ¬ P a
  ob : ∀ (n : Nat) (o : O), st[n]? = some o → ∃ a : Addr, m[n]? = some a ∧ ObjR K cls P m H o a
end
section
variable {K : PySem.W.Frag} {cls : Nat → Option Addr} {P P' : Addr → Prop} {m m' : List Addr} {H H' : Hp} {st st' : Sto}
theorem ObjR.some {o : O} {a : Addr} (h : ObjR K cls P m H o a) : ∃ u, H a = some u := by
  cases o with
  | lst ds => obtain ⟨vs, e, _⟩ := h; exact ⟨_, e⟩
  | ins c fs => obtain ⟨C, dx, fvs, _, e, _⟩ := h; exact ⟨_, e⟩
  | dic _ => exact h.elim
  | set _ => exact h.elim
theorem StR.there (h : StR K cls P m H st) {a : Addr} (ha : a ∈ m) : ∃ u, H a = some u := by
  obtain ⟨n, hn, e⟩ := List.getElem_of_mem ha
  have hn' : n < st.length := by rw [← h.len]; exact hn
  obtain ⟨b, e1, r⟩ := h.ob n st[n] (List.getElem?_eq_getElem hn')
  rw [List.getElem?_eq_getElem hn, e] at e1
  cases e1
  exact r.some
/-- what stands where nothing else is of the store -/
theorem StR.fresh (h : StR K cls P m H st) {p : Addr} (hp : H p = none) : p ∉ m := fun z => by
  obtain ⟨u, e⟩ := h.there z
  rw [e] at hp; cases hp
/-- a new thing that is none of the store's -/
theorem StR.step_same (h : StR K cls P m H st) (s : Step m H m H') (k : ∀ a ∈ m, H' a = H a) : StR K cls P m H' st :=
  ⟨h.len, h.nd, h.out, fun n o e => by
    obtain ⟨a, e1, r⟩ := h.ob n o e
    refine ⟨a, e1, ?_⟩
    have ha : a ∈ m := List.mem_of_getElem? e1
    cases o with
    | lst ds => obtain ⟨vs, e2, r2⟩ := r; exact ⟨vs, by rw [k a ha]; exact e2, RelL.step s ds r2⟩
    | ins c fs => obtain ⟨C, dx, fvs, q, e2, e3, r2⟩ := r; exact ⟨C, dx, fvs, q, by rw [k a ha]; exact e2, e3, RelL.step s _ r2⟩
    | dic _ => exact r.elim
    | set _ => exact r.elim⟩
theorem StR.laid (h : StR K cls P m H st) {p : Addr} {o : HO} (hp : H p = none) : StR K cls P m (upd H p o) st :=
  h.step_same (Step.laid hp) fun a ha => by
    obtain ⟨u, e⟩ := h.there ha
    rw [upd_ne (ne_of_none e hp)]
theorem ObjR.step {o : O} {a : Addr} (s : Step m H m' H') (k : H' a = H a) (r : ObjR K cls P m H o a) : ObjR K cls P m' H' o a := by
  cases o with
  | lst ds => obtain ⟨vs, e2, r2⟩ := r; exact ⟨vs, by rw [k]; exact e2, RelL.step s ds r2⟩
  | ins c fs => obtain ⟨C, dx, fvs, q, e2, e3, r2⟩ := r; exact ⟨C, dx, fvs, q, by rw [k]; exact e2, e3, RelL.step s _ r2⟩
  | dic _ => exact r.elim
  | set _ => exact r.elim
/-- a new object of the store -/
theorem StR.alloc (h : StR K cls P m H st) {p : Addr} {u : HO} {o : O} (hp : H p = none) (hP : ¬ P p) (ho : ObjR K cls P (m ++ [p]) (upd H p u) o p) :
    StR K cls P (m ++ [p]) (upd H p u) (st ++ [o]) ∧ Step m H (m ++ [p]) (upd H p u) := by
  have np := h.fresh hp
  have s : Step m H (m ++ [p]) (upd H p u) := ⟨⟨[p], rfl⟩, fun a ha => by
    rcases List.mem_append.mp ha with z | z
    · exact .inl z
    · simp at z; subst z; exact .inr hp, fun a o e _ => by rw [upd_ne (ne_of_none e hp)]; exact e⟩
  refine ⟨⟨by simp [h.len], ?_, fun a ha => ?_, fun n o' e => ?_⟩, s⟩
  · exact List.nodup_append.mpr ⟨h.nd, by simp, fun a ha b hb => by simp at hb; subst hb; exact fun z => np (z ▸ ha)⟩
  · rcases List.mem_append.mp ha with z | z
    · exact h.out a z
    · simp at z; subst z; exact hP
  · by_cases hn : n < st.length
    · rw [List.getElem?_append_left hn] at e
      obtain ⟨a, e1, r⟩ := h.ob n o' e
      refine ⟨a, by rw [List.getElem?_append_left (by rw [h.len]; exact hn)]; exact e1, ?_⟩
      obtain ⟨w, ew⟩ := r.some
      exact r.step s (upd_ne (ne_of_none ew hp))
    · have e' := e
      rw [List.getElem?_append_right (Nat.le_of_not_lt hn)] at e'
      have hn2 : n - st.length = 0 := by
        have := (List.getElem?_eq_some_iff.mp e').1
        simp at this; omega
      rw [hn2] at e'
      simp at e'; subst e'
      refine ⟨p, ?_, ho⟩
      rw [List.getElem?_append_right (by rw [h.len]; omega), h.len, hn2]
      rfl
/-- an object of the store is changed -/
theorem StR.write (h : StR K cls P m H st) {n : Nat} {a : Addr} {u : HO} {o : O} (hn : m[n]? = some a) (ho : ObjR K cls P m (upd H a u) o a) :
    StR K cls P m (upd H a u) (st.set n o) ∧ Step m H m (upd H a u) := by
  have ha : a ∈ m := List.mem_of_getElem? hn
  have s : Step m H m (upd H a u) := ⟨⟨[], by simp⟩, fun _ z => .inl z, fun b o e hb => by rw [upd_ne (show b ≠ a from fun z => hb (by rw [z]; exact ha))]; exact e⟩
  refine ⟨⟨by simp [h.len], h.nd, h.out, fun k o' e => ?_⟩, s⟩
  by_cases hk : k = n
  · subst hk
    have hlt : k < st.length := by rw [← h.len]; exact (List.getElem?_eq_some_iff.mp hn).1
    rw [List.getElem?_set_self hlt] at e
    cases e
    exact ⟨a, hn, ho⟩
  · rw [List.getElem?_set_ne (Ne.symm hk)] at e
    obtain ⟨b, e1, r⟩ := h.ob k o' e
    have hb : b ≠ a := fun z => by
      subst z
      obtain ⟨h1, e1'⟩ := List.getElem?_eq_some_iff.mp e1
      obtain ⟨h2, e2'⟩ := List.getElem?_eq_some_iff.mp hn
      exact hk ((List.getElem_inj h.nd).mp (e1'.trans e2'.symm))
    exact ⟨b, e1, r.step s (upd_ne hb)⟩
theorem StR.fewer (h : StR K cls P m H st) (b : ∀ a, P' a → P a) : StR K cls P' m H st :=
  ⟨h.len, h.nd, fun a ha z => h.out a ha (b a z), fun n o e => by
    obtain ⟨a, e1, r⟩ := h.ob n o e
    refine ⟨a, e1, ?_⟩
    cases o with
    | lst ds => obtain ⟨vs, e2, r2⟩ := r; exact ⟨vs, e2, r2.fewer b⟩
    | ins c fs => obtain ⟨C, dx, fvs, q, e2, e3, r2⟩ := r; exact ⟨C, dx, fvs, q, e2, e3, r2.fewer b⟩
    | dic _ => exact r.elim
    | set _ => exact r.elim⟩
end
end Fx

set_option Elab.async false
set_option linter.all false
set_option maxRecDepth 100000
set_option maxHeartbeats 1000000
/-! Fx 2: the small language and what it means. -/
namespace Fx
open PySem PySem.Spec PyProof.Rows L2

/-! ### the language -/
/-- built-in functions of one value, of two -/
inductive B1 where
  | len | int | str | repr | sum | max | min | any | all | tuple | ord
  deriving DecidableEq
inductive B2 where
  | max | min | maxD | minD
  deriving DecidableEq
/-- methods of texts, by two texts, by a text and a list -/
inductive M1 where
  | split | join | partition | count | rfind
  deriving DecidableEq

mutual
/-- expressions -/
inductive X where
  | lit (d : D)
  | var (i : Nat)
  | con (x : Str)
  | bin (op : Operator) (a b : X)
  | neg (a : X)
  | cmp (op : CmpOp) (a b : L)
  /-- .. where a list of the store is read as it stands -/
  | cmpo (op : CmpOp) (a b : L)
  | b1o (b : B1) (a : L)
  /-- what is never reached -/
  | bad
  /-- tuple(range(b)), tuple(range(a, b)) -/
  | trng (a : XO) (b : X)
  /-- dicts: {}, k in d, d[k] -/
  | dnew
  | dhas (neg : Bool) (k d : X)
  | dget (d k : X)
  | chain (o1 o2 : CmpOp) (a b c : X)
  | ofC (c : C)
  | ite (c : C) (a b : X)
  | tup (es : XS)
  | fr (f : F)
  | alloc (f : F)
  | ix (a : L) (i : X)
  | sl (a : L) (lo hi : XO)
  | b1 (b : B1) (a : L)
  | b2 (b : B2) (a : L) (c : X)
  | m1 (b : M1) (o : X) (a : L)
  | fld (a : X) (f : Str)
  | efld (i : Nat) (f : Str)
  | call (f : Nat) (es : XS) (nd : Nat)
  | callp (f : Nat) (es : XS) (nd : Nat)
  | meth (nm : Str) (f : Nat) (o : X) (es : XS)
  | mk (c : Nat) (es : XS) (nd : Nat)
  | isT (t : Nat) (a : L)
/-- what is only read on the spot: a list under construction, or an expression -/
inductive L where
  | own (i : Nat)
  | x (e : X)
inductive XS where
  | nil
  | cons (e : X) (r : XS)
inductive XO where
  | none
  | some (e : X)
/-- tests -/
inductive C where
  | x (e : X)
  | tru (e : L)
  | not (c : C)
  | and (a b : C)
  | or (a b : C)
  | one (c : C)
  | isE (i : Nat) (c : Nat)
/-- makers of a new list -/
inductive F where
  | disp (es : XS)
  | comp (t : T) (it : It) (c : CO) (e : X)
  | comp2 (t : T) (it : It) (c : CO) (t2 : T) (it2 : It) (c2 : CO) (e : X)
  /-- .. over a list of the store -/
  | compO (t : T) (en : Bool) (x : X) (c : CO) (e : X)
  | cat (a b : L)
  | sl (a : L) (lo hi : XO)
  | sorted (a : L)
  | list (a : L)
  | rep (f : F) (n : X)
inductive CO where
  | none
  | some (c : C)
/-- what is walked -/
inductive It where
  | seq (a : L)
  | rng1 (e : X)
  | rng2 (a b : X)
  | rng3 (a b : X) (c : Nat)
  | rngC (a b : X) (z : Str)
  | enum (a : L)
/-- targets -/
inductive T where
  | name (i : Nat)
  | tup (ts : TS)
inductive TS where
  | nil
  | cons (t : T) (r : TS)
end
mutual
/-- statements -/
inductive S where
  | set (t : T) (e : X)
  | own (i : Nat) (f : F)
  | app (i : Nat) (e : X)
  | ext (i : Nat) (a : L)
  | seti (o i e : X)
  | setf (o : X) (f : Str) (e : X)
  | oapp (o e : X)
  | expr (e : X)
  | ret (e : X)
  | retN
  | ite (c : C) (a b : SS)
  | for (t : T) (it : It) (b : SS)
  /-- .. over a list of the store -/
  | forO (t : T) (en : Bool) (x : X) (b : SS)
  | bad
  | pop (o i : X)
  | ins (o i e : X)
  | setd (o k e : X)
  | try2 (b : SS) (c : Nat) (as_ : Option Nat) (h : SS) (c2 : Nat) (as2 : Option Nat) (h2 : SS)
  | whl (c : C) (b : SS)
  | brk
  | cnt
  | pass
  | raise (c : Nat) (es : XS)
  | raiseC (c : Nat)
  | try1 (b : SS) (c : Nat) (as_ : Option Nat) (h : SS)
inductive SS where
  | nil
  | cons (s : S) (r : SS)
  /-- a list under construction is finished: no text of its own -/
  | fin (i : Nat) (r : SS)
  /-- .. and becomes a list of the store -/
  | finO (i : Nat) (r : SS)
end

/-! ### results -/
/-- an exception: its class, its fields -/
structure Ex where
  c : Nat
  fs : List (Str × D)
inductive R (α : Type) where
  | ok (a : α) (s : Sto)
  | exc (e : Ex) (s : Sto)
  | bad
def M (α : Type) : Type := Sto → R α
def M.ret {α : Type} (a : α) : M α := fun s => .ok a s
def M.seq {α β : Type} (x : M α) (f : α → M β) : M β := fun s => match x s with
  | .ok a s' => f a s'
  | .exc e s' => .exc e s'
  | .bad => .bad
instance : Monad M where
  pure := M.ret
  bind := M.seq
def M.bad {α : Type} : M α := fun _ => .bad
def M.opt {α : Type} : Option α → M α
  | some a => M.ret a
  | none => M.bad
def M.get : M Sto := fun s => .ok s s
def M.put (s : Sto) : M Unit := fun _ => .ok () s
def M.exc {α : Type} (e : Ex) : M α := fun s => .exc e s
/-- only if -/
def M.need (c : Prop) [Decidable c] : M Unit := if c then M.ret () else M.bad

/-- what raises nothing -/
def M.calm {α : Type} (x : M α) : M α := fun s => match x s with
  | .ok a s' => .ok a s'
  | .exc _ _ => .bad
  | .bad => .bad

/-- a list of the store stands as it was -/
noncomputable def M.still (n : Nat) (ds : List D) : M Unit := fun s => open Classical in if s[n]? = some (.lst ds) then .ok () s else .bad
/-- what is wanted of a result -/
def Wp {α : Type} (r : R α) (Q : α → Sto → Prop) (E : Ex → Sto → Prop) : Prop := match r with
  | .ok a s => Q a s
  | .exc e s => E e s
  | .bad => False

/-- slots -/
inductive Sl where
  | no
  | val (d : D)
  | own (ds : List D)
  | exc (e : Ex)
abbrev En := List Sl
def En.val (env : En) (i : Nat) : Option D := match env[i]? with
  | some (.val d) => some d
  | _ => none
def En.own (env : En) (i : Nat) : Option (List D) := match env[i]? with
  | some (.own ds) => some ds
  | _ => none
def En.exc (env : En) (i : Nat) : Option Ex := match env[i]? with
  | some (.exc e) => some e
  | _ => none

/-! ### operations on values -/
def okMul (i j : Int) : Prop := (-(2 ^ 64) < i ∧ i < 2 ^ 64) ∨ (-(2 ^ 64) < j ∧ j < 2 ^ 64)
instance (i j : Int) : Decidable (okMul i j) := inferInstanceAs (Decidable (_ ∨ _))
def repS (x : Str) (j : Int) : Str := ⟨(List.replicate j.toNat x.cps.toList).flatten.toArray⟩
def opBin (op : Operator) (a b : D) : Option D := match op, a, b with
  | .Add, .int i, .int j => some (.int (i + j))
  | .Add, .str x, .str y => if x.length + y.length ≤ 16777216 then some (.str (x ++ y)) else none
  | .Add, .tup x, .tup y => if x.length + y.length ≤ 16777216 then some (.tup (x ++ y)) else none
  | .Sub, .int i, .int j => some (.int (i - j))
  | .Mult, .int i, .int j => if okMul i j then some (.int (i * j)) else none
  | .Mult, .str x, .int j => if -(2 ^ 62) < j ∧ j < 2 ^ 32 ∧ x.length * j.toNat ≤ 16777216 then some (.str (repS x j)) else none
  | .BitAnd, .int i, .int j => if j = 255 then some (.int (i % 256)) else none
  | .FloorDiv, .int i, .int j => if 0 < j ∧ j < 1073741824 then some (.int (i / j)) else none
  | .Mod, .int i, .int j => if 0 < j then some (.int (i % j)) else none
  | _, _, _ => none
/-- scalars that are told apart as they stand -/
def scalD : D → D → Option Bool
  | .non, .non => some true
  | .non, .int _ => some false | .int _, .non => some false | .non, .bl _ => some false | .bl _, .non => some false | .non, .str _ => some false | .str _, .non => some false
  | .int i, .int j => some (decide (i = j)) | .bl i, .bl j => some (decide (i = j)) | .str i, .str j => some (decide (i = j))
  | .int _, .str _ => some false | .str _, .int _ => some false | .bl _, .str _ => some false | .str _, .bl _ => some false
  | _, _ => none
def eqD (a b : D) : Option Bool := match scalD a b with
  | some k => some k
  | none => if a.flat = true ∧ b.flat = true ∧ SeqAt.shaped a.py = true ∧ SeqAt.shaped b.py = true then some (PyData.eqv a.py b.py) else none
def D.isN : D → Bool
  | .non => true
  | _ => false
def ltD (a b : D) : Option Bool := match a, b with
  | .int i, .int j => some (decide (i < j))
  | .str x, .str y => some (decide (x.cps.toList < y.cps.toList))
  | a, b => if a.flat = true ∧ b.flat = true ∧ PySem.W.alike a.py b.py = true ∧ a.isN = false ∧ a.py.depth ≤ 32 ∧ b.py.depth ≤ 32 then some (PySem.W.dataLt a.py b.py) else none
def isSeq : D → Option (List D)
  | .tup ds => some ds
  | .lst ds => some ds
  | _ => none
def flatD : D → Bool
  | .non | .bl _ | .int _ | .str _ => true
  | _ => false
def inD (a c : D) : Option Bool := match a, c with
  | .str x, .str z => match x.cps with
    | ⟨[k]⟩ => some (decide (k ∈ z.cps.toList))
    | _ => none
  | a, c => match isSeq c with
    | some ds => if flatD a = true ∧ ds.all flatD = true then some (ds.any fun d => PyData.eqv d.py a.py) else none
    | none => none
def opCmp (op : CmpOp) (a b : D) : Option Bool := match op with
  | .Eq => eqD a b
  | .NotEq => (eqD a b).map (!·)
  | .Lt => ltD a b
  | .Gt => ltD b a
  | .LtE => (ltD b a).map (!·)
  | .GtE => (ltD a b).map (!·)
  | .Is => match b with
    | .non => some (match a with | .non => true | _ => false)
    | .bl j => match a with
      | .bl i => some (decide (i = j))
      | _ => none
    | _ => none
  | .IsNot => match b with
    | .non => some (match a with | .non => false | _ => true)
    | .bl j => match a with
      | .bl i => some (!decide (i = j))
      | _ => none
    | _ => none
  | .In => inD a b
  | .NotIn => (inD a b).map (!·)
def truD : D → Option Bool
  | .non => some false
  | .bl b => some b
  | .int i => some (i != 0)
  | .str x => if x.length ≤ 16777216 then some ((x.length : Int) != 0) else none
  | .tup ds => some (!ds.isEmpty)
  | .lst ds => some (!ds.isEmpty)
  | .obj _ => none
def ixD (a i : D) : Option D := match a, i with
  | .tup ds, .int k => atI ds k
  | .lst ds, .int k => atI ds k
  | .str z, .int k => if z.length ≤ 16777216 then (atI z.cps.toList k).map fun c => .str ⟨#[c]⟩ else none
  | _, _ => none
def cutD (ds : List D) (lo hi : Option Int) : List D := (ds.drop (HT.sIx ds.length 0 lo)).take (HT.sIx ds.length ds.length hi - HT.sIx ds.length 0 lo)
def slD (a : D) (lo hi : Option Int) : Option D := match a with
  | .tup ds => some (.tup (cutD ds lo hi))
  | .str z => if z.length ≤ 16777216 then some (.str (cutS z lo hi)) else none
  | _ => none
def intsD : List D → Option (List Int)
  | [] => some []
  | .int i :: ds => (intsD ds).map (i :: ·)
  | _ => none
def strsD : List D → Option (List Str)
  | [] => some []
  | .str i :: ds => (strsD ds).map (i :: ·)
  | _ => none
def blsD : List D → Option (List Bool)
  | [] => some []
  | .bl i :: ds => (blsD ds).map (i :: ·)
  | _ => none
def maxI : Int → List Int → Int
  | i, [] => i
  | i, j :: r => maxI (if j > i then j else i) r
def minI : Int → List Int → Int
  | i, [] => i
  | i, j :: r => minI (if j < i then j else i) r
/-- of alike things the first that none is greater than -/
def bestD (lt : D → D → Option Bool) : D → List D → Option D
  | d, [] => some d
  | d, e :: r => match lt d e with
    | some true => bestD lt e r
    | some false => bestD lt d r
    | none => none
def opB1 (b : B1) (a : D) : Option D := match b, a with
  | .len, .tup ds => some (.int ds.length)
  | .len, .lst ds => some (.int ds.length)
  | .len, .str z => if z.length ≤ 16777216 then some (.int z.length) else none
  | .int, .int i => some (.int i)
  | .int, .bl k => some (.int (if k then 1 else 0))
  | .int, .str z => match PySem.intText? z with
    | some n => if z.length ≤ 640 then some (.int n) else none
    | none => none
  | .str, .int i => if i.natAbs.log2 < 1920 then some (.str (toString i)) else none
  | .repr, d => if d.flat = true ∧ d.py.showable = true ∧ d.py.depth ≤ 64 ∧ d.py.shown.length ≤ 16777216 then some (.str d.py.shown) else none
  | .sum, .lst ds => (intsD ds).map fun is => .int is.sum
  | .max, .lst ds => match intsD ds with
    | some (i :: is) => some (.int (maxI i is))
    | _ => none
  | .min, .lst ds => match intsD ds with
    | some (i :: is) => some (.int (minI i is))
    | _ => none
  | .any, .lst ds => match blsD ds with
    | some bs => some (.bl (bs.any id))
    | none => (intsD ds).bind fun is => if (is.all fun i => decide (-1000000000000 < i ∧ i < 1000000000000)) = true then some (.bl (is.any fun i => i != 0)) else none
  | .all, .lst ds => (blsD ds).map fun bs => .bl (bs.all id)
  | .tuple, .lst ds => some (.tup ds)
  | .tuple, .tup ds => some (.tup ds)
  | .ord, .str z => if z.length = 1 then some (.int (z.cps.getD 0 0 : Nat)) else none
  | _, _ => none
def opB2 (b : B2) (a c : D) : Option D := match b, a, c with
  | .max, a, c => (ltD a c).map fun k => if k then c else a
  | .min, a, c => (ltD c a).map fun k => if k then c else a
  | .maxD, .lst ds, .int d => (intsD ds).map fun is => match is with
    | [] => .int d
    | i :: r => .int (maxI i r)
  | _, _, _ => none
def opM1 (b : M1) (o a : D) : Option D := match b, o, a with
  | .split, .str z, .str y => if (y.length == 0) = false ∧ z.length + 2 ≤ 16777216 then some (.lst ((Txt.split z y).map .str)) else none
  | .join, .str z, .lst ds => (strsD ds).bind fun ys => if (ys.map (·.length)).sum + ys.length * z.length ≤ 16777216 then some (.str (Txt.join z ys)) else none
  | _, _, _ => none

/-- the built-in types by number -/
def isTD (t : Nat) (d : D) : Option Bool := match d with
  | .non => some false
  | .bl _ => some (t == 2)
  | .int _ => some (t == 2)
  | .str _ => some (t == 3)
  | .tup _ => some (t == 0)
  | .lst _ => some (t == 1)
  | .obj _ => none
/-! ### meaning -/
/-- what the rest of the program gives: the defs by number; the turns that a while may take -/
structure G where
  call : Nat → List D → M D
  /-- the last defaults of a def's parameters -/
  dv : Nat → Nat → List D
  /-- a module's constants -/
  con : Str → Option D
  /-- a class's method, its __init__: the def's number -/
  meth : Nat → Str → Option Nat
  init : Nat → Option Nat
  /-- a class's instances may have an attribute of this name, the class has none -/
  attr : Nat → Str → Bool
  /-- an exception class's fields, in the order of its __init__ -/
  xfld : Nat → Option (List Str)
  /-- an except clause takes a class -/
  sub : Nat → Nat → Option Bool
  fuel : Nat

/-- where a statement ends -/
inductive Fl where
  | nx (env : En)
  | rt (d : D)
  | bk (env : En)
  | ct (env : En)
/-- a statement's result: the environment goes with an exception -/
inductive RS where
  | ok (f : Fl) (s : Sto)
  | exc (e : Ex) (env : En) (s : Sto)
  | bad
def liftS {α : Type} (env : En) (r : R α) (k : α → Sto → RS) : RS := match r with
  | .ok a s => k a s
  | .exc e s => .exc e env s
  | .bad => .bad

mutual
def stT : T → D → En → Option En
  | .name i, d, env => if i < env.length then some (env.set i (.val d)) else none
  | .tup ts, .tup ds, env => stTS ts ds env
  | .tup ts, .lst ds, env => stTS ts ds env
  | .tup _, _, _ => none
def stTS : TS → List D → En → Option En
  | .nil, [], env => some env
  | .cons t r, d :: ds, env => (stT t d env).bind (stTS r ds)
  | .nil, _ :: _, _ => none
  | .cons _ _, [], _ => none
end
mutual
/-- the slots that a target stores -/
def slT : T → List Nat
  | .name i => [i]
  | .tup ts => slTS ts
def slTS : TS → List Nat
  | .nil => []
  | .cons t r => slT t ++ slTS r
end
def wipeE (env : En) : List Nat → En
  | [] => env
  | i :: r => (wipeE env r).set i .no

def rangeD (lo n : Nat) : List D := (List.range n).map fun k => D.int ((lo + k : Nat) : Int)
def rangeI (lo : Int) (n : Nat) : List D := (List.range n).map fun (k : Nat) => D.int (lo + (k : Int))
def stepI (lo c : Int) (n : Nat) : List D := (List.range n).map fun (k : Nat) => D.int (lo + (k : Int) * c)
def stepN (i j : Int) (c : Nat) : Nat := if i < j then ((j - i - 1) / (c : Int) + 1).toNat else 0
/-- a list of the store as it stands -/
def derS (s : Sto) (d : D) : D := match d with
  | .obj n => match s[n]? with
    | some (.lst ds) => .lst ds
    | _ => .obj n
  | d => d
def enumD (ds : List D) : List D := (List.range ds.length).zipWith (fun (k : Nat) d => D.tup [.int (k : Int), d]) ds
def strD (z : Str) : List D := z.cps.toList.map fun c => .str ⟨#[c]⟩
/-- what a walk over a value gives -/
def walkD : D → Option (List D)
  | .tup ds => some ds
  | .lst ds => some ds
  | .str z => some (strD z)
  | _ => none

/-- a list, a tuple -/
def walkL : D → Option (List D)
  | .tup ds => some ds
  | .lst ds => some ds
  | _ => none
/-- one turn after another, each lengthening the list -/
def goesL (step : D → List D → M (List D)) : List D → List D → M (List D)
  | [], acc => M.ret acc
  | d :: r, acc => do let acc' ← step d acc; goesL step r acc'
/-- one turn after another of a comprehension: e's value where the test holds -/
def goes (step : D → M (Option D)) : List D → List D → M (List D)
  | [], acc => M.ret acc
  | d :: r, acc => do
    match ← step d with
    | some v => do M.need (acc.length < 16777216); goes step r (acc ++ [v])
    | none => goes step r acc

noncomputable section
variable (g : G)
mutual
def X.ev : X → En → M D
  | .lit d, _ => pure d
  | .var i, env => M.opt (env.val i)
  | .con x, _ => M.opt (g.con x)
  | .bin op a b, env => do let x ← X.ev a env; let y ← X.ev b env; M.opt (opBin op x y)
  | .neg a, env => do
    match ← X.ev a env with
    | .int i => pure (.int (-i))
    | _ => M.bad
  | .cmp op a b, env => do let x ← L.ev a env; let y ← L.ev b env; M.opt ((opCmp op x y).map .bl)
  | .cmpo op a b, env => do let x ← L.ev a env; let y ← L.ev b env; let s ← M.get; M.opt ((opCmp op (derS s x) (derS s y)).map .bl)
  | .bad, _ => M.bad
  | .trng a b, env => M.bad
  | .dnew, _ => M.bad
  | .dhas _ _ _, _ => M.bad
  | .dget _ _, _ => M.bad
  | .chain o1 o2 a b c, env => do
    let x ← X.ev a env
    let y ← X.ev b env
    match ← M.opt (opCmp o1 x y) with
    | true => do let z ← X.ev c env; M.opt ((opCmp o2 y z).map .bl)
    | false => pure (.bl false)
  | .ofC c, env => do let k ← C.ev c env; pure (.bl k)
  | .ite c a b, env => do
    match ← C.ev c env with
    | true => X.ev a env
    | false => X.ev b env
  | .tup es, env => do let ds ← XS.ev es env; M.need (ds.length ≤ 16777216); pure (.tup ds)
  | .fr f, env => do let ds ← F.ev f env; pure (.lst ds)
  | .alloc f, env => do let ds ← F.ev f env; let s ← M.get; M.put (s ++ [.lst ds]); pure (.obj s.length)
  | .ix a i, env => do
    let x ← L.ev a env
    let k ← X.ev i env
    match x, k with
    | .obj n, .int j => do
      match (← M.get)[n]? with
      | some (.lst ds) => M.opt (atI ds j)
      | _ => M.bad
    | x, k => M.opt (ixD x k)
  | .sl a lo hi, env => do let x ← L.ev a env; let l ← XO.ev lo env; let h ← XO.ev hi env; M.opt (slD x l h)
  | .b1 b a, env => do
    let x ← L.ev a env
    match b, x with
    | .len, .obj n => do
      match (← M.get)[n]? with
      | some (.lst ds) => pure (.int ds.length)
      | _ => M.bad
    | b, x => M.opt (opB1 b x)
  | .b1o b a, env => do let x ← L.ev a env; let s ← M.get; M.opt (opB1 b (derS s x))
  | .b2 b a c, env => do let x ← L.ev a env; let y ← X.ev c env; M.opt (opB2 b x y)
  | .m1 b o a, env => do
    match ← X.ev o env with
    | .str z => do let y ← L.ev a env; M.opt (opM1 b (.str z) y)
    | _ => M.bad
  | .fld a f, env => do
    match ← X.ev a env with
    | .obj n => do
      match (← M.get)[n]? with
      | some (.ins c fs) => do M.need (g.attr c f = true); M.opt (fs.lookup f)
      | _ => M.bad
    | _ => M.bad
  | .efld i f, env => M.opt ((env.exc i).bind fun e => match g.xfld e.c with | some _ => e.fs.lookup f | none => none)
  | .call f es nd, env => do let ds ← XS.ev es env; g.call f (ds ++ g.dv f nd)
  | .callp f es nd, env => do
    let ds ← XS.ev es env
    let s ← M.get
    fun s1 => match g.call f (ds ++ g.dv f nd) s1 with
      | .ok d s2 => open Classical in if d.flat = true ∧ s2.take s.length = s then .ok d s else .bad
      | .exc e s2 => open Classical in if (e.fs.all fun p => p.2.flat) = true ∧ s2.take s.length = s then .exc e s else .bad
      | .bad => .bad
  | .meth nm f o es, env => do
    let x ← X.ev o env
    match x with
    | .obj n => do
      match (← M.get)[n]? with
      | some (.ins c fs) => do
        let f' ← M.opt (g.meth c nm)
        M.need (fs.lookup nm = none)
        let ds ← XS.ev es env
        g.call f' (x :: ds)
      | _ => M.bad
    | _ => M.bad
  | .mk c es nd, env => do
    let ds ← XS.ev es env
    let s ← M.get
    M.put (s ++ [.ins c []])
    match ← M.opt (g.init c) with
    | f => do
      match ← g.call f (.obj s.length :: (ds ++ g.dv f nd)) with
      | .non => pure (.obj s.length)
      | _ => M.bad
  | .isT t a, env => do
    let x ← L.ev a env
    match x with
    | .obj n => do
      match (← M.get)[n]? with
      | some (.lst _) => pure (.bl (t == 1))
      | _ => M.bad
    | x => M.opt ((isTD t x).map .bl)
def L.ev : L → En → M D
  | .own i, env => M.opt ((env.own i).map .lst)
  | .x e, env => X.ev e env
def XS.ev : XS → En → M (List D)
  | .nil, _ => pure []
  | .cons e r, env => do let d ← X.ev e env; let ds ← XS.ev r env; pure (d :: ds)
def XO.ev : XO → En → M (Option Int)
  | .none, _ => pure none
  | .some e, env => do
    match ← X.ev e env with
    | .int i => pure (some i)
    | _ => M.bad
def C.ev : C → En → M Bool
  | .x e, env => do
    match ← X.ev e env with
    | .bl k => pure k
    | _ => M.bad
  | .tru e, env => do let x ← L.ev e env; M.opt (truD x)
  | .not c, env => do let k ← C.ev c env; pure (!k)
  | .and a b, env => do
    match ← C.ev a env with
    | true => C.ev b env
    | false => pure false
  | .or a b, env => do
    match ← C.ev a env with
    | true => pure true
    | false => C.ev b env
  | .one c, env => C.ev c env
  | .isE i c, env => M.opt ((env.exc i).bind fun e => g.sub e.c c)
def F.ev : F → En → M (List D)
  | .disp es, env => do let ds ← XS.ev es env; M.need (ds.length ≤ 16777216); pure ds
  | .comp t it c e, env => do
    let ds ← It.ev it env
    M.calm (goes (fun d => do
      let env' ← M.opt (stT t d (wipeE env (slT t)))
      match ← CO.ev c env' with
      | true => do let v ← X.ev e env'; pure (some v)
      | false => pure none) ds [])
  | .comp2 t it c t2 it2 c2 e, env => do
    let ds ← It.ev it env
    M.calm (goesL (fun d acc => do
      let env' ← M.opt (stT t d (wipeE env (slT t ++ slT t2)))
      match ← CO.ev c env' with
      | true => do
        let ds2 ← It.ev it2 env'
        goes (fun d2 => do
          let env2 ← M.opt (stT t2 d2 (wipeE env' (slT t2)))
          match ← CO.ev c2 env2 with
          | true => do let v ← X.ev e env2; pure (some v)
          | false => pure none) ds2 acc
      | false => pure acc) ds [])
  | .compO t en x c e, env => do
    match ← X.ev x env with
    | .obj n => do
      match (← M.get)[n]? with
      | some (.lst ds) => M.calm (goes (fun d => do
        let env' ← M.opt (stT t d (wipeE env (slT t)))
        match ← CO.ev c env' with
        | true => do
          let v ← X.ev e env'
          M.still n ds
          pure (some v)
        | false => do
          M.still n ds
          pure none) (if en then enumD ds else ds) [])
      | _ => M.bad
    | _ => M.bad
  | .cat a b, env => do
    let x ← L.ev a env
    let y ← L.ev b env
    match x, y with
    | .lst ds, .lst es => do M.need (ds.length + es.length ≤ 16777216); pure (ds ++ es)
    | _, _ => M.bad
  | .sl a lo hi, env => do
    let x ← L.ev a env
    let l ← XO.ev lo env
    let h ← XO.ev hi env
    match x with
    | .lst ds => pure (cutD ds l h)
    | .obj n => do
      match (← M.get)[n]? with
      | some (.lst ds) => pure (cutD ds l h)
      | _ => M.bad
    | _ => M.bad
  | .sorted a, env => M.bad
  | .list a, env => do
    match ← L.ev a env with
    | .lst ds => pure ds
    | .tup ds => pure ds
    | .obj n => do
      match (← M.get)[n]? with
      | some (.lst ds) => pure ds
      | _ => M.bad
    | _ => M.bad
  | .rep f n, env => do
    let ds ← F.ev f env
    match ← X.ev n env with
    | .int k => do M.need (-(2 ^ 62) < k ∧ k < 2 ^ 62 ∧ ds.length * k.toNat ≤ 16777216); pure (List.replicate k.toNat ds).flatten
    | _ => M.bad
def CO.ev : CO → En → M Bool
  | .none, _ => pure true
  | .some c, env => C.ev c env
def It.ev : It → En → M (List D)
  | .seq a, env => do let x ← L.ev a env; M.opt (walkD x)
  | .rng1 e, env => do
    match ← X.ev e env with
    | .int j => do M.need (-(2 ^ 62) ≤ j ∧ j < 2 ^ 62); pure (rangeI 0 j.toNat)
    | _ => M.bad
  | .rng2 a b, env => do
    let x ← X.ev a env
    let y ← X.ev b env
    match x, y with
    | .int i, .int j => do M.need (-(2 ^ 62) ≤ i ∧ i < 2 ^ 62 ∧ -(2 ^ 62) ≤ j ∧ j < 2 ^ 62); pure (rangeI i (j - i).toNat)
    | _, _ => M.bad
  | .rng3 a b c, env => do
    let x ← X.ev a env
    let y ← X.ev b env
    match x, y with
    | .int i, .int j => do M.need (-(2 ^ 30) ≤ i ∧ i < 2 ^ 30 ∧ -(2 ^ 30) ≤ j ∧ j < 2 ^ 30); pure (stepI i (c : Int) (stepN i j c))
    | _, _ => M.bad
  | .rngC a b z, env => match g.con z with
    | some (.int c) => do
      M.need (0 < c ∧ c < 1073741824)
      let x ← X.ev a env
      let y ← X.ev b env
      match x, y with
      | .int i, .int j => do M.need (-(2 ^ 30) ≤ i ∧ i < 2 ^ 30 ∧ -(2 ^ 30) ≤ j ∧ j < 2 ^ 30); pure (stepI i (c.toNat : Int) (stepN i j c.toNat))
      | _, _ => M.bad
    | _ => M.bad
  | .enum a, env => do
    match ← L.ev a env with
    | .lst ds => pure (enumD ds)
    | _ => M.bad
end

/-- one turn after another of a for -/
def loopF (body : D → En → Sto → RS) : List D → En → Sto → RS
  | [], env, s => .ok (.nx env) s
  | d :: r, env, s => match body d env s with
    | .ok (.nx e') s' => loopF body r e' s'
    | .ok (.ct e') s' => loopF body r e' s'
    | .ok (.bk e') s' => .ok (.nx e') s'
    | .ok (.rt v) s' => .ok (.rt v) s'
    | .exc e e' s' => .exc e e' s'
    | .bad => .bad
def loopW (test : En → Sto → R Bool) (body : En → Sto → RS) : Nat → En → Sto → RS
  | 0, _, _ => .bad
  | n + 1, env, s => match test env s with
    | .ok false s' => .ok (.nx env) s'
    | .ok true s' => match body env s' with
      | .ok (.nx e') s2 => loopW test body n e' s2
      | .ok (.ct e') s2 => loopW test body n e' s2
      | .ok (.bk e') s2 => .ok (.nx e') s2
      | .ok (.rt v) s2 => .ok (.rt v) s2
      | .exc e e' s2 => .exc e e' s2
      | .bad => .bad
    | .exc e s' => .exc e env s'
    | .bad => .bad

/-- where the turn goes on, a list of the store stands as it was -/
def stillS (n : Nat) (ds : List D) (r : RS) : RS := match r with
  | .ok (.nx e) s => open Classical in if s[n]? = some (.lst ds) then .ok (.nx e) s else .bad
  | .ok (.ct e) s => open Classical in if s[n]? = some (.lst ds) then .ok (.ct e) s else .bad
  | r => r
def unX : Sl → Sl
  | .exc _ => .no
  | l => l
/-- no exception is held -/
def noExc (env : En) : En := env.map unX
/-- behind a suite: its name is gone -/
def goneX (a : Option Nat) (env : En) : En := match a with
  | some i => (noExc env).set i .no
  | none => noExc env
/-- the name of an except clause holds the exception -/
def asX (a : Option Nat) (e : Ex) (env : En) : En := match a with
  | some i => env.set i (.exc e)
  | none => env
/-- the end of a suite -/
def suiteR (a : Option Nat) (r : RS) : RS := match r with
  | .ok (.nx e2) s2 => .ok (.nx (goneX a e2)) s2
  | .ok (.bk e2) s2 => .ok (.bk (goneX a e2)) s2
  | .ok (.ct e2) s2 => .ok (.ct (goneX a e2)) s2
  | .ok (.rt v) s2 => .ok (.rt v) s2
  | .exc _ _ _ => .bad
  | .bad => .bad
def putD (f : Str) (v : D) : List (Str × D) → List (Str × D)
  | [] => [(f, v)]
  | (g, x) :: r => if g = f then (g, v) :: r else (g, x) :: putD f v r
mutual
def S.ev : S → En → Sto → RS
  | .set t e, env, s => liftS env (X.ev g e env s) fun d s1 => match stT t d env with
    | some env' => .ok (.nx env') s1
    | none => .bad
  | .own i f, env, s => liftS env (F.ev g f env s) fun ds s1 => if i < env.length then .ok (.nx (env.set i (.own ds))) s1 else .bad
  | .app i e, env, s => match env.own i with
    | some _ => liftS env (X.ev g e env s) fun d s1 => match env.own i with
      | some ds => if ds.length < 16777216 then .ok (.nx (env.set i (.own (ds ++ [d])))) s1 else .bad
      | none => .bad
    | none => .bad
  | .ext i a, env, s => match env.own i with
    | some _ => liftS env (L.ev g a env s) fun d s1 => match env.own i, walkL d with
      | some ds, some es => if ds.length + es.length < 16777216 then .ok (.nx (env.set i (.own (ds ++ es)))) s1 else .bad
      | _, _ => .bad
    | none => .bad
  | .seti o i e, env, s => liftS env (X.ev g e env s) fun v s1 => liftS env (X.ev g o env s1) fun x s2 => liftS env (X.ev g i env s2) fun k s3 => match x, k with
    | .obj n, .int j => match s3[n]? with
      | some (.lst ds) => match ixN ds.length j with
        | some q => .ok (.nx env) (s3.set n (.lst (ds.set q v)))
        | none => .bad
      | _ => .bad
    | _, _ => .bad
  | .setf o f e, env, s => liftS env (X.ev g e env s) fun v s1 => liftS env (X.ev g o env s1) fun x s2 => match x with
    | .obj n => match s2[n]? with
      | some (.ins c fs) => if fs.length < 900 ∧ g.attr c f = true then .ok (.nx env) (s2.set n (.ins c (putD f v fs))) else .bad
      | _ => .bad
    | _ => .bad
  | .oapp o e, env, s => liftS env (X.ev g o env s) fun x s1 => match x with
    | .obj n => match s1[n]? with
      | some (.lst _) => liftS env (X.ev g e env s1) fun v s2 => match s2[n]? with
        | some (.lst ds) => if ds.length < 16777216 then .ok (.nx env) (s2.set n (.lst (ds ++ [v]))) else .bad
        | _ => .bad
      | _ => .bad
    | _ => .bad
  | .expr e, env, s => liftS env (X.ev g e env s) fun _ s1 => .ok (.nx env) s1
  | .ret e, env, s => liftS env (X.ev g e env s) fun d s1 => .ok (.rt d) s1
  | .retN, _, s => .ok (.rt .non) s
  | .ite c a b, env, s => liftS env (C.ev g c env s) fun k s1 => match k with
    | true => SS.ev a env s1
    | false => SS.ev b env s1
  | .for t it b, env, s => liftS env (It.ev g it env s) fun ds s1 => loopF (fun d env' s' => match stT t d env' with
    | some e2 => SS.ev b e2 s'
    | none => .bad) ds env s1
  | .forO t en x b, env, s => liftS env (X.ev g x env s) fun d s1 => match d with
    | .obj n => match s1[n]? with
      | some (.lst ds) => loopF (fun d env' s' => stillS n ds (match stT t d env' with
        | some e2 => SS.ev b e2 s'
        | none => .bad)) (if en then enumD ds else ds) env s1
      | _ => .bad
    | .lst ds => loopF (fun d env' s' => match stT t d env' with
      | some e2 => SS.ev b e2 s'
      | none => .bad) (if en then enumD ds else ds) env s1
    | _ => .bad
  | .bad, _, _ => .bad
  | .pop o i, env, s => liftS env (X.ev g o env s) fun x s1 => match x with
    | .obj n => match s1[n]? with
      | some (.lst _) => liftS env (X.ev g i env s1) fun k s2 => match k, s2[n]? with
        | .int j, some (.lst ds) => if -(2 ^ 62) < j ∧ j < 2 ^ 62 then match ixN ds.length j with
          | some q => .ok (.nx env) (s2.set n (.lst (ds.eraseIdx q)))
          | none => .bad else .bad
        | _, _ => .bad
      | _ => .bad
    | _ => .bad
  | .ins o i e, env, s => .bad
  | .setd _ _ _, _, _ => .bad
  | .whl c b, env, s => loopW (fun env' s' => C.ev g c env' s') (fun env' s' => SS.ev b env' s') g.fuel env s
  | .brk, env, s => .ok (.bk env) s
  | .cnt, env, s => .ok (.ct env) s
  | .pass, env, s => .ok (.nx env) s
  | .raise c es, env, s => liftS env (XS.ev g es env s) fun ds s1 => match g.xfld c with
    | some fs => if ds.length = fs.length then .exc ⟨c, fs.zip ds⟩ env s1 else .bad
    | none => .bad
  | .raiseC c, env, s => if g.xfld c = none then .exc ⟨c, []⟩ env s else .bad
  | .try1 b c a h, env, s => match SS.ev b env s with
    | .exc e env' s' => match g.sub e.c c with
      | some true => suiteR a (SS.ev h (asX a e env') s')
      | some false => .exc e env' s'
      | none => .bad
    | .ok f s' => .ok f s'
    | .bad => .bad
  | .try2 b c a h c2 a2 h2, env, s => match SS.ev b env s with
    | .exc e env' s' => match g.sub e.c c with
      | some true => suiteR a (SS.ev h (asX a e env') s')
      | some false => match g.sub e.c c2 with
        | some true => suiteR a2 (SS.ev h2 (asX a2 e env') s')
        | some false => .exc e env' s'
        | none => .bad
      | none => .bad
    | .ok f s' => .ok f s'
    | .bad => .bad
def SS.ev : SS → En → Sto → RS
  | .nil, env, s => .ok (.nx env) s
  | .cons a r, env, s => match S.ev a env s with
    | .ok (.nx e') s' => SS.ev r e' s'
    | .ok f s' => .ok f s'
    | .exc e e' s' => .exc e e' s'
    | .bad => .bad
  | .finO i r, env, s => match env.own i with
    | some ds => SS.ev r (env.set i (.val (.obj s.length))) (s ++ [.lst ds])
    | none => .bad
  | .fin i r, env, s => match env.own i with
    | some ds => SS.ev r (env.set i (.val (.lst ds))) s
    | none => .bad
end
end
end Fx

set_option Elab.async false
set_option linter.all false
set_option maxRecDepth 100000
set_option maxHeartbeats 1000000
/-! Fx 3: readings of the small language; the operations by values. -/
namespace Fx
open PySem PySem.Spec PyProof.Rows L2

theorem Wp.imp {α : Type} {r : R α} {Q Q' : α → Sto → Prop} {E E' : Ex → Sto → Prop} (h : Wp r Q E) (hq : ∀ a s, Q a s → Q' a s) (he : ∀ e s, E e s → E' e s) : Wp r Q' E' := by
  cases r with
  | ok a s => exact hq a s h
  | exc e s => exact he e s h
  | bad => exact h
theorem wp_seq {α β : Type} {x : M α} {f : α → M β} {s : Sto} {Q : β → Sto → Prop} {E : Ex → Sto → Prop} : Wp ((x >>= f) s) Q E = Wp (x s) (fun a s' => Wp (f a s') Q E) E := by
  show Wp (M.seq x f s) Q E = _
  unfold M.seq
  cases x s <;> rfl
theorem wp_ret {α : Type} {a : α} {s : Sto} {Q : α → Sto → Prop} {E : Ex → Sto → Prop} : Wp ((pure a : M α) s) Q E = Q a s := rfl
theorem wp_opt {α : Type} {o : Option α} {s : Sto} {Q : α → Sto → Prop} {E : Ex → Sto → Prop} : Wp (M.opt o s) Q E → ∃ a, o = some a ∧ Q a s := by
  intro h
  cases o with
  | none => exact h.elim
  | some a => exact ⟨a, rfl, h⟩
theorem wp_bad {α : Type} {s : Sto} {Q : α → Sto → Prop} {E : Ex → Sto → Prop} : Wp ((M.bad : M α) s) Q E → False := fun h => h
theorem wp_need {c : Prop} [Decidable c] {s : Sto} {Q : Unit → Sto → Prop} {E : Ex → Sto → Prop} : Wp (M.need c s) Q E → c ∧ Q () s := by
  unfold M.need
  by_cases h : c
  · rw [if_pos h]; exact fun q => ⟨h, q⟩
  · rw [if_neg h]; exact fun q => q.elim
theorem wp_get {s : Sto} {Q : Sto → Sto → Prop} {E : Ex → Sto → Prop} : Wp (M.get s) Q E = Q s s := rfl
theorem wp_put {s t : Sto} {Q : Unit → Sto → Prop} {E : Ex → Sto → Prop} : Wp (M.put t s) Q E = Q () t := rfl

/-! ### readings -/
/-- an exception that is being handled: where it lies, its class, its dict -/
abbrev Hd := Option (Addr × Value × Option Addr)
section
variable (K : PySem.W.Frag) (cls : Nat → Option Addr) (z : Hd) (P : Addr → Prop) (m : List Addr) (H : Hp)
def ExR (e : Ex) (c : Value) (dd : Option Addr) : Prop :=
  (∃ C, cls e.c = some C ∧ c = .ref C) ∧ ((dd = none ∧ e.fs = []) ∨ ∃ a fvs, dd = some a ∧ H a = some (.xd fvs) ∧ ∀ f d, e.fs.lookup f = some d → ∃ v, fvs.lookup f = some v ∧ Rel K P m H d v)
def SlR (l : Sl) (o : Option (Option V)) : Prop := match l with
  | .no => True
  | .val d => ∃ v, o = some (some v) ∧ Rel K P m H d v
  | .own ds => ∃ a vs, o = some (some (.ref a)) ∧ H a = some (.lst vs) ∧ P a ∧ RelL K P m H ds vs
  | .exc e => ∃ a c dd, z = some (a, c, dd) ∧ o = some (some (.ref a)) ∧ ExR K cls P m H e c dd
/-- no two slots have one list under construction -/
def Uniq (env : En) (σ : L2.St) : Prop := ∀ (i j : Nat) ds es (a : Addr), env[i]? = some (.own ds) → env[j]? = some (.own es) → (σ[i]? : Option (Option V)) = some (some (.ref a)) → (σ[j]? : Option (Option V)) = some (some (.ref a)) → i = j
structure Sat (env : En) (st : Sto) (σ : L2.St) : Prop where
  len : env.length = σ.length
  sl : ∀ (i : Nat) (l : Sl), env[i]? = some l → SlR K cls z P m H l (σ[i]? : Option (Option V))
  st : StR K cls P m H st
  hP : ∀ a, P a → ∃ vs, H a = some (.lst vs)
  un : Uniq env σ
end
section
variable {K : PySem.W.Frag} {cls : Nat → Option Addr} {z : Hd} {P : Addr → Prop} {m m' : List Addr} {H H' : Hp} {env : En} {st st' : Sto} {σ : L2.St}
theorem ExR.step {e : Ex} {c : Value} {dd : Option Addr} (hs : StR K cls P m H st) (s : Step m H m' H') (h : ExR K cls P m H e c dd) : ExR K cls P m' H' e c dd := by
  obtain ⟨h1, h2⟩ := h
  refine ⟨h1, h2.imp id fun ⟨a, fvs, e1, e2, h3⟩ => ⟨a, fvs, e1, s.ext _ _ e2 fun ha => ?_, fun f d hf => ?_⟩⟩
  · obtain ⟨n, hn, e⟩ := List.getElem_of_mem ha
    have hn' : n < st.length := by rw [← hs.len]; exact hn
    obtain ⟨b, e3, r⟩ := hs.ob n st[n] (List.getElem?_eq_getElem hn')
    rw [List.getElem?_eq_getElem hn, e] at e3
    cases e3
    cases hso : st[n] with
    | lst ds => rw [hso] at r; obtain ⟨vs, q, _⟩ := r; rw [e2] at q; cases q
    | ins c fs => rw [hso] at r; obtain ⟨C, dx, fv, _, q, _⟩ := r; rw [e2] at q; cases q
    | dic _ => rw [hso] at r; exact r.elim
    | set _ => rw [hso] at r; exact r.elim
  · obtain ⟨v, e3, r⟩ := h3 f d hf
    exact ⟨v, e3, Rel.step s d r⟩
theorem SlR.step {l : Sl} {o : Option (Option V)} (hs : StR K cls P m H st) (s : Step m H m' H') (h : SlR K cls z P m H l o) : SlR K cls z P m' H' l o := by
  cases l with
  | no => trivial
  | val d => obtain ⟨v, e, r⟩ := h; exact ⟨v, e, Rel.step s d r⟩
  | own ds =>
    obtain ⟨a, vs, e, ha, hp, r⟩ := h
    exact ⟨a, vs, e, s.ext _ _ ha fun hm => hs.out a hm hp, hp, RelL.step s ds r⟩
  | exc e => obtain ⟨a, c, dd, e1, e2, r⟩ := h; exact ⟨a, c, dd, e1, e2, r.step hs s⟩
theorem Sat.step (h : Sat K cls z P m H env st σ) (s : Step m H m' H') (h' : StR K cls P m' H' st') : Sat K cls z P m' H' env st' σ :=
  ⟨h.len, fun i l e => (h.sl i l e).step h.st s, h', fun a ha => by
    obtain ⟨o, e⟩ := h.hP a ha
    exact ⟨o, s.ext _ _ e fun hm => h.st.out a hm ha⟩, h.un⟩
/-- an address that is nobody's is new to all -/
theorem Sat.fresh (h : Sat K cls z P m H env st σ) {p : Addr} (hp : H p = none) : ¬ Bad P m p := fun hb => by
  rcases hb with hb | hb
  · exact h.st.fresh hp hb
  · obtain ⟨o, e⟩ := h.hP p hb
    rw [hp] at e; cases e
end

/-- the program's side of a reading: where its classes lie, what is being handled, what an exception is wished to be -/
structure Rd' where
  cls : Nat → Option Addr
  z : Hd
  W : WX
section
variable (K : PySem.W.Frag) (Y : Rd')
def VP {α β : Type} (rho : (Addr → Prop) → List Addr → Hp → α → β → Prop) (P : Addr → Prop) (m : List Addr) (H : Hp) (Q : β → Hp → Prop) (a : α) (st' : Sto) : Prop :=
  ∀ m' H' b, Step m H m' H' → StR K Y.cls P m' H' st' → rho P m' H' a b → Q b H'
def XP (P : Addr → Prop) (m : List Addr) (σ : L2.St) (H : Hp) (e : Ex) (st' : Sto) : Prop :=
  ∀ m' H' c dd, Step m H m' H' → StR K Y.cls P m' H' st' → ExR K Y.cls P m' H' e c dd → Y.W c dd σ H'
/-- THE READING of a piece of the language that gives an α, told as a β -/
def TG {α β : Type} (run : En → M α) (rho : (Addr → Prop) → List Addr → Hp → α → β → Prop) : L2.St → Hp → (β → Hp → Prop) → Prop := fun σ H Q =>
  ∃ P m env st, Sat K Y.cls Y.z P m H env st σ ∧ Wp (run env st) (VP K Y rho P m H Q) (XP K Y P m σ H)
variable {K Y}
theorem VP.step {α β : Type} {rho : (Addr → Prop) → List Addr → Hp → α → β → Prop} {P : Addr → Prop} {m m1 : List Addr} {H H1 : Hp} {Q : β → Hp → Prop} {a : α} {st' : Sto} (h : VP K Y rho P m H Q a st') (s : Step m H m1 H1) : VP K Y rho P m1 H1 Q a st' :=
  fun m' H' b s' r q => h m' H' b (s.trans s') r q
theorem XP.step {P : Addr → Prop} {m m1 : List Addr} {σ : L2.St} {H H1 : Hp} {e : Ex} {st' : Sto} (h : XP K Y P m σ H e st') (s : Step m H m1 H1) : XP K Y P m1 σ H1 e st' :=
  fun m' H' c dd s' r q => h m' H' c dd (s.trans s') r q
theorem VP.here {α β : Type} {rho : (Addr → Prop) → List Addr → Hp → α → β → Prop} {P : Addr → Prop} {m : List Addr} {H : Hp} {Q : β → Hp → Prop} {a : α} {st' : Sto} {b : β} (h : VP K Y rho P m H Q a st') (r : StR K Y.cls P m H st') (q : rho P m H a b) : Q b H :=
  h m H b (Step.refl m H) r q
end

section
variable (K : PySem.W.Frag) (P : Addr → Prop) (m : List Addr) (H : Hp)
/-- a value, or a list under construction -/
def RelB (d : D) (v : V) : Prop := Rel K P m H d v ∨ ∃ ds a vs, d = .lst ds ∧ v = .ref a ∧ H a = some (.lst vs) ∧ P a ∧ RelL K P m H ds vs
end
abbrev rhoD (K : PySem.W.Frag) : (Addr → Prop) → List Addr → Hp → D → V → Prop := fun P m H d v => Rel K P m H d v
abbrev rhoB (K : PySem.W.Frag) : (Addr → Prop) → List Addr → Hp → D → V → Prop := fun P m H d v => RelB K P m H d v
abbrev rhoL (K : PySem.W.Frag) : (Addr → Prop) → List Addr → Hp → List D → List V → Prop := fun P m H d v => RelL K P m H d v
abbrev rhoEq {α : Type} : (Addr → Prop) → List Addr → Hp → α → α → Prop := fun _ _ _ a b => b = a
/-- a new list at an address that nobody else knows -/
def rhoF (K : PySem.W.Frag) : (Addr → Prop) → List Addr → Hp → List D → V → Prop := fun P m H ds v => ∃ a vs, v = .ref a ∧ H a = some (.lst vs) ∧ ¬ Bad P m a ∧ RelL K P m H ds vs

section
variable {K : PySem.W.Frag} {P : Addr → Prop} {m m' : List Addr} {H H' : Hp} {d : D} {v : V}
theorem RelB.lst {ds : List D} (h : RelB K P m H (.lst ds) v) : ∃ a vs, v = .ref a ∧ SqL K H a vs ∧ RelL K P m H ds vs := by
  rcases h with h | ⟨ds', a, vs, e, rfl, ha, hp, r⟩
  · obtain ⟨a, vs, e, hl, r⟩ := h
    exact ⟨a, vs, e, hl.sq, r⟩
  · cases e
    exact ⟨a, vs, rfl, SqL.of ha, r⟩
theorem RelB.tup {ds : List D} (h : RelB K P m H (.tup ds) v) : ∃ a vs, v = .ref a ∧ TupAt K P m H a vs ∧ RelL K P m H ds vs := by
  rcases h with h | ⟨ds', a, vs, e, _⟩
  · exact h
  · cases e
theorem RelB.int {i : Int} (h : RelB K P m H (.int i) v) : v = .int i := by
  rcases h with h | ⟨ds', a, vs, e, _⟩
  · exact h
  · cases e
theorem RelB.str {i : Str} (h : RelB K P m H (.str i) v) : v = .str i := by
  rcases h with h | ⟨ds', a, vs, e, _⟩
  · exact h
  · cases e
theorem RelB.bl {i : Bool} (h : RelB K P m H (.bl i) v) : v = .bl i := by
  rcases h with h | ⟨ds', a, vs, e, _⟩
  · exact h
  · cases e
theorem RelB.non (h : RelB K P m H .non v) : v = .non := by
  rcases h with h | ⟨ds', a, vs, e, _⟩
  · exact h
  · cases e
theorem RelB.obj {n : Nat} (h : RelB K P m H (.obj n) v) : ∃ a, v = .ref a ∧ m[n]? = some a := by
  rcases h with h | ⟨ds', a, vs, e, _⟩
  · exact h
  · cases e
theorem RelB.dp (hf : d.flat = true) (h : RelB K P m H d v) : Dp K H v d.py := by
  rcases h with h | ⟨ds, a, vs, rfl, rfl, ha, hp, r⟩
  · exact Rel.dp d hf h
  · rw [D.py]
    exact .lst (SqL.of ha) (RelL.dp ds (by simpa [D.flat] using hf) r)
theorem RelB.step (hs : ∀ a ∈ m, ¬ P a) (s : Step m H m' H') (h : RelB K P m H d v) : RelB K P m' H' d v := by
  rcases h with h | ⟨ds, a, vs, e, ev, ha, hp, r⟩
  · exact .inl (Rel.step s d h)
  · exact .inr ⟨ds, a, vs, e, ev, s.ext _ _ ha fun hm => hs a hm hp, hp, RelL.step s ds r⟩
end

/-! ### operations by values -/
section
variable (K : PySem.W.Frag)
/-- more may stand; what stood stands -/
def vD (P : Addr → Prop) (m : List Addr) (d : D) (H : Hp) (Q : VK) : Prop := ∀ H' b, Same H H' → Rel K P m H' d b → Q b H'
/-- nobody's is what is not there -/
def Own (P : Addr → Prop) (m : List Addr) (H : Hp) : Prop := ∀ a, Bad P m a → ∃ o, H a = some o
def rD1 (f : D → Option D) : List V → Hp → VK → Prop := fun vs H Q => ∃ P m x d v, vs = [v] ∧ Own P m H ∧ RelB K P m H x v ∧ f x = some d ∧ vD K P m d H Q
def rD2 (f : D → D → Option D) : R2 := fun v w H Q => ∃ P m x y d, Own P m H ∧ RelB K P m H x v ∧ RelB K P m H y w ∧ f x y = some d ∧ vD K P m d H Q
end
section
variable {K : PySem.W.Frag} {P : Addr → Prop} {m m' : List Addr} {H H' : Hp} {d : D} {v : V} {Q : VK}
theorem vD.here (h : vD K P m d H Q) {b : V} (r : Rel K P m H d b) : Q b H := h H b (Same.refl H) r
theorem Sat.own {cls : Nat → Option Addr} {z : Hd} {env : En} {st : Sto} {σ : L2.St} (h : Sat K cls z P m H env st σ) : Own P m H := fun a hb => by
  rcases hb with hb | hb
  · exact h.st.there hb
  · obtain ⟨vs, e⟩ := h.hP a hb
    exact ⟨_, e⟩
theorem Own.fresh (h : Own P m H) {p : Addr} (hp : H p = none) : ¬ Bad P m p := fun hb => by
  obtain ⟨o, e⟩ := h p hb
  rw [hp] at e; cases e
/-! the store's lists, read as they stand -/
theorem bad_bad {a : Addr} (h : Bad (Bad P m) m a) : Bad P m a := h.elim .inl id
theorem Rel.toBad (d : D) {v : V} (h : Rel K P m H d v) : Rel K (Bad P m) m H d v := Rel.weak (fun _ => bad_bad) m.length (fun _ _ => rfl) d (Rel.lim d h) h
theorem RelL.toBad {ds : List D} {vs : List V} (h : RelL K P m H ds vs) : RelL K (Bad P m) m H ds vs := RelL.weak (fun _ => bad_bad) m.length (fun _ _ => rfl) ds (RelL.lim ds h) h
theorem Rel.ofBad (d : D) {v : V} (h : Rel K (Bad P m) m H d v) : Rel K P m H d v := Rel.weak (fun _ z => Or.inr z) m.length (fun _ _ => rfl) d (Rel.lim d h) h
theorem Own.toBad (h : Own P m H) : Own (Bad P m) m H := fun a hb => h a (bad_bad hb)
theorem RelB.toBad {d : D} {v : V} (h : RelB K P m H d v) : RelB K (Bad P m) m H d v := by
  rcases h with h | ⟨ds, a, vs, e, ev, ha, hp, r⟩
  · exact .inl (Rel.toBad d h)
  · exact .inr ⟨ds, a, vs, e, ev, ha, .inr hp, RelL.toBad r⟩
theorem derS_obj {st : Sto} {n : Nat} : derS st (.obj n) = match st[n]? with
    | some (.lst ds) => .lst ds
    | _ => .obj n := rfl
theorem RelB.der {cls : Nat → Option Addr} {st : Sto} (hs : StR K cls P m H st) {d : D} {v : V} (h : RelB K P m H d v) : RelB K (Bad P m) m H (derS st d) v := by
  cases d with
  | obj n =>
    rw [derS_obj]
    cases e : st[n]? with
    | none => exact h.toBad
    | some o =>
      cases o with
      | lst ds =>
        obtain ⟨a, rfl, hm⟩ := h.obj
        obtain ⟨a', e1, vs, e2, r⟩ := hs.ob n _ e
        rw [hm] at e1; cases e1
        exact .inr ⟨ds, a, vs, rfl, rfl, e2, .inl (List.mem_of_getElem? hm), RelL.toBad r⟩
      | ins _ _ => exact h.toBad
      | dic _ => exact h.toBad
      | set _ => exact h.toBad
  | _ => exact h.toBad
theorem vD.ofBad {d : D} {Q : VK} (h : vD K P m d H Q) : vD K (Bad P m) m d H Q := fun H' b s r => h H' b s (Rel.ofBad d r)
theorem Same.laid {p : Addr} {o : HO} (hp : H p = none) : Same H (upd H p o) := fun b u e => by rw [upd_ne (ne_of_none e hp)]; exact e
/-- .. with a step of the store's objects -/
theorem Own.to_step (h : Own P m H) (s : Same H H') : Step m H m H' := ⟨⟨[], by simp⟩, fun _ z => .inl z, fun a o e _ => s a o e⟩
theorem StR.same {cls : Nat → Option Addr} {st : Sto} (h : StR K cls P m H st) (s : Same H H') : StR K cls P m H' st :=
  h.step_same ⟨⟨[], by simp⟩, fun _ z => .inl z, fun a o e _ => s a o e⟩ fun a ha => by
    obtain ⟨u, e⟩ := h.there ha
    rw [e, s a u e]
end
theorem line16 : sizeLine = 16777216 := sizeLine_eq

section
variable {X : Cx}
theorem cat_tup0 {prog : Program} {w : World} {A : Around} {E : Value → Shared → Prop} {s : Shared} {t b : Addr} {ws : List Value} {Q : Value → Shared → Prop} (ht : IsTup s.heap t ([] : List Value).toArray) (hb : IsTup s.heap b ws.toArray)
    (h1 : Q (.ref b) s) : wpAny (model prog w) A (binaryOp .Add (.ref t) (.ref b)) Q E s := by
  obtain ⟨⟨c1, d1, dat1, sl1⟩, h1o, hc1, n1, hd1⟩ := id ht
  obtain ⟨⟨c2, d2, dat2, sl2⟩, h2o, hc2, n2, hd2⟩ := id hb
  simp only at hc1 hd1 hc2 hd2
  subst hc1 hd1 hc2 hd2
  exact concat_meets ⟨_, h1o, rfl⟩ ⟨_, h2o, rfl⟩ noFill_tuple_add seq_tuple_add PySem.F.slot_tuple_add PySem.F.entry_tuple_add (PySem.F.args_tuple_add_2 _ _)
    (tuple_addW0 t b _ ws.toArray n1 n2 d1 d2 sl1 sl2 rfl) ⟨h1o, h2o, h1⟩
theorem op_catT0 : OpR X (binaryOp .Add) (fun x y H Q => ∃ a b ys, x = .ref a ∧ y = .ref b ∧ SqT X.K H a [] ∧ SqT X.K H b ys ∧ Q (.ref b) H) := by
  intro pins s σ H x y v u Q I rx ry h
  obtain ⟨a, b, ys, rfl, rfl, ha, hb, q⟩ := h
  cases rx
  cases ry
  obtain ⟨its, r1, p1, _⟩ := I.tuple ha
  obtain ⟨its2, r2, p2, _⟩ := I.tuple hb
  cases r1
  exact cat_tup0 p1 p2 ⟨.ref b, H, I, rfl, q⟩

theorem od_add : OpR X (binaryOp .Add) (rD2 X.K (opBin .Add)) := by
  intro pins s σ H v w u u' Q I rv rw' h
  obtain ⟨P, m, x, y, d, own, hx, hy, e, q⟩ := h
  cases x with
  | int i =>
    cases y with
    | int j =>
      cases (show some (D.int (i + j)) = some d from e)
      have e1 := hx.int; have e2 := hy.int
      subst e1 e2
      exact op_add pins s σ H _ _ u u' Q I rv rw' ⟨i, j, rfl, rfl, q.here rfl⟩
    | _ => exact nomatch e
  | str a =>
    cases y with
    | str b =>
      have e' : (if a.length + b.length ≤ 16777216 then some (D.str (a ++ b)) else none) = some d := e
      by_cases hz : a.length + b.length ≤ 16777216
      · rw [if_pos hz] at e'
        cases e'
        have e1 := hx.str; have e2 := hy.str
        subst e1 e2
        exact op_add_str pins s σ H _ _ u u' Q I rv rw' ⟨a, b, rfl, rfl, by rw [line16]; exact hz, q.here rfl⟩
      · rw [if_neg hz] at e'; cases e'
    | _ => exact nomatch e
  | tup a =>
    cases y with
    | tup b =>
      have e' : (if a.length + b.length ≤ 16777216 then some (D.tup (a ++ b)) else none) = some d := e
      by_cases hz : a.length + b.length ≤ 16777216
      · rw [if_pos hz] at e'
        cases e'
        obtain ⟨p, vs, rfl, ha, ra⟩ := hx.tup
        obtain ⟨p', ws, rfl, hb, rb⟩ := hy.tup
        have l1 := relL_length ra
        have l2 := relL_length rb
        by_cases hn : vs = []
        · subst hn
          have : a = [] := by cases a with | nil => rfl | cons _ _ => simp at l1
          subst this
          exact op_catT0 pins s σ H _ _ u u' Q I rv rw' ⟨p, p', ws, rfl, rfl, ha.sq, hb.sq, q.here ⟨p', ws, rfl, hb, rb⟩⟩
        · refine op_catT pins s σ H _ _ u u' Q I rv rw' ⟨p, p', vs, ws, rfl, rfl, ha.sq, hb.sq, hn, by rw [line16, ← l1, ← l2]; exact hz, fun hw => ?_, fun hw t ht => ?_⟩
          · subst hw
            have : b = [] := by cases b with | nil => rfl | cons _ _ => simp at l2
            subst this
            refine q.here ⟨p, vs, rfl, ha, ?_⟩
            rw [List.append_nil]; exact ra
          · have st : Step m H m (upd H t (.tup (vs ++ ws))) := own.to_step (Same.laid ht)
            refine q _ _ (Same.laid ht) ⟨t, vs ++ ws, rfl, .inl ⟨.inl upd_same, own.fresh ht⟩, relL_append (RelL.step st a ra) (RelL.step st b rb)⟩
      · rw [if_neg hz] at e'; cases e'
    | _ => exact nomatch e
  | _ => cases y <;> exact nomatch e
/-- an operation that has a meaning on ints alone -/
theorem od_ints {op : Operator} {C : Int → Int → Prop} {g : Int → Int → Int} (ho : OpR X (binaryOp op) (rI C fun i j => .int (g i j)))
    (hf : ∀ x y d, opBin op x y = some d → ∃ i j, x = .int i ∧ y = .int j ∧ C i j ∧ d = .int (g i j)) : OpR X (binaryOp op) (rD2 X.K (opBin op)) := by
  intro pins s σ H v w u u' Q I rv rw' h
  obtain ⟨P, m, x, y, d, own, hx, hy, e, q⟩ := h
  obtain ⟨i, j, rfl, rfl, hc, rfl⟩ := hf x y d e
  have e1 := hx.int; have e2 := hy.int
  subst e1 e2
  exact ho pins s σ H _ _ u u' Q I rv rw' ⟨i, j, rfl, rfl, hc, q.here rfl⟩
theorem od_sub : OpR X (binaryOp .Sub) (rD2 X.K (opBin .Sub)) := od_ints (C := fun _ _ => True) (g := fun i j => i - j) (fun pins s σ H x y v u Q I rx ry ⟨i, j, e1, e2, _, q⟩ => op_sub pins s σ H x y v u Q I rx ry ⟨i, j, e1, e2, q⟩)
  fun x y d e => by
    cases x <;> cases y <;> first | (cases (show (none : Option _) = some _ from e)) | (cases (show some _ = some d from e); exact ⟨_, _, rfl, rfl, trivial, rfl⟩)
theorem foldl_rs (a : Array Nat) : ∀ (m : Nat) (acc : Array Nat), List.foldl (fun x1 x2 => x1 ++ x2) acc (List.replicate m a) = acc ++ (List.replicate m a.toList).flatten.toArray
  | 0, acc => by simp
  | m + 1, acc => by
    rw [List.replicate_succ, List.foldl_cons, foldl_rs a m, List.replicate_succ, List.flatten_cons]
    apply Array.ext'
    simp
theorem repS_one (x : Str) : repS x 1 = x := by
  unfold repS
  have : (1 : Int).toNat = 1 := rfl
  rw [this]
  simp
theorem repS_none {x : Str} {j : Int} (h : j < 1) : repS x j = Str.empty := by
  unfold repS
  have : j.toNat = 0 := by omega
  rw [this]; rfl
theorem repS_empty {x : Str} {j : Int} (h : x.length = 0) : repS x j = x := by
  have e : x.cps.toList = [] := by
    have : x.cps.size = 0 := h
    apply List.eq_nil_of_length_eq_zero
    rw [Array.length_toList]; exact this
  unfold repS
  rw [e]
  have : ∀ n : Nat, (List.replicate n ([] : List Nat)).flatten = [] := fun n => by induction n with
    | zero => rfl
    | succ n ih => rw [List.replicate_succ, List.flatten_cons, ih]; rfl
  rw [this]
  cases x with
  | mk c =>
    have e' : c = #[] := by apply Array.ext'; simpa using e
    rw [e']
theorem repS_len (x : Str) (j : Int) : (repS x j).length = x.length * j.toNat := by
  show (List.replicate j.toNat x.cps.toList).flatten.toArray.size = _
  rw [List.size_toArray, PyProof.Rows.lm_len_rep_flat, Array.length_toList, Nat.mul_comm]; rfl
theorem op_mulS : OpR X (binaryOp .Mult) (fun x y H Q => ∃ i j, x = .str i ∧ y = .int j ∧ (-(2 ^ 62) < j ∧ j < 2 ^ 32 ∧ i.length * j.toNat ≤ 16777216) ∧ Q (.str (repS i j)) H) := by
  intro pins s σ H x y v u Q I rx ry h
  obtain ⟨i, j, rfl, rfl, ⟨h1, h2, h3⟩, q⟩ := h
  obtain ⟨t, rfl⟩ := rx
  obtain ⟨t', rfl⟩ := ry
  refine P.mul_str ?_ (fun n1 n2 => ?_) (fun n1 n2 => ?_) ?_
  · rw [decide_eq_false (by omega), decide_eq_false (by omega)]; rfl
  · have hp : (1 : Int) ≤ j := by omega
    have hl : (i.length : Int) ≤ 16777216 := by
      have h5 : i.length * 1 ≤ i.length * j.toNat := Nat.mul_le_mul_left _ (by omega)
      omega
    have hd : (16777216 : Int) ≤ (2 ^ 63 - 1) / j := by
      rw [Int.le_ediv_iff_mul_le (by omega)]
      have : (16777216 : Int) * j ≤ 16777216 * 2 ^ 32 := Int.mul_le_mul_of_nonneg_left (by omega) (by omega)
      omega
    omega
  · exact Bool.eq_false_iff.mpr fun z => by
      have := (of_decide_eq_true z : sizeLine < i.length * j.toNat)
      rw [line16] at this; omega
  · by_cases n1 : j < 1
    · rw [if_pos n1, ← repS_none (x := i) n1]
      exact ⟨by rw [repS_len]; rw [line16]; exact h3, .str (repS i j), H, I.tok _, ⟨_, rfl⟩, q⟩
    · rw [if_neg n1]
      by_cases n2 : (j == 1 || i.length == 0) = true
      · rw [if_pos n2]
        have e : repS i j = i := by
          rw [Bool.or_eq_true] at n2
          rcases n2 with n2 | n2
          · have : j = 1 := by simpa using n2
            subst this; exact repS_one i
          · exact repS_empty (by simpa using n2)
        rw [e] at q
        exact ⟨.str i, H, I, ⟨_, rfl⟩, q⟩
      · rw [if_neg n2]
        have e : (⟨(List.replicate j.toNat i.cps).foldl (· ++ ·) #[]⟩ : Str) = repS i j := by
          unfold repS
          rw [foldl_rs]; simp
        rw [e]
        exact ⟨by rw [repS_len]; rw [line16]; exact h3, .str (repS i j), H, I.tok _, ⟨_, rfl⟩, q⟩
theorem od_mul : OpR X (binaryOp .Mult) (rD2 X.K (opBin .Mult)) := by
  intro pins s σ H v w u u' Q I rv rw' h
  obtain ⟨P, m, x, y, d, own, hx, hy, e, q⟩ := h
  cases x with
  | int i =>
    cases y with
    | int j =>
      have e1 := hx.int; have e2 := hy.int
      subst e1 e2
      have e' : (if okMul i j then some (D.int (i * j)) else none) = some d := e
      by_cases hz : okMul i j
      · rw [if_pos hz] at e'; cases e'; exact op_mul pins s σ H _ _ u u' Q I rv rw' ⟨i, j, rfl, rfl, hz, q.here rfl⟩
      · rw [if_neg hz] at e'; cases e'
    | _ => exact nomatch e
  | str i =>
    cases y with
    | int j =>
      have e1 := hx.str; have e2 := hy.int
      subst e1 e2
      have e' : (if -(2 ^ 62) < j ∧ j < 2 ^ 32 ∧ i.length * j.toNat ≤ 16777216 then some (D.str (repS i j)) else none) = some d := e
      by_cases hz : -(2 ^ 62) < j ∧ j < 2 ^ 32 ∧ i.length * j.toNat ≤ 16777216
      · rw [if_pos hz] at e'; cases e'; exact op_mulS pins s σ H _ _ u u' Q I rv rw' ⟨i, j, rfl, rfl, hz, q.here rfl⟩
      · rw [if_neg hz] at e'; cases e'
    | _ => exact nomatch e
  | _ => cases y <;> exact nomatch e
theorem od_and : OpR X (binaryOp .BitAnd) (rD2 X.K (opBin .BitAnd)) := by
  intro pins s σ H v w u u' Q I rv rw' h
  obtain ⟨P, m, x, y, d, own, hx, hy, e, q⟩ := h
  cases x with
  | int i =>
    cases y with
    | int j =>
      have e1 := hx.int; have e2 := hy.int
      subst e1 e2
      have e' : (if j = 255 then some (D.int (i % 256)) else none) = some d := e
      by_cases hz : j = 255
      · rw [if_pos hz] at e'; cases e'; subst hz; exact op_andM pins s σ H _ _ u u' Q I rv rw' ⟨i, 8, rfl, rfl, q.here rfl⟩
      · rw [if_neg hz] at e'; cases e'
    | _ => exact nomatch e
  | _ => cases y <;> exact nomatch e
theorem od_fdiv : OpR X (binaryOp .FloorDiv) (rD2 X.K (opBin .FloorDiv)) := od_ints (C := CDiv) (g := fun i j => i / j) op_fdiv
  fun x y d e => by
    cases x <;> cases y <;> first | (cases (show (none : Option _) = some _ from e)) | skip
    rename_i i j
    have e' : (if 0 < j ∧ j < 1073741824 then some (D.int (i / j)) else none) = some d := e
    by_cases hz : 0 < j ∧ j < 1073741824
    · rw [if_pos hz] at e'; cases e'; exact ⟨_, _, rfl, rfl, hz, rfl⟩
    · rw [if_neg hz] at e'; cases e'
theorem od_mod : OpR X (binaryOp .Mod) (rD2 X.K (opBin .Mod)) := od_ints (C := fun _ j => 0 < j) (g := fun i j => i % j) op_mod
  fun x y d e => by
    cases x <;> cases y <;> first | (cases (show (none : Option _) = some _ from e)) | skip
    rename_i i j
    have e' : (if 0 < j then some (D.int (i % j)) else none) = some d := e
    by_cases hz : 0 < j
    · rw [if_pos hz] at e'; cases e'; exact ⟨_, _, rfl, rfl, hz, rfl⟩
    · rw [if_neg hz] at e'; cases e'
theorem od_bin {op : Operator} (h : op = .Add ∨ op = .Sub ∨ op = .Mult ∨ op = .FloorDiv ∨ op = .Mod ∨ op = .BitAnd) : OpR X (binaryOp op) (rD2 X.K (opBin op)) := by
  rcases h with rfl | rfl | rfl | rfl | rfl | rfl
  · exact od_add
  · exact od_sub
  · exact od_mul
  · exact od_fdiv
  · exact od_mod
  · exact od_and

/-! ### comparisons -/
def rC2 (K : PySem.W.Frag) (op : CmpOp) : R2 := fun v w H Q => ∃ P m x y k, Own P m H ∧ RelB K P m H x v ∧ RelB K P m H y w ∧ opCmp op x y = some k ∧ Q (.bl k) H
theorem scal_of {K : PySem.W.Frag} {P : Addr → Prop} {m : List Addr} {H : Hp} {x y : D} {v w : V} {k : Bool} (hx : RelB K P m H x v) (hy : RelB K P m H y w) (e : scalD x y = some k) : scal v w = true ∧ decide (v = w) = k := by
  cases x <;> cases y <;> first
    | (cases (show (none : Option _) = some _ from e))
    | (first | (have e1 := hx.int) | (have e1 := hx.str) | (have e1 := hx.bl) | (have e1 := hx.non)
       first | (have e2 := hy.int) | (have e2 := hy.str) | (have e2 := hy.bl) | (have e2 := hy.non)
       subst e1 e2
       simp only [scalD, Option.some.injEq] at e
       subst e
       exact ⟨rfl, by simp⟩)
theorem eqV_py {K : PySem.W.Frag} {P : Addr → Prop} {m : List Addr} {H : Hp} {x y : D} {v w : V} (hx : RelB K P m H x v) (hy : RelB K P m H y w) (fx : flatD x = true) (fy : flatD y = true) : eqV v w = PyData.eqv x.py y.py ∧ flatV v = true := by
  cases x <;> cases y <;> first
    | (cases (show false = true from fx))
    | (cases (show false = true from fy))
    | (first | (have e1 := hx.int) | (have e1 := hx.str) | (have e1 := hx.bl) | (have e1 := hx.non)
       first | (have e2 := hy.int) | (have e2 := hy.str) | (have e2 := hy.bl) | (have e2 := hy.non)
       subst e1 e2
       exact ⟨rfl, rfl⟩)
theorem oc_eq (hr : X.A.units + 64 < cLine) : OpR X (compareOp .Eq) (rC2 X.K .Eq) := by
  intro pins s σ H v w u u' Q I rv rw' h
  obtain ⟨P, m, x, y, k, own, hx, hy, e, q⟩ := h
  have e' : eqD x y = some k := e
  unfold eqD at e'
  cases hs : scalD x y with
  | some k' =>
    rw [hs] at e'
    cases e'
    obtain ⟨h1, h2⟩ := scal_of hx hy hs
    exact op_eq pins s σ H _ _ u u' Q I rv rw' ⟨h1, by rw [h2]; exact q⟩
  | none =>
    rw [hs] at e'
    simp only at e'
    split at e'
    · rename_i hc
      obtain ⟨c1, c2, c3, c4⟩ := hc
      cases e'
      exact op_eqD hr pins s σ H _ _ u u' Q I rv rw' ⟨_, _, hx.dp c1, hy.dp c2, c3, c4, q⟩
    · cases e'
theorem oc_ne (hr : X.A.units + 64 < cLine) : OpR X (compareOp .NotEq) (rC2 X.K .NotEq) := by
  intro pins s σ H v w u u' Q I rv rw' h
  obtain ⟨P, m, x, y, k, own, hx, hy, e, q⟩ := h
  have e' : (eqD x y).map (!·) = some k := e
  unfold eqD at e'
  cases hs : scalD x y with
  | some k' =>
    rw [hs] at e'
    cases e'
    obtain ⟨h1, h2⟩ := scal_of hx hy hs
    exact op_ne pins s σ H _ _ u u' Q I rv rw' ⟨h1, by rw [h2]; exact q⟩
  | none =>
    rw [hs] at e'
    simp only at e'
    split at e'
    · rename_i hc
      obtain ⟨c1, c2, c3, c4⟩ := hc
      cases e'
      exact op_neD hr pins s σ H _ _ u u' Q I rv rw' ⟨_, _, hx.dp c1, hy.dp c2, c3, c4, q⟩
    · cases e'
theorem ltD_data {x y : D} {k : Bool} (e : ltD x y = some k) : (∃ i j, x = .int i ∧ y = .int j ∧ k = decide (i < j)) ∨ (∃ i j, x = .str i ∧ y = .str j ∧ k = decide (i.cps.toList < j.cps.toList)) ∨
    (x.flat = true ∧ y.flat = true ∧ PySem.W.alike x.py y.py = true ∧ x.isN = false ∧ x.py.depth ≤ 32 ∧ y.py.depth ≤ 32 ∧ k = PySem.W.dataLt x.py y.py) := by
  unfold ltD at e
  split at e
  · cases e; exact .inl ⟨_, _, rfl, rfl, rfl⟩
  · cases e; exact .inr (.inl ⟨_, _, rfl, rfl, rfl⟩)
  · split at e
    · rename_i hc
      obtain ⟨c1, c2, c3, c4, c5, c6⟩ := hc
      cases e
      exact .inr (.inr ⟨c1, c2, c3, c4, c5, c6, rfl⟩)
    · cases e
theorem notN {x : D} (h : x.isN = false) (hf : x.flat = true) : x.py ≠ .none := by
  cases x <;> first | (cases (show true = false from h)) | (cases (show false = true from hf)) | (rw [D.py]; exact fun z => nomatch z)
section
variable {pins : List (Addr × Obj)} {s : Shared} {σ : L2.St} {H : Hp} {P : Addr → Prop} {m : List Addr} {x y : D} {v w : V} {u u' : Value} {Q : VK} {k : Bool}
theorem cmp_lt (hr : X.A.units + 64 < cLine) (I : Inv X pins σ H s) (rv : RelV v u) (rw' : RelV w u') (hx : RelB X.K P m H x v) (hy : RelB X.K P m H y w) (e : ltD x y = some k) (q : Q (.bl k) H) :
    wpAny (model X.prog X.w) X.A (compareOp .Lt u u') (EP X pins σ Q) X.xe s := by
  rcases ltD_data e with ⟨i, j, rfl, rfl, rfl⟩ | ⟨i, j, rfl, rfl, rfl⟩ | ⟨c1, c2, c3, c4, c5, c6, rfl⟩
  · have e1 := hx.int; have e2 := hy.int
    subst e1 e2
    exact op_lt pins s σ H _ _ u u' Q I rv rw' ⟨i, j, rfl, rfl, q⟩
  · have e1 := hx.str; have e2 := hy.str
    subst e1 e2
    exact op_lt_str pins s σ H _ _ u u' Q I rv rw' ⟨i, j, rfl, rfl, q⟩
  · obtain ⟨as, r1⟩ := Dp.reads I _ v u (hx.dp c1) rv
    obtain ⟨bs, r2⟩ := Dp.reads I _ w u' (hy.dp c2) rw'
    exact PySem.W.lt_data r1 r2 c3 (notN c4 c1) (by have := Nat.min_le_left x.py.depth y.py.depth; omega) ⟨.bl _, H, I, rfl, q⟩
theorem cmp_gt (hr : X.A.units + 64 < cLine) (I : Inv X pins σ H s) (rv : RelV v u) (rw' : RelV w u') (hx : RelB X.K P m H x v) (hy : RelB X.K P m H y w) (e : ltD y x = some k) (q : Q (.bl k) H) :
    wpAny (model X.prog X.w) X.A (compareOp .Gt u u') (EP X pins σ Q) X.xe s := by
  rcases ltD_data e with ⟨i, j, rfl, rfl, rfl⟩ | ⟨i, j, rfl, rfl, rfl⟩ | ⟨c1, c2, c3, c4, c5, c6, rfl⟩
  · have e1 := hx.int; have e2 := hy.int
    subst e1 e2
    exact op_gt pins s σ H _ _ u u' Q I rv rw' ⟨j, i, rfl, rfl, q⟩
  · have e1 := hx.str; have e2 := hy.str
    subst e1 e2
    exact op_gt_str pins s σ H _ _ u u' Q I rv rw' ⟨j, i, rfl, rfl, q⟩
  · obtain ⟨as, r1⟩ := Dp.reads I _ v u (hx.dp c2) rv
    obtain ⟨bs, r2⟩ := Dp.reads I _ w u' (hy.dp c1) rw'
    have c3' : PySem.W.alike x.py y.py = true := by rw [PySem.W.alike_comm]; exact c3
    exact PySem.W.gt_data r1 r2 c3' (PySem.W.ne_none_both c3 (notN c4 c1)) (by have := Nat.min_le_left x.py.depth y.py.depth; omega) ⟨.bl _, H, I, rfl, q⟩
theorem int_le (i j : Int) : (!decide (j < i)) = decide (i ≤ j) := by
  by_cases h : j < i
  · rw [decide_eq_true h, decide_eq_false (by omega)]; rfl
  · rw [decide_eq_false h, decide_eq_true (by omega)]; rfl
theorem cmp_le (hr : X.A.units + 64 < cLine) (I : Inv X pins σ H s) (rv : RelV v u) (rw' : RelV w u') (hx : RelB X.K P m H x v) (hy : RelB X.K P m H y w) (e : ltD y x = some k) (q : Q (.bl (!k)) H) :
    wpAny (model X.prog X.w) X.A (compareOp .LtE u u') (EP X pins σ Q) X.xe s := by
  rcases ltD_data e with ⟨i, j, rfl, rfl, rfl⟩ | ⟨i, j, rfl, rfl, rfl⟩ | ⟨c1, c2, c3, c4, c5, c6, rfl⟩
  · have e1 := hx.int; have e2 := hy.int
    subst e1 e2
    exact op_le pins s σ H _ _ u u' Q I rv rw' ⟨j, i, rfl, rfl, by show Q (.bl (decide (j ≤ i))) H; rw [← int_le]; exact q⟩
  · have e1 := hx.str; have e2 := hy.str
    subst e1 e2
    exact op_le_str pins s σ H _ _ u u' Q I rv rw' ⟨j, i, rfl, rfl, q⟩
  · obtain ⟨as, r1⟩ := Dp.reads I _ v u (hx.dp c2) rv
    obtain ⟨bs, r2⟩ := Dp.reads I _ w u' (hy.dp c1) rw'
    have c3' : PySem.W.alike x.py y.py = true := by rw [PySem.W.alike_comm]; exact c3
    exact PySem.W.le_data r1 r2 c3' (PySem.W.ne_none_both c3 (notN c4 c1)) (by have := Nat.min_le_left x.py.depth y.py.depth; omega) ⟨.bl _, H, I, rfl, q⟩
theorem cmp_ge (hr : X.A.units + 64 < cLine) (I : Inv X pins σ H s) (rv : RelV v u) (rw' : RelV w u') (hx : RelB X.K P m H x v) (hy : RelB X.K P m H y w) (e : ltD x y = some k) (q : Q (.bl (!k)) H) :
    wpAny (model X.prog X.w) X.A (compareOp .GtE u u') (EP X pins σ Q) X.xe s := by
  rcases ltD_data e with ⟨i, j, rfl, rfl, rfl⟩ | ⟨i, j, rfl, rfl, rfl⟩ | ⟨c1, c2, c3, c4, c5, c6, rfl⟩
  · have e1 := hx.int; have e2 := hy.int
    subst e1 e2
    exact op_ge pins s σ H _ _ u u' Q I rv rw' ⟨i, j, rfl, rfl, by show Q (.bl (decide (j ≤ i))) H; rw [← int_le]; exact q⟩
  · have e1 := hx.str; have e2 := hy.str
    subst e1 e2
    exact op_ge_str pins s σ H _ _ u u' Q I rv rw' ⟨i, j, rfl, rfl, q⟩
  · obtain ⟨as, r1⟩ := Dp.reads I _ v u (hx.dp c1) rv
    obtain ⟨bs, r2⟩ := Dp.reads I _ w u' (hy.dp c2) rw'
    exact PySem.W.ge_data r1 r2 c3 (notN c4 c1) (by have := Nat.min_le_left x.py.depth y.py.depth; omega) ⟨.bl _, H, I, rfl, q⟩
theorem map_not {o : Option Bool} (e : o.map (!·) = some k) : ∃ k', o = some k' ∧ k = !k' := by
  cases o with
  | none => cases e
  | some k' => cases e; exact ⟨k', rfl, rfl⟩
theorem non_iff (hx : RelB X.K P m H x v) : decide (v = .non) = (match x with | .non => true | _ => false) := by
  cases x with
  | non => have e := hx.non; subst e; rfl
  | bl b => have e := hx.bl; subst e; rfl
  | int b => have e := hx.int; subst e; rfl
  | str b => have e := hx.str; subst e; rfl
  | tup ds => obtain ⟨a, vs, rfl, _⟩ := hx.tup; rfl
  | lst ds => obtain ⟨a, vs, rfl, _⟩ := hx.lst; rfl
  | obj n => obtain ⟨a, rfl, _⟩ := hx.obj; rfl
/-- in, not in -/
theorem inD_cases {c : D} {k : Bool} (e : inD x c = some k) : (∃ (ch : Nat) (z : Str), x = .str ⟨#[ch]⟩ ∧ c = .str z ∧ k = decide (ch ∈ z.cps.toList)) ∨
    (∃ ds, (c = .lst ds ∨ c = .tup ds) ∧ flatD x = true ∧ ds.all flatD = true ∧ k = ds.any fun d => PyData.eqv d.py x.py) := by
  unfold inD at e
  split at e
  · rename_i a z
    split at e
    · rename_i ch hc
      cases e
      refine .inl ⟨ch, z, ?_, rfl, rfl⟩
      obtain ⟨cp⟩ := a
      simp only at hc
      rw [hc]
    · cases e
  · rename_i _ _ hne
    cases hq : isSeq c with
    | none => rw [hq] at e; cases e
    | some ds =>
      rw [hq] at e
      simp only at e
      have hc : c = .lst ds ∨ c = .tup ds := by
        cases c <;> first | (cases (show (none : Option _) = some _ from hq)) | skip
        · cases (show some _ = some _ from hq); exact .inr rfl
        · cases (show some _ = some _ from hq); exact .inl rfl
      split at e
      · rename_i hz
        cases e
        exact .inr ⟨ds, hc, hz.1, hz.2, rfl⟩
      · cases e
theorem any_eqV (hx : RelB X.K P m H x v) (fx : flatD x = true) : ∀ {ds : List D} {vs : List V}, RelL X.K P m H ds vs → ds.all flatD = true → (vs.any fun y => eqV y v) = (ds.any fun d => PyData.eqv d.py x.py) ∧ vs.all flatV = true
  | [], _, h, _ => by cases h; exact ⟨rfl, rfl⟩
  | d :: ds, _, h, hf => by
    obtain ⟨y, ys, rfl, h1, h2⟩ := h
    rw [List.all_cons, Bool.and_eq_true] at hf
    obtain ⟨q1, q2⟩ := any_eqV hx fx h2 hf.2
    obtain ⟨p1, p2⟩ := eqV_py (.inl h1) hx hf.1 fx
    exact ⟨by rw [List.any_cons, List.any_cons, p1, q1], by rw [List.all_cons, p2, q2]; rfl⟩
theorem flat_of (hx : RelB X.K P m H x v) (fx : flatD x = true) : flatV v = true := (eqV_py hx hx fx fx).2
end
theorem oc_in : OpR X (compareOp .In) (rC2 X.K .In) := by
  intro pins s σ H v w u u' Q I rv rw' h
  obtain ⟨P, m, x, y, k, own, hx, hy, e, q⟩ := h
  rcases inD_cases (show inD x y = some k from e) with ⟨ch, z, rfl, rfl, rfl⟩ | ⟨ds, hc, fx, fd, rfl⟩
  · have e1 := hx.str; have e2 := hy.str
    subst e1 e2
    exact op_in_sign pins s σ H _ _ u u' Q I rv rw' ⟨ch, z, rfl, rfl, q⟩
  · have : ∃ p vs, w = .ref p ∧ (SqL X.K H p vs ∨ SqT X.K H p vs) ∧ RelL X.K P m H ds vs := by
      rcases hc with rfl | rfl
      · obtain ⟨p, vs, rfl, hl, r⟩ := hy.lst; exact ⟨p, vs, rfl, .inl hl, r⟩
      · obtain ⟨p, vs, rfl, hl, r⟩ := hy.tup; exact ⟨p, vs, rfl, .inr hl.sq, r⟩
    obtain ⟨p, vs, rfl, hl, r⟩ := this
    obtain ⟨q1, q2⟩ := any_eqV hx fx r fd
    exact op_in_seq pins s σ H _ _ u u' Q I rv rw' ⟨p, vs, rfl, hl, flat_of hx fx, q2, by show Q (.bl (inV v vs)) H; unfold inV; rw [q1]; exact q⟩
theorem oc_notin : OpR X (compareOp .NotIn) (rC2 X.K .NotIn) := by
  intro pins s σ H v w u u' Q I rv rw' h
  obtain ⟨P, m, x, y, k, own, hx, hy, e, q⟩ := h
  obtain ⟨k', e', rfl⟩ := map_not (show (inD x y).map (!·) = some k from e)
  rcases inD_cases e' with ⟨ch, z, rfl, rfl, rfl⟩ | ⟨ds, hc, fx, fd, rfl⟩
  · have e1 := hx.str; have e2 := hy.str
    subst e1 e2
    exact op_notIn_sign pins s σ H _ _ u u' Q I rv rw' ⟨ch, z, rfl, rfl, q⟩
  · have : ∃ p vs, w = .ref p ∧ (SqL X.K H p vs ∨ SqT X.K H p vs) ∧ RelL X.K P m H ds vs := by
      rcases hc with rfl | rfl
      · obtain ⟨p, vs, rfl, hl, r⟩ := hy.lst; exact ⟨p, vs, rfl, .inl hl, r⟩
      · obtain ⟨p, vs, rfl, hl, r⟩ := hy.tup; exact ⟨p, vs, rfl, .inr hl.sq, r⟩
    obtain ⟨p, vs, rfl, hl, r⟩ := this
    obtain ⟨q1, q2⟩ := any_eqV hx fx r fd
    exact op_notIn_seq pins s σ H _ _ u u' Q I rv rw' ⟨p, vs, rfl, hl, flat_of hx fx, q2, by show Q (.bl (!inV v vs)) H; unfold inV; rw [q1]; exact q⟩
theorem oc_all (hr : X.A.units + 64 < cLine) (op : CmpOp) : OpR X (compareOp op) (rC2 X.K op) := by
  cases op with
  | Eq => exact oc_eq hr
  | NotEq => exact oc_ne hr
  | In => exact oc_in
  | NotIn => exact oc_notin
  | Lt => exact fun pins s σ H v w u u' Q I rv rw' ⟨P, m, x, y, k, own, hx, hy, e, q⟩ => cmp_lt hr I rv rw' hx hy e q
  | Gt => exact fun pins s σ H v w u u' Q I rv rw' ⟨P, m, x, y, k, own, hx, hy, e, q⟩ => cmp_gt hr I rv rw' hx hy e q
  | LtE =>
    intro pins s σ H v w u u' Q I rv rw' ⟨P, m, x, y, k, own, hx, hy, e, q⟩
    obtain ⟨k', e', rfl⟩ := map_not (show (ltD y x).map (!·) = some k from e)
    exact cmp_le hr I rv rw' hx hy e' q
  | GtE =>
    intro pins s σ H v w u u' Q I rv rw' ⟨P, m, x, y, k, own, hx, hy, e, q⟩
    obtain ⟨k', e', rfl⟩ := map_not (show (ltD x y).map (!·) = some k from e)
    exact cmp_ge hr I rv rw' hx hy e' q
  | Is =>
    intro pins s σ H v w u u' Q I rv rw' ⟨P, m, x, y, k, own, hx, hy, e, q⟩
    cases y <;> first | (cases (show (none : Option _) = some _ from e)) | skip
    · have e2 := hy.non
      subst e2
      refine op_isN pins s σ H _ _ u u' Q I rv rw' ⟨rfl, ?_⟩
      rw [non_iff hx]
      cases x <;> (cases (show some _ = some k from e); exact q)
    · cases x <;> first | (cases (show (none : Option _) = some _ from e)) | skip
      have e1 := hx.bl
      have e2 := hy.bl
      subst e1 e2
      cases (show some _ = some k from e)
      exact op_isBl pins s σ H _ _ u u' Q I rv rw' ⟨_, _, rfl, rfl, q⟩
  | IsNot =>
    intro pins s σ H v w u u' Q I rv rw' ⟨P, m, x, y, k, own, hx, hy, e, q⟩
    cases y <;> first | (cases (show (none : Option _) = some _ from e)) | skip
    · have e2 := hy.non
      subst e2
      refine op_notN pins s σ H _ _ u u' Q I rv rw' ⟨rfl, ?_⟩
      rw [non_iff hx]
      cases x <;> (cases (show some _ = some k from e); exact q)
    · cases x <;> first | (cases (show (none : Option _) = some _ from e)) | skip
      have e1 := hx.bl
      have e2 := hy.bl
      subst e1 e2
      cases (show some _ = some k from e)
      exact op_notBl pins s σ H _ _ u u' Q I rv rw' ⟨_, _, rfl, rfl, q⟩
end
end Fx

set_option Elab.async false
set_option linter.all false
set_option maxRecDepth 100000
set_option maxHeartbeats 1000000
/-! Fx 4: what the text's form alone says. -/
namespace Fx
open PySem PySem.Spec PyProof.Rows L2

def noStar : Expr → Bool
  | .Starred _ _ => false
  | _ => true
def noSup : Expr → Bool
  | .Call (.Name _ _) _ _ _ => false
  | _ => true
def noSlice : Expr → Bool
  | .Slice _ _ _ _ => false
  | _ => true
def noComp : Expr → Bool
  | .ListComp _ _ _ _ => false
  | .SetComp _ _ _ _ => false
  | .DictComp _ _ _ _ _ => false
  | _ => true
def noSet : Expr → Bool
  | .Set _ _ _ => false
  | _ => true
/-- its test is its value's truth -/
def plainTest : Expr → Bool
  | .UnaryOp .Not _ _ => false
  | .BoolOp _ _ _ => false
  | .IfExp _ _ _ _ => false
  | .Compare _ _ _ _ => false
  | _ => true
section
variable {env : Env} {e : Expr} {es : List Expr}
theorem star_cons (h : noStar e = true) : starEach (e :: es) env = (false, eval e env) :: starEach es env := by
  cases e <;> first | rfl | (cases (show false = true from h))
theorem star_any (pos : Pos) : ∀ {es : List Expr}, es.all noStar = true → (backTo pos (starEach es env)).any (·.1) = false
  | [], _ => rfl
  | e :: es, h => by
    rw [List.all_cons, Bool.and_eq_true] at h
    rw [star_cons h.1]
    show (false || (backTo pos (starEach es env)).any (·.1)) = false
    rw [star_any pos h.2]; rfl
theorem star_all (pos : Pos) : ∀ {es : List Expr}, es.all noStar = true → (backTo pos (starEach es env)).all (fun x => !x.1) = true
  | [], _ => rfl
  | e :: es, h => by
    rw [List.all_cons, Bool.and_eq_true] at h
    rw [star_cons h.1]
    show (true && (backTo pos (starEach es env)).all (fun x => !x.1)) = true
    rw [star_all pos h.2]; rfl
theorem base_plain {f : Str} {whole : Sem Value} (h : noSup e = true) : attributeBase e f env whole = whole := by
  cases e <;> first | rfl | skip
  rename_i func args kws pos
  cases func <;> first | rfl | (cases (show false = true from h))
theorem ix_plain (h : noSlice e = true) : ∀ o i, subscripted e false o i = operate [o, i] (getItem o i) := by
  intro o i
  cases e <;> first | rfl | (cases (show false = true from h))
theorem swap_none {l : Nat} (h : noComp e = true) : swapsWith e none l env = pure false := by
  cases e <;> first | rfl | (cases (show false = true from h))
theorem swap_some {t : Expr} {l : Nat} (h : noComp e = true) : swapsWith e (some t) l env = pure false := by
  cases e <;> first | rfl | (cases (show false = true from h))
theorem swap_attr {o : Expr} {f : Str} {p : Pos} {l : Nat} : swapsWith e (some (.Attribute o f p)) l env = pure false := by
  cases e <;> rfl
theorem swap_sub {o i : Expr} {p : Pos} {l : Nat} : swapsWith e (some (.Subscript o i p)) l env = pure false := by
  cases e <;> rfl
theorem swap_tup {ts : List Expr} {k : Nat} {p : Pos} {l : Nat} : swapsWith e (some (.Tuple ts k p)) l env = pure false := by
  cases e <;> rfl
theorem set_plain' (h : noSet e = true) : ∀ x, foldedSetIterable e env x = pure x := by
  intro x
  cases e <;> first | rfl | (cases (show false = true from h))
theorem marks_plain {op : CmpOp} (h : noSet e = true) : behindInMarks op e = false := by
  cases e <;> first | rfl | (cases (show false = true from h))
theorem marks2_plain {op op' : CmpOp} {b : Expr} (h : noSet e = true) : lastMarks [op, op'] [b, e] = false := marks_plain h
theorem test_plain (h : plainTest e = true) : ∀ whole, isTrue e env whole = (do let v ← whole; standAt e.pos; holding [v] (truthy v)) := by
  intro whole
  cases e <;> first | rfl | (cases (show false = true from h)) | skip
  rename_i op x p
  cases op <;> first | rfl | (cases (show false = true from h))
theorem meth_plain {o : Expr} {m : Str} {apos pos : Pos} {args : List Expr} (hb : noSup o = true) (hs : args.all noStar = true) (hl : (apos.endLine == pos.line) = true) (hn : args.length < 29) :
    ∃ pl : Sem Bool, eval (.Call (.Attribute o m apos) args [] pos) env = (do
      let ov ← eval o env
      standAt apos.atName
      let (f, first) ← holding [ov] (getMethod ov m pl)
      callWith pos f first (backTo pos (starEach args env)) (backToKw pos (keywordEach [] env))) := by
  refine ⟨(do return (← importBound o env).getD true), ?_⟩
  have few : methodCallForm (args.length + ([] : List Keyword).length) (backTo pos (starEach args env)) (backToKw pos (keywordEach [] env)) = true := by
    unfold methodCallForm
    rw [star_all pos hs]
    show (true && true && decide (args.length + 0 + 0 < 30)) = true
    rw [decide_eq_true (by omega)]; rfl
  rw [arm_eval_Call, base_plain hb]
  unfold methodCall calleeOf methodCallPos
  rw [few, hl]
  rfl
end
end Fx

set_option Elab.async false
set_option linter.all false
set_option maxRecDepth 100000
set_option maxHeartbeats 1000000
/-! Fx 5: expressions: what the language says of them, the machine does. -/
namespace Fx
open PySem PySem.Spec PyProof.Rows L2

abbrev TX (K : PySem.W.Frag) (Y : Rd') (g : G) (x : X) : TE := TG K Y (X.ev g x) (rhoD K)
abbrev TL (K : PySem.W.Frag) (Y : Rd') (g : G) (x : L) : TE := TG K Y (L.ev g x) (rhoB K)
abbrev TXS (K : PySem.W.Frag) (Y : Rd') (g : G) (x : XS) : TA := TG K Y (XS.ev g x) (rhoL K)
abbrev TXO (K : PySem.W.Frag) (Y : Rd') (g : G) (x : XO) : TO := TG K Y (XO.ev g x) rhoEq
abbrev TC (K : PySem.W.Frag) (Y : Rd') (g : G) (c : C) : TT := TG K Y (C.ev g c) rhoEq
abbrev TF (K : PySem.W.Frag) (Y : Rd') (g : G) (f : F) : TE := TG K Y (F.ev g f) (rhoF K)

section
variable {Z : Cx}
theorem _root_.L2.PE.imp {e : Expr} {t t' : TE} (h : PE Z e t) (k : ∀ σ H Q, t' σ H Q → t σ H Q) : PE Z e t' := ⟨fun pins s σ H Q I q => h.run pins s σ H Q I (k σ H Q q)⟩
theorem _root_.L2.PT.imp {e : Expr} {t t' : TT} (h : PT Z e t) (k : ∀ σ H Q, t' σ H Q → t σ H Q) : PT Z e t' := ⟨fun pins s σ H Q I q => h.run pins s σ H Q I (k σ H Q q)⟩
theorem _root_.L2.PW.imp {e : Expr} {t t' : TT} (h : PW Z e t) (k : ∀ σ H Q, t' σ H Q → t σ H Q) : PW Z e t' := ⟨fun wh pins s σ H Q I q => h.run wh pins s σ H Q I (k σ H Q q)⟩
theorem _root_.L2.PA.imp {e : List Expr} {t t' : TA} (h : PA Z e t) (k : ∀ σ H Q, t' σ H Q → t σ H Q) : PA Z e t' := ⟨fun pos pins s σ H Q I q => h.run pos pins s σ H Q I (k σ H Q q)⟩
theorem _root_.L2.PO.imp {e : Option Expr} {t t' : TO} (h : PO Z e t) (k : ∀ σ H Q, t' σ H Q → t σ H Q) : PO Z e t' := ⟨fun pins s σ H Q I q => h.run pins s σ H Q I (k σ H Q q)⟩
end

section
variable {K : PySem.W.Frag} {Y : Rd'}
/-- a reading's first part: what follows is told of its result -/
theorem TG.first {α β γ : Type} {r1 : En → M α} {r2 : α → En → M γ} {δ : Type} {rho1 : (Addr → Prop) → List Addr → Hp → α → β → Prop} {rho2 : (Addr → Prop) → List Addr → Hp → γ → δ → Prop} {σ : L2.St} {H : Hp} {Q : δ → Hp → Prop} {R : β → Hp → Prop}
    (h : TG K Y (fun env => r1 env >>= fun a => r2 a env) rho2 σ H Q)
    (k : ∀ P m1 env st1 H1 a b, Sat K Y.cls Y.z P m1 H1 env st1 σ → rho1 P m1 H1 a b → Wp (r2 a env st1) (VP K Y rho2 P m1 H1 Q) (XP K Y P m1 σ H1) → R b H1) :
    TG K Y r1 rho1 σ H R := by
  obtain ⟨P, m, env, st, sat, hw⟩ := h
  have hw : Wp (r1 env st) (fun a s' => Wp (r2 a env s') (VP K Y rho2 P m H Q) (XP K Y P m σ H)) (XP K Y P m σ H) := by rw [← wp_seq]; exact hw
  refine ⟨P, m, env, st, sat, hw.imp (fun a st1 h1 m1 H1 b s1 r1' rho => ?_) fun _ _ h => h⟩
  exact k P m1 env st1 H1 a b (sat.step s1 r1') rho (h1.imp (fun _ _ q => q.step s1) fun _ _ q => q.step s1)
/-- .. a later part, within -/
theorem TG.next {α β γ : Type} {r1 : M α} {r2 : α → M γ} {δ : Type} {rho1 : (Addr → Prop) → List Addr → Hp → α → β → Prop} {rho2 : (Addr → Prop) → List Addr → Hp → γ → δ → Prop} {σ : L2.St} {H : Hp} {Q : δ → Hp → Prop} {R : β → Hp → Prop} {P : Addr → Prop} {m : List Addr} {env : En} {st : Sto}
    {run : En → M α} (hrun : run env = r1)
    (sat : Sat K Y.cls Y.z P m H env st σ) (h : Wp ((r1 >>= r2) st) (VP K Y rho2 P m H Q) (XP K Y P m σ H))
    (k : ∀ m1 st1 H1 a b, Step m H m1 H1 → Sat K Y.cls Y.z P m1 H1 env st1 σ → rho1 P m1 H1 a b → Wp (r2 a st1) (VP K Y rho2 P m1 H1 Q) (XP K Y P m1 σ H1) → R b H1) :
    TG K Y run rho1 σ H R := by
  rw [wp_seq, ← hrun] at h
  refine ⟨P, m, env, st, sat, h.imp (fun a st1 h1 m1 H1 b s1 r1' rho => ?_) fun _ _ h => h⟩
  exact k m1 st1 H1 a b s1 (sat.step s1 r1') rho (h1.imp (fun _ _ q => q.step s1) fun _ _ q => q.step s1)
theorem wp_vp {α β : Type} {rho : (Addr → Prop) → List Addr → Hp → α → β → Prop} {P : Addr → Prop} {m : List Addr} {H : Hp} {Q : β → Hp → Prop} {a : α} {st : Sto} {σ : L2.St} (h : Wp ((pure a : M α) st) (VP K Y rho P m H Q) (XP K Y P m σ H)) : VP K Y rho P m H Q a st := h
/-- a new thing that is none of the store's -/
theorem Sat.laid {P : Addr → Prop} {m : List Addr} {H : Hp} {env : En} {st : Sto} {σ : L2.St} {p : Addr} {o : HO} (sat : Sat K Y.cls Y.z P m H env st σ) (hp : H p = none) : Sat K Y.cls Y.z P m (upd H p o) env st σ := sat.step (Step.laid hp) (sat.st.laid hp)
theorem VP.same {P : Addr → Prop} {m : List Addr} {H : Hp} {Q : VK} {d : D} {st : Sto} {env : En} {σ : L2.St} (sat : Sat K Y.cls Y.z P m H env st σ) (h : VP K Y (rhoD K) P m H Q d st) : vD K P m d H Q := fun H' b s r =>
  h m H' b (sat.own.to_step s) (sat.st.same s) r
end

section
variable {Z : Cx} {Y : Rd'} {g : G}

/-! ### constants and names -/
theorem q_const {e : Expr} {v : V} {d : D} (h : PE Z e (tC v)) (r : ∀ P m H, Rel Z.K P m H d v) : PE Z e (TX Z.K Y g (.lit d)) := h.imp fun σ H Q ⟨P, m, env, st, sat, hw⟩ =>
  (show VP Z.K Y (rhoD Z.K) P m H Q d st from hw).here sat.st (r P m H)
theorem q_con {e : Expr} {x : Str} (h : ∀ d, g.con x = some d → ∃ v, PE Z e (tC v) ∧ ∀ P m H, Rel Z.K P m H d v) : PE Z e (TX Z.K Y g (.con x)) := ⟨fun pins s σ H Q I ⟨P, m, env, st, sat, hw⟩ => by
  obtain ⟨d, e1, q⟩ := wp_opt (show Wp (M.opt (g.con x) st) (VP Z.K Y (rhoD Z.K) P m H Q) (XP Z.K Y P m σ H) from hw)
  obtain ⟨v, he, r⟩ := h d e1
  exact he.run pins s σ H Q I (q.here sat.st (r P m H))⟩
theorem En.val_some {env : En} {i : Nat} {d : D} (h : env.val i = some d) : env[i]? = some (.val d) := by
  unfold En.val at h
  split at h
  · rename_i d' e; cases h; exact e
  · cases h
theorem En.own_some {env : En} {i : Nat} {d : List D} (h : env.own i = some d) : env[i]? = some (.own d) := by
  unfold En.own at h
  split at h
  · rename_i d' e; cases h; exact e
  · cases h
theorem En.exc_some {env : En} {i : Nat} {d : Ex} (h : env.exc i = some d) : env[i]? = some (.exc d) := by
  unfold En.exc at h
  split at h
  · rename_i d' e; cases h; exact e
  · cases h
theorem q_var {e : Expr} {i : Nat} (h : PE Z e (tVar i)) : PE Z e (TX Z.K Y g (.var i)) := h.imp fun σ H Q ⟨P, m, env, st, sat, hw⟩ => by
  obtain ⟨d, e1, q⟩ := wp_opt (show Wp (M.opt (env.val i) st) _ _ from hw)
  obtain ⟨v, e2, r⟩ := sat.sl i _ (En.val_some e1)
  exact ⟨v, e2, q.here sat.st r⟩
theorem q_lx {e : Expr} {x : X} (h : PE Z e (TX Z.K Y g x)) : PE Z e (TL Z.K Y g (.x x)) := h.imp fun σ H Q ⟨P, m, env, st, sat, hw⟩ =>
  ⟨P, m, env, st, sat, (show Wp (X.ev g x env st) _ _ from hw).imp (fun a st1 h1 m1 H1 b s1 r1 rho => h1 m1 H1 b s1 r1 (.inl rho)) fun _ _ h => h⟩
theorem q_own {e : Expr} {i : Nat} (h : PE Z e (tVar i)) : PE Z e (TL Z.K Y g (.own i)) := h.imp fun σ H Q ⟨P, m, env, st, sat, hw⟩ => by
  obtain ⟨d, e1, q⟩ := wp_opt (show Wp (M.opt ((env.own i).map D.lst) st) _ _ from hw)
  cases e2 : env.own i with
  | none => rw [e2] at e1; cases e1
  | some ds =>
    rw [e2] at e1
    cases e1
    obtain ⟨a, vs, e3, ha, hp, r⟩ := sat.sl i _ (En.own_some e2)
    exact ⟨.ref a, e3, q.here sat.st (.inr ⟨ds, a, vs, rfl, rfl, ha, hp, r⟩)⟩

/-! ### operators -/
theorem q_bin {a b : Expr} {op : Operator} {xa xb : X} {pos : Pos} (hop : op = .Add ∨ op = .Sub ∨ op = .Mult ∨ op = .FloorDiv ∨ op = .Mod ∨ op = .BitAnd) (ha : PE Z a (TX Z.K Y g xa)) (hb : PE Z b (TX Z.K Y g xb)) :
    PE Z (.BinOp a op b pos) (TX Z.K Y g (.bin op xa xb)) := (pe_op (od_bin hop) ha hb).imp fun σ H Q h => by
  refine TG.first (r1 := X.ev g xa) (r2 := fun x env => X.ev g xb env >>= fun y => M.opt (opBin op x y)) h fun P m1 env st1 H1 x v sat rx hw => ?_
  refine TG.next rfl sat hw fun m2 st2 H2 y w s2 sat2 ry hw2 => ?_
  obtain ⟨d, e, q⟩ := wp_opt hw2
  exact ⟨P, m2, x, y, d, sat2.own, .inl (Rel.step s2 x rx), .inl ry, e, q.same sat2⟩
theorem q_neg {a : Expr} {xa : X} {pos : Pos} (ha : PE Z a (TX Z.K Y g xa)) : PE Z (.UnaryOp .USub a pos) (TX Z.K Y g (.neg xa)) := (pe_un un_neg ha).imp fun σ H Q h => by
  refine TG.first (r1 := X.ev g xa) (r2 := fun x env => match x with
    | .int i => pure (D.int (-i))
    | _ => M.bad) h fun P m1 env st1 H1 x v sat rx hw => ?_
  cases x <;> first | (exact absurd hw id) | skip
  rename_i i
  have rx' : v = .int i := rx
  subst rx'
  exact ⟨i, rfl, (wp_vp hw).here sat.st rfl⟩
theorem q_cmp {a b : Expr} {op : CmpOp} {xa xb : L} {pos : Pos} (hr : Z.A.units + 64 < cLine) (hs : noSet b = true) (ha : PE Z a (TL Z.K Y g xa)) (hb : PE Z b (TL Z.K Y g xb)) :
    PE Z (.Compare a [op] [b] pos) (TX Z.K Y g (.cmp op xa xb)) := (pe_cmpR (oc_all hr op) ha hb (marks_plain hs)).imp fun σ H Q h => by
  refine TG.first (r1 := L.ev g xa) (r2 := fun x env => L.ev g xb env >>= fun y => M.opt ((opCmp op x y).map D.bl)) h fun P m1 env st1 H1 x v sat rx hw => ?_
  refine TG.next rfl sat hw fun m2 st2 H2 y w s2 sat2 ry hw2 => ?_
  obtain ⟨d, e, q⟩ := wp_opt hw2
  cases e1 : opCmp op x y with
  | none => rw [e1] at e; cases e
  | some k => rw [e1] at e; cases e; exact ⟨P, m2, x, y, k, sat2.own, rx.step sat.st.out s2, ry, e1, q.here sat2.st rfl⟩
/-- .. as a test -/
theorem q_cmpT {a b : Expr} {op : CmpOp} {xa xb : L} {pos : Pos} (hr : Z.A.units + 64 < cLine) (hs : noSet b = true) (ha : PE Z a (TL Z.K Y g xa)) (hb : PE Z b (TL Z.K Y g xb)) :
    PT Z (.Compare a [op] [b] pos) (TC Z.K Y g (.x (.cmp op xa xb))) := (pt_cmpR (oc_all hr op) ha hb (marks_plain hs)).imp fun σ H Q ⟨P, m, env, st, sat, hw⟩ => by
  have h : TG Z.K Y (fun env => L.ev g xa env >>= fun x => L.ev g xb env >>= fun y => M.opt (opCmp op x y)) (rhoEq (α := Bool)) σ H Q := by
    refine ⟨P, m, env, st, sat, ?_⟩
    have hw' : Wp (((L.ev g xa env >>= fun x => L.ev g xb env >>= fun y => M.opt ((opCmp op x y).map D.bl)) >>= fun d => match d with | .bl k => pure k | _ => M.bad) st) (VP Z.K Y (rhoEq (α := Bool)) P m H Q) (XP Z.K Y P m σ H) := hw
    rw [wp_seq, wp_seq] at hw'
    rw [wp_seq]
    refine hw'.imp (fun x st1 h1 => ?_) fun _ _ h => h
    rw [wp_seq] at h1 ⊢
    refine h1.imp (fun y st2 h2 => ?_) fun _ _ h => h
    obtain ⟨d, e, q⟩ := wp_opt h2
    cases e1 : opCmp op x y with
    | none => rw [e1] at e; cases e
    | some k => rw [e1] at e; cases e; exact q
  refine TG.first (r1 := L.ev g xa) (r2 := fun x env => L.ev g xb env >>= fun y => M.opt (opCmp op x y)) h fun P m1 env st1 H1 x v sat rx hw => ?_
  refine TG.next rfl sat hw fun m2 st2 H2 y w s2 sat2 ry hw2 => ?_
  obtain ⟨k, e, q⟩ := wp_opt hw2
  exact ⟨P, m2, x, y, k, sat2.own, rx.step sat.st.out s2, ry, e, k, rfl, q.here sat2.st rfl⟩
theorem q_bad {e : Expr} : PE Z e (TX Z.K Y g .bad) := ⟨fun pins s σ H Q I ⟨_, _, _, _, _, hw⟩ => (show False from hw).elim⟩
theorem q_cmpo {a b : Expr} {op : CmpOp} {xa xb : L} {pos : Pos} (hr : Z.A.units + 64 < cLine) (hs : noSet b = true) (ha : PE Z a (TL Z.K Y g xa)) (hb : PE Z b (TL Z.K Y g xb)) :
    PE Z (.Compare a [op] [b] pos) (TX Z.K Y g (.cmpo op xa xb)) := (pe_cmpR (oc_all hr op) ha hb (marks_plain hs)).imp fun σ H Q h => by
  refine TG.first (r1 := L.ev g xa) (r2 := fun x env => L.ev g xb env >>= fun y => M.get >>= fun s => M.opt ((opCmp op (derS s x) (derS s y)).map D.bl)) h fun P m1 env st1 H1 x v sat rx hw => ?_
  refine TG.next rfl sat hw fun m2 st2 H2 y w s2 sat2 ry hw2 => ?_
  rw [wp_seq, wp_get] at hw2
  obtain ⟨d, e, q⟩ := wp_opt hw2
  cases e1 : opCmp op (derS st2 x) (derS st2 y) with
  | none => rw [e1] at e; cases e
  | some k => rw [e1] at e; cases e; exact ⟨Bad P m2, m2, derS st2 x, derS st2 y, k, sat2.own.toBad, (rx.step sat.st.out s2).der sat2.st, ry.der sat2.st, e1, q.here sat2.st rfl⟩
theorem q_cmpoT {a b : Expr} {op : CmpOp} {xa xb : L} {pos : Pos} (hr : Z.A.units + 64 < cLine) (hs : noSet b = true) (ha : PE Z a (TL Z.K Y g xa)) (hb : PE Z b (TL Z.K Y g xb)) :
    PT Z (.Compare a [op] [b] pos) (TC Z.K Y g (.x (.cmpo op xa xb))) := (pt_cmpR (oc_all hr op) ha hb (marks_plain hs)).imp fun σ H Q ⟨P, m, env, st, sat, hw⟩ => by
  have h : TG Z.K Y (fun env => L.ev g xa env >>= fun x => L.ev g xb env >>= fun y => M.get >>= fun s => M.opt (opCmp op (derS s x) (derS s y))) (rhoEq (α := Bool)) σ H Q := by
    refine ⟨P, m, env, st, sat, ?_⟩
    have hw' : Wp (((L.ev g xa env >>= fun x => L.ev g xb env >>= fun y => M.get >>= fun s => M.opt ((opCmp op (derS s x) (derS s y)).map D.bl)) >>= fun d => match d with | .bl k => pure k | _ => M.bad) st) (VP Z.K Y (rhoEq (α := Bool)) P m H Q) (XP Z.K Y P m σ H) := hw
    rw [wp_seq, wp_seq] at hw'
    rw [wp_seq]
    refine hw'.imp (fun x st1 h1 => ?_) fun _ _ h => h
    rw [wp_seq] at h1 ⊢
    refine h1.imp (fun y st2 h2 => ?_) fun _ _ h => h
    rw [wp_seq, wp_get] at h2 ⊢
    obtain ⟨d, e, q⟩ := wp_opt h2
    cases e1 : opCmp op (derS st2 x) (derS st2 y) with
    | none => rw [e1] at e; cases e
    | some k => rw [e1] at e; cases e; exact q
  refine TG.first (r1 := L.ev g xa) (r2 := fun x env => L.ev g xb env >>= fun y => M.get >>= fun s => M.opt (opCmp op (derS s x) (derS s y))) h fun P m1 env st1 H1 x v sat rx hw => ?_
  refine TG.next rfl sat hw fun m2 st2 H2 y w s2 sat2 ry hw2 => ?_
  rw [wp_seq, wp_get] at hw2
  obtain ⟨k, e, q⟩ := wp_opt hw2
  exact ⟨Bad P m2, m2, derS st2 x, derS st2 y, k, sat2.own.toBad, (rx.step sat.st.out s2).der sat2.st, ry.der sat2.st, e, k, rfl, q.here sat2.st rfl⟩
theorem chain_core {xa xb xc : X} {o1 o2 : CmpOp} {σ : L2.St} {H : Hp} {Q : Bool → Hp → Prop}
    (h : TG Z.K Y (fun env => X.ev g xa env >>= fun x => X.ev g xb env >>= fun y => M.opt (opCmp o1 x y) >>= fun k => match k with | true => X.ev g xc env >>= fun z => M.opt (opCmp o2 y z) | false => pure false) (rhoEq (α := Bool)) σ H Q) :
    tChain (rC2 Z.K o1) (rC2 Z.K o2) (TX Z.K Y g xa) (TX Z.K Y g xb) (TX Z.K Y g xc) σ H fun v H' => ∃ k, v = .bl k ∧ Q k H' := by
  refine TG.first (r1 := X.ev g xa) (r2 := fun x env => X.ev g xb env >>= fun y => M.opt (opCmp o1 x y) >>= fun k => match k with | true => X.ev g xc env >>= fun z => M.opt (opCmp o2 y z) | false => pure false) h fun P m1 env st1 H1 x v sat rx hw => ?_
  refine TG.next rfl sat hw fun m2 st2 H2 y w s2 sat2 ry hw2 => ?_
  rw [wp_seq] at hw2
  obtain ⟨k, e, q⟩ := wp_opt hw2
  refine ⟨P, m2, x, y, k, sat2.own, .inl (Rel.step s2 x rx), .inl ry, e, k, rfl, ?_⟩
  cases k with
  | false =>
    rw [if_neg Bool.false_ne_true]
    exact ⟨false, rfl, (wp_vp q).here sat2.st rfl⟩
  | true =>
    rw [if_pos rfl]
    refine TG.next rfl sat2 q fun m3 st3 H3 z w3 s3 sat3 rz hw3 => ?_
    obtain ⟨k, e, q⟩ := wp_opt hw3
    exact ⟨P, m3, y, z, k, sat3.own, .inl (Rel.step s3 y ry), .inl rz, e, k, rfl, q.here sat3.st rfl⟩
theorem chain_turn {xa xb xc : X} {o1 o2 : CmpOp} {P : Addr → Prop} {env : En} {st : Sto} {E : Ex → Sto → Prop} {Q : D → Sto → Prop}
    (hw : Wp (X.ev g (.chain o1 o2 xa xb xc) env st) Q E) :
    Wp ((X.ev g xa env >>= fun x => X.ev g xb env >>= fun y => M.opt (opCmp o1 x y) >>= fun k => match k with | true => X.ev g xc env >>= fun z => M.opt (opCmp o2 y z) | false => pure false) st) (fun k s => Q (.bl k) s) E := by
  have hw' : Wp ((X.ev g xa env >>= fun x => X.ev g xb env >>= fun y => M.opt (opCmp o1 x y) >>= fun k => match k with | true => X.ev g xc env >>= fun z => M.opt ((opCmp o2 y z).map D.bl) | false => pure (D.bl false)) st) Q E := hw
  rw [wp_seq] at hw' ⊢
  refine hw'.imp (fun x st1 h1 => ?_) fun _ _ h => h
  rw [wp_seq] at h1 ⊢
  refine h1.imp (fun y st2 h2 => ?_) fun _ _ h => h
  rw [wp_seq] at h2 ⊢
  refine h2.imp (fun k st3 h3 => ?_) fun _ _ h => h
  cases k with
  | false => exact h3
  | true =>
    have h3' : Wp ((X.ev g xc env >>= fun z => M.opt ((opCmp o2 y z).map D.bl)) st3) Q E := h3
    show Wp ((X.ev g xc env >>= fun z => M.opt (opCmp o2 y z)) st3) _ _
    rw [wp_seq] at h3' ⊢
    refine h3'.imp (fun z st4 h4 => ?_) fun _ _ h => h
    obtain ⟨d, e, q⟩ := wp_opt h4
    cases e1 : opCmp o2 y z with
    | none => rw [e1] at e; cases e
    | some k => rw [e1] at e; cases e; exact q
theorem q_chain {a b c : Expr} {o1 o2 : CmpOp} {xa xb xc : X} {pos : Pos} (hr : Z.A.units + 64 < cLine) (hs : noSet c = true) (ha : PE Z a (TX Z.K Y g xa)) (hb : PE Z b (TX Z.K Y g xb)) (hc : PE Z c (TX Z.K Y g xc)) :
    PE Z (.Compare a [o1, o2] [b, c] pos) (TX Z.K Y g (.chain o1 o2 xa xb xc)) := ⟨fun pins s σ H Q I ⟨P, m, env, st, sat, hw⟩ => by
  have h := chain_core (Z := Z) (Y := Y) (g := g) (xa := xa) (xb := xb) (xc := xc) (o1 := o1) (o2 := o2) (Q := fun k H' => Q (.bl k) H') (σ := σ) (H := H) ⟨P, m, env, st, sat, (chain_turn (P := P) hw).imp (fun k s q m' H' b st' r e => by cases e; exact q m' H' (.bl k) st' r rfl) fun _ _ h => h⟩
  refine thn ((pe_chain (oc_all hr o1) (oc_all hr o2) ha hb hc (marks2_plain hs)).run pins s σ H _ I h) fun v s1 ⟨x, H1, I1, r1, k, e, q⟩ => ?_
  subst e
  exact ⟨_, H1, I1, r1, q⟩⟩
theorem q_chainT {a b c : Expr} {o1 o2 : CmpOp} {xa xb xc : X} {pos : Pos} (hr : Z.A.units + 64 < cLine) (hs : noSet c = true) (ha : PE Z a (TX Z.K Y g xa)) (hb : PE Z b (TX Z.K Y g xb)) (hc : PE Z c (TX Z.K Y g xc)) :
    PT Z (.Compare a [o1, o2] [b, c] pos) (TC Z.K Y g (.x (.chain o1 o2 xa xb xc))) := (pt_chain (oc_all hr o1) (oc_all hr o2) ha hb hc (marks2_plain hs)).imp fun σ H Q ⟨P, m, env, st, sat, hw⟩ => by
  refine chain_core (Z := Z) (Y := Y) (g := g) ⟨P, m, env, st, sat, ?_⟩
  have hw' : Wp ((X.ev g (.chain o1 o2 xa xb xc) env >>= fun d => match d with | .bl k => pure k | _ => M.bad) st) (VP Z.K Y (rhoEq (α := Bool)) P m H Q) (XP Z.K Y P m σ H) := hw
  rw [wp_seq] at hw'
  exact (chain_turn (P := P) hw').imp (fun k s q => q) fun _ _ h => h
/-- a value that is True or False, as a test -/
theorem q_testX {e : Expr} {x : X} (hp : plainTest e = true) (h : PE Z e (TX Z.K Y g x)) : PT Z e (TC Z.K Y g (.x x)) := (pt_val h (test_plain hp)).imp fun σ H Q h => by
  refine TG.first (r1 := X.ev g x) (r2 := fun d _ => match d with | .bl k => pure k | _ => M.bad) h fun P m1 env st1 H1 d v sat rx hw => ?_
  cases d <;> first | (exact absurd hw id) | skip
  rename_i k
  have rx' : v = .bl k := rx
  subst rx'
  exact ⟨k, rfl, (wp_vp (rho := rhoEq (α := Bool)) hw).here sat.st rfl⟩
/-- a value's truth -/
theorem tru_of {K : PySem.W.Frag} {P : Addr → Prop} {m : List Addr} {H : Hp} {d : D} {v : V} {k : Bool} (h : RelB K P m H d v) (e : truD d = some k) : TruV K v H k := by
  cases d with
  | non => have e1 := h.non; subst e1; cases e; rfl
  | bl b => have e1 := h.bl; subst e1; cases e; rfl
  | int b => have e1 := h.int; subst e1; cases e; rfl
  | str b =>
    have e1 := h.str; subst e1
    have e' : (if b.length ≤ 16777216 then some ((b.length : Int) != 0) else none) = some k := e
    by_cases hz : b.length ≤ 16777216
    · rw [if_pos hz] at e'; cases e'; exact ⟨by rw [line16]; exact hz, rfl⟩
    · rw [if_neg hz] at e'; cases e'
  | tup ds =>
    obtain ⟨a, vs, rfl, ht, r⟩ := h.tup
    cases e
    refine .inr (.inl ⟨vs, ht.sq, ?_⟩)
    have l := relL_length r
    cases ds <;> cases vs <;> first | rfl | (simp at l)
  | lst ds =>
    obtain ⟨a, vs, rfl, ht, r⟩ := h.lst
    cases e
    refine .inl ⟨vs, ht, ?_⟩
    have l := relL_length r
    cases ds <;> cases vs <;> first | rfl | (simp at l)
  | obj n => cases e
theorem q_tru {e : Expr} {x : L} (hp : plainTest e = true) (h : PE Z e (TL Z.K Y g x)) : PT Z e (TC Z.K Y g (.tru x)) := (pt_truth h (test_plain hp)).imp fun σ H Q h => by
  refine TG.first (r1 := L.ev g x) (r2 := fun d _ => M.opt (truD d)) h fun P m1 env st1 H1 d v sat rx hw => ?_
  obtain ⟨k, e, q⟩ := wp_opt hw
  exact ⟨k, tru_of rx e, q.here sat.st rfl⟩
theorem q_notT {e : Expr} {c : C} {pos : Pos} (h : PT Z e (TC Z.K Y g c)) : PT Z (.UnaryOp .Not e pos) (TC Z.K Y g (.not c)) := (pt_not h).imp fun σ H Q h => by
  refine TG.first (r1 := C.ev g c) (r2 := fun k _ => pure (!k)) h fun P m1 env st1 H1 k b sat rx hw => ?_
  cases rx
  exact (wp_vp (rho := rhoEq (α := Bool)) hw).here sat.st rfl
theorem q_and {a b : Expr} {r : List Expr} {ca cb : C} {pos : Pos} (ha : PT Z a (TC Z.K Y g ca)) (hb : PW Z (.BoolOp .And (b :: r) pos) (TC Z.K Y g cb)) : PW Z (.BoolOp .And (a :: b :: r) pos) (TC Z.K Y g (.and ca cb)) := (pw_and ha hb).imp fun σ H Q h => by
  refine TG.first (r1 := C.ev g ca) (r2 := fun k env => match k with | true => C.ev g cb env | false => pure false) h fun P m1 env st1 H1 k b sat rx hw => ?_
  cases rx
  cases k with
  | true => rw [if_pos rfl]; exact ⟨P, m1, env, st1, sat, hw⟩
  | false => rw [if_neg Bool.false_ne_true]; exact (wp_vp (rho := rhoEq (α := Bool)) hw).here sat.st rfl
theorem q_or {a b : Expr} {r : List Expr} {ca cb : C} {pos : Pos} (ha : PT Z a (TC Z.K Y g ca)) (hb : PW Z (.BoolOp .Or (b :: r) pos) (TC Z.K Y g cb)) : PW Z (.BoolOp .Or (a :: b :: r) pos) (TC Z.K Y g (.or ca cb)) := (pw_or ha hb).imp fun σ H Q h => by
  refine TG.first (r1 := C.ev g ca) (r2 := fun k env => match k with | true => pure true | false => C.ev g cb env) h fun P m1 env st1 H1 k b sat rx hw => ?_
  cases rx
  cases k with
  | false => rw [if_neg Bool.false_ne_true]; exact ⟨P, m1, env, st1, sat, hw⟩
  | true => rw [if_pos rfl]; exact (wp_vp (rho := rhoEq (α := Bool)) hw).here sat.st rfl
theorem q_oneC {a : Expr} {c : C} {op : BoolOp} {pos : Pos} (ha : PT Z a (TC Z.K Y g c)) : PW Z (.BoolOp op [a] pos) (TC Z.K Y g (.one c)) := by
  have h : PW Z (.BoolOp op [a] pos) (TC Z.K Y g c) := by
    cases op with
    | And => exact pw_and1 ha
    | Or => exact pw_or1 ha
  exact h.imp fun σ H Q h => h
/-! .. as values -/
theorem q_vX {e : Expr} {x : X} (h : PE Z e (TX Z.K Y g x)) : PE Z e (TX Z.K Y g (.ofC (.x x))) := ⟨fun pins s σ H Q I hq => by
  have h1 : TX Z.K Y g x σ H (fun v H' => ∃ k, v = .bl k ∧ Q v H') := by
    obtain ⟨P, m, env, st, sat, hw⟩ := hq
    have hw' : Wp (((X.ev g x env >>= fun d => match d with | .bl k => pure k | _ => M.bad) >>= fun k => pure (D.bl k)) st) (VP Z.K Y (rhoD Z.K) P m H Q) (XP Z.K Y P m σ H) := hw
    rw [wp_seq, wp_seq] at hw'
    refine ⟨P, m, env, st, sat, hw'.imp (fun d st1 h1 m1 H1 b s1 r1 rho => ?_) fun _ _ h => h⟩
    cases d <;> first | (exact absurd h1 id) | skip
    rename_i k
    have e : b = .bl k := rho
    subst e
    exact ⟨k, rfl, (show VP Z.K Y (rhoD Z.K) P m H Q (.bl k) st1 from h1) m1 H1 _ s1 r1 rfl⟩
  exact thn (h.run pins s σ H _ I h1) fun v s1 ⟨y, H1, I1, r1, k, e, q⟩ => ⟨y, H1, I1, r1, q⟩⟩
theorem ofC_iff {c : C} {σ : L2.St} {H : Hp} {Q : VK} (h : TX Z.K Y g (.ofC c) σ H Q) : TC Z.K Y g c σ H fun k H' => Q (.bl k) H' := by
  refine TG.first (r1 := C.ev g c) (r2 := fun k _ => pure (D.bl k)) h fun P m1 env st1 H1 k b sat rx hw => ?_
  cases rx
  exact (wp_vp (rho := rhoD Z.K) hw).here sat.st rfl
theorem ofC_mk {c : C} {σ : L2.St} {H : Hp} {R : Bool → Hp → Prop} (h : TC Z.K Y g c σ H R) : TX Z.K Y g (.ofC c) σ H fun v H' => ∃ k, v = .bl k ∧ R k H' := by
  obtain ⟨P, m, env, st, sat, hw⟩ := h
  refine ⟨P, m, env, st, sat, ?_⟩
  show Wp ((C.ev g c env >>= fun k => pure (D.bl k)) st) _ _
  rw [wp_seq]
  refine hw.imp (fun k st1 h1 => ?_) fun _ _ h => h
  intro m1 H1 b s1 r1 rho
  exact ⟨k, rho, h1 m1 H1 k s1 r1 rfl⟩
theorem q_vNot {e : Expr} {c : C} {pos : Pos} (h : PE Z e (TX Z.K Y g (.ofC c))) : PE Z (.UnaryOp .Not e pos) (TX Z.K Y g (.ofC (.not c))) := (pe_not h).imp fun σ H Q h => by
  refine ofC_mk (R := fun k H' => Q (.bl (!k)) H') ?_
  refine TG.first (r1 := C.ev g c) (r2 := fun k _ => pure (!k)) (ofC_iff h) fun P m1 env st1 H1 k b sat rx hw => ?_
  cases rx
  exact (wp_vp (rho := rhoEq (α := Bool)) hw).here sat.st rfl
theorem q_vAnd {a b : Expr} {r : List Expr} {ca cb : C} {pos : Pos} (ha : PE Z a (TX Z.K Y g (.ofC ca))) (hb : PE Z (.BoolOp .And (b :: r) pos) (TX Z.K Y g (.ofC cb))) : PE Z (.BoolOp .And (a :: b :: r) pos) (TX Z.K Y g (.ofC (.and ca cb))) := ⟨fun pins s σ H Q I h => by
  have h2 : tAndV (TX Z.K Y g (.ofC ca)) (TX Z.K Y g (.ofC cb)) σ H fun v H' => ∃ k, v = .bl k ∧ Q (.bl k) H' := by
    refine ofC_mk (R := fun k H1 => if k = true then TX Z.K Y g (.ofC cb) σ H1 (fun v H' => ∃ k, v = .bl k ∧ Q (.bl k) H') else ∃ k, V.bl false = .bl k ∧ Q (.bl k) H1) ?_
    refine TG.first (r1 := C.ev g ca) (r2 := fun k env => match k with | true => C.ev g cb env | false => pure false) (ofC_iff h) fun P m1 env st1 H1 k b sat rx hw => ?_
    cases rx
    cases k with
    | true => rw [if_pos rfl]; exact ofC_mk (R := fun k H' => Q (.bl k) H') ⟨P, m1, env, st1, sat, hw⟩
    | false => rw [if_neg Bool.false_ne_true]; exact ⟨false, rfl, (wp_vp (rho := rhoEq (α := Bool)) hw).here sat.st rfl⟩
  exact thn ((pe_and ha hb).run pins s σ H _ I h2) fun v s1 ⟨y, H1, I1, r1, k, e, q⟩ => ⟨y, H1, I1, r1, by subst e; exact q⟩⟩
theorem q_vOr {a b : Expr} {r : List Expr} {ca cb : C} {pos : Pos} (ha : PE Z a (TX Z.K Y g (.ofC ca))) (hb : PE Z (.BoolOp .Or (b :: r) pos) (TX Z.K Y g (.ofC cb))) : PE Z (.BoolOp .Or (a :: b :: r) pos) (TX Z.K Y g (.ofC (.or ca cb))) := ⟨fun pins s σ H Q I h => by
  have h2 : tOrV (TX Z.K Y g (.ofC ca)) (TX Z.K Y g (.ofC cb)) σ H fun v H' => ∃ k, v = .bl k ∧ Q (.bl k) H' := by
    refine ofC_mk (R := fun k H1 => if k = true then ∃ k, V.bl true = .bl k ∧ Q (.bl k) H1 else TX Z.K Y g (.ofC cb) σ H1 (fun v H' => ∃ k, v = .bl k ∧ Q (.bl k) H')) ?_
    refine TG.first (r1 := C.ev g ca) (r2 := fun k env => match k with | true => pure true | false => C.ev g cb env) (ofC_iff h) fun P m1 env st1 H1 k b sat rx hw => ?_
    cases rx
    cases k with
    | false => rw [if_neg Bool.false_ne_true]; exact ofC_mk (R := fun k H' => Q (.bl k) H') ⟨P, m1, env, st1, sat, hw⟩
    | true => rw [if_pos rfl]; exact ⟨true, rfl, (wp_vp (rho := rhoEq (α := Bool)) hw).here sat.st rfl⟩
  exact thn ((pe_or ha hb).run pins s σ H _ I h2) fun v s1 ⟨y, H1, I1, r1, k, e, q⟩ => ⟨y, H1, I1, r1, by subst e; exact q⟩⟩
theorem q_vOne {a : Expr} {c : C} {op : BoolOp} {pos : Pos} (ha : PE Z a (TX Z.K Y g (.ofC c))) : PE Z (.BoolOp op [a] pos) (TX Z.K Y g (.ofC (.one c))) := (pe_one ha).imp fun σ H Q h => h
theorem q_ite {a b c : Expr} {cc : C} {xa xb : X} {pos : Pos} (hc : PT Z c (TC Z.K Y g cc)) (ha : PE Z a (TX Z.K Y g xa)) (hb : PE Z b (TX Z.K Y g xb)) : PE Z (.IfExp c a b pos) (TX Z.K Y g (.ite cc xa xb)) := (pe_ifExp hc ha hb).imp fun σ H Q h => by
  refine TG.first (r1 := C.ev g cc) (r2 := fun k env => match k with | true => X.ev g xa env | false => X.ev g xb env) h fun P m1 env st1 H1 k b sat rx hw => ?_
  cases rx
  cases k with
  | true => rw [if_pos rfl]; exact ⟨P, m1, env, st1, sat, hw⟩
  | false => rw [if_neg Bool.false_ne_true]; exact ⟨P, m1, env, st1, sat, hw⟩
end
end Fx

set_option Elab.async false
set_option linter.all false
set_option maxRecDepth 100000
set_option maxHeartbeats 1000000
/-! Fx 6: sequences, places, cuts, built-in functions. -/
namespace Fx
open PySem PySem.Spec PyProof.Rows L2

section
variable (K : PySem.W.Frag) (Y : Rd')
/-- a new list: at a, where nothing stood -/
def VPf (P : Addr → Prop) (m : List Addr) (H : Hp) (Q : VK) (ds : List D) (st' : Sto) : Prop :=
  ∀ m1 H1 a vs, Step m H m1 H1 → StR K Y.cls P m1 H1 st' → H1 a = none → RelL K P m1 H1 ds vs → Q (.ref a) (upd H1 a (.lst vs))
def TFn (g : G) (f : F) : TE := fun σ H Q => ∃ P m env st, Sat K Y.cls Y.z P m H env st σ ∧ Wp (F.ev g f env st) (VPf K Y P m H Q) (XP K Y P m σ H)
end
section
variable {K : PySem.W.Frag} {Y : Rd'}
theorem VPf.step {P : Addr → Prop} {m m1 : List Addr} {H H1 : Hp} {Q : VK} {ds : List D} {st' : Sto} (h : VPf K Y P m H Q ds st') (s : Step m H m1 H1) : VPf K Y P m1 H1 Q ds st' :=
  fun m2 H2 a vs s2 r n l => h m2 H2 a vs (s.trans s2) r n l
/-- a reading's first part, a new list made at the end -/
theorem TFn.first {α β : Type} {f : F} {g : G} {r1 : En → M α} {r2 : α → En → M (List D)} {rho1 : (Addr → Prop) → List Addr → Hp → α → β → Prop} {σ : L2.St} {H : Hp} {Q : VK} {R : β → Hp → Prop}
    (hf : ∀ env, F.ev g f env = (r1 env >>= fun a => r2 a env)) (h : TFn K Y g f σ H Q)
    (k : ∀ P m1 env st1 H1 a b, Sat K Y.cls Y.z P m1 H1 env st1 σ → rho1 P m1 H1 a b → Wp (r2 a env st1) (VPf K Y P m1 H1 Q) (XP K Y P m1 σ H1) → R b H1) :
    TG K Y r1 rho1 σ H R := by
  obtain ⟨P, m, env, st, sat, hw⟩ := h
  rw [hf, wp_seq] at hw
  refine ⟨P, m, env, st, sat, hw.imp (fun a st1 h1 m1 H1 b s1 r1' rho => ?_) fun _ _ h => h⟩
  exact k P m1 env st1 H1 a b (sat.step s1 r1') rho (h1.imp (fun _ _ q => q.step s1) fun _ _ q => q.step s1)
theorem TFn.next {α β : Type} {r1 : M α} {r2 : α → M (List D)} {rho1 : (Addr → Prop) → List Addr → Hp → α → β → Prop} {σ : L2.St} {H : Hp} {Q : VK} {R : β → Hp → Prop} {P : Addr → Prop} {m : List Addr} {env : En} {st : Sto}
    {run : En → M α} (hrun : run env = r1)
    (sat : Sat K Y.cls Y.z P m H env st σ) (h : Wp ((r1 >>= r2) st) (VPf K Y P m H Q) (XP K Y P m σ H))
    (k : ∀ m1 st1 H1 a b, Step m H m1 H1 → Sat K Y.cls Y.z P m1 H1 env st1 σ → rho1 P m1 H1 a b → Wp (r2 a st1) (VPf K Y P m1 H1 Q) (XP K Y P m1 σ H1) → R b H1) :
    TG K Y run rho1 σ H R := by
  rw [wp_seq, ← hrun] at h
  refine ⟨P, m, env, st, sat, h.imp (fun a st1 h1 m1 H1 b s1 r1' rho => ?_) fun _ _ h => h⟩
  exact k m1 st1 H1 a b s1 (sat.step s1 r1') rho (h1.imp (fun _ _ q => q.step s1) fun _ _ q => q.step s1)
theorem VPf.here {P : Addr → Prop} {m : List Addr} {H : Hp} {Q : VK} {ds : List D} {st : Sto} {env : En} {σ : L2.St} {vs : List V} (h : VPf K Y P m H Q ds st) (sat : Sat K Y.cls Y.z P m H env st σ) (r : RelL K P m H ds vs) {a : Addr} (ha : H a = none) : Q (.ref a) (upd H a (.lst vs)) :=
  h m H a vs (Step.refl m H) sat.st ha r
theorem vpf_of {P : Addr → Prop} {m : List Addr} {H : Hp} {Q : VK} {ds : List D} {st : Sto} {σ : L2.St} (h : Wp ((pure ds : M (List D)) st) (VPf K Y P m H Q) (XP K Y P m σ H)) : VPf K Y P m H Q ds st := h
end

section
variable {Z : Cx} {Y : Rd'} {g : G}
theorem q_nil : PA Z [] (TXS Z.K Y g .nil) := pa_nil.imp fun σ H Q ⟨P, m, env, st, sat, hw⟩ => (show VP Z.K Y (rhoL Z.K) P m H Q [] st from hw).here sat.st rfl
theorem q_cons {e : Expr} {es : List Expr} {x : X} {xs : XS} (hs : noStar e = true) (he : PE Z e (TX Z.K Y g x)) (hr : PA Z es (TXS Z.K Y g xs)) : PA Z (e :: es) (TXS Z.K Y g (.cons x xs)) := (pa_cons he hr (star_cons hs)).imp fun σ H Q h => by
  refine TG.first (r1 := X.ev g x) (r2 := fun d env => XS.ev g xs env >>= fun ds => pure (d :: ds)) h fun P m1 env st1 H1 d v sat rx hw => ?_
  refine TG.next rfl sat hw fun m2 st2 H2 ds vs s2 sat2 ry hw2 => ?_
  exact (wp_vp (rho := rhoL Z.K) hw2).here sat2.st ⟨v, vs, rfl, Rel.step s2 d rx, ry⟩
theorem q_tup {es : List Expr} {xs : XS} {k : Nat} {pos : Pos} (h : PA Z es (TXS Z.K Y g xs)) : PE Z (.Tuple es k pos) (TX Z.K Y g (.tup xs)) := (pe_tup h).imp fun σ H Q h => by
  refine TG.first (r1 := XS.ev g xs) (r2 := fun ds _ => M.need (ds.length ≤ 16777216) >>= fun _ => pure (D.tup ds)) h fun P m1 env st1 H1 ds vs sat rx hw => ?_
  rw [wp_seq] at hw
  obtain ⟨hz, q⟩ := wp_need hw
  refine ⟨by rw [line16, ← relL_length rx]; exact hz, fun p hp => ?_⟩
  exact (wp_vp (rho := rhoD Z.K) q) m1 _ _ (Step.laid hp) (sat.st.laid hp) ⟨p, vs, rfl, .inl ⟨.inl upd_same, sat.own.fresh hp⟩, RelL.step (Step.laid hp) ds rx⟩
theorem q_disp {es : List Expr} {xs : XS} {pos : Pos} (h : PA Z es (TXS Z.K Y g xs)) : PE Z (.List es pos) (TFn Z.K Y g (.disp xs)) := (pe_lst h).imp fun σ H Q h => by
  refine TFn.first (r1 := XS.ev g xs) (r2 := fun ds _ => M.need (ds.length ≤ 16777216) >>= fun _ => pure ds) (fun _ => rfl) h fun P m1 env st1 H1 ds vs sat rx hw => ?_
  rw [wp_seq] at hw
  obtain ⟨hz, q⟩ := wp_need hw
  exact ⟨by rw [line16, ← relL_length rx]; exact hz, fun p hp => (vpf_of q).here sat rx hp⟩
theorem own_step {K : PySem.W.Frag} {cls : Nat → Option Addr} {z : Hd} {P : Addr → Prop} {m m1 : List Addr} {H H1 : Hp} {env : En} {st st1 : Sto} {σ : L2.St} (sat : Sat K cls z P m H env st σ) (s : Step m H m1 H1) (r : StR K cls P m1 H1 st1) : Own P m1 H1 := (sat.step s r).own
theorem q_fr {e : Expr} {f : F} (h : PE Z e (TFn Z.K Y g f)) : PE Z e (TX Z.K Y g (.fr f)) := h.imp fun σ H Q ⟨P, m, env, st, sat, hw⟩ => by
  have hw' : Wp ((F.ev g f env >>= fun ds => pure (D.lst ds)) st) (VP Z.K Y (rhoD Z.K) P m H Q) (XP Z.K Y P m σ H) := hw
  rw [wp_seq] at hw'
  refine ⟨P, m, env, st, sat, hw'.imp (fun ds st1 h1 m1 H1 a vs s1 r1 n l => ?_) fun _ _ h => h⟩
  exact (show VP Z.K Y (rhoD Z.K) P m H Q (.lst ds) st1 from h1) m1 _ _ (s1.trans (Step.laid n)) (r1.laid n) ⟨a, vs, rfl, .inl ⟨.inl upd_same, (own_step sat s1 r1).fresh n⟩, RelL.step (Step.laid n) ds l⟩
theorem q_rep {a b : Expr} {f : F} {x : X} {pos : Pos} (ha : PE Z a (TFn Z.K Y g f)) (hb : PE Z b (TX Z.K Y g x)) : PE Z (.BinOp a .Mult b pos) (TFn Z.K Y g (.rep f x)) := (pe_op op_rep ha hb).imp fun σ H Q ⟨P, m, env, st, sat, hw⟩ => by
  have hw' : Wp ((F.ev g f env >>= fun ds => X.ev g x env >>= fun k => match k with
    | .int k => M.need (-(2 ^ 62) < k ∧ k < 2 ^ 62 ∧ ds.length * k.toNat ≤ 16777216) >>= fun _ => pure (List.replicate k.toNat ds).flatten
    | _ => M.bad) st) (VPf Z.K Y P m H Q) (XP Z.K Y P m σ H) := hw
  rw [wp_seq] at hw'
  refine ⟨P, m, env, st, sat, hw'.imp (fun ds st1 h1 m1 H1 p vs s1 r1 n l => ?_) fun _ _ h => h⟩
  rw [wp_seq] at h1
  have s2 := s1.trans (Step.laid (o := .lst vs) n)
  have np : p ∉ m1 := r1.fresh n
  refine ⟨P, m1, env, st1, sat.step s2 (r1.laid n), h1.imp (fun k st2 h2 m2 H2 w s3 r3 rk => ?_) fun _ _ q => q.step s2⟩
  cases k <;> first | (exact absurd h2 id) | skip
  rename_i k
  have e1 : w = .int k := rk
  subst e1
  have h2' : Wp ((M.need (-(2 ^ 62) < k ∧ k < 2 ^ 62 ∧ ds.length * k.toNat ≤ 16777216) >>= fun _ => pure (List.replicate k.toNat ds).flatten) st2) (VPf Z.K Y P m H Q) (XP Z.K Y P m σ H) := h2
  rw [wp_seq] at h2'
  obtain ⟨⟨b1, b2, b3⟩, q⟩ := wp_need h2'
  have hp : H2 p = some (.lst vs) := s3.ext _ _ upd_same np
  have l2 : RelL Z.K P m2 H2 ds vs := RelL.step ((Step.laid n).trans s3) ds l
  have q' : VPf Z.K Y P m H Q (List.replicate k.toNat ds).flatten st2 := q
  refine ⟨p, k, vs, rfl, rfl, hp, by omega, by omega, by rw [line16, ← relL_length l]; exact b3, fun t ht => ?_⟩
  refine q' m2 H2 t _ (s2.trans s3) r3 ht ?_
  have rr : ∀ c : Nat, RelL Z.K P m2 H2 (List.replicate c ds).flatten (List.replicate c vs).flatten := fun c => by
    induction c with
    | zero => exact rfl
    | succ c ih => rw [List.replicate_succ, List.replicate_succ, List.flatten_cons, List.flatten_cons]; exact relL_append l2 ih
  exact rr k.toNat
theorem q_alloc {e : Expr} {f : F} (h : PE Z e (TFn Z.K Y g f)) : PE Z e (TX Z.K Y g (.alloc f)) := h.imp fun σ H Q ⟨P, m, env, st, sat, hw⟩ => by
  have hw' : Wp ((F.ev g f env >>= fun ds => M.get >>= fun s => M.put (s ++ [.lst ds]) >>= fun _ => pure (D.obj s.length)) st) (VP Z.K Y (rhoD Z.K) P m H Q) (XP Z.K Y P m σ H) := hw
  rw [wp_seq] at hw'
  refine ⟨P, m, env, st, sat, hw'.imp (fun ds st1 h1 m1 H1 a vs s1 r1 n l => ?_) fun _ _ h => h⟩
  have h1' : VP Z.K Y (rhoD Z.K) P m H Q (.obj st1.length) (st1 ++ [.lst ds]) := h1
  have own := own_step sat s1 r1
  have nP : ¬ P a := fun z => own.fresh n (.inr z)
  have s2 : Step m1 H1 (m1 ++ [a]) (upd H1 a (.lst vs)) := ⟨⟨[a], rfl⟩, fun b hb => by
    rcases List.mem_append.mp hb with z | z
    · exact .inl z
    · simp at z; subst z; exact .inr n, fun b o e _ => by rw [upd_ne (ne_of_none e n)]; exact e⟩
  obtain ⟨r2, _⟩ := r1.alloc (u := .lst vs) (o := .lst ds) n nP ⟨vs, upd_same, RelL.step s2 ds l⟩
  exact h1' _ _ _ (s1.trans s2) r2 ⟨a, rfl, by rw [List.getElem?_append_right (by rw [r1.len]; omega), r1.len]; simp⟩

/-! ### a place -/
theorem relL_atI {K : PySem.W.Frag} {P : Addr → Prop} {m : List Addr} {H : Hp} {ds : List D} {vs : List V} {i : Int} {d : D} (r : RelL K P m H ds vs) (e : atI ds i = some d) : ∃ v, atI vs i = some v ∧ Rel K P m H d v := by
  unfold atI at e ⊢
  rw [← relL_length r]
  cases h : ixN ds.length i with
  | none => rw [h] at e; cases e
  | some j =>
    rw [h] at e
    exact relL_get r e
theorem StR.lst {K : PySem.W.Frag} {cls : Nat → Option Addr} {P : Addr → Prop} {m : List Addr} {H : Hp} {st : Sto} (h : StR K cls P m H st) {n : Nat} {ds : List D} (e : st[n]? = some (.lst ds)) : ∃ a vs, m[n]? = some a ∧ H a = some (.lst vs) ∧ RelL K P m H ds vs := by
  obtain ⟨a, e1, vs, e2, r⟩ := h.ob n _ e
  exact ⟨a, vs, e1, e2, r⟩
theorem q_ix {a b : Expr} {xa : L} {xb : X} {pos : Pos} (hs : noSlice b = true) (ha : PE Z a (TL Z.K Y g xa)) (hb : PE Z b (TX Z.K Y g xb)) : PE Z (.Subscript a b pos) (TX Z.K Y g (.ix xa xb)) := (pe_ix ix_seq ha hb (ix_plain hs)).imp fun σ H Q h => by
  refine TG.first (r1 := L.ev g xa) (r2 := fun x env => X.ev g xb env >>= fun k => match x, k with
    | D.obj n, D.int j => M.get >>= fun s => match s[n]? with
      | some (.lst ds) => M.opt (atI ds j)
      | _ => M.bad
    | x, k => M.opt (ixD x k)) h fun P m1 env st1 H1 x v sat rx hw => ?_
  refine TG.next rfl sat hw fun m2 st2 H2 k w s2 sat2 rk hw2 => ?_
  have rx2 := rx.step sat.st.out s2
  have plain : ∀ {d : D}, ixD x k = some d → VP Z.K Y (rhoD Z.K) P m2 H2 Q d st2 → rIx Z.K v w H2 Q := fun {d} e q => by
    cases k with
    | int j =>
      have e1 : w = .int j := rk
      subst e1
      cases x with
      | tup ds =>
        obtain ⟨p, vs, rfl, ht, r⟩ := rx2.tup
        obtain ⟨y, e2, r2⟩ := relL_atI r (show atI ds j = some d from e)
        exact .inr (.inl ⟨p, vs, j, y, rfl, rfl, ht.sq, e2, q.here sat2.st r2⟩)
      | lst ds =>
        obtain ⟨p, vs, rfl, ht, r⟩ := rx2.lst
        obtain ⟨y, e2, r2⟩ := relL_atI r (show atI ds j = some d from e)
        exact .inl ⟨p, vs, j, y, rfl, rfl, ht, e2, q.here sat2.st r2⟩
      | str z =>
        have e1 := rx2.str
        subst e1
        have e' : (if z.length ≤ 16777216 then (atI z.cps.toList j).map fun c => D.str ⟨#[c]⟩ else none) = some d := e
        by_cases hz : z.length ≤ 16777216
        · rw [if_pos hz] at e'
          cases e2 : atI z.cps.toList j with
          | none => rw [e2] at e'; cases e'
          | some c =>
            rw [e2] at e'
            cases e'
            exact .inr (.inr ⟨z, j, c, rfl, rfl, by rw [line16]; exact hz, e2, q.here sat2.st rfl⟩)
        · rw [if_neg hz] at e'; cases e'
      | _ => exact nomatch e
    | _ => cases x <;> exact nomatch e
  have plain' : Wp (M.opt (ixD x k) st2) (VP Z.K Y (rhoD Z.K) P m2 H2 Q) (XP Z.K Y P m2 σ H2) → rIx Z.K v w H2 Q := fun hw3 => by
    obtain ⟨d, e, q⟩ := wp_opt hw3
    exact plain e q
  cases x with
  | obj n =>
    cases k with
    | int j =>
      have hw3 : Wp ((M.get >>= fun s => match s[n]? with
        | some (O.lst ds) => M.opt (atI ds j)
        | _ => M.bad) st2) (VP Z.K Y (rhoD Z.K) P m2 H2 Q) (XP Z.K Y P m2 σ H2) := hw2
      rw [wp_seq, wp_get] at hw3
      have e1 : w = .int j := rk
      subst e1
      obtain ⟨p, rfl, hm⟩ := rx2.obj
      cases ho : st2[n]? with
      | none => rw [ho] at hw3; exact absurd hw3 id
      | some o =>
        rw [ho] at hw3
        cases o with
        | lst ds =>
          obtain ⟨d, e, q⟩ := wp_opt hw3
          obtain ⟨p', vs, hm', hp, r⟩ := sat2.st.lst ho
          rw [hm] at hm'; cases hm'
          obtain ⟨y, e2, r2⟩ := relL_atI r e
          exact .inl ⟨p, vs, j, y, rfl, rfl, SqL.of hp, e2, q.here sat2.st r2⟩
        | _ => exact absurd hw3 id
    | _ => exact plain' hw2
  | _ => exact plain' hw2

/-! ### cuts -/
theorem q_onone : PO Z none (TXO Z.K Y g .none) := po_none.imp fun σ H Q ⟨P, m, env, st, sat, hw⟩ => (show VP Z.K Y (rhoEq (α := Option Int)) P m H Q none st from hw).here sat.st rfl
theorem q_osome {e : Expr} {x : X} (he : PE Z e (TX Z.K Y g x)) : PO Z (some e) (TXO Z.K Y g (.some x)) := (po_some he).imp fun σ H Q h => by
  refine TG.first (r1 := X.ev g x) (r2 := fun d _ => match d with
    | D.int i => pure (some i)
    | _ => M.bad) h fun P m1 env st1 H1 d v sat rx hw => ?_
  cases d <;> first | (exact absurd hw id) | skip
  rename_i i
  have e1 : v = .int i := rx
  subst e1
  exact ⟨i, rfl, (wp_vp (rho := rhoEq (α := Option Int)) hw).here sat.st rfl⟩
theorem relL_cut {K : PySem.W.Frag} {P : Addr → Prop} {m : List Addr} {H : Hp} {ds : List D} {vs : List V} (r : RelL K P m H ds vs) (lo hi : Option Int) : RelL K P m H (cutD ds lo hi) (cutV vs lo hi) := by
  unfold cutD cutV
  rw [relL_length r]
  exact relL_take _ (relL_drop _ r)
/-- the whole of a tuple, cut out, is that tuple -/
theorem sl_tup_whole : L2.SlR Z (fun x lo hi H Q => ∃ a xs, x = .ref a ∧ SqT Z.K H a xs ∧ (HT.sIx xs.length 0 lo = 0 ∧ HT.sIx xs.length xs.length hi = xs.length) ∧ Q (.ref a) H) := by
  intro pins s σ H x v vl vu lo hi sl Q I rx hs pl pu h
  obtain ⟨a, xs, rfl, hx, hw, q⟩ := h
  cases rx
  obtain ⟨its, r, ht, hz⟩ := I.tuple hx
  have hlen : its.toArray.size = xs.length := by rw [List.size_toArray]; exact r.length.symm
  rw [← hlen] at hw
  refine ⟨"tuple", _, PyProof.Rows.slot_tuple_getitem.lookup, ht.typeIs, ?_⟩
  obtain ⟨os, hos, hcs, hds⟩ := id hs
  have hTs : s.TypeIs (.ref sl) "slice" := ⟨os, hos, hcs⟩
  obtain ⟨ot, hot, hct, nt, hdt⟩ := id ht
  unfold getItem
  refine wpAny_holding ?_
  refine wpAny_bind (wpAny_sequenceKey ht.typeIs (by decide) ?_)
  refine wpAny_bind (wpAny_callSpecial?_slot (name := Str.ofString "__getitem__") ht.typeIs PyProof.Rows.slot_tuple_getitem
    (wpAny_call_entry PyProof.Rows.slot_tuple_getitem ht.typeIs entry_tuple_getitem ?_ (args_tuple_getitem _ _)))
  show wpAny _ _ (Builtin.Tuple.tupleItemsOf (.ref a) >>= _) _ _ s
  refine wpAny_bind (tupleItemsOf_ ht ?_)
  refine wpAny_bind (wpAny_typeOf hTs ?_)
  rw [if_pos (by decide)]
  refine wpAny_bind (HT.sliceApplied_gen hs pl pu ?_)
  have hyes : ((((HT.sIx its.toArray.size 0 lo : Nat) : Int) == 0 && (1 : Int) == 1 && (HT.sIx its.toArray.size its.toArray.size hi - HT.sIx its.toArray.size 0 lo) == its.toArray.size) = true) := by
    rw [hw.1, hw.2]
    simp
  show wpAny _ _ (if (((HT.sIx its.toArray.size 0 lo : Nat) : Int) == 0 && (1 : Int) == 1 && (HT.sIx its.toArray.size its.toArray.size hi - HT.sIx its.toArray.size 0 lo) == its.toArray.size) = true then _ else _) _ _ s
  rw [if_pos hyes]
  refine wpAny_bind (m := Builtin.Tuple.tupleIsExact (.ref a)) ?_
  unfold Builtin.Tuple.tupleIsExact
  refine wpAny_bind (wpAny_typeOf ht.typeIs (wpAny_pure ?_))
  rw [if_pos (by decide)]
  refine wpAny_bind (wpAny_rule ?_)
  exact wpAny_pure ⟨_, rfl, wpAny_pure ⟨.ref a, H, I, rfl, q⟩⟩
theorem q_sl {a : Expr} {lo hi : Option Expr} {xa : L} {xl xh : XO} {p2 pos : Pos} (ha : PE Z a (TL Z.K Y g xa)) (hl : PO Z lo (TXO Z.K Y g xl)) (hh : PO Z hi (TXO Z.K Y g xh)) :
    PE Z (.Subscript a (.Slice lo hi none p2) pos) (TX Z.K Y g (.sl xa xl xh)) := (pe_slice ((sl_tup.or sl_tup_whole).or sl_str) ha hl hh).imp fun σ H Q h => by
  refine TG.first (r1 := L.ev g xa) (r2 := fun x env => XO.ev g xl env >>= fun l => XO.ev g xh env >>= fun h => M.opt (slD x l h)) h fun P m1 env st1 H1 x v sat rx hw => ?_
  refine TG.next (rho1 := rhoEq (α := Option Int)) rfl sat hw fun m2 st2 H2 l l' s2 sat2 rl hw2 => ?_
  cases rl
  refine TG.next (rho1 := rhoEq (α := Option Int)) rfl sat2 hw2 fun m3 st3 H3 h h' s3 sat3 rh hw3 => ?_
  cases rh
  have rx3 := rx.step sat.st.out (s2.trans s3)
  obtain ⟨d, e, q⟩ := wp_opt hw3
  cases x with
  | tup ds =>
    cases e
    obtain ⟨p, vs, rfl, ht, r⟩ := rx3.tup
    by_cases hz : HT.sIx vs.length 0 l = 0 ∧ HT.sIx vs.length vs.length h = vs.length
    · refine .inl (.inr ⟨p, vs, rfl, ht.sq, hz, q.here sat3.st ⟨p, vs, rfl, ht, ?_⟩⟩)
      have e1 : cutD ds l h = ds := by
        unfold cutD
        rw [relL_length r, hz.1, hz.2, List.drop_zero, Nat.sub_zero, ← relL_length r, List.take_length]
      rw [e1]; exact r
    · exact .inl (.inl ⟨p, vs, rfl, ht.sq, hz, fun t ht' => q m3 _ _ (Step.laid ht') (sat3.st.laid ht') ⟨t, _, rfl, .inl ⟨.inl upd_same, sat3.own.fresh ht'⟩, RelL.step (Step.laid ht') _ (relL_cut r l h)⟩⟩)
  | str z =>
    have e1 := rx3.str
    subst e1
    have e' : (if z.length ≤ 16777216 then some (D.str (cutS z l h)) else none) = some d := e
    by_cases hz : z.length ≤ 16777216
    · rw [if_pos hz] at e'
      cases e'
      exact .inr ⟨z, rfl, by rw [line16]; exact hz, q.here sat3.st rfl⟩
    · rw [if_neg hz] at e'; cases e'
  | _ => exact nomatch e
theorem q_slF {a : Expr} {lo hi : Option Expr} {xa : L} {xl xh : XO} {p2 pos : Pos} (ha : PE Z a (TL Z.K Y g xa)) (hl : PO Z lo (TXO Z.K Y g xl)) (hh : PO Z hi (TXO Z.K Y g xh)) :
    PE Z (.Subscript a (.Slice lo hi none p2) pos) (TFn Z.K Y g (.sl xa xl xh)) := (pe_slice sl_list ha hl hh).imp fun σ H Q h => by
  refine TFn.first (r1 := L.ev g xa) (r2 := fun x env => XO.ev g xl env >>= fun l => XO.ev g xh env >>= fun h => match x with
    | .lst ds => pure (cutD ds l h)
    | .obj n => M.get >>= fun s => match s[n]? with
      | some (.lst ds) => pure (cutD ds l h)
      | _ => M.bad
    | _ => M.bad) (fun _ => rfl) h fun P m1 env st1 H1 x v sat rx hw => ?_
  refine TFn.next (rho1 := rhoEq (α := Option Int)) rfl sat hw fun m2 st2 H2 l l' s2 sat2 rl hw2 => ?_
  cases rl
  refine TFn.next (rho1 := rhoEq (α := Option Int)) rfl sat2 hw2 fun m3 st3 H3 h h' s3 sat3 rh hw3 => ?_
  cases rh
  have rx3 := rx.step sat.st.out (s2.trans s3)
  cases x with
  | lst ds =>
    obtain ⟨p, vs, rfl, ht, r⟩ := rx3.lst
    exact ⟨p, vs, rfl, ht, fun t ht' => (vpf_of hw3).here sat3 (relL_cut r l h) ht'⟩
  | obj n =>
    have hw4 : Wp ((M.get >>= fun s => match s[n]? with
      | some (O.lst ds) => pure (cutD ds l h)
      | _ => M.bad) st3) (VPf Z.K Y P m3 H3 Q) (XP Z.K Y P m3 σ H3) := hw3
    rw [wp_seq, wp_get] at hw4
    cases ho : st3[n]? with
    | none => rw [ho] at hw4; exact absurd hw4 id
    | some o =>
      rw [ho] at hw4
      cases o <;> first | (exact absurd hw4 id) | skip
      rename_i ds
      obtain ⟨a, rfl, hm⟩ := rx3.obj
      obtain ⟨a', vs, hm', ha, r⟩ := sat3.st.lst ho
      rw [hm] at hm'; cases hm'
      exact ⟨a, vs, rfl, SqL.of ha, fun t ht' => (vpf_of hw4).here sat3 (relL_cut r l h) ht'⟩
  | _ => exact absurd hw3 id
/-- two lists, glued: both are read -/
theorem op_catB : OpR Z (binaryOp .Add) (fun x y H Q => ∃ l b xs zs, x = .ref l ∧ y = .ref b ∧ SqL Z.K H l xs ∧ SqL Z.K H b zs ∧ xs.length + zs.length ≤ sizeLine ∧ ∀ p, H p = none → Q (.ref p) (upd H p (.lst (xs ++ zs)))) := by
  intro pins s σ H x y v u Q I rx ry h
  obtain ⟨l, b, xs, zs, rfl, rfl, hx, hy, hz, q⟩ := h
  cases rx
  cases ry
  obtain ⟨its, r1, ⟨⟨c1, d1, dat1, sl1⟩, n1, ho1, hc1, hd1, hs1⟩, z1⟩ := I.list hx
  obtain ⟨its2, r2, ⟨⟨c2, d2, dat2, sl2⟩, n2, ho2, hc2, hd2, hs2⟩, z2⟩ := I.list hy
  simp only at hc1 hd1 hs1 hc2 hd2 hs2
  subst hc1 hd1 hs1 hc2 hd2 hs2
  have l1 := r1.length
  have l2 := r2.length
  refine concat_meets ⟨_, ho1, rfl⟩ ⟨_, ho2, rfl⟩ noFill_list_add seq_list_add PySem.F.slot_list_add PySem.F.entry_list_add (PySem.F.args_list_add_2 _ _)
    (list_addW l b its.toArray its2.toArray n1 n2 none none sl1 sl2 (by rw [List.size_toArray, List.size_toArray]; omega)) ⟨ho1, ho2, ?_⟩
  have ea : its.toArray ++ its2.toArray = (its ++ its2).toArray := by simp
  rw [ea]
  exact ⟨.ref _, _, I.lnew (t' := s.toks) (r1.append r2) (by rw [List.length_append]; omega), rfl, q _ I.fresh⟩
theorem q_catF {a b : Expr} {xa xb : L} {pos : Pos} (ha : PE Z a (TL Z.K Y g xa)) (hb : PE Z b (TL Z.K Y g xb)) : PE Z (.BinOp a .Add b pos) (TFn Z.K Y g (.cat xa xb)) := (pe_op op_catB ha hb).imp fun σ H Q h => by
  refine TFn.first (r1 := L.ev g xa) (r2 := fun x env => L.ev g xb env >>= fun y => match x, y with
    | .lst ds, .lst es => M.need (ds.length + es.length ≤ 16777216) >>= fun _ => pure (ds ++ es)
    | _, _ => M.bad) (fun _ => rfl) h fun P m1 env st1 H1 x v sat rx hw => ?_
  refine TFn.next rfl sat hw fun m2 st2 H2 y w s2 sat2 ry hw2 => ?_
  have rx2 := rx.step sat.st.out s2
  cases x <;> first | (exact absurd hw2 id) | skip
  rename_i ds
  cases y <;> first | (exact absurd hw2 id) | skip
  rename_i es
  have hw3 : Wp ((M.need (ds.length + es.length ≤ 16777216) >>= fun _ => pure (ds ++ es)) st2) (VPf Z.K Y P m2 H2 Q) (XP Z.K Y P m2 σ H2) := hw2
  rw [wp_seq] at hw3
  obtain ⟨hz, q⟩ := wp_need hw3
  obtain ⟨p, vs, rfl, hp, r⟩ := rx2.lst
  obtain ⟨p', ws, rfl, hp', r'⟩ := ry.lst
  exact ⟨p, p', vs, ws, rfl, rfl, hp, hp', by rw [line16, ← relL_length r, ← relL_length r']; exact hz, fun t ht => (vpf_of q).here sat2 (relL_append r r') ht⟩

/-! ### built-in functions -/
section
variable {pins : List (Addr × Obj)} {σ : L2.St} {H : Hp} {s : Shared} {Q : VK}
theorem relL_intsD {K : PySem.W.Frag} {P : Addr → Prop} {m : List Addr} {H : Hp} : ∀ {ds : List D} {is : List Int} {vs : List V}, intsD ds = some is → RelL K P m H ds vs → vs = is.map V.int
  | [], is, vs, e, r => by cases e; exact r
  | .int i :: ds, is, vs, e, r => by
    obtain ⟨w, ws, rfl, h1, h2⟩ := r
    have h1' : w = .int i := h1
    subst h1'
    cases e2 : intsD ds with
    | none => simp only [intsD, e2] at e; cases e
    | some js =>
      simp only [intsD, e2] at e
      cases e
      rw [relL_intsD e2 h2]; rfl
  | .non :: _, _, _, e, _ => nomatch e
  | .bl _ :: _, _, _, e, _ => nomatch e
  | .str _ :: _, _, _, e, _ => nomatch e
  | .tup _ :: _, _, _, e, _ => nomatch e
  | .lst _ :: _, _, _, e, _ => nomatch e
  | .obj _ :: _, _, _, e, _ => nomatch e
theorem relL_strsD {K : PySem.W.Frag} {P : Addr → Prop} {m : List Addr} {H : Hp} : ∀ {ds : List D} {is : List Str} {vs : List V}, strsD ds = some is → RelL K P m H ds vs → vs = is.map V.str
  | [], is, vs, e, r => by cases e; exact r
  | .str i :: ds, is, vs, e, r => by
    obtain ⟨w, ws, rfl, h1, h2⟩ := r
    have h1' : w = .str i := h1
    subst h1'
    cases e2 : strsD ds with
    | none => simp only [strsD, e2] at e; cases e
    | some js =>
      simp only [strsD, e2] at e
      cases e
      rw [relL_strsD e2 h2]; rfl
  | .non :: _, _, _, e, _ => nomatch e
  | .bl _ :: _, _, _, e, _ => nomatch e
  | .int _ :: _, _, _, e, _ => nomatch e
  | .tup _ :: _, _, _, e, _ => nomatch e
  | .lst _ :: _, _, _, e, _ => nomatch e
  | .obj _ :: _, _, _, e, _ => nomatch e
theorem relL_blsD {K : PySem.W.Frag} {P : Addr → Prop} {m : List Addr} {H : Hp} : ∀ {ds : List D} {is : List Bool} {vs : List V}, blsD ds = some is → RelL K P m H ds vs → vs = is.map V.bl
  | [], is, vs, e, r => by cases e; exact r
  | .bl i :: ds, is, vs, e, r => by
    obtain ⟨w, ws, rfl, h1, h2⟩ := r
    have h1' : w = .bl i := h1
    subst h1'
    cases e2 : blsD ds with
    | none => simp only [blsD, e2] at e; cases e
    | some js =>
      simp only [blsD, e2] at e
      cases e
      rw [relL_blsD e2 h2]; rfl
  | .non :: _, _, _, e, _ => nomatch e
  | .str _ :: _, _, _, e, _ => nomatch e
  | .int _ :: _, _, _, e, _ => nomatch e
  | .tup _ :: _, _, _, e, _ => nomatch e
  | .lst _ :: _, _, _, e, _ => nomatch e
  | .obj _ :: _, _, _, e, _ => nomatch e
theorem maxI_mem : ∀ (l : List Int) (i : Int), maxI i l ∈ i :: l ∧ ∀ y ∈ i :: l, y ≤ maxI i l
  | [], i => ⟨by simp [maxI], fun y hy => by simp at hy; subst hy; simp [maxI]⟩
  | j :: r, i => by
    obtain ⟨h1, h2⟩ := maxI_mem r (if j > i then j else i)
    refine ⟨?_, fun y hy => ?_⟩
    · show maxI (if j > i then j else i) r ∈ i :: j :: r
      rcases List.mem_cons.mp h1 with e | e
      · rw [e]; split <;> simp
      · simp [e]
    · show y ≤ maxI (if j > i then j else i) r
      have h3 := h2 _ List.mem_cons_self
      have h4 : i ≤ (if j > i then j else i) ∧ j ≤ (if j > i then j else i) := by split <;> omega
      rcases List.mem_cons.mp hy with rfl | hy
      · exact Int.le_trans h4.1 h3
      · rcases List.mem_cons.mp hy with rfl | hy
        · exact Int.le_trans h4.2 h3
        · exact h2 y (List.mem_cons_of_mem _ hy)
theorem minI_mem : ∀ (l : List Int) (i : Int), minI i l ∈ i :: l ∧ ∀ y ∈ i :: l, minI i l ≤ y
  | [], i => ⟨by simp [minI], fun y hy => by simp at hy; subst hy; simp [minI]⟩
  | j :: r, i => by
    obtain ⟨h1, h2⟩ := minI_mem r (if j < i then j else i)
    refine ⟨?_, fun y hy => ?_⟩
    · show minI (if j < i then j else i) r ∈ i :: j :: r
      rcases List.mem_cons.mp h1 with e | e
      · rw [e]; split <;> simp
      · simp [e]
    · show minI (if j < i then j else i) r ≤ y
      have h3 := h2 _ List.mem_cons_self
      have h4 : (if j < i then j else i) ≤ i ∧ (if j < i then j else i) ≤ j := by split <;> omega
      rcases List.mem_cons.mp hy with rfl | hy
      · exact Int.le_trans h3 h4.1
      · rcases List.mem_cons.mp hy with rfl | hy
        · exact Int.le_trans h3 h4.2
        · exact h2 y (List.mem_cons_of_mem _ hy)
mutual
theorem D.noDict : ∀ d : D, d.py.hasDict = false
  | .non => by simp only [D.py, PyData.hasDict]
  | .bl _ => by simp only [D.py, PyData.hasDict]
  | .int _ => by simp only [D.py, PyData.hasDict]
  | .str _ => by simp only [D.py, PyData.hasDict]
  | .tup ds => by simp only [D.py, PyData.hasDict]; exact D.noDictAll ds
  | .lst ds => by simp only [D.py, PyData.hasDict]; exact D.noDictAll ds
  | .obj _ => by simp only [D.py, PyData.hasDict]
theorem D.noDictAll : ∀ ds : List D, PyData.hasDictAll (D.pyAll ds) = false
  | [] => by simp only [D.pyAll, PyData.hasDictAll]
  | d :: ds => by simp only [D.pyAll, PyData.hasDictAll, D.noDict d, D.noDictAll ds]; rfl
end
/-- repr of data -/
theorem call_repr_data (hg : Z.A.guards = some []) (hu : Z.A.units + 66 < cLine) {x : V} {u : Value} {d : PyData} {E : Value → Shared → Prop} (I : Inv Z pins σ H s) (rx : RelV x u) (h : Dp Z.K H x d) (h1 : d.showable = true) (h2 : d.hasDict = false) (h3 : d.depth ≤ 64) (h4 : d.shown.length ≤ 16777216)
    (q : Q (.str d.shown) H) : wpAny (model Z.prog Z.w) Z.A (call (.builtin "repr") [u]) (EP Z pins σ Q) E s := by
  obtain ⟨as, r⟩ := Dp.reads I d x u h rx
  have ref : ∀ a, u = .ref a → wpAny (model Z.prog Z.w) Z.A (call (.builtin "repr") [u]) (EP Z pins σ Q) E s := fun a e => by
    subst e
    exact repr_of_reads' r h1 (PyData.noDict_hsm h2) hg (by omega) (fun _ _ e => e) (fun h' t tk hk => ⟨.str d.shown, H, I.kept hk, ⟨t, rfl⟩, q⟩) (by rw [line16]; exact h4)
  cases h with
  | non => cases rx; exact PySem.P.repr_of_none ⟨.str "None", H, I.tok _, ⟨_, rfl⟩, by simpa only [PyData.shown] using q⟩
  | bl b => cases rx; exact PySem.P.repr_of_bool ⟨.str _, H, I.tok _, ⟨_, rfl⟩, by simpa only [PyData.shown] using q⟩
  | int i => obtain ⟨t, rfl⟩ := rx; exact PySem.P.repr_of_int (by simpa only [PyData.showable, decide_eq_true_eq] using h1) ⟨.str _, H, I.tok _, ⟨_, rfl⟩, by simpa only [PyData.shown] using q⟩
  | str y => obtain ⟨t, rfl⟩ := rx; exact PySem.P.repr_of_str ⟨.str _, H, I.tok _, ⟨_, rfl⟩, by simpa only [PyData.shown] using q⟩ (by rw [line16]; simpa only [PyData.shown] using h4)
  | lst _ _ => exact ref _ rx
  | tup _ _ => exact ref _ rx
end
end
end Fx

set_option Elab.async false
set_option linter.all false
set_option maxRecDepth 100000
set_option maxHeartbeats 1000000
/-! Fx 7: calls of built-in functions and of a text's methods. -/
namespace Fx
open PySem PySem.Spec PyProof.Rows L2

def B1.nm : B1 → Str
  | .len => "len" | .int => "int" | .str => "str" | .repr => "repr" | .sum => "sum" | .max => "max" | .min => "min" | .any => "any" | .all => "all" | .tuple => "tuple" | .ord => "ord"
def B1.val : B1 → Value
  | .len => .builtin "len" | .int => .type "int" | .str => .type "str" | .repr => .builtin "repr" | .sum => .builtin "sum" | .max => .builtin "max" | .min => .builtin "min" | .any => .builtin "any" | .all => .builtin "all"
  | .tuple => .type "tuple" | .ord => .builtin "ord"
/-- asks nothing of what is being handled -/
def B1.free : B1 → Bool
  | .len | .int | .str | .repr | .tuple | .ord => true
  | _ => false
def rB1 (K : PySem.W.Frag) (b : B1) : List V → Hp → VK → Prop := fun vs H Q => (∃ P m x v d, vs = [v] ∧ Own P m H ∧ RelB K P m H x v ∧ opB1 b x = some d ∧ vD K P m d H Q) ∨
  (b = .len ∧ ∃ p ys, vs = [.ref p] ∧ H p = some (.lst ys) ∧ Q (.int ys.length) H)
section
variable {Z : Cx} {pins : List (Addr × Obj)} {σ : L2.St} {H : Hp} {s : Shared} {Q : VK} {P : Addr → Prop} {m : List Addr}
theorem intsD_rel {K : PySem.W.Frag} {x : D} {v : V} {ds : List D} {is : List Int} (hx : RelB K P m H (.lst ds) v) (e : intsD ds = some is) : ∃ a, v = .ref a ∧ SqL K H a (is.map V.int) := by
  obtain ⟨p, vs, rfl, hl, r⟩ := hx.lst
  rw [relL_intsD e r] at hl
  exact ⟨p, rfl, hl⟩
theorem blsD_rel {K : PySem.W.Frag} {x : D} {v : V} {ds : List D} {is : List Bool} (hx : RelB K P m H (.lst ds) v) (e : blsD ds = some is) : ∃ a, v = .ref a ∧ SqL K H a (is.map V.bl) := by
  obtain ⟨p, vs, rfl, hl, r⟩ := hx.lst
  rw [relL_blsD e r] at hl
  exact ⟨p, rfl, hl⟩
theorem max_uniq {l : List Int} {i a : Int} (h : a ∈ i :: l) (h2 : ∀ y, y ∈ i :: l → y ≤ a) : a = maxI i l := by
  obtain ⟨h3, h4⟩ := maxI_mem l i
  have := h4 a h
  have := h2 _ h3
  omega
theorem min_uniq {l : List Int} {i a : Int} (h : a ∈ i :: l) (h2 : ∀ y, y ∈ i :: l → a ≤ y) : a = minI i l := by
  obtain ⟨h3, h4⟩ := minI_mem l i
  have := h4 a h
  have := h2 _ h3
  omega
theorem cb_len : CallR Z (.builtin "len") (rB1 Z.K .len) := by
  intro pins s σ H vs us Q I r h
  rcases h with ⟨P, m, x, v, d, rfl, own, hx, e, q⟩ | ⟨_, p, ys, rfl, hp, q⟩
  · cases x with
    | tup ds =>
      cases e
      obtain ⟨p, ys, rfl, ht, rl⟩ := hx.tup
      exact call_len_seq pins s σ H _ us Q I r ⟨p, ys, rfl, .inr ht.sq, by rw [← relL_length rl]; exact q.here rfl⟩
    | lst ds =>
      cases e
      obtain ⟨p, ys, rfl, ht, rl⟩ := hx.lst
      exact call_len_seq pins s σ H _ us Q I r ⟨p, ys, rfl, .inl ht, by rw [← relL_length rl]; exact q.here rfl⟩
    | str z =>
      have e1 := hx.str
      subst e1
      have e' : (if z.length ≤ 16777216 then some (D.int z.length) else none) = some d := e
      by_cases hz : z.length ≤ 16777216
      · rw [if_pos hz] at e'
        cases e'
        exact call_len_str pins s σ H _ us Q I r ⟨z, rfl, by rw [line16]; exact hz, q.here rfl⟩
      · rw [if_neg hz] at e'; cases e'
    | _ => exact nomatch e
  · exact call_len_seq pins s σ H _ us Q I r ⟨p, ys, rfl, .inl (SqL.of hp), q⟩
theorem cb_int : CallR Z (.type "int") (rB1 Z.K .int) := by
  intro pins s σ H vs us Q I r h
  rcases h with ⟨P, m, x, v, d, rfl, own, hx, e, q⟩ | ⟨e, _⟩
  · cases x with
    | int i => cases e; have e1 := hx.int; subst e1; exact call_int1 pins s σ H _ us Q I r (.inl ⟨i, rfl, q.here rfl⟩)
    | bl i => cases e; have e1 := hx.bl; subst e1; exact call_int1 pins s σ H _ us Q I r (.inr ⟨i, rfl, q.here rfl⟩)
    | str z =>
      have e1 := hx.str
      subst e1
      have e' : (match PySem.intText? z with | some n => if z.length ≤ 640 then some (D.int n) else none | none => none) = some d := e
      cases hn : PySem.intText? z with
      | none => rw [hn] at e'; cases e'
      | some n =>
        rw [hn] at e'
        by_cases hz : z.length ≤ 640
        · simp only [hz, if_true] at e'
          cases e'
          exact call_int_str pins s σ H _ us Q I r ⟨z, n, rfl, hn, hz, q.here rfl⟩
        · simp only [hz, if_false] at e'; cases e'
    | _ => exact nomatch e
  · cases e
theorem cb_str : CallR Z (.type "str") (rB1 Z.K .str) := by
  intro pins s σ H vs us Q I r h
  rcases h with ⟨P, m, x, v, d, rfl, own, hx, e, q⟩ | ⟨e, _⟩
  · cases x with
    | int i =>
      have e1 := hx.int
      subst e1
      have e' : (if i.natAbs.log2 < 1920 then some (D.str (toString i)) else none) = some d := e
      by_cases hz : i.natAbs.log2 < 1920
      · rw [if_pos hz] at e'
        cases e'
        exact call_str_int pins s σ H _ us Q I r ⟨i, rfl, hz, q.here rfl⟩
      · rw [if_neg hz] at e'; cases e'
    | _ => exact nomatch e
  · cases e
theorem cb_ord : CallR Z (.builtin "ord") (rB1 Z.K .ord) := by
  intro pins s σ H vs us Q I r h
  rcases h with ⟨P, m, x, v, d, rfl, own, hx, e, q⟩ | ⟨e, _⟩
  · cases x with
    | str z =>
      have e1 := hx.str
      subst e1
      have e' : (if z.length = 1 then some (D.int (z.cps.getD 0 0 : Nat)) else none) = some d := e
      by_cases hz : z.length = 1
      · rw [if_pos hz] at e'
        cases e'
        exact call_ord pins s σ H _ us Q I r ⟨z, rfl, hz, q.here rfl⟩
      · rw [if_neg hz] at e'; cases e'
    | _ => exact nomatch e
  · cases e
theorem cb_repr (hg : Z.A.guards = some []) (hu : Z.A.units + 66 < cLine) : CallR Z (.builtin "repr") (rB1 Z.K .repr) := by
  intro pins s σ H vs us Q I r h
  rcases h with ⟨P, m, x, v, d, rfl, own, hx, e, q⟩ | ⟨e, _⟩
  · obtain ⟨u, rfl, rx⟩ := vals1 r
    have e' : (if x.flat = true ∧ x.py.showable = true ∧ x.py.depth ≤ 64 ∧ x.py.shown.length ≤ 16777216 then some (D.str x.py.shown) else none) = some d := by
      cases x <;> exact e
    split at e'
    · rename_i hz
      obtain ⟨h1, h2, h3, h4⟩ := hz
      cases e'
      exact call_repr_data hg hu I rx (hx.dp h1) h2 (D.noDict x) h3 h4 (q.here rfl)
    · cases e'
  · cases e
theorem cb_tuple : CallR Z (.type "tuple") (rB1 Z.K .tuple) := by
  intro pins s σ H vs us Q I r h
  rcases h with ⟨P, m, x, v, d, rfl, own, hx, e, q⟩ | ⟨e, _⟩
  · cases x with
    | tup ds =>
      cases e
      obtain ⟨p, ys, rfl, ht, rl⟩ := hx.tup
      exact call_tuple_of pins s σ H _ us Q I r ⟨p, ys, rfl, .inr ⟨ht.sq, q.here ⟨p, ys, rfl, ht, rl⟩⟩⟩
    | lst ds =>
      cases e
      obtain ⟨p, ys, rfl, ht, rl⟩ := hx.lst
      refine call_tuple_of pins s σ H _ us Q I r ⟨p, ys, rfl, .inl ⟨ht, fun l hl => ?_⟩⟩
      exact q _ _ (Same.laid hl) ⟨l, ys, rfl, .inl ⟨.inl upd_same, own.fresh hl⟩, RelL.step (own.to_step (Same.laid hl)) ds rl⟩
    | _ => exact nomatch e
  · cases e
theorem cb_sum (hc : Z.calm = true) : CallR Z (.builtin "sum") (rB1 Z.K .sum) := by
  intro pins s σ H vs us Q I r h
  rcases h with ⟨P, m, x, v, d, rfl, own, hx, e, q⟩ | ⟨e, _⟩
  · cases x with
    | lst ds =>
      cases hi : intsD ds with
      | none => have e' : (intsD ds).map (fun is => D.int is.sum) = some d := e; rw [hi] at e'; cases e'
      | some is =>
        have e' : (intsD ds).map (fun is => D.int is.sum) = some d := e
        rw [hi] at e'
        cases e'
        obtain ⟨a, rfl, hl⟩ := intsD_rel (x := .non) hx hi
        exact cr_sum hc pins s σ H _ us Q I r ⟨a, is, rfl, hl, q.here rfl⟩
    | _ => exact nomatch e
  · cases e
theorem cb_max (hc : Z.calm = true) : CallR Z (.builtin "max") (rB1 Z.K .max) := by
  intro pins s σ H vs us Q I r h
  rcases h with ⟨P, m, x, v, d, rfl, own, hx, e, q⟩ | ⟨e, _⟩
  · cases x with
    | lst ds =>
      have e' : (match intsD ds with | some (i :: is) => some (D.int (maxI i is)) | _ => none) = some d := e
      cases hi : intsD ds with
      | none => rw [hi] at e'; cases e'
      | some is =>
        rw [hi] at e'
        cases is with
        | nil => cases e'
        | cons i is =>
          cases e'
          obtain ⟨a, rfl, hl⟩ := intsD_rel (x := .non) hx hi
          exact cr_max hc pins s σ H _ us Q I r ⟨a, i :: is, rfl, hl, Nat.succ_pos _, fun k hk hm => by rw [max_uniq hk hm]; exact q.here rfl⟩
    | _ => exact nomatch e
  · cases e
theorem cb_min (hc : Z.calm = true) : CallR Z (.builtin "min") (rB1 Z.K .min) := by
  intro pins s σ H vs us Q I r h
  rcases h with ⟨P, m, x, v, d, rfl, own, hx, e, q⟩ | ⟨e, _⟩
  · cases x with
    | lst ds =>
      have e' : (match intsD ds with | some (i :: is) => some (D.int (minI i is)) | _ => none) = some d := e
      cases hi : intsD ds with
      | none => rw [hi] at e'; cases e'
      | some is =>
        rw [hi] at e'
        cases is with
        | nil => cases e'
        | cons i is =>
          cases e'
          obtain ⟨a, rfl, hl⟩ := intsD_rel (x := .non) hx hi
          exact cr_min hc pins s σ H _ us Q I r ⟨a, i :: is, rfl, hl, Nat.succ_pos _, fun k hk hm => by rw [min_uniq hk hm]; exact q.here rfl⟩
    | _ => exact nomatch e
  · cases e
theorem dpAll_ints {K : PySem.W.Frag} {H : Hp} : ∀ is : List Int, DpAll K H (is.map V.int) (is.map PyData.int)
  | [] => .nil
  | i :: r => .cons (.int i) (dpAll_ints r)
theorem plain_ints : ∀ is : List Int, PyData.plainAll (is.map PyData.int) = true
  | [] => rfl
  | i :: r => by rw [List.map_cons, PyData.plainAll, plain_ints r]; rfl
theorem any_ints : ∀ is : List Int, (is.map PyData.int).any PyData.truthy = is.any fun i => i != 0
  | [] => rfl
  | i :: r => by rw [List.map_cons, List.any_cons, List.any_cons, any_ints r]; rfl
theorem cb_any (hc : Z.calm = true) : CallR Z (.builtin "any") (rB1 Z.K .any) := by
  intro pins s σ H vs us Q I r h
  rcases h with ⟨P, m, x, v, d, rfl, own, hx, e, q⟩ | ⟨e, _⟩
  · cases x with
    | lst ds =>
      have e' : (match blsD ds with
        | some bs => some (D.bl (bs.any id))
        | none => (intsD ds).bind fun is => if (is.all fun i => decide (-1000000000000 < i ∧ i < 1000000000000)) = true then some (D.bl (is.any fun i => i != 0)) else none) = some d := e
      cases hi : blsD ds with
      | some is =>
        rw [hi] at e'
        cases e'
        obtain ⟨a, rfl, hl⟩ := blsD_rel (x := .non) hx hi
        exact cr_any hc pins s σ H _ us Q I r ⟨a, is, rfl, hl, q.here rfl⟩
      | none =>
        rw [hi] at e'
        cases h2 : intsD ds with
        | none => rw [h2] at e'; cases e'
        | some is =>
          rw [h2] at e'
          have e2 : (if (is.all fun i => decide (-1000000000000 < i ∧ i < 1000000000000)) = true then some (D.bl (is.any fun i => i != 0)) else none) = some d := e'
          split at e2
          · rename_i hz
            cases e2
            obtain ⟨a, rfl, hl⟩ := intsD_rel (x := .non) hx h2
            obtain ⟨u, rfl, rx⟩ := vals1 r
            cases rx
            obtain ⟨its, rv, p, hz2⟩ := I.list hl
            obtain ⟨as, ra⟩ := Dp.readsAll I _ _ _ (dpAll_ints is) rv
            refine PySem.W.any_list_data (vs := its.toArray) (I.ok.hd hc) p.isList ra (plain_ints is) (fun x hx => ?_) fun h' tk hk => ?_
            · obtain ⟨i, hi, e⟩ := List.mem_map.mp hx
              subst e
              have := of_decide_eq_true (List.all_eq_true.mp hz i hi)
              first | exact trivial | (simp only [PyData.fits63]; omega)
            · rw [any_ints]
              exact ⟨.bl _, H, I.kept hk, rfl, q.here rfl⟩
          · cases e2
    | _ => exact nomatch e
  · cases e
theorem cb_all (hc : Z.calm = true) : CallR Z (.builtin "all") (rB1 Z.K .all) := by
  intro pins s σ H vs us Q I r h
  rcases h with ⟨P, m, x, v, d, rfl, own, hx, e, q⟩ | ⟨e, _⟩
  · cases x with
    | lst ds =>
      have e' : (blsD ds).map (fun bs => D.bl (bs.all id)) = some d := e
      cases hi : blsD ds with
      | none => rw [hi] at e'; cases e'
      | some is =>
        rw [hi] at e'
        cases e'
        obtain ⟨a, rfl, hl⟩ := blsD_rel (x := .non) hx hi
        exact cr_all hc pins s σ H _ us Q I r ⟨a, is, rfl, hl, q.here rfl⟩
    | _ => exact nomatch e
  · cases e
theorem cb1 (hg : Z.A.guards = some []) (hu : Z.A.units + 66 < cLine) (b : B1) (hc : b.free = true ∨ Z.calm = true) : CallR Z b.val (rB1 Z.K b) := by
  have calm : b.free = false → Z.calm = true := fun e => hc.resolve_left (by rw [e]; exact Bool.false_ne_true)
  cases b with
  | len => exact cb_len
  | int => exact cb_int
  | str => exact cb_str
  | repr => exact cb_repr hg hu
  | sum => exact cb_sum (calm rfl)
  | max => exact cb_max (calm rfl)
  | min => exact cb_min (calm rfl)
  | any => exact cb_any (calm rfl)
  | all => exact cb_all (calm rfl)
  | tuple => exact cb_tuple
  | ord => exact cb_ord
end

section
variable {Z : Cx} {Y : Rd'} {g : G}
/-- the call's one argument -/
theorem pa_one {e : Expr} {t : TE} (hs : noStar e = true) (h : PE Z e t) : PA Z [e] (fun σ H Q => t σ H fun v H1 => Q [v] H1) := (pa_cons h pa_nil (star_cons hs)).imp fun σ H Q q => q
theorem boot_len : bootBuiltins "len" = some (.builtin "len") := by decide +kernel
theorem boot1 (b : B1) : bootBuiltins b.nm = some b.val := by cases b <;> decide +kernel
theorem b1_call {b : B1} {e : Expr} {t : TA} {r : List V → Hp → VK → Prop} {p pos : Pos} (hc : CallR Z b.val r) (hg : Gl Z b.nm) (hm : Z.mg b.nm = none) (hs : noStar e = true) (ha : PA Z [e] t) : PE Z (.Call (.Name b.nm p) [e] [] pos) (tCB r t) := by
  have he : starEach [e] Z.env = (false, eval e Z.env) :: starEach [] Z.env := star_cons hs
  have hb := boot1 b
  cases b <;> first
    | exact pe_callB hc hg hm hb ha (by decide) (by decide) he rfl
    | exact pe_callTy hc hg hm hb ha (by decide) (by decide) he rfl
theorem q_b1 {b : B1} {e : Expr} {xa : L} {p pos : Pos} (hA : Z.A.guards = some []) (hu : Z.A.units + 66 < cLine) (hc : b.free = true ∨ Z.calm = true) (hg : Gl Z b.nm) (hm : Z.mg b.nm = none) (hs : noStar e = true) (he : PE Z e (TL Z.K Y g xa)) :
    PE Z (.Call (.Name b.nm p) [e] [] pos) (TX Z.K Y g (.b1 b xa)) := (b1_call (cb1 hA hu b hc) hg hm hs (pa_one hs he)).imp fun σ H Q h => by
  refine TG.first (r1 := L.ev g xa) (r2 := fun x _ => match b, x with
    | .len, D.obj n => M.get >>= fun s => match s[n]? with
      | some (.lst ds) => pure (.int ds.length)
      | _ => M.bad
    | b, x => M.opt (opB1 b x)) h fun P m1 env st1 H1 x v sat rx hw => ?_
  have plain : Wp (M.opt (opB1 b x) st1) (VP Z.K Y (rhoD Z.K) P m1 H1 Q) (XP Z.K Y P m1 σ H1) → rB1 Z.K b [v] H1 Q := fun hw => by
    obtain ⟨d, e, q⟩ := wp_opt hw
    exact .inl ⟨P, m1, x, v, d, rfl, sat.own, rx, e, q.same sat⟩
  cases x with
  | obj n =>
    cases b with
    | len =>
      have hw' : Wp ((M.get >>= fun s => match s[n]? with
        | some (O.lst ds) => pure (D.int ds.length)
        | _ => M.bad) st1) (VP Z.K Y (rhoD Z.K) P m1 H1 Q) (XP Z.K Y P m1 σ H1) := hw
      rw [wp_seq, wp_get] at hw'
      cases ho : st1[n]? with
      | none => rw [ho] at hw'; exact absurd hw' id
      | some o =>
        rw [ho] at hw'
        cases o with
        | lst ds =>
          obtain ⟨p, rfl, hm'⟩ := rx.obj
          obtain ⟨p', ys, hm2, hp, r⟩ := sat.st.lst ho
          rw [hm'] at hm2; cases hm2
          exact .inr ⟨rfl, p, ys, rfl, hp, by rw [← relL_length r]; exact (wp_vp (rho := rhoD Z.K) hw').here sat.st rfl⟩
        | _ => exact absurd hw' id
    | _ => exact plain hw
  | _ => exact plain (by cases b <;> exact hw)

theorem q_b1o {b : B1} {e : Expr} {xa : L} {p pos : Pos} (hA : Z.A.guards = some []) (hu : Z.A.units + 66 < cLine) (hc : b.free = true ∨ Z.calm = true) (hg : Gl Z b.nm) (hm : Z.mg b.nm = none) (hs : noStar e = true) (he : PE Z e (TL Z.K Y g xa)) :
    PE Z (.Call (.Name b.nm p) [e] [] pos) (TX Z.K Y g (.b1o b xa)) := (b1_call (cb1 hA hu b hc) hg hm hs (pa_one hs he)).imp fun σ H Q h => by
  refine TG.first (r1 := L.ev g xa) (r2 := fun x _ => M.get >>= fun s => M.opt (opB1 b (derS s x))) h fun P m1 env st1 H1 x v sat rx hw => ?_
  rw [wp_seq, wp_get] at hw
  obtain ⟨d, e, q⟩ := wp_opt hw
  exact .inl ⟨Bad P m1, m1, derS st1 x, v, d, rfl, sat.own.toBad, rx.der sat.st, e, (q.same sat).ofBad⟩

/-! ### isinstance of a built-in type -/
def tyS (t : Nat) : String := if t = 0 then "tuple" else if t = 1 then "list" else if t = 2 then "int" else "str"
def tyNm (t : Nat) : Str := if t = 0 then "tuple" else if t = 1 then "list" else if t = 2 then "int" else "str"
theorem boot_ty (t : Nat) : bootBuiltins (tyNm t) = some (.type (tyS t)) := by
  unfold tyNm tyS
  by_cases h0 : t = 0
  · rw [if_pos h0, if_pos h0]; decide +kernel
  · rw [if_neg h0, if_neg h0]
    by_cases h1 : t = 1
    · rw [if_pos h1, if_pos h1]; decide +kernel
    · rw [if_neg h1, if_neg h1]
      by_cases h2 : t = 2
      · rw [if_pos h2, if_pos h2]; decide +kernel
      · rw [if_neg h2, if_neg h2]; decide +kernel
theorem ty_nm (t : Nat) : tyNm t ≠ "__name__" ∧ (tyNm t == ("__debug__" : Str)) = false := by
  unfold tyNm
  by_cases h0 : t = 0
  · rw [if_pos h0]; decide
  · rw [if_neg h0]
    by_cases h1 : t = 1
    · rw [if_pos h1]; decide
    · rw [if_neg h1]
      by_cases h2 : t = 2
      · rw [if_pos h2]; decide
      · rw [if_neg h2]; decide
theorem kit4 (t : Nat) (ht : t < 4) : kitB "NoneType" (tyS t) = some false ∧ kitB "bool" (tyS t) = some (t == 2) ∧ kitB "int" (tyS t) = some (t == 2) ∧ kitB "str" (tyS t) = some (t == 3) ∧ kitB "tuple" (tyS t) = some (t == 0) ∧ kitB "list" (tyS t) = some (t == 1) := by
  obtain rfl | rfl | rfl | rfl : t = 0 ∨ t = 1 ∨ t = 2 ∨ t = 3 := by omega
  all_goals decide +kernel
theorem tyx_tup {K : PySem.W.Frag} {P : Addr → Prop} {m : List Addr} {H : Hp} {a : Addr} {vs : List V} (h : TupAt K P m H a vs) : TyX K H (.ref a) (.type "tuple") := by
  rcases h with ⟨h | ⟨o, h⟩, _⟩ | ⟨o, its, n, h, hc, _⟩
  · exact .base (.tup h)
  · exact .fTuple h
  · exact .kTuple h hc
theorem tyx_lst {K : PySem.W.Frag} {H : Hp} {a : Addr} {vs : List V} (h : SqL K H a vs) : TyX K H (.ref a) (.type "list") := by
  rcases h with (h | ⟨o, h⟩) | ⟨o, its, n, h, hc, _⟩
  · exact .base (.lst h)
  · exact .base (.frz h)
  · exact .kList h hc
theorem tyx_of {K : PySem.W.Frag} {P : Addr → Prop} {m : List Addr} {H : Hp} {x : D} {v : V} {t : Nat} {b : Bool} (ht : t < 4) (r : RelB K P m H x v) (e : isTD t x = some b) : ∃ u, TyX K H v u ∧ PySem.W.kitOne K u (.type (tyS t)) = some b := by
  obtain ⟨k1, k2, k3, k4, k5, k6⟩ := kit4 t ht
  cases x with
  | non => cases e; cases r.non; exact ⟨_, .base .non, kit_ty k1⟩
  | bl q => cases e; cases r.bl; exact ⟨_, .base (.bl q), kit_ty k2⟩
  | int q => cases e; cases r.int; exact ⟨_, .base (.int q), kit_ty k3⟩
  | str q => cases e; cases r.str; exact ⟨_, .base (.str q), kit_ty k4⟩
  | tup q => cases e; obtain ⟨a, vs, rfl, h, _⟩ := r.tup; exact ⟨_, tyx_tup h, kit_ty k5⟩
  | lst q => cases e; obtain ⟨a, vs, rfl, h, _⟩ := r.lst; exact ⟨_, tyx_lst h, kit_ty k6⟩
  | obj n => cases e
theorem boot_isi0 : bootBuiltins "isinstance" = some (.builtin "isinstance") := by decide +kernel
theorem q_isT {t : Nat} {e : Expr} {xa : L} {p p2 pos : Pos} (ht : t < 4) (hs : noStar e = true) (he : PE Z e (TL Z.K Y g xa)) (hg : Gl Z "isinstance") (hm : Z.mg "isinstance" = none) (hgt : Gl Z (tyNm t)) (hmt : Z.mg (tyNm t) = none) :
    PE Z (.Call (.Name "isinstance" p) [e, .Name (tyNm t) p2] [] pos) (TX Z.K Y g (.isT t xa)) := by
  have hn : PE Z (.Name (tyNm t) p2) (tC (.ty (tyS t))) := pe_bltn hgt hmt (boot_ty t) rfl (ty_nm t).1 (ty_nm t).2
  have hp : PA Z [e, .Name (tyNm t) p2] (fun σ H Q => TL Z.K Y g xa σ H fun v H1 => tC (.ty (tyS t)) σ H1 fun w H2 => Q [v, w] H2) := (pa_cons he (pa_one rfl hn) (star_cons hs)).imp fun σ H Q q => q
  refine (pe_callB call_isi hg hm boot_isi0 hp (by decide) (by decide) (star_cons hs) rfl).imp fun σ H Q h => ?_
  refine TG.first (r1 := L.ev g xa) (r2 := fun x _ => match x with
    | .obj n => M.get >>= fun s => match s[n]? with
      | some (O.lst _) => pure (D.bl (t == 1))
      | _ => M.bad
    | x => M.opt ((isTD t x).map D.bl)) h fun P m1 env st1 H1 x v sat rx hw => ?_
  have plain : Wp (M.opt ((isTD t x).map D.bl) st1) (VP Z.K Y (rhoD Z.K) P m1 H1 Q) (XP Z.K Y P m1 σ H1) → rIsi Z.K [v, .ty (tyS t)] H1 Q := fun hw => by
    obtain ⟨d, e, q⟩ := wp_opt hw
    cases e1 : isTD t x with
    | none => rw [e1] at e; cases e
    | some b =>
      rw [e1] at e; cases e
      obtain ⟨u, q1, q2⟩ := tyx_of ht rx e1
      exact ⟨v, _, u, _, b, rfl, .ty _, q1, q2, q.here sat.st rfl⟩
  cases x with
  | obj n =>
    have hw' : Wp ((M.get >>= fun s => match s[n]? with
      | some (O.lst _) => pure (D.bl (t == 1))
      | _ => M.bad) st1) (VP Z.K Y (rhoD Z.K) P m1 H1 Q) (XP Z.K Y P m1 σ H1) := hw
    rw [wp_seq, wp_get] at hw'
    cases ho : st1[n]? with
    | none => rw [ho] at hw'; exact absurd hw' id
    | some o =>
      rw [ho] at hw'
      cases o with
      | lst ds =>
        obtain ⟨p, rfl, hm'⟩ := rx.obj
        obtain ⟨p', ys, hm2, hp, r⟩ := sat.st.lst ho
        rw [hm'] at hm2; cases hm2
        exact ⟨.ref p, _, _, _, (t == 1), rfl, .ty _, .base (.lst hp), kit_ty (kit4 t ht).2.2.2.2.2, (wp_vp (rho := rhoD Z.K) hw').here sat.st rfl⟩
      | _ => exact absurd hw' id
  | _ => exact plain hw

/-! ### two values -/
section
open PySem.W
variable {prog : Program} {w : World} {A : Around} {E : Value → Shared → Prop} {s : Shared}
theorem pick_two {a b : Value} {x y : PyData} {as bs : List Addr} (f : PyData → PyData → Bool) {v : Value} (hP : (#[a, b] : Array Value)[argBest (fun i j => f ([x, y].getD i .none) ([x, y].getD j .none)) 1]? = some v) : v = if f y x then b else a := by
  by_cases h : f y x = true
  · have e : argBest (fun i j => f ([x, y].getD i .none) ([x, y].getD j .none)) 1 = 1 := by simp [argBest, h]
    rw [e] at hP
    rw [if_pos h]
    simpa using hP.symm
  · have e : argBest (fun i j => f ([x, y].getD i .none) ([x, y].getD j .none)) 1 = 0 := by simp [argBest, h]
    rw [e] at hP
    rw [if_neg h]
    simpa using hP.symm
theorem min_two_data {a b : Value} {x y : PyData} {as : List Addr} {Q : Value → Shared → Prop} (hh : A.handled = none) (hr : ReadsAll s.heap [a, b] [x, y] as) (ha : AlikeAll [x, y]) (hu : A.units + 1 + PyData.depthAll [x, y] < cLine)
    (h : ∀ h' tk, (∀ b o, s.heap.get? b = some o → h'.get? b = some o) → Q (if dataLt y x then b else a) { s with heap := h', toks := tk }) :
    wpAny (model prog w) A (call (.builtin "min") [a, b]) Q E s := by
  have hT : (s.heap.push { cls := .type "tuple", data := .seq #[a, b] }).IsTuple s.heap.objs.size #[a, b] := ⟨_, Heap.get?_push_size _ rfl, rfl, 0, rfl⟩
  have hname : (toString "min" ++ toString ".loop" : String) = "min.loop" := by decide
  refine call_function_tree F.kind_min F.plain_min F.entry_min (F.args_min2 _ _) ?_
  show wpAny _ A.in1 (Builtin.Builtins.bindParams "min" ["key", "default"] 0 ⟨[], []⟩ >>= _) _ _ s
  refine wpAny_bind (wpAny_of_eq (show Builtin.Builtins.bindParams "min" ["key", "default"] 0 ⟨[], []⟩ = pure [none, none] from rfl) ?_)
  show wpAny _ A.in1 (newTuple [a, b] >>= _) _ _ s
  refine wpAny_bind (wpAny_newObj_type ?_)
  refine wpAny_bind (iter_tupleW (A := A.in1) hh hT fun s₂ e W hst hfp hw hk => ?_)
  refine wpAny_bind (wpAny_newObj_type ?_)
  have hSf : s₂.heap.objs.size ∉ _ := fun hm => Nat.lt_irrefl _ (hfp _ hm)
  rw [hname]
  have old : ∀ b o, s.heap.get? b = some o → s₂.heap.get? b = some o := fun b o e2 => hk b o (Heap.get?_push_of_some _ e2)
  refine wpAny_pure ⟨plainId_quiet F.plain_min_loop _, codeAny_min_loop_firstH W s.heap (fun b o e2 => hw b o (Heap.get?_push_of_some _ e2)) _ (cmpIn_lt (A := A.in1) (vs := #[a, b]) hr ha (by show A.units + 1 + _ < _; exact hu)) s₂.heap.objs.size hSf (fresh_in old) _ (by simp) (fun b o e2 => Heap.get?_push_of_some _ (old b o e2)) (W.frame 0 s₂ _ s₂.toks hst (Nat.le_refl _) fun b _ o e => Heap.get?_push_of_some _ e) (Heap.get?_push_size _ rfl) fun v s' hP m => ?_⟩
  obtain ⟨h', tk, rfl, hk'⟩ := moved_old e rfl (Moved.drop_new (tk := s₂.toks) m (Nat.le_refl _))
  rw [pick_two (as := []) (bs := []) dataLt hP]
  exact h h' tk fun b o e2 => hk' b o (Heap.get?_push_of_some _ e2)
theorem pick_two' {a b : Value} {x y : PyData} {v : Value} (hP : (#[a, b] : Array Value)[argBest (fun i j => dataLt ([x, y].getD j .none) ([x, y].getD i .none)) 1]? = some v) : v = if dataLt x y then b else a := pick_two (as := []) (bs := []) (fun p q => dataLt q p) hP
theorem max_two_data {a b : Value} {x y : PyData} {as : List Addr} {Q : Value → Shared → Prop} (hh : A.handled = none) (hr : ReadsAll s.heap [a, b] [x, y] as) (ha : AlikeAll [x, y]) (hu : A.units + 1 + PyData.depthAll [x, y] < cLine)
    (h : ∀ h' tk, (∀ b o, s.heap.get? b = some o → h'.get? b = some o) → Q (if dataLt x y then b else a) { s with heap := h', toks := tk }) :
    wpAny (model prog w) A (call (.builtin "max") [a, b]) Q E s := by
  have hT : (s.heap.push { cls := .type "tuple", data := .seq #[a, b] }).IsTuple s.heap.objs.size #[a, b] := ⟨_, Heap.get?_push_size _ rfl, rfl, 0, rfl⟩
  have hname : (toString "max" ++ toString ".loop" : String) = "max.loop" := by decide
  refine call_function_tree F.kind_max F.plain_max F.entry_max (F.args_max2 _ _) ?_
  show wpAny _ A.in1 (Builtin.Builtins.bindParams "max" ["key", "default"] 0 ⟨[], []⟩ >>= _) _ _ s
  refine wpAny_bind (wpAny_of_eq (show Builtin.Builtins.bindParams "max" ["key", "default"] 0 ⟨[], []⟩ = pure [none, none] from rfl) ?_)
  show wpAny _ A.in1 (newTuple [a, b] >>= _) _ _ s
  refine wpAny_bind (wpAny_newObj_type ?_)
  refine wpAny_bind (iter_tupleW (A := A.in1) hh hT fun s₂ e W hst hfp hw hk => ?_)
  refine wpAny_bind (wpAny_newObj_type ?_)
  have hSf : s₂.heap.objs.size ∉ _ := fun hm => Nat.lt_irrefl _ (hfp _ hm)
  rw [hname]
  have old : ∀ b o, s.heap.get? b = some o → s₂.heap.get? b = some o := fun b o e2 => hk b o (Heap.get?_push_of_some _ e2)
  refine wpAny_pure ⟨plainId_quiet F.plain_max_loop _, codeAny_max_loop_firstH W s.heap (fun b o e2 => hw b o (Heap.get?_push_of_some _ e2)) _ (cmpIn_gt (A := A.in1) (vs := #[a, b]) hr ha (by show A.units + 1 + _ < _; exact hu)) s₂.heap.objs.size hSf (fresh_in old) _ (by simp) (fun b o e2 => Heap.get?_push_of_some _ (old b o e2)) (W.frame 0 s₂ _ s₂.toks hst (Nat.le_refl _) fun b _ o e => Heap.get?_push_of_some _ e) (Heap.get?_push_size _ rfl) fun v s' hP m => ?_⟩
  obtain ⟨h', tk, rfl, hk'⟩ := moved_old e rfl (Moved.drop_new (tk := s₂.toks) m (Nat.le_refl _))
  rw [pick_two' hP]
  exact h h' tk fun b o e2 => hk' b o (Heap.get?_push_of_some _ e2)
end

mutual
theorem D.alike_self : ∀ d : D, PySem.W.alike d.py d.py = true
  | .non => by simp only [D.py, PySem.W.alike]
  | .bl _ => by simp only [D.py, PySem.W.alike]
  | .int _ => by simp only [D.py, PySem.W.alike]
  | .str _ => by simp only [D.py, PySem.W.alike]
  | .tup ds => by simp only [D.py, PySem.W.alike]; exact D.alike_selfs ds
  | .lst ds => by simp only [D.py, PySem.W.alike]; exact D.alike_selfs ds
  | .obj _ => by simp only [D.py, PySem.W.alike]
theorem D.alike_selfs : ∀ ds : List D, PySem.W.alikeAll (D.pyAll ds) (D.pyAll ds) = true
  | [] => by simp only [D.pyAll, PySem.W.alikeAll]
  | d :: ds => by simp only [D.pyAll, PySem.W.alikeAll, D.alike_self d, D.alike_selfs ds]; rfl
end
def B2.nm : B2 → Str
  | .max | .maxD => "max" | .min | .minD => "min"
def B2.val : B2 → Value
  | .max | .maxD => .builtin "max" | .min | .minD => .builtin "min"
def B2.two : B2 → Bool
  | .max | .min => true
  | _ => false
def rB2 (K : PySem.W.Frag) (b : B2) : List V → Hp → VK → Prop := fun vs H Q => ∃ P m x y v w d, vs = [v, w] ∧ Own P m H ∧ RelB K P m H x v ∧ Rel K P m H y w ∧ opB2 b x y = some d ∧ vD K P m d H Q
theorem alike_two {x y : D} (hf : x.flat = true) (h : PySem.W.alike x.py y.py = true) (hn : x.isN = false) : PySem.W.AlikeAll [x.py, y.py] := by
  have h2 : PySem.W.alike y.py x.py = true := by rw [PySem.W.alike_comm]; exact h
  have n1 := notN hn hf
  have n2 : y.py ≠ .none := PySem.W.ne_none_both h n1
  refine ⟨fun a ha b hb => ?_, fun a ha => ?_⟩
  · simp only [List.mem_cons, List.not_mem_nil, or_false] at ha hb
    rcases ha with rfl | rfl <;> rcases hb with rfl | rfl
    · exact D.alike_self x
    · exact h
    · exact h2
    · exact D.alike_self y
  · simp only [List.mem_cons, List.not_mem_nil, or_false] at ha
    rcases ha with rfl | rfl
    · exact n1
    · exact n2
theorem depth_two {x y : PyData} (hx : x.depth ≤ 32) (hy : y.depth ≤ 32) : PyData.depthAll [x, y] ≤ 34 := by
  simp only [PyData.depthAll]
  omega
theorem relB_flatOr {K : PySem.W.Frag} {P : Addr → Prop} {m : List Addr} {H : Hp} {x : D} {v : V} : RelB K P m H x v → True := fun _ => trivial
theorem cb_min2 (hu : Z.A.units + 66 < cLine) (hc : Z.calm = true) : CallR Z (.builtin "min") (fun vs H Q => ∃ P m x y v w d, vs = [v, w] ∧ Own P m H ∧ Rel Z.K P m H x v ∧ Rel Z.K P m H y w ∧ opB2 .min x y = some d ∧ vD Z.K P m d H Q) := by
  intro pins s σ H vs us Q I r ⟨P, m, x, y, v, w, d, e1, own, hx, hy, e, q⟩
  subst e1
  have e' : (ltD y x).map (fun k => if k then y else x) = some d := e
  cases hk : ltD y x with
  | none => rw [hk] at e'; cases e'
  | some k =>
    rw [hk] at e'
    have ed : (if k then y else x) = d := by simpa using e'
    have pick : Rel Z.K P m H d (if k then w else v) := by
      subst ed
      cases k
      · exact hx
      · exact hy
    rcases ltD_data hk with ⟨i, j, rfl, rfl, rfl⟩ | ⟨i, j, rfl, rfl, rfl⟩ | ⟨c1, c2, c3, c4, c5, c6, rfl⟩
    · have e1 : v = .int j := hx; have e2 : w = .int i := hy
      subst e1 e2
      refine call_min2 hc pins s σ H _ us Q I r ⟨j, i, rfl, ?_⟩
      refine q.here ?_
      by_cases hij : i < j
      · simpa [hij] using pick
      · simpa [hij] using pick
    · obtain ⟨u, u', rfl, r1, r2⟩ := vals2 r
      obtain ⟨as1, q1⟩ := Dp.reads I _ v u (Rel.dp (.str j) rfl hx) r1
      obtain ⟨as2, q2⟩ := Dp.reads I _ w u' (Rel.dp (.str i) rfl hy) r2
      have hal : PySem.W.AlikeAll [(D.str j).py, (D.str i).py] := alike_two rfl (by simp only [D.py, PySem.W.alike]) rfl
      refine min_two_data (x := (D.str j).py) (y := (D.str i).py) (I.ok.hd hc) (.cons q1 (.cons q2 .nil)) hal (by have := depth_two (x := (D.str j).py) (y := (D.str i).py) (by simp only [D.py, PyData.depth]; omega) (by simp only [D.py, PyData.depth]; omega); omega) fun h' tk hk' => ?_
      have hl : PySem.W.dataLt (D.str i).py (D.str j).py = decide (i.cps.toList < j.cps.toList) := by
        simp only [D.py]
        exact PySem.W.dataLt_str i j
      rw [hl]
      refine ⟨if decide (i.cps.toList < j.cps.toList) = true then w else v, H, I.kept hk', ?_, q.here pick⟩
      cases decide (i.cps.toList < j.cps.toList)
      · exact r1
      · exact r2
    · obtain ⟨u, u', rfl, r1, r2⟩ := vals2 r
      obtain ⟨as1, q1⟩ := Dp.reads I _ v u (Rel.dp x c2 hx) r1
      obtain ⟨as2, q2⟩ := Dp.reads I _ w u' (Rel.dp y c1 hy) r2
      have hal0 := alike_two c1 c3 c4
      have hal : PySem.W.AlikeAll [x.py, y.py] := ⟨fun a ha b hb => hal0.1 a (by simp at ha ⊢; exact ha.symm) b (by simp at hb ⊢; exact hb.symm), fun a ha => hal0.2 a (by simp at ha ⊢; exact ha.symm)⟩
      refine min_two_data (x := x.py) (y := y.py) (I.ok.hd hc) (.cons q1 (.cons q2 .nil)) hal (by have := depth_two c6 c5; omega) fun h' tk hk' => ?_
      refine ⟨if PySem.W.dataLt y.py x.py = true then w else v, H, I.kept hk', ?_, q.here pick⟩
      cases PySem.W.dataLt y.py x.py
      · exact r1
      · exact r2
theorem cb_max2 (hu : Z.A.units + 66 < cLine) (hc : Z.calm = true) : CallR Z (.builtin "max") (fun vs H Q => ∃ P m x y v w d, vs = [v, w] ∧ Own P m H ∧ Rel Z.K P m H x v ∧ Rel Z.K P m H y w ∧ opB2 .max x y = some d ∧ vD Z.K P m d H Q) := by
  intro pins s σ H vs us Q I r ⟨P, m, x, y, v, w, d, e1, own, hx, hy, e, q⟩
  subst e1
  have e' : (ltD x y).map (fun k => if k then y else x) = some d := e
  cases hk : ltD x y with
  | none => rw [hk] at e'; cases e'
  | some k =>
    rw [hk] at e'
    have ed : (if k then y else x) = d := by simpa using e'
    have pick : Rel Z.K P m H d (if k then w else v) := by
      subst ed
      cases k
      · exact hx
      · exact hy
    rcases ltD_data hk with ⟨i, j, rfl, rfl, rfl⟩ | ⟨i, j, rfl, rfl, rfl⟩ | ⟨c1, c2, c3, c4, c5, c6, rfl⟩
    · have e1 : v = .int i := hx; have e2 : w = .int j := hy
      subst e1 e2
      refine call_max2 hc pins s σ H _ us Q I r ⟨i, j, rfl, ?_⟩
      refine q.here ?_
      by_cases hij : i < j
      · simpa [hij] using pick
      · simpa [hij] using pick
    · obtain ⟨u, u', rfl, r1, r2⟩ := vals2 r
      obtain ⟨as1, q1⟩ := Dp.reads I _ v u (Rel.dp (.str i) rfl hx) r1
      obtain ⟨as2, q2⟩ := Dp.reads I _ w u' (Rel.dp (.str j) rfl hy) r2
      have hal : PySem.W.AlikeAll [(D.str i).py, (D.str j).py] := alike_two rfl (by simp only [D.py, PySem.W.alike]) rfl
      refine max_two_data (x := (D.str i).py) (y := (D.str j).py) (I.ok.hd hc) (.cons q1 (.cons q2 .nil)) hal (by have := depth_two (x := (D.str i).py) (y := (D.str j).py) (by simp only [D.py, PyData.depth]; omega) (by simp only [D.py, PyData.depth]; omega); omega) fun h' tk hk' => ?_
      have hl : PySem.W.dataLt (D.str i).py (D.str j).py = decide (i.cps.toList < j.cps.toList) := by
        simp only [D.py]
        exact PySem.W.dataLt_str i j
      rw [hl]
      refine ⟨if decide (i.cps.toList < j.cps.toList) = true then w else v, H, I.kept hk', ?_, q.here pick⟩
      cases decide (i.cps.toList < j.cps.toList)
      · exact r1
      · exact r2
    · obtain ⟨u, u', rfl, r1, r2⟩ := vals2 r
      obtain ⟨as1, q1⟩ := Dp.reads I _ v u (Rel.dp x c1 hx) r1
      obtain ⟨as2, q2⟩ := Dp.reads I _ w u' (Rel.dp y c2 hy) r2
      refine max_two_data (x := x.py) (y := y.py) (I.ok.hd hc) (.cons q1 (.cons q2 .nil)) (alike_two c1 c3 c4) (by have := depth_two c5 c6; omega) fun h' tk hk' => ?_
      refine ⟨if PySem.W.dataLt x.py y.py = true then w else v, H, I.kept hk', ?_, q.here pick⟩
      cases PySem.W.dataLt x.py y.py
      · exact r1
      · exact r2
theorem pa_two {e e2 : Expr} {t t2 : TE} (hs : noStar e = true) (hs2 : noStar e2 = true) (h : PE Z e t) (h2 : PE Z e2 t2) : PA Z [e, e2] (fun σ H Q => t σ H fun v H1 => t2 σ H1 fun w H2 => Q [v, w] H2) := (pa_cons h (pa_one hs2 h2) (star_cons hs)).imp fun σ H Q q => q
theorem q_b2 {b : B2} {e e2 : Expr} {xa xc : X} {p pos : Pos} (h2 : b.two = true) (hu : Z.A.units + 66 < cLine) (hc : Z.calm = true) (hg : Gl Z b.nm) (hm : Z.mg b.nm = none) (hs : noStar e = true) (hs2 : noStar e2 = true) (he : PE Z e (TX Z.K Y g xa)) (he2 : PE Z e2 (TX Z.K Y g xc)) :
    PE Z (.Call (.Name b.nm p) [e, e2] [] pos) (TX Z.K Y g (.b2 b (.x xa) xc)) := by
  have hst : starEach [e, e2] Z.env = (false, eval e Z.env) :: starEach [e2] Z.env := star_cons hs
  have hpl : (backTo pos (starEach [e2] Z.env)).any (·.1) = false := star_any pos (by rw [List.all_cons, hs2]; rfl)
  have go : ∀ (σ : L2.St) (H : Hp) (Q : VK), TX Z.K Y g (.b2 b (.x xa) xc) σ H Q → tCB (fun vs H Q => ∃ P m x y v w d, vs = [v, w] ∧ Own P m H ∧ Rel Z.K P m H x v ∧ Rel Z.K P m H y w ∧ opB2 b x y = some d ∧ vD Z.K P m d H Q) (fun σ H Q => TX Z.K Y g xa σ H fun v H1 => TX Z.K Y g xc σ H1 fun w H2 => Q [v, w] H2) σ H Q := fun σ H Q h => by
    refine TG.first (r1 := X.ev g xa) (r2 := fun x env => X.ev g xc env >>= fun y => M.opt (opB2 b x y)) h fun P m1 env st1 H1 x v sat rx hw => ?_
    refine TG.next rfl sat hw fun m2 st2 H2 y w s2 sat2 ry hw2 => ?_
    obtain ⟨d, e, q⟩ := wp_opt hw2
    exact ⟨P, m2, x, y, v, w, d, rfl, sat2.own, Rel.step s2 x rx, ry, e, q.same sat2⟩
  cases b with
  | max => exact (pe_callB (cb_max2 hu hc) hg hm (by decide +kernel) (pa_two hs hs2 he he2) (by decide) (by decide) hst hpl).imp go
  | min => exact (pe_callB (cb_min2 hu hc) hg hm (by decide +kernel) (pa_two hs hs2 he he2) (by decide) (by decide) hst hpl).imp go
  | maxD => cases h2
  | minD => cases h2

theorem TGm {α β : Type} {run : En → M α} {rho : (Addr → Prop) → List Addr → Hp → α → β → Prop} {σ : L2.St} {H : Hp} {Q Q' : β → Hp → Prop} (k : ∀ b H, Q b H → Q' b H) (h : TG Z.K Y run rho σ H Q) : TG Z.K Y run rho σ H Q' := by
  obtain ⟨P, m, env, st, sat, hw⟩ := h
  exact ⟨P, m, env, st, sat, hw.imp (fun a s q m' H' b s' r' rr => k _ _ (q m' H' b s' r' rr)) fun _ _ h => h⟩
theorem maxI_fold : ∀ (r : List Int) (i : Int), maxI i r = r.foldl max i
  | [], _ => rfl
  | j :: r, i => by
    rw [maxI, List.foldl_cons, maxI_fold r]
    congr 1
    rw [Int.max_def]
    split <;> split <;> omega
theorem alike_intsA (is : List Int) : PySem.W.AlikeAll (is.map PyData.int) := ⟨fun x hx y hy => by
    obtain ⟨i, _, rfl⟩ := List.mem_map.mp hx
    obtain ⟨j, _, rfl⟩ := List.mem_map.mp hy
    rfl, fun x hx => by
    obtain ⟨i, _, rfl⟩ := List.mem_map.mp hx
    exact fun z => nomatch z⟩
theorem depth_ints : ∀ is : List Int, PyData.depthAll (is.map PyData.int) = 0
  | [] => rfl
  | i :: r => by rw [List.map_cons, PyData.depthAll, depth_ints r]; rfl
theorem boot_max0 : bootBuiltins "max" = some (.builtin "max") := by decide +kernel
/-- max of ints, with a default -/
theorem q_maxD {e e2 : Expr} {xa xc : X} {p pos kpos : Pos} (hu : Z.A.units + 66 < cLine) (hc : Z.calm = true) (hg : Gl Z "max") (hm : Z.mg "max" = none) (hs : noStar e = true) (he : PE Z e (TX Z.K Y g xa)) (he2 : PE Z e2 (TX Z.K Y g xc)) :
    PE Z (.Call (.Name "max" p) [e] [⟨some "default", e2, kpos⟩] pos) (TX Z.K Y g (.b2 .maxD (.x xa) xc)) := by
  refine ⟨fun pins s σ H Q I h => ?_⟩
  refine wpAny_Call_Name_kw (ld_blt I hg hm boot_max0 ?_ (by decide) (by decide))
  have h2 : TX Z.K Y g xa σ H fun v H1 => TX Z.K Y g xc σ H1 fun w H2 => ∃ P m x y d, Own P m H2 ∧ Rel Z.K P m H2 x v ∧ Rel Z.K P m H2 y w ∧ opB2 .maxD x y = some d ∧ vD Z.K P m d H2 Q := by
    refine TG.first (r1 := X.ev g xa) (r2 := fun x env => X.ev g xc env >>= fun y => M.opt (opB2 .maxD x y)) h fun P m1 env st1 H1 x v sat rx hw => ?_
    refine TG.next rfl sat hw fun m2 st2 H2 y w s2 sat2 ry hw2 => ?_
    obtain ⟨d, e, q⟩ := wp_opt hw2
    exact ⟨P, m2, x, y, d, sat2.own, Rel.step s2 x rx, ry, e, q.same sat2⟩
  have hst : starEach [e] Z.env = (false, eval e Z.env) :: starEach [] Z.env := star_cons hs
  refine PyProof.Rows.callWith_kw (thn ((pa_one hs he).run pos pins s σ H (fun vs H1 => ∃ v, vs = [v] ∧ TX Z.K Y g xc σ H1 fun w H2 => ∃ P m x y d, Own P m H2 ∧ Rel Z.K P m H2 x v ∧ Rel Z.K P m H2 y w ∧ opB2 .maxD x y = some d ∧ vD Z.K P m d H2 Q) I ?_) fun us s1 ⟨vs, H1, I1, r1, v, ev, q1⟩ => ?_) ?_ ?_ rfl rfl
  · exact TGm (fun v H1 q => ⟨v, rfl, q⟩) h2
  · subst ev
    obtain ⟨u, rfl, rv⟩ := vals1 r1
    refine thn ((pk_cons he2 pk_nil).run pos pins s1 σ H1 (fun zs H2 => ∃ w, zs = [w] ∧ ∃ P m x y d, Own P m H2 ∧ Rel Z.K P m H2 x v ∧ Rel Z.K P m H2 y w ∧ opB2 .maxD x y = some d ∧ vD Z.K P m d H2 Q) I1 (TGm (fun w H2 q => ⟨w, rfl, q⟩) q1)) fun ws s2 ⟨zs, H2, I2, r2, w, ew, P, m, x, y, d, own, rx, ry, eo, q⟩ => ?_
    subst ew
    obtain ⟨u2, rfl, rw2⟩ := vals1 r2
    show wpAny _ _ (call (.builtin "max") [u] [(Str.ofString "default", u2)]) _ _ _
    cases x with
    | lst ds =>
      cases y with
      | int j =>
        have e' : ((intsD ds).map fun is => match is with
          | [] => D.int j
          | i :: r => D.int (maxI i r)) = some d := eo
        cases hi : intsD ds with
        | none => rw [hi] at e'; cases e'
        | some is =>
          rw [hi] at e'
          obtain ⟨a, rfl, hl⟩ := intsD_rel (x := .non) (.inl rx) hi
          cases rv
          obtain ⟨its, rvs, pl, hz⟩ := I2.list hl
          obtain ⟨as, ra⟩ := Dp.readsAll I2 _ _ _ (dpAll_ints is) rvs
          refine PySem.W.max_list_default (vs := its.toArray) (I2.ok.hd hc) pl.isList ra (alike_intsA is) (by rw [depth_ints]; omega) (fun e0 h' tk hk => ?_) fun y0 ys i v h' tk bs e0 _ hv hk => ?_
          · cases is with
            | nil => cases e'; exact ⟨w, H2, I2.kept hk, rw2, q.here ry⟩
            | cons _ _ => cases e0
          · cases is with
            | nil => cases e0
            | cons i0 r =>
              rw [List.map_cons] at e0
              cases e0
              cases e'
              rw [PySem.W.maxD_ints, ← maxI_fold] at hv
              cases hv
              exact ⟨.int (maxI i0 r), H2, I2.kept hk, ⟨_, rfl⟩, q.here rfl⟩
      | _ => cases (show (none : Option D) = some d from eo)
    | _ => cases (show (none : Option D) = some d from eo)
  · show backTo pos (starEach [e] Z.env) = _
    rw [hst]; rfl
  · rw [hst]; rfl

/-- list(x) -/
theorem q_listF {e : Expr} {xa : L} {p pos : Pos} (hg : Gl Z "list") (hm : Z.mg "list" = none) (hs : noStar e = true) (he : PE Z e (TL Z.K Y g xa)) : PE Z (.Call (.Name "list" p) [e] [] pos) (TFn Z.K Y g (.list xa)) := by
  have hb : bootBuiltins "list" = some (.type "list") := by decide +kernel
  refine (pe_callTy call_list_of hg hm hb (pa_one hs he) (by decide) (by decide) (star_cons hs) rfl).imp fun σ H Q h => ?_
  refine TFn.first (r1 := L.ev g xa) (rho1 := rhoB Z.K) (r2 := fun x _ => match x with
    | .lst ds => pure ds
    | .tup ds => pure ds
    | .obj n => M.get >>= fun s => match s[n]? with
      | some (O.lst ds) => pure ds
      | _ => M.bad
    | _ => M.bad) (fun env => by
      show (L.ev g xa env >>= _) = (L.ev g xa env >>= _)
      congr 1) h fun P m1 env st1 H1 x v sat rx hw => ?_
  cases x with
  | lst ds =>
    obtain ⟨a, vs, rfl, hq, r⟩ := rx.lst
    exact ⟨a, vs, rfl, .inl hq, fun l hl => (vpf_of hw).here sat r hl⟩
  | tup ds =>
    obtain ⟨a, vs, rfl, hq, r⟩ := rx.tup
    exact ⟨a, vs, rfl, .inr hq.sq, fun l hl => (vpf_of hw).here sat r hl⟩
  | obj n =>
    have hw' : Wp ((M.get >>= fun s => match s[n]? with
      | some (O.lst ds) => pure ds
      | _ => M.bad) st1) (VPf Z.K Y P m1 H1 Q) (XP Z.K Y P m1 σ H1) := hw
    rw [wp_seq, wp_get] at hw'
    cases ho : st1[n]? with
    | none => rw [ho] at hw'; exact absurd hw' id
    | some o =>
      rw [ho] at hw'
      cases o with
      | lst ds =>
        obtain ⟨p, rfl, hm'⟩ := rx.obj
        obtain ⟨p', ys, hm2, hp, r⟩ := sat.st.lst ho
        rw [hm'] at hm2; cases hm2
        exact ⟨p, ys, rfl, .inl (SqL.of hp), fun l hl => (vpf_of hw').here sat r hl⟩
      | _ => exact absurd hw' id
  | _ => exact absurd hw id

/-! ### methods of a text -/
theorem q_split {o e : Expr} {xo : X} {xa : L} {apos pos : Pos} (hb : noSup o = true) (hs : noStar e = true) (hl : (apos.endLine == pos.line) = true) (ho : PE Z o (TX Z.K Y g xo)) (he : PE Z e (TL Z.K Y g xa)) :
    PE Z (.Call (.Attribute o "split" apos) [e] [] pos) (TX Z.K Y g (.m1 .split xo xa)) := (pe_split ho he (star_cons hs) (base_plain hb) hl).imp fun σ H Q h => by
  refine TG.first (r1 := X.ev g xo) (r2 := fun x env => match x with
    | .str z => L.ev g xa env >>= fun y => M.opt (opM1 .split (.str z) y)
    | _ => M.bad) h fun P m1 env st1 H1 x v sat rx hw => ?_
  cases x <;> first | (exact absurd hw id) | skip
  rename_i z
  have e1 : v = .str z := rx
  subst e1
  refine ⟨⟨z, rfl⟩, ?_⟩
  refine TG.next rfl sat hw fun m2 st2 H2 y w s2 sat2 ry hw2 => ?_
  obtain ⟨d, e, q⟩ := wp_opt hw2
  cases y <;> first | (cases (show (none : Option _) = some _ from e)) | skip
  rename_i y
  have e2 := ry.str
  subst e2
  have e' : (if (y.length == 0) = false ∧ z.length + 2 ≤ 16777216 then some (D.lst ((Txt.split z y).map .str)) else none) = some d := e
  split at e'
  · rename_i hc
    cases e'
    refine ⟨z, y, rfl, rfl, hc.1, by rw [line16]; exact hc.2, fun p hp => ?_⟩
    exact (q.same sat2) _ _ (Same.laid hp) ⟨p, _, rfl, .inl ⟨.inl upd_same, sat2.own.fresh hp⟩, relL_of_strs _⟩
  · cases e'
theorem q_join {o e : Expr} {xo : X} {xa : L} {apos pos : Pos} (hb : noSup o = true) (hs : noStar e = true) (hl : (apos.endLine == pos.line) = true) (ho : PE Z o (TX Z.K Y g xo)) (he : PE Z e (TL Z.K Y g xa)) :
    PE Z (.Call (.Attribute o "join" apos) [e] [] pos) (TX Z.K Y g (.m1 .join xo xa)) := (pe_join ho he (star_cons hs) (base_plain hb) hl).imp fun σ H Q h => by
  refine TG.first (r1 := X.ev g xo) (r2 := fun x env => match x with
    | .str z => L.ev g xa env >>= fun y => M.opt (opM1 .join (.str z) y)
    | _ => M.bad) h fun P m1 env st1 H1 x v sat rx hw => ?_
  cases x <;> first | (exact absurd hw id) | skip
  rename_i z
  have e1 : v = .str z := rx
  subst e1
  refine ⟨⟨z, rfl⟩, ?_⟩
  refine TG.next rfl sat hw fun m2 st2 H2 y w s2 sat2 ry hw2 => ?_
  obtain ⟨d, e, q⟩ := wp_opt hw2
  cases y <;> first | (cases (show (none : Option _) = some _ from e)) | skip
  rename_i ds
  have e' : ((strsD ds).bind fun ys => if (ys.map (·.length)).sum + ys.length * z.length ≤ 16777216 then some (D.str (Txt.join z ys)) else none) = some d := e
  cases hd : strsD ds with
  | none => rw [hd] at e'; cases e'
  | some ys =>
    rw [hd] at e'
    have e2 : (if (ys.map (·.length)).sum + ys.length * z.length ≤ 16777216 then some (D.str (Txt.join z ys)) else none) = some d := e'
    split at e2
    · rename_i hc
      cases e2
      obtain ⟨p, vs, rfl, hp, r⟩ := ry.lst
      rw [relL_strsD hd r] at hp
      exact ⟨z, p, ys, rfl, rfl, .inl hp, hc, q.here sat2.st rfl⟩
    · cases e2
end
end Fx

set_option Elab.async false
set_option linter.all false
set_option maxRecDepth 100000
set_option maxHeartbeats 1000000
/-! Fx 8: what is walked; targets; comprehensions. -/
namespace Fx
open PySem PySem.Spec PyProof.Rows L2

/-! ### moves: what is nobody's stays -/
structure Mv (P : Addr → Prop) (m : List Addr) (H : Hp) (P' : Addr → Prop) (m' : List Addr) (H' : Hp) : Prop where
  pre : ∃ t, m' = m ++ t
  keep : ∀ a o, H a = some o → ¬ Bad P m a → H' a = some o ∧ ¬ Bad P' m' a
section
variable {K : PySem.W.Frag} {P P' P2 : Addr → Prop} {m m' m2 : List Addr} {H H' H2 : Hp}
theorem Mv.refl : Mv P m H P m H := ⟨⟨[], by simp⟩, fun _ _ h n => ⟨h, n⟩⟩
theorem Mv.trans (s : Mv P m H P' m' H') (t : Mv P' m' H' P2 m2 H2) : Mv P m H P2 m2 H2 := by
  obtain ⟨⟨t1, e1⟩, k1⟩ := s
  obtain ⟨⟨t2, e2⟩, k2⟩ := t
  refine ⟨⟨t1 ++ t2, by rw [e2, e1, List.append_assoc]⟩, fun a o h n => ?_⟩
  obtain ⟨h1, n1⟩ := k1 a o h n
  exact k2 a o h1 n1
theorem Step.mv (s : Step m H m' H') (hp : ∀ a o, H a = some o → P' a → P a) : Mv P m H P' m' H' := by
  refine ⟨s.pre, fun a o h n => ⟨s.ext a o h fun z => n (.inl z), fun hb => ?_⟩⟩
  rcases hb with hb | hb
  · rcases s.new a hb with z | z
    · exact n (.inl z)
    · rw [h] at z; cases z
  · exact n (.inr (hp a o h hb))
theorem Mv.rd {a : Addr} {u : HO} (s : Mv P m H P' m' H') (h : Rd H a u) (n : ¬ Bad P m a) : Rd H' a u ∧ ¬ Bad P' m' a := by
  rcases h with h | ⟨o, h⟩
  · obtain ⟨h1, n1⟩ := s.keep _ _ h n; exact ⟨.inl h1, n1⟩
  · obtain ⟨h1, n1⟩ := s.keep _ _ h n; exact ⟨.inr ⟨o, h1⟩, n1⟩
theorem TupAt.mv {a : Addr} {vs : List V} (s : Mv P m H P' m' H') (h : TupAt K P m H a vs) : TupAt K P' m' H' a vs := by
  rcases h with ⟨h, n⟩ | h
  · exact .inl (s.rd h n)
  · exact .inr h
theorem LstAt.mv {a : Addr} {vs : List V} (s : Mv P m H P' m' H') (h : LstAt K P m H a vs) : LstAt K P' m' H' a vs := by
  rcases h with ⟨h, n⟩ | h
  · exact .inl (s.rd h n)
  · exact .inr h
mutual
theorem Rel.mv (s : Mv P m H P' m' H') : ∀ (d : D) {v : V}, Rel K P m H d v → Rel K P' m' H' d v
  | .non, _, h => h
  | .bl _, _, h => h
  | .int _, _, h => h
  | .str _, _, h => h
  | .tup ds, _, h => by
    obtain ⟨a, vs, e, ht, hl⟩ := h
    exact ⟨a, vs, e, ht.mv s, RelL.mv s ds hl⟩
  | .lst ds, _, h => by
    obtain ⟨a, vs, e, ht, hl⟩ := h
    exact ⟨a, vs, e, ht.mv s, RelL.mv s ds hl⟩
  | .obj n, _, h => by
    obtain ⟨a, e, hm⟩ := h
    obtain ⟨⟨t, e1⟩, _⟩ := s
    refine ⟨a, e, ?_⟩
    rw [e1, List.getElem?_append_left (List.getElem?_eq_some_iff.mp hm).1]
    exact hm
theorem RelL.mv (s : Mv P m H P' m' H') : ∀ (ds : List D) {vs : List V}, RelL K P m H ds vs → RelL K P' m' H' ds vs
  | [], _, h => h
  | d :: ds, _, h => by
    obtain ⟨w, ws, e, h1, h2⟩ := h
    exact ⟨w, ws, e, Rel.mv s d h1, RelL.mv s ds h2⟩
end
/-! a new list at D, known to its maker alone -/
abbrev plus (P : Addr → Prop) (a : Addr) : Addr → Prop := fun b => P b ∨ b = a
theorem Mv.more {a : Addr} {o : HO} (h : H a = none) : Mv P m H (plus P a) m (upd H a o) := ⟨⟨[], by simp⟩, fun b u e n => ⟨by rw [upd_ne (ne_of_none e h)]; exact e, fun hb => by
  rcases hb with hb | hb | hb
  · exact n (.inl hb)
  · exact n (.inr hb)
  · subst hb; rw [h] at e; cases e⟩⟩
theorem StR.mv_same {cls : Nat → Option Addr} {st : Sto} (h : StR K cls P m H st) (s : Mv P m H P' m H') (k : ∀ a ∈ m, H' a = H a) (out : ∀ a ∈ m, ¬ P' a) : StR K cls P' m H' st :=
  ⟨h.len, h.nd, out, fun n o e => by
    obtain ⟨a, e1, r⟩ := h.ob n o e
    refine ⟨a, e1, ?_⟩
    have ha : a ∈ m := List.mem_of_getElem? e1
    cases o with
    | lst ds => obtain ⟨vs, e2, r2⟩ := r; exact ⟨vs, by rw [k a ha]; exact e2, RelL.mv s ds r2⟩
    | ins c fs => obtain ⟨C, dx, fvs, q, e2, e3, r2⟩ := r; exact ⟨C, dx, fvs, q, by rw [k a ha]; exact e2, e3, RelL.mv s _ r2⟩
    | dic _ => exact r.elim
    | set _ => exact r.elim⟩
theorem StR.more {cls : Nat → Option Addr} {st : Sto} {a : Addr} {o : HO} (h : StR K cls P m H st) (hp : H a = none) : StR K cls (plus P a) m (upd H a o) st :=
  h.mv_same (Mv.more hp) (fun b hb => by obtain ⟨u, e⟩ := h.there hb; rw [upd_ne (ne_of_none e hp)]) fun b hb z => z.elim (h.out b hb) fun e => by subst e; exact h.fresh hp hb
theorem ExR.mv {cls : Nat → Option Addr} {st : Sto} {e : Ex} {c : Value} {dd : Option Addr} (hs : StR K cls P m H st) (hP : ∀ a, P a → ∀ fvs, H a ≠ some (.xd fvs)) (s : Mv P m H P' m' H') (h : ExR K cls P m H e c dd) : ExR K cls P' m' H' e c dd := by
  obtain ⟨h1, h2⟩ := h
  refine ⟨h1, h2.imp id fun ⟨a, fvs, e1, e2, h3⟩ => ⟨a, fvs, e1, (s.keep _ _ e2 fun hb => ?_).1, fun f d hf => ?_⟩⟩
  · rcases hb with ha | ha
    · obtain ⟨n, hn, e⟩ := List.getElem_of_mem ha
      have hn' : n < st.length := by rw [← hs.len]; exact hn
      obtain ⟨b, e3, r⟩ := hs.ob n st[n] (List.getElem?_eq_getElem hn')
      rw [List.getElem?_eq_getElem hn, e] at e3
      cases e3
      cases hso : st[n] with
      | lst ds => rw [hso] at r; obtain ⟨vs, q, _⟩ := r; rw [e2] at q; cases q
      | ins c fs => rw [hso] at r; obtain ⟨C, dx, fv, _, q, _⟩ := r; rw [e2] at q; cases q
      | dic _ => rw [hso] at r; exact r.elim
      | set _ => rw [hso] at r; exact r.elim
    · exact hP a ha fvs e2
  · obtain ⟨v, e3, r⟩ := h3 f d hf
    exact ⟨v, e3, Rel.mv s d r⟩
end

/-! ### slots -/
section
variable {K : PySem.W.Frag} {cls : Nat → Option Addr} {z : Hd} {P P' : Addr → Prop} {m m' : List Addr} {H H' : Hp} {env : En} {st st' : Sto} {σ : L2.St}
/-- a new list of its maker -/
theorem Sat.more {a : Addr} {vs : List V} (h : Sat K cls z P m H env st σ) (hp : H a = none) : Sat K cls z (plus P a) m (upd H a (.lst vs)) env st σ := by
  have mv : Mv P m H (Fx.plus P a) m (upd H a (.lst vs)) := Mv.more hp
  refine ⟨h.len, fun i l e => ?_, h.st.more hp, fun b hb => ?_, h.un⟩
  · have r := h.sl i l e
    cases l with
    | no => trivial
    | val d => obtain ⟨v, e, r⟩ := r; exact ⟨v, e, Rel.mv mv d r⟩
    | own ds =>
      obtain ⟨b, ws, e, hb, hP, r⟩ := r
      exact ⟨b, ws, e, by rw [upd_ne (ne_of_none hb hp)]; exact hb, .inl hP, RelL.mv mv ds r⟩
    | exc e =>
      obtain ⟨b, c, dd, e1, e2, r⟩ := r
      exact ⟨b, c, dd, e1, e2, r.mv h.st (fun a ha fvs e => by obtain ⟨vs, e'⟩ := h.hP a ha; rw [e] at e'; cases e') mv⟩
  · rcases hb with hb | hb
    · obtain ⟨ws, e⟩ := h.hP b hb
      exact ⟨ws, by rw [upd_ne (ne_of_none e hp)]; exact e⟩
    · subst hb; exact ⟨vs, upd_same⟩
/-- a slot is stored -/
theorem Sat.set {i : Nat} {l : Sl} {o : Option V} (h : Sat K cls z P m H env st σ) (r : SlR K cls z P m H l (some o)) (hu : Uniq (env.set i l) (σ.set i o)) : Sat K cls z P m H (env.set i l) st (σ.set i o) := by
  refine ⟨by rw [List.length_set, List.length_set]; exact h.len, fun j l' e => ?_, h.st, h.hP, hu⟩
  by_cases hj : i = j
  · subst hj
    have hl : i < env.length := by
      have := (List.getElem?_eq_some_iff.mp e).1
      rwa [List.length_set] at this
    rw [List.getElem?_set_self hl] at e
    cases e
    rw [List.getElem?_set_self (by rw [← h.len]; exact hl)]
    exact r
  · rw [List.getElem?_set_ne hj] at e
    rw [List.getElem?_set_ne hj]
    exact h.sl j l' e
def notOwn : Sl → Bool
  | .own _ => false
  | _ => true
theorem own_set {i j : Nat} {l : Sl} {ds : List D} (hl : notOwn l = true) (e : (env.set i l)[j]? = some (.own ds)) : j ≠ i ∧ env[j]? = some (.own ds) := by
  by_cases hj : i = j
  · subst hj
    have hlt := (List.getElem?_eq_some_iff.mp e).1
    rw [List.length_set] at hlt
    rw [List.getElem?_set_self hlt] at e
    cases e
    cases (show false = true from hl)
  · rw [List.getElem?_set_ne hj] at e
    exact ⟨fun z => hj z.symm, e⟩
theorem Uniq.set {i : Nat} {l : Sl} {o : Option V} (h : Uniq env σ) (hl : notOwn l = true) : Uniq (env.set i l) (σ.set i o) := fun j k ds es a e1 e2 e3 e4 => by
  obtain ⟨n1, e1⟩ := own_set hl e1
  obtain ⟨n2, e2⟩ := own_set hl e2
  rw [List.getElem?_set_ne (Ne.symm n1)] at e3
  rw [List.getElem?_set_ne (Ne.symm n2)] at e4
  exact h j k ds es a e1 e2 e3 e4
theorem Sat.setV {i : Nat} {l : Sl} {o : Option V} (h : Sat K cls z P m H env st σ) (r : SlR K cls z P m H l (some o)) (hl : notOwn l = true) : Sat K cls z P m H (env.set i l) st (σ.set i o) := h.set r (h.un.set hl)
theorem Sat.setNo {i : Nat} {o : Option V} (h : Sat K cls z P m H env st σ) : Sat K cls z P m H (env.set i .no) st (σ.set i o) := h.setV (l := .no) (o := o) trivial rfl
theorem wipe_ne {σ : L2.St} {j : Nat} : ∀ {vs : List Nat}, j ∉ vs → (wipe σ vs)[j]? = σ[j]?
  | [], _ => rfl
  | v :: vs, h => by
    have h1 : v ≠ j := fun e => h (by simp [e])
    have h2 : j ∉ vs := fun e => h (by simp [e])
    unfold wipe
    rw [List.getElem?_set_ne h1, wipe_ne h2]
theorem wipeE_ne {env : En} {j : Nat} : ∀ {vs : List Nat}, j ∉ vs → (wipeE env vs)[j]? = env[j]?
  | [], _ => rfl
  | v :: vs, h => by
    have h1 : v ≠ j := fun e => h (by simp [e])
    have h2 : j ∉ vs := fun e => h (by simp [e])
    unfold wipeE
    rw [List.getElem?_set_ne h1, wipeE_ne h2]
theorem wipeE_length (env : En) : ∀ vs : List Nat, (wipeE env vs).length = env.length
  | [] => rfl
  | v :: vs => by unfold wipeE; rw [List.length_set, wipeE_length env vs]
theorem wipeE_in {env : En} {j : Nat} {l : Sl} : ∀ {vs : List Nat}, j ∈ vs → (wipeE env vs)[j]? = some l → l = .no
  | v :: vs, h, e => by
    unfold wipeE at e
    by_cases hv : v = j
    · subst hv
      have hl := (List.getElem?_eq_some_iff.mp e).1
      rw [List.length_set] at hl
      rw [List.getElem?_set_self hl] at e
      cases e; rfl
    · rw [List.getElem?_set_ne hv] at e
      have h2 : j ∈ vs := (List.mem_cons.mp h).resolve_left fun e => hv e.symm
      exact wipeE_in h2 e
theorem Sat.wiped {us vs : List Nat} (h : Sat K cls z P m H env st σ) (hu : ∀ i, i ∈ vs → i ∈ us) : Sat K cls z P m H (wipeE env us) st (wipe σ vs) := by
  refine ⟨by rw [wipeE_length, wipe_length]; exact h.len, fun j l e => ?_, h.st, h.hP, fun i j ds es a e1 e2 e3 e4 => ?_⟩
  rotate_left
  · have n1 : i ∉ us := fun z => by cases wipeE_in z e1
    have n2 : j ∉ us := fun z => by cases wipeE_in z e2
    rw [wipeE_ne n1] at e1
    rw [wipeE_ne n2] at e2
    rw [wipe_ne fun z => n1 (hu i z)] at e3
    rw [wipe_ne fun z => n2 (hu j z)] at e4
    exact h.un i j ds es a e1 e2 e3 e4
  by_cases hj : j ∈ us
  · rw [wipeE_in hj e]; trivial
  · rw [wipeE_ne hj] at e
    rw [wipe_ne fun z => hj (hu j z)]
    exact h.sl j l e
/-- what is stored within the wiped slots is wiped with them -/
theorem wipe_get {σ τ : L2.St} (hl : σ.length = τ.length) {us : List Nat} (h : ∀ j, j ∉ us → σ[j]? = τ[j]?) : ∀ vs : List Nat, (∀ j, j ∈ us → j ∈ vs) → wipe σ vs = wipe τ vs := by
  intro vs hu
  refine List.ext_getElem? fun j => ?_
  by_cases hj : j ∈ vs
  · have key : ∀ (rho : L2.St) (vs : List Nat), j ∈ vs → (wipe rho vs)[j]? = if j < rho.length then some none else none := by
      intro rho vs
      induction vs with
      | nil => intro h; cases h
      | cons v vs ih =>
        intro h
        unfold wipe
        by_cases hv : v = j
        · subst hv
          by_cases hlt : v < rho.length
          · rw [List.getElem?_set_self (by rw [wipe_length]; exact hlt), if_pos hlt]
          · rw [if_neg hlt, List.getElem?_eq_none_iff]
            rw [List.length_set, wipe_length]; omega
        · rw [List.getElem?_set_ne hv]
          exact ih ((List.mem_cons.mp h).resolve_left fun e => hv e.symm)
    rw [key σ vs hj, key τ vs hj, hl]
  · rw [wipe_ne hj, wipe_ne hj]
    exact h j fun z => hj (hu j z)
end

/-! ### targets -/
section
variable (K : PySem.W.Frag) (Y : Rd')
/-- σ' is σ but for the slots us -/
def But (us : List Nat) (σ σ' : L2.St) : Prop := σ.length = σ'.length ∧ ∀ j, j ∉ us → σ[j]? = σ'[j]?
def TGt (t : T) : L2.TG := fun x σ H Q => ∃ P m env st d env', Sat K Y.cls Y.z P m H env st σ ∧ Rel K P m H d x ∧ stT t d env = some env' ∧ ∀ σ', Sat K Y.cls Y.z P m H env' st σ' → But (slT t) σ σ' → Q σ' H
def TGts (ts : Fx.TS) : L2.TGs := fun xs σ H Q => ∃ P m env st ds env', Sat K Y.cls Y.z P m H env st σ ∧ RelL K P m H ds xs ∧ stTS ts ds env = some env' ∧ ∀ σ', Sat K Y.cls Y.z P m H env' st σ' → But (slTS ts) σ σ' → Q σ' H
end
section
variable {Z : Cx} {Y : Rd'}
theorem But.refl {us : List Nat} {σ : L2.St} : But us σ σ := ⟨rfl, fun _ _ => rfl⟩
theorem PG_imp {e : Expr} {t t' : L2.TG} (h : PG Z e t) (k : ∀ x σ H Q, t' x σ H Q → t x σ H Q) : PG Z e t' := ⟨fun pins s σ H v u Q I r q => h.run pins s σ H v u Q I r (k v σ H Q q)⟩
theorem PGs_imp {e : List Expr} {t t' : L2.TGs} (h : PGs Z e t) (k : ∀ x σ H Q, t' x σ H Q → t x σ H Q) : PGs Z e t' := ⟨fun pins s σ H v u Q I r q => h.run pins s σ H v u Q I r (k v σ H Q q)⟩
theorem q_tname {i : Nat} {e : Expr} (h : PG Z e (gName i)) : PG Z e (TGt Z.K Y (.name i)) := PG_imp h fun x σ H Q ⟨P, m, env, st, d, env', sat, r, e, q⟩ => by
  have e' : (if i < env.length then some (env.set i (.val d)) else none) = some env' := by simpa only [stT] using e
  split at e'
  · cases e'
    refine q _ (sat.setV (l := .val d) (o := some x) ⟨x, rfl, r⟩ rfl) ⟨by rw [List.length_set], fun j hj => ?_⟩
    have : i ≠ j := fun z => hj (by simp [slT, z])
    rw [List.getElem?_set_ne this]
  · cases e'
theorem q_tnil : PGs Z [] (TGts Z.K Y .nil) := PGs_imp pgs_nil fun x σ H Q ⟨P, m, env, st, ds, env', sat, r, e, q⟩ => by
  cases ds with
  | nil => cases r; simp only [stTS, Option.some.injEq] at e; subst e; exact ⟨rfl, q σ sat But.refl⟩
  | cons d ds => simp only [stTS] at e; cases e
theorem assign_cons {env : Env} {e : Expr} {es : List Expr} (h : noStar e = true) : assignEach (e :: es) env = (false, assign e env) :: assignEach es env := by
  cases e <;> first | rfl | (cases (show false = true from h))
theorem assign_len {env : Env} : ∀ {es : List Expr}, es.all noStar = true → (assignEach es env).length = es.length
  | [], _ => rfl
  | e :: es, h => by
    rw [List.all_cons, Bool.and_eq_true] at h
    rw [assign_cons h.1, List.length_cons, List.length_cons, assign_len h.2]
theorem assign_first {env : Env} : ∀ {es : List Expr}, es.all noStar = true → (assignEach es env).findIdx? (·.1) = none
  | [], _ => rfl
  | e :: es, h => by
    rw [List.all_cons, Bool.and_eq_true] at h
    rw [assign_cons h.1, List.findIdx?_cons]
    simp [assign_first h.2]
theorem q_tcons {e : Expr} {es : List Expr} {t : T} {ts : Fx.TS} (hs : noStar e = true) (h1 : PG Z e (TGt Z.K Y t)) (h2 : PGs Z es (TGts Z.K Y ts)) : PGs Z (e :: es) (TGts Z.K Y (.cons t ts)) :=
  PGs_imp (pgs_cons h1 h2 (by rw [assign_cons hs]; rfl)) fun x σ H Q ⟨P, m, env, st, ds, env', sat, r, e, q⟩ => by
  cases ds with
  | nil => simp only [stTS] at e; cases e
  | cons d ds =>
    obtain ⟨w, ws, rfl, r1, r2⟩ := r
    have e' : (stT t d env).bind (stTS ts ds) = some env' := by simpa only [stTS] using e
    cases e1 : stT t d env with
    | none => rw [e1] at e'; cases e'
    | some env1 =>
      rw [e1] at e'
      refine ⟨w, ws, rfl, P, m, env, st, d, env1, sat, r1, e1, fun σ1 sat1 b1 => ⟨P, m, env1, st, ds, env', sat1, r2, e', fun σ2 sat2 b2 => q σ2 sat2 ⟨b1.1.trans b2.1, fun j hj => ?_⟩⟩⟩
      rw [slTS, List.mem_append, not_or] at hj
      rw [b1.2 j hj.1, b2.2 j hj.2]
/-- as many targets as texts -/
def lenTS : Fx.TS → Nat
  | .nil => 0
  | .cons _ r => lenTS r + 1
theorem stTS_length : ∀ {ts : Fx.TS} {ds : List D} {env env' : En}, stTS ts ds env = some env' → ds.length = lenTS ts
  | .nil, [], _, _, _ => rfl
  | .nil, _ :: _, _, _, e => by simp only [stTS] at e; cases e
  | .cons t r, [], _, _, e => by simp only [stTS] at e; cases e
  | .cons t r, d :: ds, env, env', e => by
    have e' : (stT t d env).bind (stTS r ds) = some env' := by simpa only [stTS] using e
    cases e1 : stT t d env with
    | none => rw [e1] at e'; cases e'
    | some env1 => rw [e1] at e'; simp [lenTS, stTS_length e']
theorem pg_or {e : Expr} {t1 t2 : L2.TG} (h1 : PG Z e t1) (h2 : PG Z e t2) : PG Z e (fun v σ H Q => t1 v σ H Q ∨ t2 v σ H Q) := ⟨fun pins s σ H v u Q I r hw => hw.elim (fun q => h1.run pins s σ H v u Q I r q) (fun q => h2.run pins s σ H v u Q I r q)⟩
theorem q_ttup {es : List Expr} {ts : Fx.TS} {k : Nat} {pos : Pos} (hc : Z.calm = true) (hs : es.all noStar = true) (hl : es.length = lenTS ts) (h : PGs Z es (TGts Z.K Y ts)) : PG Z (.Tuple es k pos) (TGt Z.K Y (.tup ts)) :=
  PG_imp (pg_or (pg_tup (n := es.length) hc h (assign_len hs) (assign_first hs)) (pg_unl (n := es.length) hc h (assign_len hs) (assign_first hs))) fun x σ H Q ⟨P, m, env, st, d, env', sat, r, e, q⟩ => by
  cases d with
  | tup ds =>
    have e' : stTS ts ds env = some env' := by simpa only [stT] using e
    obtain ⟨a, vs, rfl, ht, rl⟩ := r
    exact .inl ⟨a, vs, rfl, ht.sq, by rw [← relL_length rl, stTS_length e', hl], P, m, env, st, ds, env', sat, rl, e', fun σ' s' b' => q σ' s' (by simpa only [slT] using b')⟩
  | lst ds =>
    have e' : stTS ts ds env = some env' := by simpa only [stT] using e
    obtain ⟨a, vs, rfl, ht, rl⟩ := r
    exact .inr ⟨a, vs, rfl, ht.sq, by rw [← relL_length rl, stTS_length e', hl], P, m, env, st, ds, env', sat, rl, e', fun σ' s' b' => q σ' s' (by simpa only [slT] using b')⟩
  | _ => simp only [stT] at e; cases e
end
end Fx

set_option Elab.async false
set_option linter.all false
set_option maxRecDepth 100000
set_option maxHeartbeats 1000000
/-! Fx 9: what is walked; comprehensions. -/
namespace Fx
open PySem PySem.Spec PyProof.Rows L2

abbrev Ok := (Addr → Prop) → List Addr → Hp → Prop
/-- J walks ds, wherever ok holds -/
structure Gives (K : PySem.W.Frag) (ok : Ok) (ds : List D) (J : L2.It) : Prop where
  go : ∀ (i : Nat) d P m H, ds[i]? = some d → ok P m H → J.go i H
  yld : ∀ (i : Nat) d P m H x H', ds[i]? = some d → ok P m H → Own P m H → J.yld i H x H' → Same H H' ∧ Rel K P m H' d x
  stop : ∀ (i : Nat) P m H, ds.length ≤ i → ok P m H → J.stop i H
/-- while the maker's own lists stay as they are -/
def okS (P : Addr → Prop) (m : List Addr) (H : Hp) : Ok := fun P' m' H' => Step m H m' H' ∧ ∀ a o, H a = some o → P' a → P a
def okM (P : Addr → Prop) (m : List Addr) (H : Hp) : Ok := fun P' m' H' => Mv P m H P' m' H'
theorem okS.mv {P P' : Addr → Prop} {m m' : List Addr} {H H' : Hp} (h : okS P m H P' m' H') : okM P m H P' m' H' := h.1.mv h.2
theorem Gives.weak {K : PySem.W.Frag} {ok ok' : Ok} {ds : List D} {J : L2.It} (h : Gives K ok ds J) (k : ∀ P m H, ok' P m H → ok P m H) : Gives K ok' ds J :=
  ⟨fun i d P m H e o => h.go i d P m H e (k P m H o), fun i d P m H x H' e o w y => h.yld i d P m H x H' e (k P m H o) w y, fun i P m H e o => h.stop i P m H e (k P m H o)⟩
section
variable (K : PySem.W.Frag) (Y : Rd') (g : G)
def TIt (wk : (Addr → Prop) → List Addr → Hp → Ok) (it : Fx.It) : L2.TI := fun σ H R => ∃ P m env st, Sat K Y.cls Y.z P m H env st σ ∧
  Wp (It.ev g it env st) (fun ds st' => ∀ m1 H1 J, Step m H m1 H1 → StR K Y.cls P m1 H1 st' → Gives K (wk P m1 H1) ds J → R J H1) (XP K Y P m σ H)
end
section
variable {K : PySem.W.Frag} {P : Addr → Prop} {m : List Addr} {H : Hp}
theorem gives_tup {ds : List D} {a : Addr} {vs : List V} (ht : TupAt K P m H a vs) (r : RelL K P m H ds vs) : Gives K (okM P m H) ds (Itt K a) where
  go := fun i d P' m' H' e o => by
    obtain ⟨v, e1, _⟩ := relL_get r e
    exact ⟨vs, v, (ht.mv o).sq, e1⟩
  yld := fun i d P' m' H' x H2 e o w y => by
    obtain ⟨rfl, y⟩ := y
    obtain ⟨v, e1, r1⟩ := relL_get r e
    have e2 := y vs (ht.mv o).sq
    rw [e1] at e2; cases e2
    exact ⟨Same.refl _, Rel.mv o d r1⟩
  stop := fun i P' m' H' h o => ⟨vs, (ht.mv o).sq, by rw [← relL_length r]; exact h⟩
theorem gives_lst {ds : List D} {a : Addr} {vs : List V} (ht : LstAt K P m H a vs) (r : RelL K P m H ds vs) : Gives K (okM P m H) ds (Itl K a) where
  go := fun i d P' m' H' e o => by
    obtain ⟨v, e1, _⟩ := relL_get r e
    exact ⟨vs, v, (ht.mv o).sq, e1⟩
  yld := fun i d P' m' H' x H2 e o w y => by
    obtain ⟨rfl, y⟩ := y
    obtain ⟨v, e1, r1⟩ := relL_get r e
    have e2 := y vs (ht.mv o).sq
    rw [e1] at e2; cases e2
    exact ⟨Same.refl _, Rel.mv o d r1⟩
  stop := fun i P' m' H' h o => ⟨vs, (ht.mv o).sq, by rw [← relL_length r]; exact h⟩
theorem gives_own {ds : List D} {a : Addr} {vs : List V} (hn : a ∉ m) (ht : H a = some (.lst vs)) (r : RelL K P m H ds vs) : Gives K (okS P m H) ds (Itl K a) where
  go := fun i d P' m' H' e o => by
    obtain ⟨v, e1, _⟩ := relL_get r e
    exact ⟨vs, v, SqL.of (o.1.ext _ _ ht hn), e1⟩
  yld := fun i d P' m' H' x H2 e o w y => by
    obtain ⟨rfl, y⟩ := y
    obtain ⟨v, e1, r1⟩ := relL_get r e
    have e2 := y vs (SqL.of (o.1.ext _ _ ht hn))
    rw [e1] at e2; cases e2
    exact ⟨Same.refl _, Rel.mv o.mv d r1⟩
  stop := fun i P' m' H' h o => ⟨vs, SqL.of (o.1.ext _ _ ht hn), by rw [← relL_length r]; exact h⟩
theorem gives_str {z : Str} : Gives K (okM P m H) (strD z) (Its z) where
  go := fun i d P' m' H' e o => by
    have := (List.getElem?_eq_some_iff.mp e).1
    unfold strD at this
    rw [List.length_map, Array.length_toList] at this
    exact this
  yld := fun i d P' m' H' x H2 e o w y => by
    obtain ⟨rfl, c, hc, rfl⟩ := y
    unfold strD at e
    rw [List.getElem?_map] at e
    have hc' : z.cps.toList[i]? = some c := by rw [Array.getElem?_toList]; exact hc
    rw [hc'] at e
    cases e
    exact ⟨Same.refl _, rfl⟩
  stop := fun i P' m' H' h o => by
    unfold strD at h
    rw [List.length_map, Array.length_toList] at h
    exact h
theorem gives_range {lo : Int} {n : Nat} : Gives K (okM P m H) (rangeI lo n) (Itr lo n) where
  go := fun i d P' m' H' e o => by
    have := (List.getElem?_eq_some_iff.mp e).1
    unfold rangeI at this
    rw [List.length_map, List.length_range] at this
    exact this
  yld := fun i d P' m' H' x H2 e o w y => by
    obtain ⟨rfl, rfl⟩ := y
    have hi := (List.getElem?_eq_some_iff.mp e).1
    unfold rangeI at e hi
    rw [List.length_map, List.length_range] at hi
    rw [List.getElem?_map, List.getElem?_range hi] at e
    cases e
    exact ⟨Same.refl _, rfl⟩
  stop := fun i P' m' H' h o => by
    unfold rangeI at h
    rw [List.length_map, List.length_range] at h
    exact h
theorem enum_get {ds : List D} {i : Nat} {d : D} (e : (enumD ds)[i]? = some d) : ∃ x, ds[i]? = some x ∧ d = .tup [.int (i : Int), x] := by
  unfold enumD at e
  rw [List.getElem?_zipWith] at e
  cases e1 : ds[i]? with
  | none => rw [e1] at e; cases h : (List.range ds.length)[i]? <;> rw [h] at e <;> cases e
  | some x =>
    have hi := (List.getElem?_eq_some_iff.mp e1).1
    rw [e1, List.getElem?_range hi] at e
    cases e
    exact ⟨x, rfl, rfl⟩
theorem enum_len (ds : List D) : (enumD ds).length = ds.length := by
  unfold enumD
  rw [List.length_zipWith, List.length_range, Nat.min_self]
theorem gives_enum {ok : Ok} {ds : List D} {a : Addr} (h : Gives K ok ds (Itl K a)) (hq : ∀ P m H, ok P m H → ∃ vs, SqL K H a vs ∧ RelL K P m H ds vs) : Gives K ok (enumD ds) (Ite K a) where
  go := fun i d P' m' H' e o => by
    obtain ⟨x, e1, _⟩ := enum_get e
    exact h.go i x P' m' H' e1 o
  yld := fun i d P' m' H' v H2 e o w y => by
    obtain ⟨x, e1, rfl⟩ := enum_get e
    obtain ⟨T, x', rfl, hT, rfl, y⟩ := y
    obtain ⟨vs, q, r⟩ := hq P' m' H' o
    obtain ⟨v, e2, r1⟩ := relL_get r e1
    have e3 := y vs q
    rw [e2] at e3
    have e4 : v = x' := Option.some.inj e3
    subst e4
    refine ⟨Same.laid hT, T, _, rfl, .inl ⟨.inl upd_same, w.fresh hT⟩, .int (i : Int), [v], rfl, rfl, v, [], rfl, Rel.step (Step.laid hT) x r1, rfl⟩
  stop := fun i P' m' H' e o => h.stop i P' m' H' (by rw [enum_len] at e; exact e) o
/-! a list of the store, while it stands as it was -/
def okN (K : PySem.W.Frag) (ds : List D) (a : Addr) : Ok := fun P' m' H' => ∃ vs, H' a = some (.lst vs) ∧ RelL K P' m' H' ds vs
theorem gives_obj {ds : List D} {a : Addr} : Gives K (okN K ds a) ds (Itl K a) where
  go := fun i d P m H e ⟨vs, ha, r⟩ => by
    obtain ⟨v, e1, _⟩ := relL_get r e
    exact ⟨vs, v, SqL.of ha, e1⟩
  yld := fun i d P m H x H2 e ⟨vs, ha, r⟩ w y => by
    obtain ⟨rfl, y⟩ := y
    obtain ⟨v, e1, r1⟩ := relL_get r e
    have e2 := y vs (SqL.of ha)
    rw [e1] at e2; cases e2
    exact ⟨Same.refl _, r1⟩
  stop := fun i P m H h ⟨vs, ha, r⟩ => ⟨vs, SqL.of ha, by rw [← relL_length r]; exact h⟩
theorem gives_objE {ds : List D} {a : Addr} : Gives K (okN K ds a) (enumD ds) (Ite K a) := gives_enum gives_obj fun P m H ⟨vs, ha, r⟩ => ⟨vs, SqL.of ha, r⟩
end

/-! ### walks of a list, a tuple, a text: by the value that comes -/
section
variable {Z : Cx} {tg : Expr}
def iAny (K : PySem.W.Frag) (tl : TE) : L2.TI := fun σ H R => tl σ H fun x H1 => (∃ a xs, x = .ref a ∧ SqL K H1 a xs ∧ R (Itl K a) H1) ∨ (∃ a xs, x = .ref a ∧ SqT K H1 a xs ∧ R (Itt K a) H1) ∨ ∃ z, x = .str z ∧ R (Its z) H1
theorem pi_any {l : Expr} {tl : TE} (hl : PE Z l tl) : PI Z tg l (iAny Z.K tl) := by
  refine ⟨fun pins s σ H R I h => ?_⟩
  refine thn (hl.run pins s σ H _ I h) fun v s1 ⟨x, H1, I1, r1, q1⟩ => ?_
  rcases q1 with ⟨a, xs, rfl, hq, q⟩ | ⟨a, xs, rfl, hq, q⟩ | ⟨z, rfl, q⟩
  · cases r1
    obtain ⟨its, rv, p, hz⟩ := I1.list hq
    refine wpAny_pyIter_list p.isList ?_
    refine ⟨s1.heap.objs.size, [s1.heap.objs.size], _, _, H1, rfl, I1.kept (t' := s1.toks) fun b o e => Heap.get?_push_of_some _ e, turn_list a _, ⟨_, Heap.get?_push_size _ rfl, rfl, rfl⟩, fun b hb => ?_, q⟩
    have e : b = s1.heap.objs.size := by simpa using hb
    subst e
    exact I1.fpOk (Nat.le_refl _) (I1.hok.fresh (Nat.le_refl _))
  · cases r1
    obtain ⟨its, rv, p, hz⟩ := I1.tuple hq
    refine wpAny_pyIter_tuple (show s1.heap.IsTuple a its.toArray from p) ?_
    refine ⟨s1.heap.objs.size, [s1.heap.objs.size], _, _, H1, rfl, I1.kept (t' := s1.toks) fun b o e => Heap.get?_push_of_some _ e, turn_tuple a _, ⟨_, Heap.get?_push_size _ rfl, rfl, rfl⟩, fun b hb => ?_, q⟩
    have e : b = s1.heap.objs.size := by simpa using hb
    subst e
    exact I1.fpOk (Nat.le_refl _) (I1.hok.fresh (Nat.le_refl _))
  · obtain ⟨t, rfl⟩ := r1
    cases ha : z.cps.all (· < 128)
    · exact wpAny_pyIter_wide ha (pi_one (tk := s1.toks) I1 _ (turn_str _ z t "str_iterator" (.inr rfl)) ⟨_, Heap.get?_push_size _ rfl, rfl, rfl⟩ q)
    · exact wpAny_pyIter_ascii ha (pi_one (tk := s1.toks) I1 _ (turn_str _ z t "str_ascii_iterator" (.inl rfl)) ⟨_, Heap.get?_push_size _ rfl, rfl, rfl⟩ q)
theorem PI_imp {e : Expr} {t t' : L2.TI} (h : PI Z tg e t) (k : ∀ σ H R, t' σ H R → t σ H R) : PI Z tg e t' := ⟨fun pins s σ H R I q => h.run pins s σ H R I (k σ H R q)⟩
variable {Y : Rd'} {g : G}
theorem TIt.first {α β : Type} {it : Fx.It} {wk : (Addr → Prop) → List Addr → Hp → Ok} {r1 : En → M α} {r2 : α → En → M (List D)} {rho1 : (Addr → Prop) → List Addr → Hp → α → β → Prop} {σ : L2.St} {H : Hp} {R : L2.It → Hp → Prop} {Q : β → Hp → Prop}
    (hf : ∀ env, It.ev g it env = (r1 env >>= fun a => r2 a env)) (h : TIt Z.K Y g wk it σ H R)
    (k : ∀ P m1 env st1 H1 a b, Sat Z.K Y.cls Y.z P m1 H1 env st1 σ → rho1 P m1 H1 a b → Wp (r2 a env st1) (fun ds st' => ∀ m2 H2 J, Step m1 H1 m2 H2 → StR Z.K Y.cls P m2 H2 st' → Gives Z.K (wk P m2 H2) ds J → R J H2) (XP Z.K Y P m1 σ H1) → Q b H1) :
    TG Z.K Y r1 rho1 σ H Q := by
  obtain ⟨P, m, env, st, sat, hw⟩ := h
  rw [hf, wp_seq] at hw
  refine ⟨P, m, env, st, sat, hw.imp (fun a st1 h1 m1 H1 b s1 r1' rho => ?_) fun _ _ h => h⟩
  exact k P m1 env st1 H1 a b (sat.step s1 r1') rho (h1.imp (fun _ _ q m2 H2 J s2 r2' gv => q m2 H2 J (s1.trans s2) r2' gv) fun _ _ q => q.step s1)
theorem q_iseq {e : Expr} {x : X} (h : PE Z e (TX Z.K Y g x)) : PI Z tg e (TIt Z.K Y g okM (.seq (.x x))) := PI_imp (pi_any h) fun σ H R h => by
  refine TIt.first (rho1 := rhoD Z.K) (r1 := X.ev g x) (r2 := fun d _ => M.opt (walkD d)) (fun _ => rfl) h fun P m1 env st1 H1 d v sat rx hw => ?_
  obtain ⟨ds, e, q⟩ := wp_opt hw
  cases d with
  | tup xs => cases e; obtain ⟨a, vs, rfl, ht, r⟩ := rx; exact .inr (.inl ⟨a, vs, rfl, ht.sq, q m1 H1 _ (Step.refl _ _) sat.st (gives_tup ht r)⟩)
  | lst xs => cases e; obtain ⟨a, vs, rfl, ht, r⟩ := rx; exact .inl ⟨a, vs, rfl, ht.sq, q m1 H1 _ (Step.refl _ _) sat.st (gives_lst ht r)⟩
  | str z =>
    cases e
    have e1 : v = .str z := rx
    subst e1
    exact .inr (.inr ⟨z, rfl, q m1 H1 _ (Step.refl _ _) sat.st gives_str⟩)
  | _ => cases (show (none : Option _) = some _ from e)
theorem q_iown {e : Expr} {i : Nat} (h : PE Z e (TL Z.K Y g (.own i))) : PI Z tg e (TIt Z.K Y g okS (.seq (.own i))) := PI_imp (pi_any h) fun σ H R h => by
  refine TIt.first (rho1 := rhoB Z.K) (r1 := L.ev g (.own i)) (r2 := fun d _ => M.opt (walkD d)) (fun _ => rfl) h fun P m1 env st1 H1 d v sat rx hw => ?_
  obtain ⟨ds, e, q⟩ := wp_opt hw
  cases d with
  | lst xs =>
    have e' : some xs = some ds := e
    cases e'
    rcases rx with rx | ⟨es, a, vs, e1, rfl, ha, hP, r⟩
    · obtain ⟨a, vs, rfl, ht, r⟩ := rx
      exact .inl ⟨a, vs, rfl, ht.sq, q m1 H1 _ (Step.refl _ _) sat.st ((gives_lst ht r).weak fun _ _ _ o => o.mv)⟩
    · cases e1
      exact .inl ⟨a, vs, rfl, SqL.of ha, q m1 H1 _ (Step.refl _ _) sat.st (gives_own (fun hm => sat.st.out a hm hP) ha r)⟩
  | tup xs =>
    have e' : some xs = some ds := e
    cases e'
    obtain ⟨a, vs, rfl, ht, r⟩ := rx.tup
    exact .inr (.inl ⟨a, vs, rfl, ht.sq, q m1 H1 _ (Step.refl _ _) sat.st ((gives_tup ht r).weak fun _ _ _ o => o.mv)⟩)
  | str z =>
    have e' : some (strD z) = some ds := e
    cases e'
    have e1 := rx.str
    subst e1
    exact .inr (.inr ⟨z, rfl, q m1 H1 _ (Step.refl _ _) sat.st (gives_str.weak fun _ _ _ o => o.mv)⟩)
  | _ => cases (show (none : Option _) = some _ from e)
theorem TIt.weak {it : Fx.It} {e : Expr} (h : PI Z tg e (TIt Z.K Y g okM it)) : PI Z tg e (TIt Z.K Y g okS it) := PI_imp h fun σ H R ⟨P, m, env, st, sat, hw⟩ =>
  ⟨P, m, env, st, sat, hw.imp (fun ds st1 q m1 H1 J s r gv => q m1 H1 J s r (gv.weak fun _ _ _ o => o.mv)) fun _ _ h => h⟩
theorem q_irange1 {a : Expr} {x : X} {p pos : Pos} (hg : Gl Z "range") (hm : Z.mg "range" = none) (hs : noStar a = true) (ha : PE Z a (TX Z.K Y g x)) : PI Z tg (.Call (.Name "range" p) [a] [] pos) (TIt Z.K Y g okM (.rng1 x)) :=
  PI_imp (pi_range1 hg hm (pa_one hs ha) (star_cons hs)) fun σ H R h => by
  refine TIt.first (rho1 := rhoD Z.K) (r1 := X.ev g x) (r2 := fun d _ => match d with
    | .int j => M.need (-(2 ^ 62) ≤ j ∧ j < 2 ^ 62) >>= fun _ => pure (rangeI 0 j.toNat)
    | _ => M.bad) (fun _ => rfl) h fun P m1 env st1 H1 d v sat rx hw => ?_
  cases d <;> first | (exact absurd hw id) | skip
  rename_i j
  have e1 : v = .int j := rx
  subst e1
  have hw' : Wp ((M.need (-(2 ^ 62) ≤ j ∧ j < 2 ^ 62) >>= fun _ => pure (rangeI 0 j.toNat)) st1) (fun ds st' => ∀ m2 H2 J, Step m1 H1 m2 H2 → StR Z.K Y.cls P m2 H2 st' → Gives Z.K (okM P m2 H2) ds J → R J H2) (XP Z.K Y P m1 σ H1) := hw
  rw [wp_seq] at hw'
  obtain ⟨hb, q⟩ := wp_need hw'
  exact ⟨j, rfl, hb.1, hb.2, (show ∀ m2 H2 J, Step m1 H1 m2 H2 → StR Z.K Y.cls P m2 H2 st1 → Gives Z.K (okM P m2 H2) (rangeI 0 j.toNat) J → R J H2 from q) m1 H1 _ (Step.refl _ _) sat.st gives_range⟩
theorem q_irange2 {a b : Expr} {x y : X} {p pos : Pos} (hg : Gl Z "range") (hm : Z.mg "range" = none) (hs : noStar a = true) (hs2 : noStar b = true) (ha : PE Z a (TX Z.K Y g x)) (hb : PE Z b (TX Z.K Y g y)) :
    PI Z tg (.Call (.Name "range" p) [a, b] [] pos) (TIt Z.K Y g okM (.rng2 x y)) :=
  PI_imp (pi_range2 hg hm (pa_two hs hs2 ha hb) (by rw [star_cons hs, star_cons hs2]; rfl) (by rw [star_cons hs2]; rfl)) fun σ H R h => by
  refine TIt.first (rho1 := rhoD Z.K) (r1 := X.ev g x) (r2 := fun d env => X.ev g y env >>= fun d2 => match d, d2 with
    | .int i, .int j => M.need (-(2 ^ 62) ≤ i ∧ i < 2 ^ 62 ∧ -(2 ^ 62) ≤ j ∧ j < 2 ^ 62) >>= fun _ => pure (rangeI i (j - i).toNat)
    | _, _ => M.bad) (fun _ => rfl) h fun P m1 env st1 H1 d v sat rx hw => ?_
  rw [wp_seq] at hw
  refine ⟨P, m1, env, st1, sat, hw.imp (fun d2 st2 h2 m2 H2 w s2 r2 ry => ?_) fun _ _ h => h⟩
  cases d <;> first | (exact absurd h2 id) | skip
  rename_i i
  cases d2 <;> first | (exact absurd h2 id) | skip
  rename_i j
  have e1 : v = .int i := rx
  subst e1
  have e2 : w = .int j := ry
  subst e2
  have hw' : Wp ((M.need (-(2 ^ 62) ≤ i ∧ i < 2 ^ 62 ∧ -(2 ^ 62) ≤ j ∧ j < 2 ^ 62) >>= fun _ => pure (rangeI i (j - i).toNat)) st2) (fun ds st' => ∀ m2 H2 J, Step m1 H1 m2 H2 → StR Z.K Y.cls P m2 H2 st' → Gives Z.K (okM P m2 H2) ds J → R J H2) (XP Z.K Y P m1 σ H1) := h2
  rw [wp_seq] at hw'
  obtain ⟨hb, q⟩ := wp_need hw'
  exact ⟨i, j, rfl, hb, (show ∀ m2 H2 J, Step m1 H1 m2 H2 → StR Z.K Y.cls P m2 H2 st2 → Gives Z.K (okM P m2 H2) (rangeI i (j - i).toNat) J → R J H2 from q) m2 H2 _ s2 r2 gives_range⟩
theorem gives_step {K : PySem.W.Frag} {P : Addr → Prop} {m : List Addr} {H : Hp} {lo c : Int} {n : Nat} : Gives K (okM P m H) (stepI lo c n) (Itc lo c n) where
  go := fun i d P' m' H' e o => by
    have := (List.getElem?_eq_some_iff.mp e).1
    unfold stepI at this
    rw [List.length_map, List.length_range] at this
    exact this
  yld := fun i d P' m' H' x H2 e o w y => by
    obtain ⟨rfl, rfl⟩ := y
    have hi := (List.getElem?_eq_some_iff.mp e).1
    unfold stepI at e hi
    rw [List.length_map, List.length_range] at hi
    rw [List.getElem?_map, List.getElem?_range hi] at e
    cases e
    exact ⟨Same.refl _, rfl⟩
  stop := fun i P' m' H' h o => by
    unfold stepI at h
    rw [List.length_map, List.length_range] at h
    exact h
theorem pa_three {e e2 e3 : Expr} {t t2 t3 : TE} (hs : noStar e = true) (hs2 : noStar e2 = true) (hs3 : noStar e3 = true) (h : PE Z e t) (h2 : PE Z e2 t2) (h3 : PE Z e3 t3) : PA Z [e, e2, e3] (fun σ H Q => t σ H fun v H1 => t2 σ H1 fun w H2 => t3 σ H2 fun u H3 => Q [v, w, u] H3) := (pa_cons h (pa_two hs2 hs3 h2 h3) (star_cons hs)).imp fun σ H Q q => q
theorem range_sz (i j : Int) (c : Nat) (hc : 0 < c) : Builtin.Range.rangeSize i j (c : Int) = (stepN i j c : Nat) := by
  have hc' : (c : Int) > 0 := by omega
  unfold Builtin.Range.rangeSize stepN
  rw [if_pos hc']
  split
  · have : 0 ≤ (j - i - 1) / (c : Int) := Int.ediv_nonneg (by omega) (by omega)
    omega
  · rfl
theorem small_step {i j : Int} {c : Nat} (h1 : -(2 ^ 30) ≤ i) (h2 : i < 2 ^ 30) (h3 : -(2 ^ 30) ≤ j) (h4 : j < 2 ^ 30) (hc : 0 < c) (hc2 : c < 1073741824) : Builtin.Range.small i j (c : Int) = true := by
  have hc' : (c : Int) > 0 := by omega
  have hs := range_sz i j c hc
  have hn : 0 ≤ (stepN i j c : Int) ∧ (stepN i j c : Int) ≤ 2 ^ 31 := by
    refine ⟨by omega, ?_⟩
    unfold stepN
    split
    · have a1 : (j - i - 1) / (c : Int) ≤ j - i - 1 := Int.ediv_le_self _ (by omega)
      have a2 : 0 ≤ (j - i - 1) / (c : Int) := Int.ediv_nonneg (by omega) (by omega)
      omega
    · omega
  unfold Builtin.Range.small
  rw [hs]
  generalize (stepN i j c : Int) = q at hn
  simp only [Builtin.Range.rangeFitsLong, Bool.and_eq_true, Bool.or_eq_true, decide_eq_true_eq, beq_iff_eq, hc', if_true]
  omega
theorem q_irange3 {a b k : Expr} {x y : X} {c : Nat} {p pos : Pos} (hc : 0 < c) (hc2 : c < 1073741824) (hg : Gl Z "range") (hm : Z.mg "range" = none) (hs : noStar a = true) (hs2 : noStar b = true) (hs3 : noStar k = true) (ha : PE Z a (TX Z.K Y g x)) (hb : PE Z b (TX Z.K Y g y)) (hk : PE Z k (tC (.int (c : Int)))) :
    PI Z tg (.Call (.Name "range" p) [a, b, k] [] pos) (TIt Z.K Y g okM (.rng3 x y c)) :=
  PI_imp (pi_range3 hg hm (pa_three hs hs2 hs3 ha hb hk) (by rw [star_cons hs]) (by rw [star_cons hs2, star_cons hs3]; rfl)) fun σ H R h => by
  refine TIt.first (rho1 := rhoD Z.K) (r1 := X.ev g x) (r2 := fun d env => X.ev g y env >>= fun d2 => match d, d2 with
    | .int i, .int j => M.need (-(2 ^ 30) ≤ i ∧ i < 2 ^ 30 ∧ -(2 ^ 30) ≤ j ∧ j < 2 ^ 30) >>= fun _ => pure (stepI i (c : Int) (stepN i j c))
    | _, _ => M.bad) (fun _ => rfl) h fun P m1 env st1 H1 d v sat rx hw => ?_
  rw [wp_seq] at hw
  refine ⟨P, m1, env, st1, sat, hw.imp (fun d2 st2 h2 m2 H2 w s2 r2 ry => ?_) fun _ _ h => h⟩
  cases d <;> first | (exact absurd h2 id) | skip
  rename_i i
  cases d2 <;> first | (exact absurd h2 id) | skip
  rename_i j
  have e1 : v = .int i := rx
  subst e1
  have e2 : w = .int j := ry
  subst e2
  have hw' : Wp ((M.need (-(2 ^ 30) ≤ i ∧ i < 2 ^ 30 ∧ -(2 ^ 30) ≤ j ∧ j < 2 ^ 30) >>= fun _ => pure (stepI i (c : Int) (stepN i j c))) st2) (fun ds st' => ∀ m2 H2 J, Step m1 H1 m2 H2 → StR Z.K Y.cls P m2 H2 st' → Gives Z.K (okM P m2 H2) ds J → R J H2) (XP Z.K Y P m1 σ H1) := h2
  rw [wp_seq] at hw'
  obtain ⟨⟨b1, b2, b3, b4⟩, q⟩ := wp_need hw'
  exact ⟨i, j, c, stepN i j c, rfl, ⟨by omega, by omega, small_step b1 b2 b3 b4 hc hc2, range_sz i j c hc⟩, (show ∀ m2 H2 J, Step m1 H1 m2 H2 → StR Z.K Y.cls P m2 H2 st2 → Gives Z.K (okM P m2 H2) (stepI i (c : Int) (stepN i j c)) J → R J H2 from q) m2 H2 _ s2 r2 gives_step⟩
theorem rngC_eq {x y : X} {z : Str} {c : Int} (h : g.con z = some (.int c)) (hc : 0 < c ∧ c < 1073741824) : It.ev g (.rngC x y z) = It.ev g (.rng3 x y c.toNat) := by
  funext env
  show (match g.con z with
    | some (.int c) => (M.need (0 < c ∧ c < 1073741824) >>= fun _ => It.ev g (.rng3 x y c.toNat) env)
    | _ => M.bad) = _
  rw [h]
  show (M.need (0 < c ∧ c < 1073741824) >>= fun _ => It.ev g (.rng3 x y c.toNat) env) = _
  unfold M.need
  rw [if_pos hc]; rfl
theorem rngC_bad {x y : X} {z : Str} {env : En} {s : Sto} (h : ¬ ∃ c : Int, g.con z = some (.int c) ∧ 0 < c ∧ c < 1073741824) : It.ev g (.rngC x y z) env s = .bad := by
  have key : ∀ o : Option D, (∀ c : Int, o = some (.int c) → ¬ (0 < c ∧ c < 1073741824)) → (match o with
    | some (.int c) => (M.need (0 < c ∧ c < 1073741824) >>= fun _ => It.ev g (.rng3 x y c.toNat) env)
    | _ => M.bad) s = (.bad : R (List D)) := fun o ho => by
    cases o with
    | none => rfl
    | some d => cases d with
      | int c =>
        show (M.need (0 < c ∧ c < 1073741824) >>= fun _ => It.ev g (.rng3 x y c.toNat) env) s = _
        unfold M.need
        rw [if_neg (ho c rfl)]; rfl
      | _ => rfl
  exact key _ fun c e q => h ⟨c, e, q⟩
theorem q_irangeC {a b k : Expr} {x y : X} {z : Str} {p pos : Pos} (hg : Gl Z "range") (hm : Z.mg "range" = none) (hs : noStar a = true) (hs2 : noStar b = true) (hs3 : noStar k = true) (ha : PE Z a (TX Z.K Y g x)) (hb : PE Z b (TX Z.K Y g y)) (hk : ∀ c : Int, g.con z = some (.int c) → PE Z k (tC (.int c))) :
    PI Z tg (.Call (.Name "range" p) [a, b, k] [] pos) (TIt Z.K Y g okM (.rngC x y z)) := by
  by_cases h : ∃ c : Int, g.con z = some (.int c) ∧ 0 < c ∧ c < 1073741824
  · obtain ⟨c, h1, h2, h3⟩ := h
    have e := rngC_eq (x := x) (y := y) h1 ⟨h2, h3⟩
    have e2 : TIt Z.K Y g okM (.rngC x y z) = TIt Z.K Y g okM (.rng3 x y c.toNat) := by unfold TIt; rw [e]
    rw [e2]
    exact q_irange3 (c := c.toNat) (by omega) (by omega) hg hm hs hs2 hs3 ha hb (by rw [Int.toNat_of_nonneg (by omega)]; exact hk c h1)
  · refine ⟨fun pins s σ H R I hh => ?_⟩
    obtain ⟨P, m, env, st, sat, hw⟩ := hh
    rw [rngC_bad h] at hw
    exact hw.elim
theorem q_ienum {e : Expr} {x : X} {elts : List Expr} {kk : Nat} {tpos p pos : Pos} (hg : Gl Z "enumerate") (hm : Z.mg "enumerate" = none) (hs : noStar e = true) (ha : PE Z e (TX Z.K Y g x)) :
    PI Z (.Tuple elts kk tpos) (.Call (.Name "enumerate" p) [e] [] pos) (TIt Z.K Y g okM (.enum (.x x))) := PI_imp (pi_enum hg hm (pa_one hs ha) (star_cons hs)) fun σ H R h => by
  refine TIt.first (rho1 := rhoD Z.K) (r1 := X.ev g x) (r2 := fun d _ => match d with
    | .lst ds => pure (enumD ds)
    | _ => M.bad) (fun _ => rfl) h fun P m1 env st1 H1 d v sat rx hw => ?_
  cases d <;> first | (exact absurd hw id) | skip
  rename_i ds
  obtain ⟨a, vs, rfl, ht, r⟩ := rx
  exact ⟨a, vs, rfl, ht.sq, (show ∀ m2 H2 J, Step m1 H1 m2 H2 → StR Z.K Y.cls P m2 H2 st1 → Gives Z.K (okM P m2 H2) (enumD ds) J → R J H2 from hw) m1 H1 _ (Step.refl _ _) sat.st
    (gives_enum (gives_lst ht r) fun P' m' H' o => ⟨vs, (ht.mv o).sq, RelL.mv o ds r⟩)⟩
theorem q_ienumO {e : Expr} {i : Nat} {elts : List Expr} {kk : Nat} {tpos p pos : Pos} (hg : Gl Z "enumerate") (hm : Z.mg "enumerate" = none) (hs : noStar e = true) (ha : PE Z e (TL Z.K Y g (.own i))) :
    PI Z (.Tuple elts kk tpos) (.Call (.Name "enumerate" p) [e] [] pos) (TIt Z.K Y g okS (.enum (.own i))) := PI_imp (pi_enum hg hm (pa_one hs ha) (star_cons hs)) fun σ H R h => by
  refine TIt.first (rho1 := rhoB Z.K) (r1 := L.ev g (.own i)) (r2 := fun d _ => match d with
    | .lst ds => pure (enumD ds)
    | _ => M.bad) (fun _ => rfl) h fun P m1 env st1 H1 d v sat rx hw => ?_
  cases d <;> first | (exact absurd hw id) | skip
  rename_i ds
  have hw' : ∀ m2 H2 J, Step m1 H1 m2 H2 → StR Z.K Y.cls P m2 H2 st1 → Gives Z.K (okS P m2 H2) (enumD ds) J → R J H2 := hw
  rcases rx with rx | ⟨es, a, vs, e1, rfl, ha, hP, r⟩
  · obtain ⟨a, vs, rfl, ht, r⟩ := rx
    exact ⟨a, vs, rfl, ht.sq, hw' m1 H1 _ (Step.refl _ _) sat.st ((gives_enum (gives_lst ht r) fun P' m' H' o => ⟨vs, (ht.mv o).sq, RelL.mv o ds r⟩).weak fun _ _ _ o => o.mv)⟩
  · cases e1
    have hn : a ∉ m1 := fun hm => sat.st.out a hm hP
    exact ⟨a, vs, rfl, SqL.of ha, hw' m1 H1 _ (Step.refl _ _) sat.st (gives_enum (gives_own hn ha r) fun P' m' H' o => ⟨vs, SqL.of (o.1.ext _ _ ha hn), RelL.mv o.mv ds r⟩)⟩
def TItO (K : PySem.W.Frag) (Y : Rd') (g : G) (en : Bool) (x : X) : L2.TI := fun σ H R => ∃ P m env st, Sat K Y.cls Y.z P m H env st σ ∧
  Wp (X.ev g x env st) (fun d st' => (∃ n ds, d = .obj n ∧ st'[n]? = some (.lst ds) ∧ ∀ m1 H1 a J, Step m H m1 H1 → StR K Y.cls P m1 H1 st' → m1[n]? = some a → Gives K (okN K ds a) (if en then enumD ds else ds) J → R J H1) ∨
    ∃ ds, d = .lst ds ∧ ∀ m1 H1 J, Step m H m1 H1 → StR K Y.cls P m1 H1 st' → Gives K (okM P m1 H1) (if en then enumD ds else ds) J → R J H1) (XP K Y P m σ H)
theorem q_iobj {e : Expr} {x : X} (h : PE Z e (TX Z.K Y g x)) : PI Z tg e (TItO Z.K Y g false x) := PI_imp (pi_any h) fun σ H R ⟨P, m, env, st, sat, hw⟩ =>
  ⟨P, m, env, st, sat, hw.imp (fun d st1 q m1 H1 v s r rx => by
    rcases q with ⟨n, ds, rfl, e, q⟩ | ⟨ds, rfl, q⟩
    · obtain ⟨a, rfl, hm⟩ := rx
      obtain ⟨a', vs, hm', ha, rl⟩ := r.lst e
      rw [hm] at hm'; cases hm'
      exact .inl ⟨a, vs, rfl, SqL.of ha, q m1 H1 a _ s r hm gives_obj⟩
    · obtain ⟨a, vs, rfl, ht, r2⟩ := rx
      exact .inl ⟨a, vs, rfl, ht.sq, q m1 H1 _ s r (gives_lst ht r2)⟩) fun _ _ h => h⟩
theorem q_iobjE {e : Expr} {x : X} {elts : List Expr} {kk : Nat} {tpos p pos : Pos} (hg : Gl Z "enumerate") (hm : Z.mg "enumerate" = none) (hs : noStar e = true) (ha : PE Z e (TX Z.K Y g x)) :
    PI Z (.Tuple elts kk tpos) (.Call (.Name "enumerate" p) [e] [] pos) (TItO Z.K Y g true x) := PI_imp (pi_enum hg hm (pa_one hs ha) (star_cons hs)) fun σ H R ⟨P, m, env, st, sat, hw⟩ =>
  ⟨P, m, env, st, sat, hw.imp (fun d st1 q m1 H1 v s r rx => by
    rcases q with ⟨n, ds, rfl, e, q⟩ | ⟨ds, rfl, q⟩
    · obtain ⟨a, rfl, hm⟩ := rx
      obtain ⟨a', vs, hm', ha, rl⟩ := r.lst e
      rw [hm] at hm'; cases hm'
      exact ⟨a, vs, rfl, SqL.of ha, q m1 H1 a _ s r hm gives_objE⟩
    · obtain ⟨a, vs, rfl, ht, r2⟩ := rx
      exact ⟨a, vs, rfl, ht.sq, q m1 H1 _ s r (gives_enum (gives_lst ht r2) fun P' m' H' o => ⟨vs, (ht.mv o).sq, RelL.mv o ds r2⟩)⟩) fun _ _ h => h⟩
theorem okN_of {cls : Nat → Option Addr} {P : Addr → Prop} {m1 m : List Addr} {H : Hp} {st : Sto} {n : Nat} {a : Addr} {ds : List D} {K : PySem.W.Frag} (r : StR K cls P m H st) (hp : ∃ t, m = m1 ++ t) (hm : m1[n]? = some a) (e : st[n]? = some (.lst ds)) : okN K ds a P m H := by
  obtain ⟨t, et⟩ := hp
  obtain ⟨a', vs, hm', ha, rl⟩ := r.lst e
  rw [et, List.getElem?_append_left (List.getElem?_eq_some_iff.mp hm).1, hm] at hm'
  cases hm'
  exact ⟨vs, ha, rl⟩
end
end Fx

set_option Elab.async false
set_option linter.all false
set_option maxRecDepth 100000
set_option maxHeartbeats 1000000
/-! Fx 10: comprehensions. -/
namespace Fx
open PySem PySem.Spec PyProof.Rows L2

/-! ### the heap without D -/
def era (H : Hp) (D : Addr) : Hp := fun a => if a = D then none else H a
section
variable {K : PySem.W.Frag} {cls : Nat → Option Addr} {P : Addr → Prop} {m : List Addr} {H : Hp} {D : Addr} {st : Sto}
theorem era_ne {a : Addr} (h : a ≠ D) : era H D a = H a := if_neg h
theorem era_self : era H D D = none := if_pos rfl
theorem upd_era {o : HO} (h : H D = some o) : upd (era H D) D o = H := by
  funext a
  by_cases e : a = D
  · subst e; rw [upd_same, h]
  · rw [upd_ne e, era_ne e]
theorem Mv.era (h : ∀ a, Bad (Fx.plus P D) m a ↔ (Bad P m a ∨ a = D)) : Mv (Fx.plus P D) m H P m (era H D) := ⟨⟨[], by simp⟩, fun a o e n => by
  rw [h] at n
  have h1 : a ≠ D := fun z => n (.inr z)
  exact ⟨by rw [era_ne h1]; exact e, fun z => n (.inl z)⟩⟩
theorem bad_plus {a : Addr} : Bad (plus P D) m a ↔ (Bad P m a ∨ a = D) := by
  unfold Bad plus
  constructor
  · rintro (h | h | h)
    · exact .inl (.inl h)
    · exact .inl (.inr h)
    · exact .inr h
  · rintro ((h | h) | h)
    · exact .inl h
    · exact .inr (.inl h)
    · exact .inr (.inr h)
theorem StR.era (h : StR K cls (Fx.plus P D) m H st) : StR K cls P m (era H D) st :=
  h.mv_same (Mv.era fun _ => bad_plus) (fun a ha => era_ne fun e => h.out a ha (.inr e)) fun a ha z => h.out a ha (.inl z)
end

section
variable {Z : Cx} {Y : Rd'} {g : G}
def calmY (Y : Rd') : Rd' := { Y with W := fun _ _ _ _ => False }
theorem wp_calm {α : Type} {x : M α} {st : Sto} {Q : α → Sto → Prop} {E : Ex → Sto → Prop} (h : Wp (M.calm x st) Q E) : Wp (x st) Q fun _ _ => False := by
  unfold M.calm at h
  cases e : x st with
  | ok a s => rw [e] at h; exact h
  | exc _ _ => rw [e] at h; exact h
  | bad => rw [e] at h; exact h
noncomputable def stepF (g : G) (t : T) (c : CO) (e : X) (env : En) : D → M (Option D) := fun d => do
  let env' ← M.opt (stT t d (wipeE env (slT t)))
  match ← CO.ev g c env' with
  | true => do let v ← X.ev g e env'; pure (some v)
  | false => pure none
theorem goes_cons {f : D → M (Option D)} {d : D} {r acc : List D} {st : Sto} {Q : List D → Sto → Prop} {E : Ex → Sto → Prop} (h : Wp (goes f (d :: r) acc st) Q E) :
    Wp (f d st) (fun o st' => match o with
      | some v => acc.length < 16777216 ∧ Wp (goes f r (acc ++ [v]) st') Q E
      | none => Wp (goes f r acc st') Q E) E := by
  have h' : Wp ((f d >>= fun o => match o with
    | some v => M.need (acc.length < 16777216) >>= fun _ => goes f r (acc ++ [v])
    | none => goes f r acc) st) Q E := h
  rw [wp_seq] at h'
  refine h'.imp (fun o st' q => ?_) fun _ _ h => h
  cases o with
  | none => exact q
  | some v =>
    have q' : Wp ((M.need (acc.length < 16777216) >>= fun _ => goes f r (acc ++ [v])) st') Q E := q
    rw [wp_seq] at q'
    exact wp_need q'
theorem But.wipe {us vs : List Nat} {σ σ' : L2.St} (h : But us (L2.wipe σ vs) σ') (hv : ∀ j, j ∈ us → j ∈ vs) : L2.wipe σ' vs = L2.wipe σ vs := by
  have e1 : L2.wipe (L2.wipe σ vs) vs = L2.wipe σ' vs := wipe_get h.1 h.2 vs hv
  have e2 : L2.wipe (L2.wipe σ vs) vs = L2.wipe σ vs := wipe_get (us := vs) (wipe_length σ vs) (fun j hj => wipe_ne hj) vs fun _ h => h
  rw [← e1, e2]
abbrev TCO (K : PySem.W.Frag) (Y : Rd') (g : G) (c : CO) : TT := TG K Y (CO.ev g c) rhoEq
theorem q_cnone : PTs Z [] (TCO Z.K Y g .none) := ⟨fun pins s σ H Q I ⟨P, m, env, st, sat, hw⟩ => pts_nil.run pins s σ H Q I ((show VP Z.K Y (rhoEq (α := Bool)) P m H Q true st from hw).here sat.st rfl)⟩
theorem q_csome {c : Expr} {k : C} (h : PT Z c (TC Z.K Y g k)) : PTs Z [c] (TCO Z.K Y g (.some k)) := ⟨fun pins s σ H Q I q => (pts_one h).run pins s σ H Q I q⟩
/-- the state at turn i -/
def Lc (K : PySem.W.Frag) (Y : Rd') (g : G) (t : T) (c : CO) (e : X) (env : En) (ds : List D) (P : Addr → Prop) (m1 : List Addr) (H1 : Hp) (Q : VK) (D : Addr) (τ : L2.St) (i : Nat) (H : Hp) : Prop :=
  ∃ m' st' acc accV, Step m1 H1 m' H ∧ Sat K Y.cls Y.z (plus P D) m' H (wipeE env (slT t)) st' τ ∧ H D = some (.lst accV) ∧ RelL K (plus P D) m' H acc accV ∧ Wp (goes (stepF g t c e env) (ds.drop i) acc st') (VPf K Y P m1 H1 Q) fun _ _ => False
theorem comp_core {own : List (Str × Nat)} {t : T} {it : Fx.It} {co : CO} {x : X} (hv : ∀ i, i ∈ own.map (·.2) ↔ i ∈ slT t) (σ : L2.St) (H : Hp) (Q : VK) (h : TFn Z.K Y g (.comp t it co x) σ H Q) :
    tLc (TIt Z.K Y g okS it) (TGt Z.K Y t) (TCO Z.K (calmY Y) g co) (TX Z.K (calmY Y) g x) (own.map (·.2)) σ H Q := by
  obtain ⟨P, m, env, st, sat, hw⟩ := h
  have hw' : Wp ((It.ev g it env >>= fun ds => M.calm (goes (stepF g t co x env) ds [])) st) (VPf Z.K Y P m H Q) (XP Z.K Y P m σ H) := hw
  rw [wp_seq] at hw'
  refine ⟨P, m, env, st, sat, hw'.imp (fun ds st1 h1 m1 H1 J s1 r1 gv D hD => ?_) fun _ _ h => h⟩
  have h1' := (wp_calm h1).imp (fun a s q => VPf.step (K := Z.K) (Y := Y) q s1) fun _ _ h => h
  have sat1 := sat.step s1 r1
  have okk : ∀ {m' H'}, Step m1 H1 m' H' → okS P m1 H1 (plus P D) m' H' := fun s => ⟨s, fun a o e hp => hp.resolve_right fun z => by subst z; rw [hD] at e; cases e⟩
  refine ⟨fun i k Hc => k = ds.length - i ∧ i ≤ ds.length ∧ Lc Z.K Y g t co x env ds P m1 H1 Q D (L2.wipe σ (own.map (·.2))) i Hc, ⟨ds.length, by simp, Nat.zero_le _, m1, st1, [], [], Step.laid hD, (sat1.more hD).wiped fun i hi => (hv i).mp hi, upd_same, rfl, by simpa using h1'⟩, ?_⟩
  rintro i k Hc ⟨rfl, hi, m', st', acc, accV, s2, sat2, hDc, ra, hw2⟩
  by_cases hlt : i < ds.length
  · have hd : ds[i]? = some ds[i] := List.getElem?_eq_getElem hlt
    rw [List.drop_eq_getElem_cons hlt] at hw2
    have hw3 := goes_cons hw2
    refine .inr ⟨gv.go i _ (plus P D) m' Hc hd (okk s2), Lc Z.K Y g t co x env ds P m1 H1 Q D (L2.wipe σ (own.map (·.2))) (i + 1), fun H' p => ⟨ds.length - (i + 1), by omega, rfl, hlt, p⟩, fun xv Hx y => ?_⟩
    obtain ⟨same, rx⟩ := gv.yld i _ (plus P D) m' Hc xv Hx hd (okk s2) sat2.own y
    have s3 : Step m' Hc m' Hx := sat2.own.to_step same
    have sat3 := sat2.step s3 (sat2.st.same same)
    have hDx : Hx D = some (.lst accV) := same _ _ hDc
    have hw4 : Wp ((M.opt (stT t ds[i] (wipeE env (slT t))) >>= fun env' => CO.ev g co env' >>= fun b => match b with
      | true => X.ev g x env' >>= fun v => pure (some v)
      | false => pure none) st') (fun o st' => match o with
      | some v => acc.length < 16777216 ∧ Wp (goes (stepF g t co x env) (ds.drop (i + 1)) (acc ++ [v]) st') (VPf Z.K Y P m1 H1 Q) fun _ _ => False
      | none => Wp (goes (stepF g t co x env) (ds.drop (i + 1)) acc st') (VPf Z.K Y P m1 H1 Q) fun _ _ => False) (fun _ _ => False) := hw3
    rw [wp_seq] at hw4
    obtain ⟨env', e1, hw5⟩ := wp_opt hw4
    refine ⟨plus P D, m', wipeE env (slT t), st', ds[i], env', sat3, rx, e1, fun σ2 sat4 b4 => ⟨b4.wipe fun j hj => (hv j).mpr hj, ?_⟩⟩
    rw [wp_seq] at hw5
    refine ⟨plus P D, m', env', st', sat4, hw5.imp (fun b st5 h5 m5 H5 b' s5 r5 eb => ?_) fun _ _ h => h.elim⟩
    cases eb
    have sat5 := sat4.step s5 r5
    have sat5w := sat3.step s5 r5
    have nD : D ∉ m' := fun h => sat2.st.out D h (.inr rfl)
    have hD5 : H5 D = some (.lst accV) := s5.ext _ _ hDx nD
    cases b with
    | false =>
      rw [if_neg Bool.false_ne_true]
      exact ⟨m5, st5, acc, accV, (s2.trans s3).trans s5, sat5w, hD5, RelL.step (s3.trans s5) acc ra, h5⟩
    | true =>
      rw [if_pos rfl]
      have h5' : Wp ((X.ev g x env' >>= fun v => pure (some v)) st5) _ _ := h5
      rw [wp_seq] at h5'
      refine ⟨plus P D, m5, env', st5, sat5, h5'.imp (fun v st6 h6 m6 H6 v' s6 r6 rv => ?_) fun _ _ h => h.elim⟩
      have h6' : acc.length < 16777216 ∧ Wp (goes (stepF g t co x env) (ds.drop (i + 1)) (acc ++ [v]) st6) (VPf Z.K Y P m1 H1 Q) fun _ _ => False := h6
      have nD5 : D ∉ m5 := fun h => r5.out D h (.inr rfl)
      have hD6 : H6 D = some (.lst accV) := s6.ext _ _ hD5 nD5
      have nD6 : D ∉ m6 := fun h => r6.out D h (.inr rfl)
      have ra6 := RelL.step ((s3.trans s5).trans s6) acc ra
      refine ⟨accV, hD6, by rw [line16, ← relL_length ra]; exact h6'.1, ?_⟩
      -- the new item is laid
      have mv : Mv (plus P D) m6 H6 (plus P D) m6 (upd H6 D (.lst (accV ++ [v']))) := ⟨⟨[], by simp⟩, fun a o e n => ⟨by rw [upd_ne fun z => n (.inr (.inr z))]; exact e, n⟩⟩
      have s7 : Step m1 H1 m6 (upd H6 D (.lst (accV ++ [v']))) := by
        have s8 := ((s2.trans s3).trans s5).trans s6
        refine ⟨s8.pre, s8.new, fun a o e ha => ?_⟩
        rw [upd_ne fun z => by subst z; rw [hD] at e; cases e]
        exact s8.ext a o e ha
      have sat6 : Sat Z.K Y.cls Y.z (plus P D) m6 (upd H6 D (.lst (accV ++ [v']))) (wipeE env (slT t)) st6 (L2.wipe σ (own.map (·.2))) := by
        have sat6' := sat5w.step s6 r6
        refine ⟨sat6'.len, fun j l e => ?_, r6.mv_same mv (fun a ha => upd_ne fun z => by subst z; exact nD6 ha) r6.out, fun a ha => ?_, sat6'.un⟩
        · have hr := sat6'.sl j l e
          cases l with
          | no => trivial
          | val d => obtain ⟨v, e, r⟩ := hr; exact ⟨v, e, Rel.mv mv d r⟩
          | own ds' =>
            -- a list of the def's: laid ahead of D
            have hj : j ∉ slT t := fun hj => by cases wipeE_in hj e
            rw [wipeE_ne hj] at e
            obtain ⟨a, vs, ea, ha, hP, r⟩ := sat1.sl j _ e
            have haD : a ≠ D := fun z => by subst z; rw [hD] at ha; cases ha
            have nm : a ∉ m1 := fun hm => sat1.st.out a hm hP
            have mv0 : Mv P m1 H1 (plus P D) m6 (upd H6 D (.lst (accV ++ [v']))) := s7.mv fun b o e hp => hp.resolve_right fun z => by subst z; rw [hD] at e; cases e
            refine ⟨a, vs, ?_, s7.ext _ _ ha nm, .inl hP, RelL.mv mv0 ds' r⟩
            rw [wipe_ne fun z => hj ((hv j).mp z)]
            exact ea
          | exc ex =>
            obtain ⟨b, c, dd, e1, e2, r⟩ := hr
            exact ⟨b, c, dd, e1, e2, r.mv r6 (fun a ha fvs e => by obtain ⟨vs, e'⟩ := sat6'.hP a ha; rw [e] at e'; cases e') mv⟩
        · rcases ha with ha | ha
          · by_cases haD : a = D
            · subst haD; exact ⟨_, upd_same⟩
            · obtain ⟨vs, e⟩ := sat6'.hP a (.inl ha)
              exact ⟨vs, by rw [upd_ne haD]; exact e⟩
          · subst ha; exact ⟨_, upd_same⟩
      exact ⟨m6, st6, acc ++ [v], accV ++ [v'], s7, sat6, upd_same, RelL.mv mv _ (relL_append ra6 (relL_one rv)), h6'.2⟩
  · have e : i = ds.length := by omega
    subst e
    refine .inl ⟨gv.stop _ (plus P D) m' Hc (Nat.le_refl _) (okk s2), ?_⟩
    rw [List.drop_length] at hw2
    have q : VPf Z.K Y P m1 H1 Q acc st' := hw2
    have q2 := q m' (era Hc D) D accV ⟨s2.pre, s2.new, fun a o e ha => by rw [era_ne fun z => by subst z; rw [hD] at e; cases e]; exact s2.ext a o e ha⟩ sat2.st.era era_self (RelL.mv (Mv.era fun _ => bad_plus) acc ra)
    rw [upd_era hDc] at q2
    exact q2
theorem q_comp {elt tg iter : Expr} {ifs : List Expr} {scope : Scope} {own : List (Str × Nat)} {pos : Pos} {t : T} {it : Fx.It} {co : CO} {x : X} (hc : Z.calm = true) (hN : Z.N.Nodup) (hi : PI Z tg iter (TIt Z.K Y g okS it)) (ok : BlkOk Z.N Z.env.scope scope own)
    (hv : ∀ i, i ∈ own.map (·.2) ↔ i ∈ slT t) (hg : ∀ (s : Shared) (H : Hp) (C : Addr) (cl : List (Str × Addr)) (fp : List Addr), PG (Z.blk s H scope (compEnvC scope cl C Z.env) fp) tg (TGt Z.K Y t))
    (ht : ∀ (s : Shared) (H : Hp) (C : Addr) (cl : List (Str × Addr)) (fp : List Addr), PTs (Z.blk s H scope (compEnvC scope cl C Z.env) fp) ifs (TCO Z.K (calmY Y) g co))
    (he : ∀ (s : Shared) (H : Hp) (C : Addr) (cl : List (Str × Addr)) (fp : List Addr), PE (Z.blk s H scope (compEnvC scope cl C Z.env) fp) elt (TX Z.K (calmY Y) g x)) (hs : noSet iter = true) :
    PE Z (.ListComp elt [⟨tg, iter, ifs, 0⟩] scope pos) (TFn Z.K Y g (.comp t it co x)) := (pe_lc hc hN hi ok hg ht he (set_plain' hs)).imp fun σ H Q h => comp_core hv σ H Q h
/-! ### two clauses -/
mutual
theorem stT_get : ∀ (t : T) {d : D} {env env' : En}, stT t d env = some env' → ∀ j, (j ∈ slT t → ∃ x, env'[j]? = some (.val x)) ∧ (j ∉ slT t → env'[j]? = env[j]?)
  | .name i, d, env, env', h, j => by
    have h' : (if i < env.length then some (env.set i (.val d)) else none) = some env' := h
    by_cases hi : i < env.length
    · rw [if_pos hi] at h'; cases h'
      refine ⟨fun hj => ?_, fun hj => ?_⟩
      · have e : j = i := by simpa [slT] using hj
        subst e
        exact ⟨d, List.getElem?_set_self hi⟩
      · have e : i ≠ j := fun z => hj (by simp [slT, z])
        exact List.getElem?_set_ne e
    · rw [if_neg hi] at h'; cases h'
  | .tup ts, d, env, env', h, j => by
    cases d with
    | tup ds => exact stTS_get ts h j
    | lst ds => exact stTS_get ts h j
    | _ => cases (show (none : Option En) = some env' from h)
theorem stTS_get : ∀ (ts : Fx.TS) {ds : List D} {env env' : En}, stTS ts ds env = some env' → ∀ j, (j ∈ slTS ts → ∃ x, env'[j]? = some (.val x)) ∧ (j ∉ slTS ts → env'[j]? = env[j]?)
  | .nil, ds, env, env', h, j => by
    cases ds with
    | nil => cases h; exact ⟨fun hj => by simp [slTS] at hj, fun _ => rfl⟩
    | cons _ _ => cases (show (none : Option En) = some env' from h)
  | .cons t r, ds, env, env', h, j => by
    cases ds with
    | nil => cases (show (none : Option En) = some env' from h)
    | cons d ds =>
      have h' : (stT t d env).bind (stTS r ds) = some env' := h
      cases e1 : stT t d env with
      | none => rw [e1] at h'; cases h'
      | some e2 =>
        rw [e1] at h'
        have i1 := stT_get t e1 j
        have i2 := stTS_get r (show stTS r ds e2 = some env' from h') j
        by_cases hr : j ∈ slTS r
        · exact ⟨fun _ => i2.1 hr, fun hj => absurd (by simp [slTS, hr]) hj⟩
        · rw [i2.2 hr]
          exact ⟨fun hj => i1.1 (by simpa [slTS, hr] using hj), fun hj => i1.2 fun z => hj (by simp [slTS, z])⟩
end
/-- no list under construction lies at D -/
def Off (D : Addr) (env : En) (σ : L2.St) : Prop := ∀ (j : Nat) l (a : Addr), env[j]? = some (.own l) → (σ[j]? : Option (Option V)) = some (some (.ref a)) → a ≠ D
theorem Off.store {D : Addr} {t : T} {d : Fx.D} {env env' : En} {σ σ' : L2.St} (h : Off D env σ) (e : stT t d env = some env') (b : But (slT t) σ σ') : Off D env' σ' := fun j l a e1 e2 => by
  by_cases hj : j ∈ slT t
  · obtain ⟨x, e3⟩ := (stT_get t e j).1 hj
    rw [e3] at e1; cases e1
  · rw [(stT_get t e j).2 hj] at e1
    rw [← b.2 j hj] at e2
    exact h j l a e1 e2
theorem Off.wiped {D : Addr} {env : En} {σ : L2.St} {us vs : List Nat} (h : Off D env σ) (hv : ∀ i, i ∈ vs → i ∈ us) : Off D (wipeE env us) (L2.wipe σ vs) := fun j l a e1 e2 => by
  have hj : j ∉ us := fun z => by cases wipeE_in z e1
  rw [wipeE_ne hj] at e1
  rw [wipe_ne fun z => hj (hv j z)] at e2
  exact h j l a e1 e2
/-- a new item is laid at the end of D -/
theorem laid_core {P : Addr → Prop} {m : List Addr} {H : Hp} {D : Addr} {env : En} {st : Sto} {σ : L2.St} {accV : List V} {v' : V} (sat : Sat Z.K Y.cls Y.z (plus P D) m H env st σ) (off : Off D env σ) :
    Mv (plus P D) m H (plus P D) m (upd H D (.lst (accV ++ [v']))) ∧ Sat Z.K Y.cls Y.z (plus P D) m (upd H D (.lst (accV ++ [v']))) env st σ := by
  have nD : D ∉ m := fun h => sat.st.out D h (.inr rfl)
  have mv : Mv (plus P D) m H (plus P D) m (upd H D (.lst (accV ++ [v']))) := ⟨⟨[], by simp⟩, fun a o e n => ⟨by rw [upd_ne fun z => n (.inr (.inr z))]; exact e, n⟩⟩
  refine ⟨mv, sat.len, fun j l e => ?_, sat.st.mv_same mv (fun a ha => upd_ne fun z => by subst z; exact nD ha) sat.st.out, fun a ha => ?_, sat.un⟩
  · have hr := sat.sl j l e
    cases l with
    | no => trivial
    | val d => obtain ⟨v, e, r⟩ := hr; exact ⟨v, e, Rel.mv mv d r⟩
    | own ds' =>
      obtain ⟨a, vs, ea, ha, hP, r⟩ := hr
      exact ⟨a, vs, ea, by rw [upd_ne (off j ds' a e ea)]; exact ha, hP, RelL.mv mv ds' r⟩
    | exc ex =>
      obtain ⟨b, c, dd, e1, e2, r⟩ := hr
      exact ⟨b, c, dd, e1, e2, r.mv sat.st (fun a ha fvs e => by obtain ⟨vs, e'⟩ := sat.hP a ha; rw [e] at e'; cases e') mv⟩
  · rcases ha with ha | ha
    · by_cases haD : a = D
      · subst haD; exact ⟨_, upd_same⟩
      · obtain ⟨vs, e⟩ := sat.hP a (.inl ha)
        exact ⟨vs, by rw [upd_ne haD]; exact e⟩
    · subst ha; exact ⟨_, upd_same⟩
noncomputable def stepL (g : G) (t : T) (c : CO) (t2 : T) (it2 : Fx.It) (c2 : CO) (e : X) (env : En) : D → List D → M (List D) := fun d acc => do
  let env' ← M.opt (stT t d (wipeE env (slT t ++ slT t2)))
  match ← CO.ev g c env' with
  | true => do
    let ds2 ← It.ev g it2 env'
    goes (stepF g t2 c2 e env') ds2 acc
  | false => pure acc
theorem goesL_cons {f : D → List D → M (List D)} {d : D} {r acc : List D} {st : Sto} {Q : List D → Sto → Prop} {E : Ex → Sto → Prop} : Wp (goesL f (d :: r) acc st) Q E = Wp (f d acc st) (fun a s => Wp (goesL f r a s) Q E) E := by
  show Wp ((f d acc >>= fun a => goesL f r a) st) Q E = _
  rw [wp_seq]
/-- the outer state -/
def Lo (K : PySem.W.Frag) (Y : Rd') (P : Addr → Prop) (m1 : List Addr) (H1 : Hp) (D : Addr) (env : En) (τ : L2.St) (R : List Fx.D → Sto → Prop) (H : Hp) : Prop :=
  ∃ m' st' acc accV, Step m1 H1 m' H ∧ Sat K Y.cls Y.z (plus P D) m' H env st' τ ∧ H D = some (.lst accV) ∧ RelL K (plus P D) m' H acc accV ∧ R acc st'
/-- the inner state -/
def Li (K : PySem.W.Frag) (Y : Rd') (P : Addr → Prop) (m1 : List Addr) (H1 : Hp) (m4 : List Addr) (H4 : Hp) (D : Addr) (env : En) (τ : L2.St) (env2 : En) (τ2 : L2.St) (R : List Fx.D → Sto → Prop) (H : Hp) : Prop :=
  ∃ m' st' acc accV, Step m1 H1 m' H ∧ Mv (plus P D) m4 H4 (plus P D) m' H ∧ Sat K Y.cls Y.z (plus P D) m' H env st' τ ∧ Sat K Y.cls Y.z (plus P D) m' H env2 st' τ2 ∧ H D = some (.lst accV) ∧ RelL K (plus P D) m' H acc accV ∧ R acc st'
theorem comp2_core {own : List (Str × Nat)} {t t2 : T} {it it2 : Fx.It} {co co2 : CO} {x : X} (hv : ∀ i, i ∈ own.map (·.2) ↔ i ∈ slT t ++ slT t2) (σ : L2.St) (H : Hp) (Q : VK) (h : TFn Z.K Y g (.comp2 t it co t2 it2 co2 x) σ H Q) :
    tLc2 (TIt Z.K Y g okS it) (TGt Z.K Y t) (TCO Z.K (calmY Y) g co) (TIt Z.K (calmY Y) g okM it2) (TGt Z.K Y t2) (TCO Z.K (calmY Y) g co2) (TX Z.K (calmY Y) g x) (own.map (·.2)) (slT t2) σ H Q := by
  obtain ⟨P, m, env, st, sat, hw⟩ := h
  have hw' : Wp ((It.ev g it env >>= fun ds => M.calm (goesL (stepL g t co t2 it2 co2 x env) ds [])) st) (VPf Z.K Y P m H Q) (XP Z.K Y P m σ H) := hw
  rw [wp_seq] at hw'
  refine ⟨P, m, env, st, sat, hw'.imp (fun ds st1 h1 m1 H1 J s1 r1 gv D hD => ?_) fun _ _ h => h⟩
  have h1' := (wp_calm h1).imp (fun a s q => VPf.step (K := Z.K) (Y := Y) q s1) fun _ _ h => h
  have sat1 := sat.step s1 r1
  have off1 : Off D env σ := fun j l a e1 e2 => by
    obtain ⟨a', vs, ea, ha, _⟩ := sat1.sl j _ e1
    rw [ea] at e2; cases e2
    intro z; subst z; rw [hD] at ha; cases ha
  have okk : ∀ {m' H'}, Step m1 H1 m' H' → okS P m1 H1 (plus P D) m' H' := fun s => ⟨s, fun a o e hp => hp.resolve_right fun z => by subst z; rw [hD] at e; cases e⟩
  have hvi : ∀ i ∈ own.map (·.2), i ∈ slT t ++ slT t2 := fun i hi => (hv i).mp hi
  have offW : Off D (wipeE env (slT t ++ slT t2)) (L2.wipe σ (own.map (·.2))) := off1.wiped hvi
  have stepD : ∀ {m' H' v'} {accV : List V}, Step m1 H1 m' H' → Step m1 H1 m' (upd H' D (.lst (accV ++ [v']))) := fun {m' H' v' accV} s => ⟨s.pre, s.new, fun a o e ha => by
    rw [upd_ne fun z => by subst z; rw [hD] at e; cases e]
    exact s.ext a o e ha⟩
  refine ⟨fun i k Hc => k = ds.length - i ∧ i ≤ ds.length ∧ Lo Z.K Y P m1 H1 D (wipeE env (slT t ++ slT t2)) (L2.wipe σ (own.map (·.2))) (fun acc st' => Wp (goesL (stepL g t co t2 it2 co2 x env) (ds.drop i) acc st') (VPf Z.K Y P m1 H1 Q) fun _ _ => False) Hc,
    ⟨ds.length, by simp, Nat.zero_le _, m1, st1, [], [], Step.laid hD, (sat1.more hD).wiped hvi, upd_same, rfl, by simpa using h1'⟩, ?_⟩
  rintro i k Hc ⟨rfl, hi, m', st', acc, accV, s2, sat2, hDc, ra, hw2⟩
  by_cases hlt : i < ds.length
  · have hd : ds[i]? = some ds[i] := List.getElem?_eq_getElem hlt
    rw [List.drop_eq_getElem_cons hlt] at hw2
    have hw3 := hw2
    rw [goesL_cons] at hw3
    refine .inr ⟨gv.go i _ (plus P D) m' Hc hd (okk s2), Lo Z.K Y P m1 H1 D (wipeE env (slT t ++ slT t2)) (L2.wipe σ (own.map (·.2))) (fun acc st' => Wp (goesL (stepL g t co t2 it2 co2 x env) (ds.drop (i + 1)) acc st') (VPf Z.K Y P m1 H1 Q) fun _ _ => False), fun H' p => ⟨ds.length - (i + 1), by omega, rfl, hlt, p⟩, fun xv Hx y => ?_⟩
    obtain ⟨same, rx⟩ := gv.yld i _ (plus P D) m' Hc xv Hx hd (okk s2) sat2.own y
    have s3 : Step m' Hc m' Hx := sat2.own.to_step same
    have sat3 := sat2.step s3 (sat2.st.same same)
    have hDx : Hx D = some (.lst accV) := same _ _ hDc
    have hw4 : Wp ((M.opt (stT t ds[i] (wipeE env (slT t ++ slT t2))) >>= fun env' => CO.ev g co env' >>= fun b => match b with
      | true => It.ev g it2 env' >>= fun ds2 => goes (stepF g t2 co2 x env') ds2 acc
      | false => pure acc) st') (fun acc' st' => Wp (goesL (stepL g t co t2 it2 co2 x env) (ds.drop (i + 1)) acc' st') (VPf Z.K Y P m1 H1 Q) fun _ _ => False) (fun _ _ => False) := hw3
    rw [wp_seq] at hw4
    obtain ⟨env', e1, hw5⟩ := wp_opt hw4
    refine ⟨plus P D, m', wipeE env (slT t ++ slT t2), st', ds[i], env', sat3, rx, e1, fun σ2 sat4 b4 => ⟨b4.wipe fun j hj => (hv j).mpr (List.mem_append_left _ hj), ?_⟩⟩
    have off4 : Off D env' σ2 := offW.store e1 b4
    rw [wp_seq] at hw5
    refine ⟨plus P D, m', env', st', sat4, hw5.imp (fun b st5 h5 m5 H5 b' s5 r5 eb => ?_) fun _ _ h => h.elim⟩
    cases eb
    have sat5 := sat4.step s5 r5
    have sat5w := sat3.step s5 r5
    have nD : D ∉ m' := fun h => sat2.st.out D h (.inr rfl)
    have hD5 : H5 D = some (.lst accV) := s5.ext _ _ hDx nD
    cases b with
    | false =>
      rw [if_neg Bool.false_ne_true]
      exact ⟨m5, st5, acc, accV, (s2.trans s3).trans s5, sat5w, hD5, RelL.step (s3.trans s5) acc ra, h5⟩
    | true =>
      rw [if_pos rfl]
      have h5' : Wp ((It.ev g it2 env' >>= fun ds2 => goes (stepF g t2 co2 x env') ds2 acc) st5) (fun acc' st' => Wp (goesL (stepL g t co t2 it2 co2 x env) (ds.drop (i + 1)) acc' st') (VPf Z.K Y P m1 H1 Q) fun _ _ => False) (fun _ _ => False) := h5
      rw [wp_seq] at h5'
      refine ⟨plus P D, m5, env', st5, sat5, h5'.imp (fun ds2 st6 h6 m6 H6 J1 s6 r6 gv2 => ?_) fun _ _ h => h.elim⟩
      have nD5 : D ∉ m5 := fun h => r5.out D h (.inr rfl)
      have hD6 : H6 D = some (.lst accV) := s6.ext _ _ hD5 nD5
      have sat6 := sat5.step s6 r6
      have sat6w := sat5w.step s6 r6
      have ra6 := RelL.step ((s3.trans s5).trans s6) acc ra
      have offI : Off D (wipeE env' (slT t2)) (L2.wipe σ2 (slT t2)) := off4.wiped fun i hi => hi
      refine ⟨fun j k Hc => k = ds2.length - j ∧ j ≤ ds2.length ∧ Li Z.K Y P m1 H1 m6 H6 D (wipeE env (slT t ++ slT t2)) (L2.wipe σ (own.map (·.2))) (wipeE env' (slT t2)) (L2.wipe σ2 (slT t2)) (fun acc st' => Wp (goes (stepF g t2 co2 x env') (ds2.drop j) acc st') (fun acc' st' => Wp (goesL (stepL g t co t2 it2 co2 x env) (ds.drop (i + 1)) acc' st') (VPf Z.K Y P m1 H1 Q) fun _ _ => False) fun _ _ => False) Hc,
        ⟨ds2.length, by simp, Nat.zero_le _, m6, st6, acc, accV, ((s2.trans s3).trans s5).trans s6, Mv.refl, sat6w, sat6.wiped fun i hi => hi, hD6, ra6, by simpa using h6⟩, ?_⟩
      rintro j k Hj ⟨rfl, hj, m7, st7, acc7, accV7, s7, mv7, sat7w, sat7, hD7, ra7, hw7⟩
      by_cases hlj : j < ds2.length
      · have hdj : ds2[j]? = some ds2[j] := List.getElem?_eq_getElem hlj
        rw [List.drop_eq_getElem_cons hlj] at hw7
        have hw8 := goes_cons hw7
        refine .inr ⟨gv2.go j _ (plus P D) m7 Hj hdj mv7, Li Z.K Y P m1 H1 m6 H6 D (wipeE env (slT t ++ slT t2)) (L2.wipe σ (own.map (·.2))) (wipeE env' (slT t2)) (L2.wipe σ2 (slT t2)) (fun acc st' => Wp (goes (stepF g t2 co2 x env') (ds2.drop (j + 1)) acc st') (fun acc' st' => Wp (goesL (stepL g t co t2 it2 co2 x env) (ds.drop (i + 1)) acc' st') (VPf Z.K Y P m1 H1 Q) fun _ _ => False) fun _ _ => False), fun H' p => ⟨ds2.length - (j + 1), by omega, rfl, hlj, p⟩, fun xv2 Hx2 y2 => ?_⟩
        obtain ⟨same2, rx2⟩ := gv2.yld j _ (plus P D) m7 Hj xv2 Hx2 hdj mv7 sat7.own y2
        have s8 : Step m7 Hj m7 Hx2 := sat7.own.to_step same2
        have sat8 := sat7.step s8 (sat7.st.same same2)
        have sat8w := sat7w.step s8 (sat7.st.same same2)
        have hD8 : Hx2 D = some (.lst accV7) := same2 _ _ hD7
        have hw9 : Wp ((M.opt (stT t2 ds2[j] (wipeE env' (slT t2))) >>= fun env2 => CO.ev g co2 env2 >>= fun b => match b with
          | true => X.ev g x env2 >>= fun v => pure (some v)
          | false => pure none) st7) (fun o st' => match o with
          | some v => acc7.length < 16777216 ∧ Wp (goes (stepF g t2 co2 x env') (ds2.drop (j + 1)) (acc7 ++ [v]) st') (fun acc' st' => Wp (goesL (stepL g t co t2 it2 co2 x env) (ds.drop (i + 1)) acc' st') (VPf Z.K Y P m1 H1 Q) fun _ _ => False) fun _ _ => False
          | none => Wp (goes (stepF g t2 co2 x env') (ds2.drop (j + 1)) acc7 st') (fun acc' st' => Wp (goesL (stepL g t co t2 it2 co2 x env) (ds.drop (i + 1)) acc' st') (VPf Z.K Y P m1 H1 Q) fun _ _ => False) fun _ _ => False) (fun _ _ => False) := hw8
        rw [wp_seq] at hw9
        obtain ⟨env2, e2, hw10⟩ := wp_opt hw9
        refine ⟨plus P D, m7, wipeE env' (slT t2), st7, ds2[j], env2, sat8, rx2, e2, fun σ3 sat9 b9 => ⟨b9.wipe fun j hj => hj, ?_⟩⟩
        rw [wp_seq] at hw10
        have nD7 : D ∉ m7 := fun h => sat7.st.out D h (.inr rfl)
        refine ⟨plus P D, m7, env2, st7, sat9, hw10.imp (fun b st10 h10 m10 H10 b' s10 r10 eb => ?_) fun _ _ h => h.elim⟩
        cases eb
        have sat10 := sat9.step s10 r10
        have sat10i := sat8.step s10 r10
        have sat10w := sat8w.step s10 r10
        have hD10 : H10 D = some (.lst accV7) := s10.ext _ _ hD8 nD7
        have mv10 : Mv (plus P D) m6 H6 (plus P D) m10 H10 := mv7.trans ((s8.trans s10).mv fun _ _ _ h => h)
        cases b with
        | false =>
          rw [if_neg Bool.false_ne_true]
          exact ⟨m10, st10, acc7, accV7, (s7.trans s8).trans s10, mv10, sat10w, sat10i, hD10, RelL.step (s8.trans s10) acc7 ra7, h10⟩
        | true =>
          rw [if_pos rfl]
          have h10' : Wp ((X.ev g x env2 >>= fun v => pure (some v)) st10) _ _ := h10
          rw [wp_seq] at h10'
          refine ⟨plus P D, m10, env2, st10, sat10, h10'.imp (fun v st11 h11 m11 H11 v' s11 r11 rv => ?_) fun _ _ h => h.elim⟩
          have h11' : acc7.length < 16777216 ∧ Wp (goes (stepF g t2 co2 x env') (ds2.drop (j + 1)) (acc7 ++ [v]) st11) (fun acc' st' => Wp (goesL (stepL g t co t2 it2 co2 x env) (ds.drop (i + 1)) acc' st') (VPf Z.K Y P m1 H1 Q) fun _ _ => False) fun _ _ => False := h11
          have nD10 : D ∉ m10 := fun h => r10.out D h (.inr rfl)
          have hD11 : H11 D = some (.lst accV7) := s11.ext _ _ hD10 nD10
          have ra11 := RelL.step ((s8.trans s10).trans s11) acc7 ra7
          refine ⟨accV7, hD11, by rw [line16, ← relL_length ra7]; exact h11'.1, ?_⟩
          have sat11i := sat10i.step s11 r11
          have sat11w := sat10w.step s11 r11
          obtain ⟨mv, q1⟩ := laid_core (accV := accV7) (v' := v') sat11i offI
          obtain ⟨_, q2⟩ := laid_core (accV := accV7) (v' := v') sat11w offW
          exact ⟨m11, st11, acc7 ++ [v], accV7 ++ [v'], stepD (((s7.trans s8).trans s10).trans s11), (mv10.trans (s11.mv fun _ _ _ h => h)).trans mv, q2, q1, upd_same, RelL.mv mv _ (relL_append ra11 (relL_one rv)), h11'.2⟩
      · have e : j = ds2.length := by omega
        subst e
        refine .inl ⟨gv2.stop _ (plus P D) m7 Hj (Nat.le_refl _) mv7, ?_⟩
        rw [List.drop_length] at hw7
        exact ⟨m7, st7, acc7, accV7, s7, sat7w, hD7, ra7, hw7⟩
  · have e : i = ds.length := by omega
    subst e
    refine .inl ⟨gv.stop _ (plus P D) m' Hc (Nat.le_refl _) (okk s2), ?_⟩
    rw [List.drop_length] at hw2
    have q : VPf Z.K Y P m1 H1 Q acc st' := hw2
    have q2 := q m' (era Hc D) D accV ⟨s2.pre, s2.new, fun a o e ha => by rw [era_ne fun z => by subst z; rw [hD] at e; cases e]; exact s2.ext a o e ha⟩ sat2.st.era era_self (RelL.mv (Mv.era fun _ => bad_plus) acc ra)
    rw [upd_era hDc] at q2
    exact q2
theorem q_comp2 {elt tg iter tg2 iter2 : Expr} {ifs ifs2 : List Expr} {scope : Scope} {own : List (Str × Nat)} {pos : Pos} {t t2 : T} {it it2 : Fx.It} {co co2 : CO} {x : X} (hc : Z.calm = true) (hN : Z.N.Nodup) (hi : PI Z tg iter (TIt Z.K Y g okS it)) (ok : BlkOk Z.N Z.env.scope scope own)
    (hv : ∀ i, i ∈ own.map (·.2) ↔ i ∈ slT t ++ slT t2) (hg : ∀ (s : Shared) (H : Hp) (C : Addr) (cl : List (Str × Addr)) (fp : List Addr), PG (Z.blk s H scope (compEnvC scope cl C Z.env) fp) tg (TGt Z.K Y t))
    (ht : ∀ (s : Shared) (H : Hp) (C : Addr) (cl : List (Str × Addr)) (fp : List Addr), PTs (Z.blk s H scope (compEnvC scope cl C Z.env) fp) ifs (TCO Z.K (calmY Y) g co))
    (hi2 : ∀ (s : Shared) (H : Hp) (C : Addr) (cl : List (Str × Addr)) (fp : List Addr), PI (Z.blk s H scope (compEnvC scope cl C Z.env) fp) tg2 iter2 (TIt Z.K (calmY Y) g okM it2))
    (hg2 : ∀ (s : Shared) (H : Hp) (C : Addr) (cl : List (Str × Addr)) (fp : List Addr), PG (Z.blk s H scope (compEnvC scope cl C Z.env) fp) tg2 (TGt Z.K Y t2))
    (ht2 : ∀ (s : Shared) (H : Hp) (C : Addr) (cl : List (Str × Addr)) (fp : List Addr), PTs (Z.blk s H scope (compEnvC scope cl C Z.env) fp) ifs2 (TCO Z.K (calmY Y) g co2))
    (he : ∀ (s : Shared) (H : Hp) (C : Addr) (cl : List (Str × Addr)) (fp : List Addr), PE (Z.blk s H scope (compEnvC scope cl C Z.env) fp) elt (TX Z.K (calmY Y) g x)) (hs : noSet iter = true) (hs2 : noSet iter2 = true) :
    PE Z (.ListComp elt [⟨tg, iter, ifs, 0⟩, ⟨tg2, iter2, ifs2, 0⟩] scope pos) (TFn Z.K Y g (.comp2 t it co t2 it2 co2 x)) := (pe_lc2 hc hN hi ok (fun i hi => (hv i).mpr (List.mem_append_right _ hi)) hg ht hi2 hg2 ht2 he (set_plain' hs) (fun env => set_plain' (env := env) hs2)).imp fun σ H Q h => comp2_core hv σ H Q h
end
end Fx

set_option Elab.async false
set_option linter.all false
set_option maxRecDepth 100000
set_option maxHeartbeats 1000000
/-! Fx 11: defs and their calls, where nothing guards. -/
namespace Fx
open PySem PySem.Spec PyProof.Rows L2

/-- a def's promise, where nothing guards -/
structure FnG (P : Program) (w : World) (K : PySem.W.Frag) (mg : Str → Option Value) (base : Heap) (k : Nat) (f : Addr) (fd : FuncData) (ps : List Str) (sp : Sp) : Prop where
  len : ∀ vs H Q E, sp vs H Q E → vs.length = ps.length
  run : ∀ (A : Around) (outer : List Env) (s : Shared) (H : Hp) (args : Args) (us : List Value) (vs : List V) (Q : VK) (E : XK), Room k A → A.guards = some [] → Env0 P w K mg base A outer s H → BindsTo s fd args (ps.zip us) → Vals vs us → sp vs H Q E →
    codeAny (model P w) A (.call (.ref f) args) (CR (L2.CX P w) outer P w H s Q E) s
theorem FnG.mono {P : Program} {w : World} {K : PySem.W.Frag} {mg : Str → Option Value} {base : Heap} {j k : Nat} {f : Addr} {fd : FuncData} {ps : List Str} {sp : Sp} (F : FnG P w K mg base j f fd ps sp) (h : j ≤ k) : FnG P w K mg base k f fd ps sp :=
  ⟨F.len, fun A outer s H args us vs Q E hr => F.run A outer s H args us vs Q E (hr.mono h)⟩
theorem guards_deeper {A : Around} {env : Env} (h : A.guards = some []) : (A.deeper env).guards = some [] := h
theorem fnG_of {P : Program} {w : World} {K : PySem.W.Frag} {mg : Str → Option Value} {base : Heap} {k : Nat} {f : Addr} {name qual : Str} {params : Arguments} {body : List Stmt} {scope : Scope} {dV kV doc pm cdv ct oc : Value} {an od : Option Addr}
    {osl : Array (Option Value)} {N ps : List Str} {sp : Sp} (lk : K.lookup f = some ⟨oc, od, .func (PySem.W.fnOf name qual params body scope dV kV doc pm an cdv ct), osl⟩) (hcd : PySem.W.codeIn K cdv qual = true) (S : FnScope N ps scope)
    (len : ∀ vs H Q E, sp vs H Q E → vs.length = ps.length)
    (hbody : ∀ (A : Around) (outer : List Env) (s : Shared) (H : Hp) (vs : List V) (Q : VK) (E : XK), Room k (A.deeper (envOfC qual scope s.heap.objs.size f cdv)) → (A.deeper (envOfC qual scope s.heap.objs.size f cdv)).guards = some [] → sp vs H Q E →
      ∃ t, PSs (cxOf (L2.CX P w) P w K mg base N qual scope f cdv A outer s H E) body t ∧ t { nx := fun _ H' => Q .non H', rt := Q } (start N vs) H) :
    FnG P w K mg base (k + 1) f (PySem.W.fnOf name qual params body scope dV kV doc pm an cdv ct) ps sp := by
  refine ⟨len, fun A outer s H args us vs Q E hr hgd e0 hb r hsp => ?_⟩
  have hl := len _ _ _ _ hsp
  have KX : K.In s.heap := e0.mod.kin.keeps fun b o e => (e0.bs b o e).1
  have lim : s.heap.NoLimit := e0.mod.nolimit.keeps fun b o e => (e0.bs b o e).1
  have hkind : ∀ y ∈ ps.zip us, scope.names.lookup y.1 = some .local ∨ (scope.names.lookup y.1 = some .cell ∧ ((cellsFrom (s.heap.objs.size + 1) scope.names []).lookup y.1).isSome = true) := fun ⟨n, v⟩ hy => by
    rcases S.par n (List.of_mem_zip hy).1 with q | q
    · exact .inl q
    · exact .inr ⟨q, PySem.W.cellsFrom_some _ _ _ (.inl q)⟩
  refine codeAny_call_function hr.depth (KX _ _ lk) rfl S.co S.gen rfl (PySem.W.codeRec_of KX hcd) (hb _ _ _ _ ?_)
  refine wpAny_newFunctionEnv_cells S.kind hkind fun env he s1 x => ?_
  subst he
  refine ⟨lim.keeps x.toInCall.keep, codeAny_func ?_⟩
  obtain ⟨t, ht, hq⟩ := hbody A outer s H vs Q E (hr.deeper _) (guards_deeper hgd) hsp
  have I : Inv (cxOf (L2.CX P w) P w K mg base N qual scope f cdv A outer s H E) [] (start N vs) H s1 := inv_start S hr.hd e0 hl r x
  refine wpAny_mono (ht.run [] s1 (start N vs) H _ I hq) (fun fl s' hs => ?_) fun e s' hs => hs
  have fin : ∀ {σ' : L2.St} {H' : Hp} {v : V} {u : Value}, Inv (cxOf (L2.CX P w) P w K mg base N qual scope f cdv A outer s H E) [] σ' H' s' → RelV v u → Q v H' → CE outer P w H s Q u s' :=
    fun {σ' H' v u} J rv q => ⟨v, H', J.os, J.bare, J.base, J.hok, rv, q⟩
  cases fl with
  | ret u =>
    obtain ⟨v, σ', H', J, rv, q⟩ := hs
    exact fin J rv q
  | next =>
    obtain ⟨σ', H', J, q⟩ := hs
    exact fin (v := V.non) (u := Value.none) J rfl q
  | brk =>
    obtain ⟨_, _, _, q⟩ := hs
    exact False.elim q
  | cont =>
    obtain ⟨_, _, _, q⟩ := hs
    exact False.elim q
section
variable {X : Cx} {k : Nat} {f C : Addr} {fd : FuncData} {ps : List Str} {sp : Sp} {W : WX} {x m : Str} {p pos apos : Pos} {e o : Expr} {es : List Expr} {ta : TE} {t : TA} {ds : List Value} {dvs : List V}
theorem run_fnG {pins : List (Addr × Obj)} {σ : L2.St} {H : Hp} {s : Shared} {Q : VK} {us : List Value} {vs : List V} (F : FnG X.prog X.w X.K X.mg X.base k f fd ps sp) (hr : Room k X.A) (hgd : X.A.guards = some []) (hb : Binds X.K fd ps ds) (hd : Vals dvs ds) (tk : Takes X W)
    (I : Inv X pins σ H s) (r : Vals vs us) (h : sp (vs ++ dvs) H Q (WE W σ)) : wpAny (model X.prog X.w) X.A (call (.ref f) us) (EP X pins σ Q) X.xe s := by
  have r2 : Vals (vs ++ dvs) (us ++ ds) := r.append hd
  have hl : (us ++ ds).length = ps.length := by rw [← r2.length]; exact F.len _ _ _ _ h
  refine wpAny_call (codeAny_mono (F.run X.A X.stack s H ⟨us, []⟩ (us ++ ds) (vs ++ dvs) Q (WE W σ) hr hgd I.env0 (hb s us I.kIn hl) r2 h) fun r s' hq => ?_)
  cases r with
  | error e => exact passAt tk σ pins H s e s' I hq
  | ok fl =>
    cases fl with
    | ret u => exact I.after hq
    | next => exact False.elim hq
    | brk => exact False.elim hq
    | cont => exact False.elim hq
def tCallG (sp : Sp) (dvs : List V) (W : WX) (t : TA) : TE := fun σ H Q => t σ H fun vs H1 => sp (vs ++ dvs) H1 Q (WE W σ)
theorem pe_callG (F : FnG X.prog X.w X.K X.mg X.base k f fd ps sp) (hr : Room k X.A) (hgd : X.A.guards = some []) (hg : Gl X x) (hm : X.mg x = some (.ref f)) (hk : PySem.W.keepIn X.K (.ref f) = true) (hb : Binds X.K fd ps ds) (hd : Vals dvs ds) (tk : Takes X W)
    (hs : (e :: es).all noStar = true) (ha : PA X (e :: es) t) (hdb : (x == ("__debug__" : Str)) = false) : PE X (.Call (.Name x p) (e :: es) [] pos) (tCallG sp dvs W t) := by
  refine ⟨fun pins s σ H Q I h => ?_⟩
  refine wpAny_Call_Name_kw (ld_glob I hg hm ?_ hdb)
  rw [List.all_cons, Bool.and_eq_true] at hs
  refine PySem.W.callWith_K (h₀ := X.base) I.ok.mod.kin hk (thn (ha.run pos pins s σ H _ I h) fun us s1 ⟨vs, H1, I1, r, q⟩ => ⟨I1.kIn, ?_⟩) (star_cons hs.1) (star_any pos hs.2)
  exact run_fnG F hr hgd hb hd tk I1 r q
theorem pe_callG0 (F : FnG X.prog X.w X.K X.mg X.base k f fd ps sp) (hr : Room k X.A) (hgd : X.A.guards = some []) (hg : Gl X x) (hm : X.mg x = some (.ref f)) (hk : PySem.W.keepIn X.K (.ref f) = true) (hb : Binds X.K fd ps ds) (hd : Vals dvs ds) (tk : Takes X W)
    (hdb : (x == ("__debug__" : Str)) = false) : PE X (.Call (.Name x p) [] [] pos) (tCallG sp dvs W tNil) := by
  refine ⟨fun pins s σ H Q I h => ?_⟩
  refine wpAny_Call_Name_kw (ld_glob I hg hm ?_ hdb)
  exact PySem.W.callWith_K0 I.kIn hk (run_fnG (us := []) F hr hgd hb hd tk I .nil h)
/-- o.m(..): the class is told by the object -/
def tMethG (X : Cx) (k : Nat) (m : Str) (W : WX) (ta : TE) (t : TA) : TE := fun σ H Q => ta σ H fun x H1 => ∃ (a C : Addr) (dx : Addr) (fs : List (Str × V)) (f : Addr) (fd : FuncData) (ps : List Str) (sp : Sp), x = .ref a ∧ H1 a = some (.ins C dx fs) ∧ fs.lookup m = none ∧
  Cls X.K C ∧ Meth X.K C m f ∧ FnG X.prog X.w X.K X.mg X.base k f fd ps sp ∧ Binds X.K fd ps [] ∧ t σ H1 fun vs H2 => sp (x :: vs) H2 Q (WE W σ)
theorem pe_methG (hr : Room k X.A) (hgd : X.A.guards = some []) (tk : Takes X W) (he : PE X o ta) (hb : noSup o = true) (hs : (e :: es).all noStar = true) (hl : (apos.endLine == pos.line) = true) (hn : (e :: es).length < 29) (ha : PA X (e :: es) t) :
    PE X (.Call (.Attribute o m apos) (e :: es) [] pos) (tMethG X k m W ta t) := by
  obtain ⟨pl, ht⟩ := meth_plain (env := X.env) (m := m) hb hs hl hn
  refine ⟨fun pins s σ H Q I h => ?_⟩
  refine PySem.W.methodCall_KW (pl := pl) (thn (he.run pins s σ H _ I h) fun u s1 ⟨x, H1, I1, rx, a, C, dx, fs, f, fd, ps, sp, ex, ea, l, c, hm, F, b, q⟩ => ?_) ht
  subst ex
  obtain rfl : u = Value.ref a := rx
  rw [List.all_cons, Bool.and_eq_true] at hs
  refine getmeth_ok I1 ea c hm l ?_
  refine PySem.W.callWith_K (first := [.ref a]) (h₀ := X.base) I.ok.mod.kin hm.kp (thn (ha.run pos pins s1 σ H1 _ I1 q) fun us s2 ⟨vs, H2, I2, r, q2⟩ => ⟨I2.kIn, ?_⟩) (star_cons hs.1) (star_any pos hs.2)
  exact run_fnG (us := .ref a :: us) (vs := .ref a :: vs) (ds := []) (dvs := []) F hr hgd b .nil tk I2 (.cons rfl r) (by rw [List.append_nil]; exact q2)
theorem pe_methG0 (hr : Room k X.A) (hgd : X.A.guards = some []) (tk : Takes X W) (he : PE X o ta) (hb : noSup o = true) (hl : (apos.endLine == pos.line) = true) :
    PE X (.Call (.Attribute o m apos) [] [] pos) (tMethG X k m W ta tNil) := by
  obtain ⟨pl, ht⟩ := meth_plain (env := X.env) (m := m) (args := []) hb rfl hl (by decide)
  refine ⟨fun pins s σ H Q I h => ?_⟩
  refine PySem.W.methodCall_KW (pl := pl) (thn (he.run pins s σ H _ I h) fun u s1 ⟨x, H1, I1, rx, a, C, dx, fs, f, fd, ps, sp, ex, ea, l, c, hm, F, b, q⟩ => ?_) ht
  subst ex
  obtain rfl : u = Value.ref a := rx
  refine getmeth_ok I1 ea c hm l ?_
  exact PySem.W.callWith_K0 (first := [.ref a]) I1.kIn hm.kp (run_fnG (us := [.ref a]) (vs := [.ref a]) (ds := []) (dvs := []) F hr hgd b .nil tk I1 (.cons rfl .nil) (by rw [List.append_nil]; exact q))
/-! C(..) -/
theorem guards_make {A : Around} {us : List Value} {kw : List (Str × Value)} (h : A.guards = some []) : (A.under (.builtin "type.__call__" ⟨.ref C :: us, kw⟩)).guards = some [] := by
  first | exact h | simpa [Around.under, Code.isGuard, guardIds] using h
def tMakeG (C : Addr) (sp : Sp) (dvs : List V) (W : WX) (t : TA) : TE := fun σ H Q => t σ H fun vs H1 => ∀ x dx, H1 x = none → H1 dx = none → dx ≠ x →
  sp (.ref x :: (vs ++ dvs)) (upd (upd H1 dx (.own x)) x (.ins C dx [])) (fun v H2 => v = .non ∧ Q (.ref x) H2) (WE W σ)
theorem run_makeG {pins : List (Addr × Obj)} {σ : L2.St} {H : Hp} {s : Shared} {Q : VK} {us : List Value} {vs : List V} (M : Mk X.K C f) (F : FnG X.prog X.w X.K X.mg X.base k f fd ps sp) (hr : Room (k + 1) X.A) (hgd : X.A.guards = some []) (hb : Binds X.K fd ps ds) (hd : Vals dvs ds)
    (tk : Takes X W) (I : Inv X pins σ H s) (r : Vals vs us)
    (h : ∀ x dx, H x = none → H dx = none → dx ≠ x → sp (.ref x :: (vs ++ dvs)) (upd (upd H dx (.own x)) x (.ins C dx [])) (fun v H2 => v = .non ∧ Q (.ref x) H2) (WE W σ)) :
    wpAny (model X.prog X.w) X.A (call (.ref C) us) (EP X pins σ Q) X.xe s := by
  have hq := h (s.heap.objs.size + 1) s.heap.objs.size (I.hok.fresh (Nat.le_succ _)) (I.hok.fresh (Nat.le_refl _)) (Nat.ne_of_lt (Nat.lt_succ_self _))
  have I2 := Inv.made (C := C) I
  have r2 : Vals (V.ref (s.heap.objs.size + 1) :: (vs ++ dvs)) (Value.ref (s.heap.objs.size + 1) :: (us ++ ds)) := .cons rfl (r.append hd)
  have hl : (Value.ref (s.heap.objs.size + 1) :: us ++ ds).length = ps.length := by
    have e := r2.length
    rw [F.len _ _ _ _ hq] at e
    exact e.symm
  refine wpAny_call (make_map (f := f) I.kIn M.makes M.init (beq_iff_eq.mp M.fn) (codeAny_mono (F.run _ X.stack _ _ ⟨Value.ref (s.heap.objs.size + 1) :: us, []⟩ (Value.ref (s.heap.objs.size + 1) :: (us ++ ds)) _ _ (WE W σ) (hr.make C us []) (guards_make hgd)
    (I2.env0.make C us []) (hb _ (Value.ref (s.heap.objs.size + 1) :: us) I2.kIn hl) r2 hq) fun r s' hq' => ?_))
  cases r with
  | error e => exact passAt tk σ pins _ _ e s' I2 hq'
  | ok fl =>
    cases fl with
    | ret u =>
      obtain ⟨v, H', I3, rv, ev, q3⟩ := I2.after hq'
      subst ev
      exact ⟨rv, ⟨V.ref (s.heap.objs.size + 1), H', I3, rfl, q3⟩⟩
    | next => exact False.elim hq'
    | brk => exact False.elim hq'
    | cont => exact False.elim hq'
theorem pe_makeG (M : Mk X.K C f) (F : FnG X.prog X.w X.K X.mg X.base k f fd ps sp) (hr : Room (k + 1) X.A) (hgd : X.A.guards = some []) (hg : Gl X x) (hm : X.mg x = some (.ref C)) (hb : Binds X.K fd ps ds) (hd : Vals dvs ds) (tk : Takes X W)
    (hs : (e :: es).all noStar = true) (ha : PA X (e :: es) t) (hdb : (x == ("__debug__" : Str)) = false) : PE X (.Call (.Name x p) (e :: es) [] pos) (tMakeG C sp dvs W t) := by
  refine ⟨fun pins s σ H Q I h => ?_⟩
  refine wpAny_Call_Name_kw (ld_glob I hg hm ?_ hdb)
  rw [List.all_cons, Bool.and_eq_true] at hs
  refine PySem.W.callWith_K (h₀ := X.base) I.ok.mod.kin M.kp (thn (ha.run pos pins s σ H _ I h) fun us s1 ⟨vs, H1, I1, r, q⟩ => ⟨I1.kIn, ?_⟩) (star_cons hs.1) (star_any pos hs.2)
  exact run_makeG M F hr hgd hb hd tk I1 r q
theorem pe_makeG0 (M : Mk X.K C f) (F : FnG X.prog X.w X.K X.mg X.base k f fd ps sp) (hr : Room (k + 1) X.A) (hgd : X.A.guards = some []) (hg : Gl X x) (hm : X.mg x = some (.ref C)) (hb : Binds X.K fd ps ds) (hd : Vals dvs ds) (tk : Takes X W)
    (hdb : (x == ("__debug__" : Str)) = false) : PE X (.Call (.Name x p) [] [] pos) (tMakeG C sp dvs W tNil) := by
  refine ⟨fun pins s σ H Q I h => ?_⟩
  refine wpAny_Call_Name_kw (ld_glob I hg hm ?_ hdb)
  exact PySem.W.callWith_K0 I.kIn M.kp (run_makeG (us := []) M F hr hgd hb hd tk I .nil h)
end
end Fx

set_option Elab.async false
set_option linter.all false
set_option maxRecDepth 100000
set_option maxHeartbeats 1000000
/-! Fx 12: calls and fields in the language. -/
namespace Fx
open PySem PySem.Spec PyProof.Rows L2

/-- the promise of a def whose meaning is run -/
def spF (K : PySem.W.Frag) (cls : Nat → Option Addr) (run : List D → M D) : Sp := fun vs H Q E => ∃ P m st ds, StR K cls P m H st ∧ (∀ a, P a → ∃ ws, H a = some (.lst ws)) ∧ RelL K P m H ds vs ∧
  Wp (run ds st) (fun d st' => ∀ m' H' v, Step m H m' H' → StR K cls P m' H' st' → Rel K P m' H' d v → Q v H') (fun e st' => ∀ m' H' c dd, Step m H m' H' → StR K cls P m' H' st' → ExR K cls P m' H' e c dd → E c dd H')
section
variable {Z : Cx} {Y : Rd'} {g : G} {k : Nat} {f C : Addr} {fd : FuncData} {ps : List Str} {x m : Str} {p pos apos : Pos} {e o : Expr} {es : List Expr} {ds : List Value} {dvs : List V}
/-- what follows a call -/
theorem call_after {P : Addr → Prop} {m1 : List Addr} {σ : L2.St} {H1 : Hp} {env : En} {st1 : Sto} {n : Nat} {xs : List D} {vs : List V} {Q : VK} (sat : Sat Z.K Y.cls Y.z P m1 H1 env st1 σ) (rx : RelL Z.K P m1 H1 xs vs)
    (hw : Wp (g.call n xs st1) (VP Z.K Y (rhoD Z.K) P m1 H1 Q) (XP Z.K Y P m1 σ H1)) : spF Z.K Y.cls (g.call n) vs H1 Q (WE Y.W σ) := ⟨P, m1, st1, xs, sat.st, sat.hP, rx, hw⟩
theorem q_call {n : Nat} {xs : XS} {nd : Nat} (F : FnG Z.prog Z.w Z.K Z.mg Z.base k f fd ps (spF Z.K Y.cls (g.call n))) (hr : Room k Z.A) (hgd : Z.A.guards = some []) (hg : Gl Z x) (hm : Z.mg x = some (.ref f)) (hk : PySem.W.keepIn Z.K (.ref f) = true) (hb : Binds Z.K fd ps ds) (hd : Vals dvs ds)
    (hv : ∀ P m H, RelL Z.K P m H (g.dv n nd) dvs) (tk : Takes Z Y.W) (hs : (e :: es).all noStar = true) (ha : PA Z (e :: es) (TXS Z.K Y g xs)) (hdb : (x == ("__debug__" : Str)) = false) : PE Z (.Call (.Name x p) (e :: es) [] pos) (TX Z.K Y g (.call n xs nd)) :=
  (pe_callG F hr hgd hg hm hk hb hd tk hs ha hdb).imp fun σ H Q h => by
  refine TG.first (r1 := XS.ev g xs) (r2 := fun ds _ => g.call n (ds ++ g.dv n nd)) h fun P m1 env st1 H1 ds vs sat rx hw => ?_
  exact call_after sat (relL_append rx (hv P m1 H1)) hw
theorem q_call0 {n : Nat} {nd : Nat} (F : FnG Z.prog Z.w Z.K Z.mg Z.base k f fd ps (spF Z.K Y.cls (g.call n))) (hr : Room k Z.A) (hgd : Z.A.guards = some []) (hg : Gl Z x) (hm : Z.mg x = some (.ref f)) (hk : PySem.W.keepIn Z.K (.ref f) = true) (hb : Binds Z.K fd ps ds) (hd : Vals dvs ds)
    (hv : ∀ P m H, RelL Z.K P m H (g.dv n nd) dvs) (tk : Takes Z Y.W) (hdb : (x == ("__debug__" : Str)) = false) : PE Z (.Call (.Name x p) [] [] pos) (TX Z.K Y g (.call n .nil nd)) :=
  (pe_callG0 F hr hgd hg hm hk hb hd tk hdb).imp fun σ H Q ⟨P, m, env, st, sat, hw⟩ => by
  have hw' : Wp (g.call n ([] ++ g.dv n nd) st) (VP Z.K Y (rhoD Z.K) P m H Q) (XP Z.K Y P m σ H) := hw
  exact call_after sat (relL_append (show RelL Z.K P m H [] [] from rfl) (hv P m H)) hw'
/-! .. a call whose new objects are of no use behind it -/
theorem StR.cut {K : PySem.W.Frag} {cls : Nat → Option Addr} {P : Addr → Prop} {m m' : List Addr} {H H' : Hp} {s s2 : Sto} (h0 : StR K cls P m H s) (st : Step m H m' H') (h : StR K cls P m' H' s2) (hs : s2.take s.length = s) : StR K cls P m H' s := by
  obtain ⟨⟨t, et⟩, _, _⟩ := st
  have hb : ∀ a, Bad P m a → Bad P m' a := fun a z => z.imp (fun z => by rw [et]; exact List.mem_append_left _ z) id
  have hn : ∀ i, i < m.length → m[i]? = m'[i]? := fun i hi => by rw [et, List.getElem?_append_left hi]
  refine ⟨h0.len, h0.nd, h0.out, fun n o e => ?_⟩
  have hlt : n < s.length := (List.getElem?_eq_some_iff.mp e).1
  have e2 : s2[n]? = some o := by
    rw [← hs, List.getElem?_take] at e
    rw [if_pos hlt] at e
    exact e
  obtain ⟨a, e1, r⟩ := h.ob n o e2
  obtain ⟨a0, e10, r0⟩ := h0.ob n o e
  refine ⟨a, by rw [hn n (by rw [h0.len]; exact hlt)]; exact e1, ?_⟩
  cases o with
  | lst ds =>
    obtain ⟨vs0, _, l0⟩ := r0
    obtain ⟨vs, q, l⟩ := r
    exact ⟨vs, q, RelL.weak hb m.length hn ds (RelL.lim ds l0) l⟩
  | ins c fs =>
    obtain ⟨_, _, _, _, _, _, l0⟩ := r0
    obtain ⟨C, dx, fvs, q1, q2, q3, l⟩ := r
    exact ⟨C, dx, fvs, q1, q2, q3, RelL.weak hb m.length hn _ (RelL.lim _ l0) l⟩
  | dic _ => exact r.elim
  | set _ => exact r.elim
theorem Step.cut {m m' : List Addr} {H H' : Hp} (s : Step m H m' H') : Step m H m H' := ⟨⟨[], by simp⟩, fun _ h => .inl h, s.ext⟩
theorem Rel.cut {K : PySem.W.Frag} {P : Addr → Prop} {m m' : List Addr} {H H' : Hp} (s : Step m H m' H') {d : D} {v : V} (hf : d.flat = true) (r : Rel K P m' H' d v) : Rel K P m H' d v := by
  obtain ⟨⟨t, et⟩, _, _⟩ := s
  exact Rel.weak (fun a z => z.imp (fun z => by rw [et]; exact List.mem_append_left _ z) id) 0 (fun i hi => absurd hi (Nat.not_lt_zero i)) d (D.flat_lim 0 d hf) r
theorem callp_of {n : Nat} {xs : List D} {st : Sto} {P : Addr → Prop} {m1 : List Addr} {σ : L2.St} {H1 : Hp} {env : En} {Q : VK} (sat : Sat Z.K Y.cls Y.z P m1 H1 env st σ)
    (hw : Wp ((open Classical in match g.call n xs st with
      | .ok d s2 => if d.flat = true ∧ s2.take st.length = st then R.ok d st else .bad
      | .exc e s2 => if (e.fs.all fun p => p.2.flat) = true ∧ s2.take st.length = st then .exc e st else .bad
      | .bad => .bad)) (VP Z.K Y (rhoD Z.K) P m1 H1 Q) (XP Z.K Y P m1 σ H1)) : Wp (g.call n xs st) (VP Z.K Y (rhoD Z.K) P m1 H1 Q) (XP Z.K Y P m1 σ H1) := by
  cases hc : g.call n xs st with
  | ok d s2 =>
    rw [hc] at hw
    simp only at hw
    split at hw
    · rename_i h
      intro m' H' v s r rv
      exact (show VP Z.K Y (rhoD Z.K) P m1 H1 Q d st from hw) m1 H' v s.cut (sat.st.cut s r h.2) (Rel.cut s h.1 rv)
    · exact hw.elim
  | exc ex s2 =>
    rw [hc] at hw
    simp only at hw
    split at hw
    · rename_i h
      intro m' H' c dd s r ⟨h1, h2⟩
      refine (show XP Z.K Y P m1 σ H1 ex st from hw) m1 H' c dd s.cut (sat.st.cut s r h.2) ⟨h1, h2.imp id fun ⟨a, fvs, e1, e2, h3⟩ => ⟨a, fvs, e1, e2, fun f d hf => ?_⟩⟩
      obtain ⟨v, e3, rv⟩ := h3 f d hf
      have hmem : (f, d) ∈ ex.fs := PySem.mem_of_lookup hf
      exact ⟨v, e3, Rel.cut s (by have := List.all_eq_true.mp h.1 (f, d) hmem; exact this) rv⟩
    · exact hw.elim
  | bad => rw [hc] at hw; exact hw
theorem q_callp {n : Nat} {xs : XS} {nd : Nat} (F : FnG Z.prog Z.w Z.K Z.mg Z.base k f fd ps (spF Z.K Y.cls (g.call n))) (hr : Room k Z.A) (hgd : Z.A.guards = some []) (hg : Gl Z x) (hm : Z.mg x = some (.ref f)) (hk : PySem.W.keepIn Z.K (.ref f) = true) (hb : Binds Z.K fd ps ds) (hd : Vals dvs ds)
    (hv : ∀ P m H, RelL Z.K P m H (g.dv n nd) dvs) (tk : Takes Z Y.W) (hs : (e :: es).all noStar = true) (ha : PA Z (e :: es) (TXS Z.K Y g xs)) (hdb : (x == ("__debug__" : Str)) = false) : PE Z (.Call (.Name x p) (e :: es) [] pos) (TX Z.K Y g (.callp n xs nd)) :=
  (pe_callG F hr hgd hg hm hk hb hd tk hs ha hdb).imp fun σ H Q h => by
  refine TG.first (r1 := XS.ev g xs) (r2 := fun ds _ => M.get >>= fun s => fun s1 => open Classical in match g.call n (ds ++ g.dv n nd) s1 with
      | .ok d s2 => if d.flat = true ∧ s2.take s.length = s then .ok d s else .bad
      | .exc e s2 => if (e.fs.all fun p => p.2.flat) = true ∧ s2.take s.length = s then .exc e s else .bad
      | .bad => .bad) h fun P m1 env st1 H1 ds vs sat rx hw => ?_
  exact call_after sat (relL_append rx (hv P m1 H1)) (callp_of sat hw)
/-! ### an object's attributes -/
theorem lookup_rel {K : PySem.W.Frag} {P : Addr → Prop} {m : List Addr} {H : Hp} {f : Str} : ∀ {fs : List (Str × D)} {fvs : List (Str × V)}, fvs.map (·.1) = fs.map (·.1) → RelL K P m H (fs.map (·.2)) (fvs.map (·.2)) →
    (∀ d, fs.lookup f = some d → ∃ v, fvs.lookup f = some v ∧ Rel K P m H d v) ∧ (fs.lookup f = none → fvs.lookup f = none)
  | [], [], _, _ => ⟨fun d e => by simp at e, fun _ => rfl⟩
  | [], _ :: _, h, _ => by simp at h
  | _ :: _, [], h, _ => by simp at h
  | (a, d) :: fs, (b, v) :: fvs, h, r => by
    simp only [List.map_cons, List.cons.injEq] at h
    obtain ⟨rfl, h⟩ := h
    obtain ⟨r1, r2⟩ := relL_cons_inv r
    obtain ⟨i1, i2⟩ := lookup_rel (f := f) h r2
    rw [List.lookup_cons, List.lookup_cons]
    by_cases e : f == b
    · simp only [e]
      exact ⟨fun d' e' => by cases e'; exact ⟨v, rfl, r1⟩, fun e' => by cases e'⟩
    · have e' : (f == b) = false := by simpa using e
      simp only [e']
      exact ⟨i1, i2⟩
theorem putD_rel {K : PySem.W.Frag} {P : Addr → Prop} {m : List Addr} {H : Hp} {f : Str} {d : D} {v : V} (r0 : Rel K P m H d v) : ∀ {fs : List (Str × D)} {fvs : List (Str × V)}, fvs.map (·.1) = fs.map (·.1) → RelL K P m H (fs.map (·.2)) (fvs.map (·.2)) →
    (putF f v fvs).map (·.1) = (putD f d fs).map (·.1) ∧ RelL K P m H ((putD f d fs).map (·.2)) ((putF f v fvs).map (·.2))
  | [], [], _, _ => ⟨rfl, relL_one r0⟩
  | [], _ :: _, h, _ => by simp at h
  | _ :: _, [], h, _ => by simp at h
  | (a, d') :: fs, (b, v') :: fvs, h, r => by
    simp only [List.map_cons, List.cons.injEq] at h
    obtain ⟨rfl, h⟩ := h
    obtain ⟨r1, r2⟩ := relL_cons_inv r
    obtain ⟨i1, i2⟩ := putD_rel r0 h r2
    unfold putF putD
    by_cases e : b = f
    · rw [if_pos e, if_pos e]
      exact ⟨by simp [h], v, _, rfl, r0, r2⟩
    · rw [if_neg e, if_neg e]
      exact ⟨by simp [i1], v', _, rfl, r1, i2⟩
theorem StR.ins {K : PySem.W.Frag} {cls : Nat → Option Addr} {P : Addr → Prop} {m : List Addr} {H : Hp} {st : Sto} (h : StR K cls P m H st) {n c : Nat} {fs : List (Str × D)} (e : st[n]? = some (.ins c fs)) :
    ∃ a C dx fvs, m[n]? = some a ∧ cls c = some C ∧ H a = some (.ins C dx fvs) ∧ fvs.map (·.1) = fs.map (·.1) ∧ RelL K P m H (fs.map (·.2)) (fvs.map (·.2)) := by
  obtain ⟨a, e1, C, dx, fvs, q1, q2, q3, q4⟩ := h.ob n _ e
  exact ⟨a, C, dx, fvs, e1, q1, q2, q3, q4⟩
def attrOk (K : PySem.W.Frag) (cls : Nat → Option Addr) (g : G) (f : Str) : Prop := ∀ c C, cls c = some C → g.attr c f = true → Cls K C ∧ NoAttr K C f
theorem q_fld {xa : X} {f : Str} (hat : attrOk Z.K Y.cls g f) (hb : noSup e = true) (he : PE Z e (TX Z.K Y g xa)) : PE Z (.Attribute e f pos) (TX Z.K Y g (.fld xa f)) := (pe_fld he (base_plain hb)).imp fun σ H Q h => by
  refine TG.first (r1 := X.ev g xa) (r2 := fun d _ => match d with
    | .obj n => M.get >>= fun s => match s[n]? with
      | some (.ins c fs) => M.need (g.attr c f = true) >>= fun _ => M.opt (fs.lookup f)
      | _ => M.bad
    | _ => M.bad) h fun P m1 env st1 H1 d v sat rx hw => ?_
  cases d <;> first | (exact absurd hw id) | skip
  rename_i n
  have hw' : Wp ((M.get >>= fun s => match s[n]? with
      | some (.ins c fs) => M.need (g.attr c f = true) >>= fun _ => M.opt (fs.lookup f)
      | _ => M.bad) st1) (VP Z.K Y (rhoD Z.K) P m1 H1 Q) (XP Z.K Y P m1 σ H1) := hw
  rw [wp_seq, wp_get] at hw'
  obtain ⟨a, rfl, hm⟩ := rx
  cases ho : st1[n]? with
  | none => rw [ho] at hw'; exact absurd hw' id
  | some o =>
    rw [ho] at hw'
    cases o with
    | ins c fs =>
      have hw2 : Wp ((M.need (g.attr c f = true) >>= fun _ => M.opt (fs.lookup f)) st1) (VP Z.K Y (rhoD Z.K) P m1 H1 Q) (XP Z.K Y P m1 σ H1) := hw'
      rw [wp_seq] at hw2
      obtain ⟨hat', hw3⟩ := wp_need hw2
      obtain ⟨d, e1, q⟩ := wp_opt hw3
      obtain ⟨a', C, dx, fvs, e2, ec, ea, ek, rl⟩ := sat.st.ins ho
      rw [hm] at e2; cases e2
      obtain ⟨v, e3, rv⟩ := (lookup_rel (f := f) ek rl).1 d e1
      obtain ⟨c1, c2⟩ := hat c C ec hat'
      exact ⟨a, C, dx, fvs, v, rfl, ea, c1, c2, e3, q.here sat.st rv⟩
    | _ => exact absurd hw' id
/-! ### methods, new objects -/
/-- what the defs' numbers stand for: a class's method -/
def methOk (Z : Cx) (cls : Nat → Option Addr) (g : G) (k : Nat) (nm : Str) : Prop := ∀ c C n, cls c = some C → g.meth c nm = some n → Cls Z.K C ∧ ∃ a fd ps, Meth Z.K C nm a ∧ FnG Z.prog Z.w Z.K Z.mg Z.base k a fd ps (spF Z.K cls (g.call n)) ∧ Binds Z.K fd ps []
theorem meth_core {nm : Str} {n : Nat} {o : X} {xs : XS} {t : TA} (hme : methOk Z Y.cls g k nm)
    (σ : L2.St) (H : Hp) (Q : VK) (h : TX Z.K Y g (.meth nm n o xs) σ H Q)
    (ht : ∀ P m1 env st1 H1 R, Sat Z.K Y.cls Y.z P m1 H1 env st1 σ → Wp (XS.ev g xs env st1) (VP Z.K Y (rhoL Z.K) P m1 H1 R) (XP Z.K Y P m1 σ H1) → t σ H1 R) : tMethG Z k nm Y.W (TX Z.K Y g o) t σ H Q := by
  refine TG.first (r1 := X.ev g o) (r2 := fun x env => match x with
    | .obj j => M.get >>= fun s => match s[j]? with
      | some (.ins c fs) => M.opt (g.meth c nm) >>= fun n => M.need (fs.lookup nm = none) >>= fun _ => XS.ev g xs env >>= fun ds => g.call n (x :: ds)
      | _ => M.bad
    | _ => M.bad) h fun P m1 env st1 H1 d v sat rx hw => ?_
  cases d <;> first | (exact absurd hw id) | skip
  rename_i j
  have hw' : Wp ((M.get >>= fun s => match s[j]? with
      | some (.ins c fs) => M.opt (g.meth c nm) >>= fun n => M.need (fs.lookup nm = none) >>= fun _ => XS.ev g xs env >>= fun ds => g.call n (.obj j :: ds)
      | _ => M.bad) st1) (VP Z.K Y (rhoD Z.K) P m1 H1 Q) (XP Z.K Y P m1 σ H1) := hw
  rw [wp_seq, wp_get] at hw'
  obtain ⟨a, rfl, hm⟩ := rx
  cases ho : st1[j]? with
  | none => rw [ho] at hw'; exact absurd hw' id
  | some o =>
    rw [ho] at hw'
    cases o with
    | ins c fs =>
      have hw2 : Wp ((M.opt (g.meth c nm) >>= fun n => M.need (fs.lookup nm = none) >>= fun _ => XS.ev g xs env >>= fun ds => g.call n (.obj j :: ds)) st1) (VP Z.K Y (rhoD Z.K) P m1 H1 Q) (XP Z.K Y P m1 σ H1) := hw'
      rw [wp_seq] at hw2
      obtain ⟨n, e1, hw3⟩ := wp_opt hw2
      rw [wp_seq] at hw3
      obtain ⟨e2, hw4⟩ := wp_need hw3
      obtain ⟨a', C, dx, fvs, e3, ec, ea, ek, rl⟩ := sat.st.ins ho
      rw [hm] at e3; cases e3
      obtain ⟨c1, f, fd, ps, c2, F, b⟩ := hme c C n ec e1
      refine ⟨a, C, dx, fvs, f, fd, ps, _, rfl, ea, (lookup_rel (f := nm) ek rl).2 e2, c1, c2, F, b, ?_⟩
      refine ht P m1 env st1 H1 _ sat ?_
      rw [wp_seq] at hw4
      refine hw4.imp (fun ds st2 h2 m2 H2 vs s2 r2 rv => ?_) fun _ _ h => h
      have sat2 := sat.step s2 r2
      refine call_after (n := n) (xs := .obj j :: ds) sat2 ⟨.ref a, vs, rfl, Rel.step s2 (.obj j) ⟨a, rfl, hm⟩, rv⟩ (h2.imp (fun _ _ q => q.step s2) fun _ _ q => q.step s2)
    | _ => exact absurd hw' id
theorem q_meth {nm : Str} {n : Nat} {xo : X} {xs : XS} (hme : methOk Z Y.cls g k nm) (hr : Room k Z.A) (hgd : Z.A.guards = some []) (tk : Takes Z Y.W) (he : PE Z o (TX Z.K Y g xo)) (hb : noSup o = true) (hs : (e :: es).all noStar = true) (hl : (apos.endLine == pos.line) = true)
    (hn : (e :: es).length < 29) (ha : PA Z (e :: es) (TXS Z.K Y g xs)) : PE Z (.Call (.Attribute o nm apos) (e :: es) [] pos) (TX Z.K Y g (.meth nm n xo xs)) := (pe_methG hr hgd tk he hb hs hl hn ha).imp fun σ H Q h =>
  meth_core hme σ H Q h fun P m1 env st1 H1 R sat hw => ⟨P, m1, env, st1, sat, hw⟩
theorem q_meth0 {nm : Str} {n : Nat} {xo : X} (hme : methOk Z Y.cls g k nm) (hr : Room k Z.A) (hgd : Z.A.guards = some []) (tk : Takes Z Y.W) (he : PE Z o (TX Z.K Y g xo)) (hb : noSup o = true) (hl : (apos.endLine == pos.line) = true) :
    PE Z (.Call (.Attribute o nm apos) [] [] pos) (TX Z.K Y g (.meth nm n xo .nil)) := (pe_methG0 hr hgd tk he hb hl).imp fun σ H Q h =>
  meth_core hme σ H Q h fun P m1 env st1 H1 R sat hw => (show VP Z.K Y (rhoL Z.K) P m1 H1 R [] st1 from hw).here sat.st rfl
/-- a new object with its dict, both new -/
theorem mk_core {c n : Nat} {xs : XS} {nd : Nat} {t : TA} (hc : Y.cls c = some C) (hi : g.init c = some n) (hv : ∀ P m H, RelL Z.K P m H (g.dv n nd) dvs) (σ : L2.St) (H : Hp) (Q : VK) (h : TX Z.K Y g (.mk c xs nd) σ H Q)
    (ht : ∀ P m1 env st1 H1 R, Sat Z.K Y.cls Y.z P m1 H1 env st1 σ → Wp (XS.ev g xs env st1) (VP Z.K Y (rhoL Z.K) P m1 H1 R) (XP Z.K Y P m1 σ H1) → t σ H1 R) : tMakeG C (spF Z.K Y.cls (g.call n)) dvs Y.W t σ H Q := by
  obtain ⟨P, m, env, st, sat, hw⟩ := h
  refine ht P m env st H _ sat ?_
  have hw' : Wp ((XS.ev g xs env >>= fun ds => M.get >>= fun s => M.put (s ++ [.ins c []]) >>= fun _ => M.opt (g.init c) >>= fun f => g.call f (.obj s.length :: (ds ++ g.dv f nd)) >>= fun d => match d with
      | .non => pure (.obj s.length)
      | _ => M.bad) st) (VP Z.K Y (rhoD Z.K) P m H Q) (XP Z.K Y P m σ H) := hw
  rw [wp_seq] at hw'
  refine hw'.imp (fun ds st1 h1 m1 H1 vs s1 r1 rv x dx hx hdx hne => ?_) fun _ _ h => h
  have h2 : Wp ((M.opt (g.init c) >>= fun f => g.call f (.obj st1.length :: (ds ++ g.dv f nd)) >>= fun d => match d with
      | .non => pure (.obj st1.length)
      | _ => M.bad) (st1 ++ [.ins c []])) (VP Z.K Y (rhoD Z.K) P m H Q) (XP Z.K Y P m σ H) := h1
  rw [wp_seq, hi] at h2
  have h3 : Wp ((g.call n (.obj st1.length :: (ds ++ g.dv n nd)) >>= fun d => match d with
      | .non => pure (.obj st1.length)
      | _ => M.bad) (st1 ++ [.ins c []])) (VP Z.K Y (rhoD Z.K) P m H Q) (XP Z.K Y P m σ H) := h2
  rw [wp_seq] at h3
  have sat1 := sat.step s1 r1
  have nP : ¬ P x := fun z => sat1.own.fresh hx (.inr z)
  have hx2 : upd H1 dx (.own x) x = none := by rw [upd_ne (Ne.symm hne)]; exact hx
  have r2 := r1.laid (o := .own x) hdx
  have s2 : Step m1 H1 m1 (upd H1 dx (.own x)) := Step.laid hdx
  obtain ⟨r3, s3⟩ := r2.alloc (u := .ins C dx []) (o := .ins c []) hx2 nP ⟨C, dx, [], hc, upd_same, rfl, rfl⟩
  have s4 := s2.trans s3
  refine ⟨P, m1 ++ [x], st1 ++ [.ins c []], .obj st1.length :: (ds ++ g.dv n nd), r3, fun a ha => ?_, ⟨.ref x, vs ++ dvs, rfl, ⟨x, rfl, by rw [List.getElem?_append_right (by rw [r1.len]; omega), r1.len]; simp⟩, relL_append (RelL.step s4 ds rv) (hv _ _ _)⟩, ?_⟩
  · obtain ⟨ws, e⟩ := sat1.hP a ha
    exact ⟨ws, s4.ext _ _ e fun hm => sat1.st.out a hm ha⟩
  · refine h3.imp (fun d st2 q m2 H2 v s5 r5 rd => ?_) fun ex st2 q m2 H2 cc dd s5 r5 re => ?_
    · cases d <;> first | (exact absurd q id) | skip
      have ev : v = .non := rd
      refine ⟨ev, (show VP Z.K Y (rhoD Z.K) P m H Q (.obj st1.length) st2 from q) m2 H2 _ (s1.trans (s4.trans s5)) r5 ⟨x, rfl, ?_⟩⟩
      obtain ⟨⟨t, et⟩, _, _⟩ := s5
      rw [et, List.getElem?_append_left (by rw [List.length_append]; simp; rw [r1.len]; omega), List.getElem?_append_right (by rw [r1.len]; omega), r1.len]
      simp
    · exact q m2 H2 cc dd (s1.trans (s4.trans s5)) r5 re
theorem q_mk {c n : Nat} {xs : XS} {nd : Nat} (hc : Y.cls c = some C) (hi : g.init c = some n) (M : Mk Z.K C f) (F : FnG Z.prog Z.w Z.K Z.mg Z.base k f fd ps (spF Z.K Y.cls (g.call n))) (hr : Room (k + 1) Z.A) (hgd : Z.A.guards = some []) (hg : Gl Z x) (hm : Z.mg x = some (.ref C))
    (hb : Binds Z.K fd ps ds) (hd : Vals dvs ds) (hv : ∀ P m H, RelL Z.K P m H (g.dv n nd) dvs) (tk : Takes Z Y.W) (hs : (e :: es).all noStar = true) (ha : PA Z (e :: es) (TXS Z.K Y g xs)) (hdb : (x == ("__debug__" : Str)) = false) : PE Z (.Call (.Name x p) (e :: es) [] pos) (TX Z.K Y g (.mk c xs nd)) :=
  (pe_makeG M F hr hgd hg hm hb hd tk hs ha hdb).imp fun σ H Q h => mk_core hc hi hv σ H Q h fun P m1 env st1 H1 R sat hw => ⟨P, m1, env, st1, sat, hw⟩
theorem q_mk0 {c n : Nat} {nd : Nat} (hc : Y.cls c = some C) (hi : g.init c = some n) (M : Mk Z.K C f) (F : FnG Z.prog Z.w Z.K Z.mg Z.base k f fd ps (spF Z.K Y.cls (g.call n))) (hr : Room (k + 1) Z.A) (hgd : Z.A.guards = some []) (hg : Gl Z x) (hm : Z.mg x = some (.ref C))
    (hb : Binds Z.K fd ps ds) (hd : Vals dvs ds) (hv : ∀ P m H, RelL Z.K P m H (g.dv n nd) dvs) (tk : Takes Z Y.W) (hdb : (x == ("__debug__" : Str)) = false) : PE Z (.Call (.Name x p) [] [] pos) (TX Z.K Y g (.mk c .nil nd)) :=
  (pe_makeG0 M F hr hgd hg hm hb hd tk hdb).imp fun σ H Q h => mk_core hc hi hv σ H Q h fun P m1 env st1 H1 R sat hw => (show VP Z.K Y (rhoL Z.K) P m1 H1 R [] st1 from hw).here sat.st rfl
end
end Fx

set_option Elab.async false
set_option linter.all false
set_option maxRecDepth 100000
set_option maxHeartbeats 1000000
/-! Fx 13: statements. -/
namespace Fx
open PySem PySem.Spec PyProof.Rows L2

/-- where a def was entered -/
structure Ent where
  P : Addr → Prop
  m : List Addr
  H : Hp
/-- the def's frame, since it was entered -/
structure Fr (F : Ent) (P : Addr → Prop) (m : List Addr) (H : Hp) (env : En) (σ : L2.St) : Prop where
  step : Step F.m F.H m H
  inc : ∀ a, F.P a → P a
  new : ∀ a, P a → F.P a ∨ F.H a = none
  own : ∀ (i : Nat) ds (a : Addr), env[i]? = some (.own ds) → (σ[i]? : Option (Option V)) = some (some (.ref a)) → F.H a = none
  old : ∀ a, F.P a → ∃ o, F.H a = some o
def WpS (r : RS) (N : Fl → Sto → Prop) (E : Ex → En → Sto → Prop) : Prop := match r with
  | .ok f s => N f s
  | .exc e env s => E e env s
  | .bad => False
theorem WpS.imp {r : RS} {N N' : Fl → Sto → Prop} {E E' : Ex → En → Sto → Prop} (h : WpS r N E) (hn : ∀ f s, N f s → N' f s) (he : ∀ e env s, E e env s → E' e env s) : WpS r N' E' := by
  cases r with
  | ok f s => exact hn f s h
  | exc e env s => exact he e env s h
  | bad => exact h
theorem wps_lift {α : Type} {env : En} {r : R α} {k : α → Sto → RS} {N : Fl → Sto → Prop} {E : Ex → En → Sto → Prop} : WpS (liftS env r k) N E = Wp r (fun a s => WpS (k a s) N E) (fun e s => E e env s) := by
  cases r <;> rfl
section
variable (K : PySem.W.Frag) (Y : Rd') (F : Ent)
/-- a state that the statement may end in -/
structure At (P : Addr → Prop) (m : List Addr) (H : Hp) (env' : En) (st' : Sto) (σ' : L2.St) (P' : Addr → Prop) (m' : List Addr) (H' : Hp) : Prop where
  fr : Fr F P' m' H' env' σ'
  mv : Mv P m H P' m' H'
  sat : Sat K Y.cls Y.z P' m' H' env' st' σ'
def NP (D : Ends) (P : Addr → Prop) (m : List Addr) (H : Hp) : Fl → Sto → Prop
  | .nx env', st' => ∀ P' m' H' σ', At K Y F P m H env' st' σ' P' m' H' → D.nx σ' H'
  | .bk env', st' => ∀ P' m' H' σ', At K Y F P m H env' st' σ' P' m' H' → D.bk σ' H'
  | .ct env', st' => ∀ P' m' H' σ', At K Y F P m H env' st' σ' P' m' H' → D.ct σ' H'
  | .rt d, st' => ∀ m' H' v, Step F.m F.H m' H' → StR K Y.cls F.P m' H' st' → Rel K F.P m' H' d v → D.rt v H'
def EPS (P : Addr → Prop) (m : List Addr) (H : Hp) : Ex → En → Sto → Prop := fun e env' st' => ∀ P' m' H' σ' c dd, At K Y F P m H env' st' σ' P' m' H' → ExR K Y.cls P' m' H' e c dd → Y.W c dd σ' H'
def TSt (run : En → Sto → RS) : L2.TS := fun D σ H => ∃ P m env st, Fr F P m H env σ ∧ Sat K Y.cls Y.z P m H env st σ ∧ WpS (run env st) (NP K Y F D P m H) (EPS K Y F P m H)
end
section
variable {K : PySem.W.Frag} {Y : Rd'} {F : Ent} {P P1 : Addr → Prop} {m m1 : List Addr} {H H1 : Hp} {D : Ends} {env env' : En} {st st' : Sto} {σ σ' : L2.St}
theorem NP.mv {f : Fl} {s : Sto} (h : NP K Y F D P m H f s) (v : Mv P m H P1 m1 H1) : NP K Y F D P1 m1 H1 f s := by
  cases f with
  | nx _ => exact fun P' m' H' σ' a => h P' m' H' σ' ⟨a.fr, v.trans a.mv, a.sat⟩
  | bk _ => exact fun P' m' H' σ' a => h P' m' H' σ' ⟨a.fr, v.trans a.mv, a.sat⟩
  | ct _ => exact fun P' m' H' σ' a => h P' m' H' σ' ⟨a.fr, v.trans a.mv, a.sat⟩
  | rt _ => exact h
theorem EPS.mv {e : Ex} {env' : En} {s : Sto} (h : EPS K Y F P m H e env' s) (v : Mv P m H P1 m1 H1) : EPS K Y F P1 m1 H1 e env' s := fun P' m' H' σ' c dd a r => h P' m' H' σ' c dd ⟨a.fr, v.trans a.mv, a.sat⟩ r
theorem WpS.mv {r : RS} (h : WpS r (NP K Y F D P m H) (EPS K Y F P m H)) (v : Mv P m H P1 m1 H1) : WpS r (NP K Y F D P1 m1 H1) (EPS K Y F P1 m1 H1) := h.imp (fun _ _ q => q.mv v) fun _ _ _ q => q.mv v
theorem Fr.go (f : Fr F P m H env σ) (s : Step m H m1 H1) : Fr F P m1 H1 env σ := ⟨f.step.trans s, f.inc, f.new, f.own, f.old⟩
theorem Step.mvP (s : Step m H m1 H1) : Mv P m H P m1 H1 := s.mv fun _ _ _ h => h
theorem At.of_step (f : Fr F P m H env σ) (sat : Sat K Y.cls Y.z P m H env st σ) (s : Step m H m1 H1) (r : StR K Y.cls P m1 H1 st') : At K Y F P m H env st' σ P m1 H1 := ⟨f.go s, s.mvP, sat.step s r⟩
/-- an expression within a statement -/
theorem eval_in {α β : Type} {run : En → M α} {rho : (Addr → Prop) → List Addr → Hp → α → β → Prop} {k : α → Sto → RS} {R : β → Hp → Prop} (f : Fr F P m H env σ) (sat : Sat K Y.cls Y.z P m H env st σ) (hw : WpS (liftS env (run env st) k) (NP K Y F D P m H) (EPS K Y F P m H))
    (h : ∀ m1 st1 H1 a b, Step m H m1 H1 → Fr F P m1 H1 env σ → Sat K Y.cls Y.z P m1 H1 env st1 σ → rho P m1 H1 a b → WpS (k a st1) (NP K Y F D P m1 H1) (EPS K Y F P m1 H1) → R b H1) : TG K Y run rho σ H R := by
  rw [wps_lift] at hw
  refine ⟨P, m, env, st, sat, hw.imp (fun a st1 q m1 H1 b s r rho => ?_) fun e st1 q m1 H1 c dd s r x => ?_⟩
  · exact h m1 st1 H1 a b s (f.go s) (sat.step s r) rho (q.mv s.mvP)
  · exact q P m1 H1 σ c dd (At.of_step f sat s r) x
theorem NP.here (f : Fr F P m H env σ) (sat : Sat K Y.cls Y.z P m H env st σ) (h : NP K Y F D P m H (.nx env) st) : D.nx σ H := h P m H σ ⟨f, Mv.refl, sat⟩
theorem Fr.ret (f : Fr F P m H env σ) (sat : StR K Y.cls P m H st) {d : Fx.D} {v : V} (r : Rel K P m H d v) (h : NP K Y F D P m H (.rt d) st) : D.rt v H := h m H v f.step (sat.fewer f.inc) (r.fewer f.inc)
/-- the slots are stored: none of them has a list under construction -/
theorem Fr.stored (f : Fr F P m H env σ) (ho : ∀ (i : Nat) ds, env'[i]? = some (.own ds) → env[i]? = some (.own ds) ∧ (σ'[i]? : Option (Option V)) = σ[i]?) : Fr F P m H env' σ' :=
  ⟨f.step, f.inc, f.new, fun i ds a e1 e2 => by
    obtain ⟨h1, h2⟩ := ho i ds e1
    rw [h2] at e2
    exact f.own i ds a h1 e2, f.old⟩
end

section
variable {Z : Cx} {Y : Rd'} {g : G} {F : Ent}
theorem PS_imp {s : Stmt} {t t' : L2.TS} (h : PS Z s t) (k : ∀ D σ H, t' D σ H → t D σ H) : PS Z s t' := ⟨fun pins s σ H D I q => h.run pins s σ H D I (k D σ H q)⟩
theorem PSs_imp {s : List Stmt} {t t' : L2.TS} (h : PSs Z s t) (k : ∀ D σ H, t' D σ H → t D σ H) : PSs Z s t' := ⟨fun pins s σ H D I q => h.run pins s σ H D I (k D σ H q)⟩
abbrev TS1 (K : PySem.W.Frag) (Y : Rd') (F : Ent) (g : G) (s : S) : L2.TS := TSt K Y F (S.ev g s)
abbrev TSS (K : PySem.W.Frag) (Y : Rd') (F : Ent) (g : G) (s : SS) : L2.TS := TSt K Y F (SS.ev g s)
/-! ### rows of statements -/
theorem s_nil : PSs Z [] (TSS Z.K Y F g .nil) := PSs_imp pss_nil fun D σ H ⟨P, m, env, st, f, sat, hw⟩ => (show NP Z.K Y F D P m H (.nx env) st from hw).here f sat
theorem s_cons {s : Stmt} {r : List Stmt} {a : S} {b : SS} (h1 : PS Z s (TS1 Z.K Y F g a)) (h2 : PSs Z r (TSS Z.K Y F g b)) : PSs Z (s :: r) (TSS Z.K Y F g (.cons a b)) := PSs_imp (pss_cons h1 h2) fun D σ H ⟨P, m, env, st, f, sat, hw⟩ => by
  have hw' : WpS (match S.ev g a env st with
    | .ok (.nx e') s' => SS.ev g b e' s'
    | .ok f s' => .ok f s'
    | .exc e e' s' => .exc e e' s'
    | .bad => .bad) (NP Z.K Y F D P m H) (EPS Z.K Y F P m H) := hw
  refine ⟨P, m, env, st, f, sat, ?_⟩
  cases e : S.ev g a env st with
  | bad => rw [e] at hw'; exact hw'.elim
  | exc ex e' s' => rw [e] at hw'; exact hw'
  | ok fl s' =>
    rw [e] at hw'
    cases fl with
    | nx e' => exact fun P' m' H' σ' a => ⟨P', m', e', s', a.fr, a.sat, (show WpS (SS.ev g b e' s') (NP Z.K Y F D P m H) (EPS Z.K Y F P m H) from hw').mv a.mv⟩
    | rt d => exact hw'
    | bk e' => exact hw'
    | ct e' => exact hw'
/-- a list under construction is finished -/
theorem s_fin {r : List Stmt} {i : Nat} {b : SS} (h : PSs Z r (TSS Z.K Y F g b)) : PSs Z r (TSS Z.K Y F g (.fin i b)) := PSs_imp h fun D σ H ⟨P, m, env, st, f, sat, hw⟩ => by
  have hw' : WpS (match env.own i with
    | some ds => SS.ev g b (env.set i (.val (.lst ds))) st
    | none => .bad) (NP Z.K Y F D P m H) (EPS Z.K Y F P m H) := hw
  cases e : env.own i with
  | none => rw [e] at hw'; exact hw'.elim
  | some ds =>
    rw [e] at hw'
    have ei := En.own_some e
    obtain ⟨a, vs, es, ha, hP, rl⟩ := sat.sl i _ ei
    have hH0 := f.own i ds a ei es
    have mv : Mv P m H (fun b => P b ∧ b ≠ a) m H := ⟨⟨[], by simp⟩, fun b o e n => ⟨e, fun hb => n (hb.imp id And.left)⟩⟩
    have sσ : σ.set i (some (.ref a)) = σ := by
      refine List.ext_getElem? fun j => ?_
      by_cases hj : i = j
      · subst hj
        rw [List.getElem?_set_self (List.getElem?_eq_some_iff.mp es).1, es]
      · rw [List.getElem?_set_ne hj]
    have hna : a ∉ m := fun hm => sat.st.out a hm hP
    have ho : ∀ (j : Nat) es', (env.set i (.val (.lst ds)))[j]? = some (.own es') → env[j]? = some (.own es') ∧ j ≠ i := fun j es' e => by
      obtain ⟨h1, h2⟩ := own_set (l := .val (.lst ds)) rfl e
      exact ⟨h2, h1⟩
    have fr : Fr F (fun b => P b ∧ b ≠ a) m H (env.set i (.val (.lst ds))) σ := by
      refine ⟨f.step, fun b hb => ⟨f.inc b hb, fun z => ?_⟩, fun b hb => f.new b hb.1, fun j es' b e1 e2 => f.own j es' b (ho j es' e1).1 e2, f.old⟩
      subst z
      obtain ⟨o, eo⟩ := f.old b hb
      rw [hH0] at eo; cases eo
    have sat' : Sat Z.K Y.cls Y.z (fun b => P b ∧ b ≠ a) m H (env.set i (.val (.lst ds))) st σ := by
      refine ⟨by rw [List.length_set]; exact sat.len, fun j l e1 => ?_, sat.st.mv_same mv (fun _ _ => rfl) fun b hb z => sat.st.out b hb z.1, fun b hb => sat.hP b hb.1, fun j k d1 d2 b e1 e2 e3 e4 => sat.un j k d1 d2 b (ho j d1 e1).1 (ho k d2 e2).1 e3 e4⟩
      by_cases hj : i = j
      · subst hj
        have hlt := (List.getElem?_eq_some_iff.mp e1).1
        rw [List.length_set] at hlt
        rw [List.getElem?_set_self hlt] at e1
        cases e1
        refine ⟨.ref a, es, a, vs, rfl, .inl ⟨.inl ha, fun hb => ?_⟩, RelL.mv mv ds rl⟩
        rcases hb with hb | hb
        · exact hna hb
        · exact hb.2 rfl
      · rw [List.getElem?_set_ne hj] at e1
        have hr := sat.sl j l e1
        cases l with
        | no => trivial
        | val d => obtain ⟨v, e, r⟩ := hr; exact ⟨v, e, Rel.mv mv d r⟩
        | own es' =>
          obtain ⟨b, ws, eb, hb, hPb, r⟩ := hr
          exact ⟨b, ws, eb, hb, ⟨hPb, fun z => by subst z; exact hj (sat.un i j ds es' b ei e1 es eb)⟩, RelL.mv mv es' r⟩
        | exc ex =>
          obtain ⟨b, c, dd, e1', e2, r⟩ := hr
          exact ⟨b, c, dd, e1', e2, r.mv sat.st (fun a ha fvs e => by obtain ⟨vs, e'⟩ := sat.hP a ha; rw [e] at e'; cases e') mv⟩
    exact ⟨_, m, _, st, fr, sat', (show WpS (SS.ev g b (env.set i (.val (.lst ds))) st) (NP Z.K Y F D P m H) (EPS Z.K Y F P m H) from hw').mv mv⟩

/-- .. and becomes a list of the store -/
theorem s_finO {r : List Stmt} {i : Nat} {b : SS} (h : PSs Z r (TSS Z.K Y F g b)) : PSs Z r (TSS Z.K Y F g (.finO i b)) := PSs_imp h fun D σ H ⟨P, m, env, st, f, sat, hw⟩ => by
  have hw' : WpS (match env.own i with
    | some ds => SS.ev g b (env.set i (.val (.obj st.length))) (st ++ [.lst ds])
    | none => .bad) (NP Z.K Y F D P m H) (EPS Z.K Y F P m H) := hw
  cases e : env.own i with
  | none => rw [e] at hw'; exact hw'.elim
  | some ds =>
    rw [e] at hw'
    have ei := En.own_some e
    obtain ⟨a, vs, es, ha, hP, rl⟩ := sat.sl i _ ei
    have hH0 := f.own i ds a ei es
    have hna : a ∉ m := fun hm => sat.st.out a hm hP
    have mv : Mv P m H (fun b => P b ∧ b ≠ a) (m ++ [a]) H := ⟨⟨[a], rfl⟩, fun b o e n => ⟨e, fun hb => by
      rcases hb with hb | hb
      · rcases List.mem_append.mp hb with z | z
        · exact n (.inl z)
        · have z' : b = a := by simpa using z
          exact n (.inr (z' ▸ hP))
      · exact n (.inr hb.1)⟩⟩
    have ho : ∀ (j : Nat) es', (env.set i (.val (.obj st.length)))[j]? = some (.own es') → env[j]? = some (.own es') ∧ j ≠ i := fun j es' e => by
      obtain ⟨h1, h2⟩ := own_set (l := .val (.obj st.length)) rfl e
      exact ⟨h2, h1⟩
    have fr : Fr F (fun b => P b ∧ b ≠ a) (m ++ [a]) H (env.set i (.val (.obj st.length))) σ := by
      refine ⟨⟨?_, fun b hb => ?_, f.step.ext⟩, fun b hb => ⟨f.inc b hb, fun z => ?_⟩, fun b hb => f.new b hb.1, fun j es' b e1 e2 => f.own j es' b (ho j es' e1).1 e2, f.old⟩
      · obtain ⟨t, et⟩ := f.step.pre
        exact ⟨t ++ [a], by rw [et, List.append_assoc]⟩
      · rcases List.mem_append.mp hb with z | z
        · exact f.step.new b z
        · have z' : b = a := by simpa using z
          exact .inr (z' ▸ hH0)
      · subst z
        obtain ⟨o, eo⟩ := f.old b hb
        rw [hH0] at eo; cases eo
    have hst : StR Z.K Y.cls (fun b => P b ∧ b ≠ a) (m ++ [a]) H (st ++ [.lst ds]) := by
      refine ⟨by simp [sat.st.len], List.nodup_append.mpr ⟨sat.st.nd, by simp, fun b hb c hc => by simp at hc; subst hc; exact fun z => hna (z ▸ hb)⟩, fun b hb z => ?_, fun k o e => ?_⟩
      · rcases List.mem_append.mp hb with q | q
        · exact sat.st.out b q z.1
        · exact z.2 (by simpa using q)
      · by_cases hk : k < st.length
        · rw [List.getElem?_append_left hk] at e
          obtain ⟨b, e1, r⟩ := sat.st.ob k o e
          refine ⟨b, by rw [List.getElem?_append_left (by rw [sat.st.len]; exact hk)]; exact e1, ?_⟩
          cases o with
          | lst ds => obtain ⟨vs, e2, r2⟩ := r; exact ⟨vs, e2, RelL.mv mv ds r2⟩
          | ins c fs => obtain ⟨C, dx, fvs, q, e2, e3, r2⟩ := r; exact ⟨C, dx, fvs, q, e2, e3, RelL.mv mv _ r2⟩
          | dic _ => exact r.elim
          | set _ => exact r.elim
        · rw [List.getElem?_append_right (Nat.le_of_not_lt hk)] at e
          have hk2 : k - st.length = 0 := by
            have := (List.getElem?_eq_some_iff.mp e).1
            simp at this; omega
          rw [hk2] at e
          cases e
          refine ⟨a, ?_, vs, ha, RelL.mv mv ds rl⟩
          rw [List.getElem?_append_right (by rw [sat.st.len]; omega), sat.st.len, hk2]; rfl
    have sat' : Sat Z.K Y.cls Y.z (fun b => P b ∧ b ≠ a) (m ++ [a]) H (env.set i (.val (.obj st.length))) (st ++ [.lst ds]) σ := by
      refine ⟨by rw [List.length_set]; exact sat.len, fun j l e1 => ?_, hst, fun b hb => sat.hP b hb.1, fun j k d1 d2 b e1 e2 e3 e4 => sat.un j k d1 d2 b (ho j d1 e1).1 (ho k d2 e2).1 e3 e4⟩
      by_cases hj : i = j
      · subst hj
        have hlt := (List.getElem?_eq_some_iff.mp e1).1
        rw [List.length_set] at hlt
        rw [List.getElem?_set_self hlt] at e1
        cases e1
        refine ⟨.ref a, es, a, rfl, ?_⟩
        rw [List.getElem?_append_right (by rw [sat.st.len]; omega), sat.st.len, Nat.sub_self]; rfl
      · rw [List.getElem?_set_ne hj] at e1
        have hr := sat.sl j l e1
        cases l with
        | no => trivial
        | val d => obtain ⟨v, e, r⟩ := hr; exact ⟨v, e, Rel.mv mv d r⟩
        | own es' =>
          obtain ⟨b, ws, eb, hb, hPb, r⟩ := hr
          exact ⟨b, ws, eb, hb, ⟨hPb, fun z => by subst z; exact hj (sat.un i j ds es' b ei e1 es eb)⟩, RelL.mv mv es' r⟩
        | exc ex =>
          obtain ⟨b, c, dd, e1', e2, r⟩ := hr
          exact ⟨b, c, dd, e1', e2, r.mv sat.st (fun a ha fvs e => by obtain ⟨vs, e'⟩ := sat.hP a ha; rw [e] at e'; cases e') mv⟩
    exact ⟨_, _, _, _, fr, sat', (show WpS (SS.ev g b (env.set i (.val (.obj st.length))) (st ++ [.lst ds])) (NP Z.K Y F D P m H) (EPS Z.K Y F P m H) from hw').mv mv⟩

/-! ### small statements -/
theorem s_bad {s : Stmt} : PS Z s (TS1 Z.K Y F g .bad) := ⟨fun pins s σ H D I ⟨_, _, _, _, _, _, hw⟩ => (show False from hw).elim⟩
theorem s_pass {pos : Pos} : PS Z (.Pass pos) (TS1 Z.K Y F g .pass) := PS_imp ps_pass fun D σ H ⟨P, m, env, st, f, sat, hw⟩ => (show NP Z.K Y F D P m H (.nx env) st from hw).here f sat
theorem s_doc {x : Str} {j : Nat} {pos pos' : Pos} : PS Z (.Expr (.Constant (.str x) j pos) pos') (TS1 Z.K Y F g .pass) := PS_imp ps_doc fun D σ H ⟨P, m, env, st, f, sat, hw⟩ => (show NP Z.K Y F D P m H (.nx env) st from hw).here f sat
theorem s_brk {pos : Pos} : PS Z (.Break pos) (TS1 Z.K Y F g .brk) := PS_imp ps_break fun D σ H ⟨P, m, env, st, f, sat, hw⟩ => (show NP Z.K Y F D P m H (.bk env) st from hw) P m H σ ⟨f, Mv.refl, sat⟩
theorem s_cnt {pos : Pos} : PS Z (.Continue pos) (TS1 Z.K Y F g .cnt) := PS_imp ps_continue fun D σ H ⟨P, m, env, st, f, sat, hw⟩ => (show NP Z.K Y F D P m H (.ct env) st from hw) P m H σ ⟨f, Mv.refl, sat⟩
theorem s_retN {pos : Pos} : PS Z (.Return none pos) (TS1 Z.K Y F g .retN) := PS_imp ps_retN fun D σ H ⟨P, m, env, st, f, sat, hw⟩ => f.ret sat.st (d := .non) (v := .non) rfl (show NP Z.K Y F D P m H (.rt .non) st from hw)
theorem s_ret {e : Expr} {x : X} {pos : Pos} (he : PE Z e (TX Z.K Y g x)) : PS Z (.Return (some e) pos) (TS1 Z.K Y F g (.ret x)) := PS_imp (ps_ret he) fun D σ H ⟨P, m, env, st, f, sat, hw⟩ => by
  refine eval_in (k := fun d s1 => .ok (.rt d) s1) f sat hw fun m1 st1 H1 d v s f1 sat1 rx h1 => ?_
  exact f1.ret sat1.st rx h1
theorem s_expr {e : Expr} {x : X} {pos : Pos} (hc : noComp e = true) (he : PE Z e (TX Z.K Y g x)) : PS Z (.Expr e pos) (TS1 Z.K Y F g (.expr x)) := PS_imp (ps_expr he (swap_none hc)) fun D σ H ⟨P, m, env, st, f, sat, hw⟩ => by
  refine eval_in (k := fun _ s1 => .ok (.nx env) s1) f sat hw fun m1 st1 H1 d v s f1 sat1 rx h1 => ?_
  exact (show NP Z.K Y F D P m1 H1 (.nx env) st1 from h1).here f1 sat1
theorem s_ite {c : Expr} {a b : List Stmt} {cc : C} {sa sb : SS} {pos : Pos} (hc : PT Z c (TC Z.K Y g cc)) (ha : PSs Z a (TSS Z.K Y F g sa)) (hb : PSs Z b (TSS Z.K Y F g sb)) : PS Z (.If c a b pos) (TS1 Z.K Y F g (.ite cc sa sb)) := PS_imp (ps_if hc ha hb) fun D σ H ⟨P, m, env, st, f, sat, hw⟩ => by
  refine eval_in (rho := rhoEq (α := Bool)) (k := fun k s1 => match k with
    | true => SS.ev g sa env s1
    | false => SS.ev g sb env s1) f sat hw fun m1 st1 H1 k k' s f1 sat1 rx h1 => ?_
  cases rx
  cases k with
  | true => rw [if_pos rfl]; exact ⟨P, m1, env, st1, f1, sat1, h1⟩
  | false => rw [if_neg Bool.false_ne_true]; exact ⟨P, m1, env, st1, f1, sat1, h1⟩

/-! ### stores -/
mutual
theorem stT_own : ∀ (t : T) {d : Fx.D} {env env' : En}, stT t d env = some env' → ∀ (i : Nat) ds, env'[i]? = some (.own ds) → env[i]? = some (.own ds) ∧ i ∉ slT t
  | .name j, d, env, env', e, i, ds, h => by
    simp only [stT] at e
    split at e
    · cases e
      obtain ⟨h1, h2⟩ := own_set (l := .val d) rfl h
      exact ⟨h2, by simp [slT, h1]⟩
    · cases e
  | .tup ts, .tup ds, env, env', e, i, es, h => by
    simp only [stT] at e
    have := stTS_own ts e i es h
    simpa only [slT] using this
  | .tup _, .non, _, _, e, _, _, _ => by simp only [stT] at e; cases e
  | .tup _, .bl _, _, _, e, _, _, _ => by simp only [stT] at e; cases e
  | .tup _, .int _, _, _, e, _, _, _ => by simp only [stT] at e; cases e
  | .tup _, .str _, _, _, e, _, _, _ => by simp only [stT] at e; cases e
  | .tup ts, .lst _, _, _, e, i, es, h => by
    simp only [stT] at e
    have := stTS_own ts e i es h
    simpa only [slT] using this
  | .tup _, .obj _, _, _, e, _, _, _ => by simp only [stT] at e; cases e
theorem stTS_own : ∀ (ts : Fx.TS) {ds : List Fx.D} {env env' : En}, stTS ts ds env = some env' → ∀ (i : Nat) es, env'[i]? = some (.own es) → env[i]? = some (.own es) ∧ i ∉ slTS ts
  | .nil, [], env, env', e, i, es, h => by
    simp only [stTS, Option.some.injEq] at e
    subst e
    exact ⟨h, by simp [slTS]⟩
  | .nil, _ :: _, _, _, e, _, _, _ => by simp only [stTS] at e; cases e
  | .cons _ _, [], _, _, e, _, _, _ => by simp only [stTS] at e; cases e
  | .cons t r, d :: ds, env, env', e, i, es, h => by
    have e' : (stT t d env).bind (stTS r ds) = some env' := by simpa only [stTS] using e
    cases e1 : stT t d env with
    | none => rw [e1] at e'; cases e'
    | some env1 =>
      rw [e1] at e'
      obtain ⟨h1, h2⟩ := stTS_own r e' i es h
      obtain ⟨h3, h4⟩ := stT_own t e1 i es h1
      exact ⟨h3, by rw [slTS, List.mem_append, not_or]; exact ⟨h4, h2⟩⟩
end
def notTup : Expr → Bool
  | .Tuple _ _ _ => false
  | _ => true
def nameT : Expr → Bool
  | .Name _ _ => true
  | _ => false
theorem swapped_none {tg e : Expr} {env : Env} (h : (nameT tg || notTup e) = true) : swappedStores [tg] e env = pure none := by
  rw [Bool.or_eq_true] at h
  rcases h with h | h
  · cases tg <;> first | rfl | (cases (show false = true from h))
  · cases tg <;> cases e <;> first | rfl | (cases (show false = true from h))
theorem s_set {tg e : Expr} {t : T} {x : X} {pos : Pos} (hs : noStar tg = true) (hn : (nameT tg || notTup e) = true) (hc : noComp e = true) (he : PE Z e (TX Z.K Y g x)) (hg : PG Z tg (TGt Z.K Y t)) : PS Z (.Assign [tg] e pos) (TS1 Z.K Y F g (.set t x)) :=
  PS_imp (ps_asg he hg (swap_some hc) (swapped_none hn) (by rw [assign_cons hs]; rfl)) fun D σ H ⟨P, m, env, st, f, sat, hw⟩ => by
  refine eval_in (k := fun d s1 => match stT t d env with
    | some env' => .ok (.nx env') s1
    | none => .bad) f sat hw fun m1 st1 H1 d v s f1 sat1 rx h1 => ?_
  cases e1 : stT t d env with
  | none => rw [e1] at h1; exact h1.elim
  | some env' =>
    rw [e1] at h1
    refine ⟨P, m1, env, st1, d, env', sat1, rx, e1, fun σ' sat' but => ?_⟩
    refine (show NP Z.K Y F D P m1 H1 (.nx env') st1 from h1) P m1 H1 σ' ⟨f1.stored fun i ds e2 => ?_, Mv.refl, sat'⟩
    obtain ⟨h2, h3⟩ := stT_own t e1 i ds e2
    exact ⟨h2, (but.2 i h3).symm⟩
theorem Fr.fresh {P : Addr → Prop} {m : List Addr} {H : Hp} {env : En} {σ : L2.St} {K : PySem.W.Frag} {cls : Nat → Option Addr} {st : Sto} (f : Fr F P m H env σ) (r : StR K cls P m H st) {a : Addr} (h : H a = none) : F.H a = none := by
  cases e : F.H a with
  | none => rfl
  | some o =>
    by_cases hm : a ∈ F.m
    · obtain ⟨⟨t, et⟩, _, _⟩ := f.step
      obtain ⟨u, eu⟩ := r.there (a := a) (by rw [et]; exact List.mem_append_left _ hm)
      rw [h] at eu; cases eu
    · rw [f.step.ext a o e hm] at h; cases h
theorem own_core {i : Nat} {fm : Fx.F} (D : Ends) (σ : L2.St) (H : Hp) (h : TS1 Z.K Y F g (.own i fm) D σ H) : TFn Z.K Y g fm σ H fun x H1 => D.nx (σ.set i (some x)) H1 := by
  obtain ⟨P, m, env, st, f, sat, hw⟩ := h
  have hw' : WpS (liftS env (Fx.F.ev g fm env st) fun ds s1 => if i < env.length then .ok (.nx (env.set i (.own ds))) s1 else .bad) (NP Z.K Y F D P m H) (EPS Z.K Y F P m H) := hw
  rw [wps_lift] at hw'
  refine ⟨P, m, env, st, sat, hw'.imp (fun ds st1 q m1 H1 a vs s r n rl => ?_) fun e st1 q m1 H1 c dd s r x => q P m1 H1 σ c dd (At.of_step f sat s r) x⟩
  by_cases hi : i < env.length
  · simp only [if_pos hi] at q
    have q' : NP Z.K Y F D P m H (.nx (env.set i (.own ds))) st1 := q
    have sat1 := sat.step s r
    have f1 := f.go s
    have f0 : F.H a = none := f1.fresh r n
    have lt : i < σ.length := by rw [← sat.len]; exact hi
    refine q' (plus P a) m1 _ _ ⟨⟨f1.step.trans (Step.laid n), fun b hb => .inl (f.inc b hb), fun b hb => hb.elim (f.new b) fun z => by subst z; exact .inr f0, fun j es b e1 e2 => ?_, f.old⟩, s.mvP.trans (Mv.more n), ?_⟩
    · by_cases hj : i = j
      · subst hj
        rw [List.getElem?_set_self lt] at e2
        cases e2; exact f0
      · rw [List.getElem?_set_ne hj] at e1 e2
        exact f.own j es b e1 e2
    · refine (sat1.more n).set (l := .own ds) (o := some (.ref a)) ⟨a, vs, rfl, upd_same, .inr rfl, RelL.mv (Mv.more n) ds rl⟩ fun j k d1 d2 b e1 e2 e3 e4 => ?_
      have noa : ∀ (k : Nat) d2, i ≠ k → env[k]? = some (.own d2) → (σ[k]? : Option (Option V)) ≠ some (some (.ref a)) := fun k d2 hk e1 e2 => by
        obtain ⟨b, ws, eb, hb, _⟩ := sat1.sl k _ e1
        rw [e2] at eb
        cases eb
        rw [n] at hb; cases hb
      by_cases hj : i = j
      · by_cases hk : i = k
        · exact hj.symm.trans hk
        · subst hj
          rw [List.getElem?_set_self lt] at e3
          cases e3
          rw [List.getElem?_set_ne hk] at e2 e4
          exact absurd e4 (noa k d2 hk e2)
      · by_cases hk : i = k
        · subst hk
          rw [List.getElem?_set_self lt] at e4
          cases e4
          rw [List.getElem?_set_ne hj] at e1 e3
          exact absurd e3 (noa j d1 hj e1)
        · rw [List.getElem?_set_ne hj] at e1 e3
          rw [List.getElem?_set_ne hk] at e2 e4
          exact sat1.un j k d1 d2 b e1 e2 e3 e4
  · simp only [if_neg hi] at q
    exact q.elim
theorem s_own {i : Nat} {x : Str} {e : Expr} {fm : Fx.F} {p pos : Pos} (hN : Z.N.Nodup) (hi : Z.N[i]? = some x) (hx : Loc Z.env.scope x) (hf : Z.fn x = true ∨ Z.env.scope.names.lookup x = some .local) (hs : swapsWith e (some (.Name x p)) pos.line Z.env = pure false)
    (he : PE Z e (TFn Z.K Y g fm)) : PS Z (.Assign [.Name x p] e pos) (TS1 Z.K Y F g (.own i fm)) := PS_imp (ps_set hN hi hx he hs hf) fun D σ H h => own_core D σ H h
/-- the state when a list of the def's is longer -/
theorem Sat.app {P : Addr → Prop} {m : List Addr} {H : Hp} {env : En} {st : Sto} {σ : L2.St} {i : Nat} {ds ds' : List Fx.D} {a : Addr} {vs' : List V} (sat : Sat Z.K Y.cls Y.z P m H env st σ) (ei : env[i]? = some (.own ds)) (es : (σ[i]? : Option (Option V)) = some (some (.ref a))) (hP : P a)
    (rl : RelL Z.K P m H ds' vs') : Mv P m H P m (upd H a (.lst vs')) ∧ Sat Z.K Y.cls Y.z P m (upd H a (.lst vs')) (env.set i (.own ds')) st σ := by
  have hna : a ∉ m := fun hm => sat.st.out a hm hP
  have mv : Mv P m H P m (upd H a (.lst vs')) := ⟨⟨[], by simp⟩, fun b o e n => ⟨by rw [upd_ne fun z => by subst z; exact n (.inr hP)]; exact e, n⟩⟩
  have ho : ∀ (j : Nat) d1, (env.set i (.own ds'))[j]? = some (.own d1) → ∃ d0, env[j]? = some (.own d0) := fun j d1 e => by
    by_cases hj : i = j
    · subst hj; exact ⟨_, ei⟩
    · rw [List.getElem?_set_ne hj] at e; exact ⟨_, e⟩
  refine ⟨mv, by rw [List.length_set]; exact sat.len, fun j l e1 => ?_, sat.st.mv_same mv (fun b hb => upd_ne fun z => by subst z; exact hna hb) sat.st.out, fun b hb => ?_, fun j k d1 d2 b e1 e2 e3 e4 => ?_⟩
  · by_cases hj : i = j
    · subst hj
      have hlt := (List.getElem?_eq_some_iff.mp e1).1
      rw [List.length_set] at hlt
      rw [List.getElem?_set_self hlt] at e1
      cases e1
      exact ⟨a, vs', es, upd_same, hP, RelL.mv mv ds' rl⟩
    · rw [List.getElem?_set_ne hj] at e1
      have hr := sat.sl j l e1
      cases l with
      | no => trivial
      | val d => obtain ⟨v, e, r⟩ := hr; exact ⟨v, e, Rel.mv mv d r⟩
      | own es' =>
        obtain ⟨b, ws, eb, hb, hPb, r⟩ := hr
        exact ⟨b, ws, eb, by rw [upd_ne fun z => by subst z; exact hj (sat.un i j ds es' b ei e1 es eb)]; exact hb, hPb, RelL.mv mv es' r⟩
      | exc ex =>
        obtain ⟨b, c, dd, e1', e2, r⟩ := hr
        exact ⟨b, c, dd, e1', e2, r.mv sat.st (fun a ha fvs e => by obtain ⟨vs, e'⟩ := sat.hP a ha; rw [e] at e'; cases e') mv⟩
  · by_cases hb' : b = a
    · subst hb'; exact ⟨_, upd_same⟩
    · rw [upd_ne hb']; exact sat.hP b hb
  · obtain ⟨d1', e1'⟩ := ho j d1 e1
    obtain ⟨d2', e2'⟩ := ho k d2 e2
    exact sat.un j k d1' d2' b e1' e2' e3 e4
theorem few_one {e : Expr} {env : Env} {pos : Pos} (hs : noStar e = true) : ((backTo pos (starEach [e] env)).all (fun x => !x.1) && (backToKw pos (keywordEach [] env)).all (fun x => x.1.isSome) && decide ([e].length + ([] : List Keyword).length + (if ([] : List Keyword).isEmpty then 0 else 1) < 30)) = true := by
  rw [star_all pos (by rw [List.all_cons, hs]; rfl)]
  rfl
theorem pe_appB {o e : Expr} {to te : TE} {apos pos : Pos} (hb : noSup o = true) (hs : noStar e = true) (hl : (apos.endLine == pos.line) = true) (ho : PE Z o to) (he : PE Z e te) : PE Z (.Call (.Attribute o "append" apos) [e] [] pos) (tBM Z.K "list" rAppend to (fun σ H Q => te σ H fun v H1 => Q [v] H1)) :=
  pe_bm F.plainAttrs_list F.slot_list_append F.type_list_append mt_append ho (pa_one hs he) (base_plain hb) (few_one hs) hl (star_cons hs) rfl
theorem s_app {x : Str} {o e : Expr} {i : Nat} {xe : X} {apos cpos pos : Pos} (hb : noSup o = true) (hs : noStar e = true) (hl : (apos.endLine == cpos.line) = true) (ho : PE Z o (tVar i)) (he : PE Z e (TX Z.K Y g xe)) :
    PS Z (.Expr (.Call (.Attribute o "append" apos) [e] [] cpos) pos) (TS1 Z.K Y F g (.app i xe)) := PS_imp (ps_expr (pe_appB hb hs hl ho he) (swap_none rfl)) fun D σ H ⟨P, m, env, st, f, sat, hw⟩ => by
  have hw' : WpS (match env.own i with
    | some _ => liftS env (X.ev g xe env st) fun d s1 => match env.own i with
      | some ds => if ds.length < 16777216 then .ok (.nx (env.set i (.own (ds ++ [d])))) s1 else .bad
      | none => .bad
    | none => .bad) (NP Z.K Y F D P m H) (EPS Z.K Y F P m H) := hw
  cases e1 : env.own i with
  | none => rw [e1] at hw'; exact hw'.elim
  | some ds =>
    rw [e1] at hw'
    have ei := En.own_some e1
    obtain ⟨a, vs, es, ha, hP, rl⟩ := sat.sl i _ ei
    have hna : a ∉ m := fun hm => sat.st.out a hm hP
    refine ⟨.ref a, es, .inl ⟨rfl, vs, SqL.of ha⟩, ?_⟩
    refine eval_in (k := fun d s1 => if ds.length < 16777216 then .ok (.nx (env.set i (.own (ds ++ [d])))) s1 else .bad) f sat hw' fun m1 st1 H1 d v s f1 sat1 rx h1 => ?_
    by_cases hz : ds.length < 16777216
    · simp only [if_pos hz] at h1
      have rl1 := RelL.step s ds rl
      have ha1 : H1 a = some (.lst vs) := s.ext _ _ ha hna
      refine ⟨a, vs, v, rfl, rfl, ha1, by rw [line16, ← relL_length rl]; exact hz, ?_⟩
      obtain ⟨mv, sat2⟩ := sat1.app (ds' := ds ++ [d]) (vs' := vs ++ [v]) ei es hP (relL_append rl1 (relL_one rx))
      have f0 : F.H a = none := f.own i ds a ei es
      refine (show NP Z.K Y F D P m1 H1 (.nx (env.set i (.own (ds ++ [d])))) st1 from h1) P m1 _ σ ⟨⟨⟨f1.step.pre, f1.step.new, fun b o eb hb => ?_⟩, f1.inc, f1.new, fun j es' b e2 e3 => ?_, f1.old⟩, mv, sat2⟩
      · rw [upd_ne fun z => by subst z; rw [f0] at eb; cases eb]
        exact f1.step.ext b o eb hb
      · by_cases hj : i = j
        · subst hj
          rw [es] at e3
          cases e3; exact f0
        · rw [List.getElem?_set_ne hj] at e2
          exact f1.own j es' b e2 e3
    · simp only [if_neg hz] at h1
      exact h1.elim
/-- an object of the store is written -/
theorem At.write {P : Addr → Prop} {m : List Addr} {H : Hp} {env : En} {st : Sto} {σ : L2.St} {n : Nat} {a : Addr} {u : HO} {o : O} (f : Fr F P m H env σ) (sat : Sat Z.K Y.cls Y.z P m H env st σ) (hn : m[n]? = some a) (ho : ObjR Z.K Y.cls P m (upd H a u) o a) :
    At Z.K Y F P m H env (st.set n o) σ P m (upd H a u) := by
  obtain ⟨r, s⟩ := sat.st.write hn ho
  exact At.of_step f sat s r
theorem write_step {P : Addr → Prop} {m : List Addr} {H : Hp} {a : Addr} {u : HO} (ha : a ∈ m) : Step m H m (upd H a u) := ⟨⟨[], by simp⟩, fun _ z => .inl z, fun b o e hb => by rw [upd_ne (show b ≠ a from fun z => hb (by rw [z]; exact ha))]; exact e⟩
theorem s_oapp {o e : Expr} {xo xe : X} {apos cpos pos : Pos} (hb : noSup o = true) (hs : noStar e = true) (hl : (apos.endLine == cpos.line) = true) (ho : PE Z o (TX Z.K Y g xo)) (he : PE Z e (TX Z.K Y g xe)) :
    PS Z (.Expr (.Call (.Attribute o "append" apos) [e] [] cpos) pos) (TS1 Z.K Y F g (.oapp xo xe)) := PS_imp (ps_expr (pe_appB hb hs hl ho he) (swap_none rfl)) fun D σ H ⟨P, m, env, st, f, sat, hw⟩ => by
  refine eval_in (α := Fx.D) (β := V) (run := X.ev g xo) (rho := rhoD Z.K) (k := fun (x : Fx.D) s1 => match x with
    | .obj n => match s1[n]? with
      | some (.lst _) => liftS env (X.ev g xe env s1) fun v s2 => match s2[n]? with
        | some (.lst ds) => if ds.length < 16777216 then .ok (.nx env) (s2.set n (.lst (ds ++ [v]))) else .bad
        | _ => .bad
      | _ => .bad
    | _ => .bad) f sat hw fun m1 st1 H1 d v s f1 sat1 rx h1 => ?_
  cases d <;> first | (exact absurd h1 id) | skip
  rename_i n
  obtain ⟨a, rfl, hm⟩ := rx
  have h1' : WpS (match st1[n]? with
      | some (.lst _) => liftS env (X.ev g xe env st1) fun v s2 => match s2[n]? with
        | some (.lst ds) => if ds.length < 16777216 then .ok (.nx env) (s2.set n (.lst (ds ++ [v]))) else .bad
        | _ => .bad
      | _ => .bad) (NP Z.K Y F D P m1 H1) (EPS Z.K Y F P m1 H1) := h1
  cases e1 : st1[n]? with
  | none => rw [e1] at h1'; exact h1'.elim
  | some ob =>
    rw [e1] at h1'
    cases ob <;> first | (exact absurd h1' id) | skip
    rename_i ds
    obtain ⟨a', vs, hm', ha, rl⟩ := sat1.st.lst e1
    rw [hm] at hm'; cases hm'
    refine ⟨.inl ⟨rfl, vs, SqL.of ha⟩, ?_⟩
    refine eval_in (k := fun v s2 => match s2[n]? with
        | some (.lst ds) => if ds.length < 16777216 then .ok (.nx env) (s2.set n (.lst (ds ++ [v]))) else .bad
        | _ => .bad) f1 sat1 h1' fun m2 st2 H2 d w s2 f2 sat2 rx h2 => ?_
    have hm2 : m2[n]? = some a := by
      obtain ⟨⟨t, et⟩, _, _⟩ := s2
      rw [et, List.getElem?_append_left (List.getElem?_eq_some_iff.mp hm).1]; exact hm
    cases e2 : st2[n]? with
    | none => rw [e2] at h2; exact h2.elim
    | some ob =>
      rw [e2] at h2
      cases ob <;> first | (exact absurd h2 id) | skip
      rename_i ds2
      by_cases hz : ds2.length < 16777216
      · simp only [if_pos hz] at h2
        obtain ⟨a', vs2, hm', ha2, rl2⟩ := sat2.st.lst e2
        rw [hm2] at hm'; cases hm'
        refine ⟨a, vs2, w, rfl, rfl, ha2, by rw [line16, ← relL_length rl2]; exact hz, ?_⟩
        have st3 : Step m2 H2 m2 (upd H2 a (.lst (vs2 ++ [w]))) := write_step (P := P) (List.mem_of_getElem? hm2)
        exact (show NP Z.K Y F D P m2 H2 (.nx env) (st2.set n (.lst (ds2 ++ [d]))) from h2) P m2 _ σ (At.write f2 sat2 hm2 ⟨vs2 ++ [w], upd_same, relL_append (RelL.step st3 ds2 rl2) (relL_one (Rel.step st3 d rx))⟩)
      · simp only [if_neg hz] at h2
        exact h2.elim
theorem assign_sub {o i : Expr} {p : Pos} {env : Env} (h : noSlice i = true) : ∀ v, assign (.Subscript o i p) env v = (do
      let ov ← holding [v] (eval o env)
      let iv ← holding [v, ov] (eval i env)
      standAt p
      holding [v, ov, iv] (setItem ov iv v)
      release [v, ov, iv] []) := by
  intro v
  cases i <;> first | rfl | (cases (show false = true from h))
theorem s_seti {o i e : Expr} {xo xi xe : X} {p pos : Pos} (hi : noSlice i = true) (ho : PE Z o (TX Z.K Y g xo)) (hii : PE Z i (TX Z.K Y g xi)) (he : PE Z e (TX Z.K Y g xe)) : PS Z (.Assign [.Subscript o i p] e pos) (TS1 Z.K Y F g (.seti xo xi xe)) :=
  PS_imp (ps_asg he (pg_sub ho hii set_list (assign_sub hi)) (show swapsWith e (some (.Subscript o i p)) pos.line Z.env = pure false from swap_sub) (by cases e <;> rfl) (by rw [assign_cons rfl]; rfl)) fun D σ H ⟨P, m, env, st, f, sat, hw⟩ => by
  refine eval_in (k := fun v s1 => liftS env (X.ev g xo env s1) fun x s2 => liftS env (X.ev g xi env s2) fun k s3 => match x, k with
    | .obj n, .int j => match s3[n]? with
      | some (.lst ds) => match ixN ds.length j with
        | some q => .ok (.nx env) (s3.set n (.lst (ds.set q v)))
        | none => .bad
      | _ => .bad
    | _, _ => .bad) f sat hw fun m1 st1 H1 d v s f1 sat1 rx h1 => ?_
  refine eval_in (k := fun x s2 => liftS env (X.ev g xi env s2) fun k s3 => match x, k with
    | .obj n, .int j => match s3[n]? with
      | some (.lst ds) => match ixN ds.length j with
        | some q => .ok (.nx env) (s3.set n (.lst (ds.set q d)))
        | none => .bad
      | _ => .bad
    | _, _ => .bad) f1 sat1 h1 fun m2 st2 H2 x ov s2 f2 sat2 ro h2 => ?_
  refine eval_in (k := fun k s3 => match (generalizing := false) x, k with
    | .obj n, .int j => match s3[n]? with
      | some (.lst ds) => match ixN ds.length j with
        | some q => .ok (.nx env) (s3.set n (.lst (ds.set q d)))
        | none => .bad
      | _ => .bad
    | _, _ => .bad) f2 sat2 h2 fun m3 st3 H3 k iv s3 f3 sat3 ri h3 => ?_
  cases x <;> first | (exact absurd h3 id) | skip
  rename_i n
  cases k <;> first | (exact absurd h3 id) | skip
  rename_i j
  obtain ⟨a, rfl, hm⟩ := Rel.step s3 (.obj n) ro
  have e1 : iv = .int j := ri
  subst e1
  have h3' : WpS (match st3[n]? with
      | some (.lst ds) => match ixN ds.length j with
        | some q => .ok (.nx env) (st3.set n (.lst (ds.set q d)))
        | none => .bad
      | _ => .bad) (NP Z.K Y F D P m3 H3) (EPS Z.K Y F P m3 H3) := h3
  cases e2 : st3[n]? with
  | none => rw [e2] at h3'; exact h3'.elim
  | some ob =>
    rw [e2] at h3'
    cases ob <;> first | (exact absurd h3' id) | skip
    rename_i ds
    obtain ⟨a', vs, hm', ha3, rl⟩ := sat3.st.lst e2
    rw [hm] at hm'; cases hm'
    have h4 : WpS (match ixN ds.length j with
        | some q => .ok (.nx env) (st3.set n (.lst (ds.set q d)))
        | none => .bad) (NP Z.K Y F D P m3 H3) (EPS Z.K Y F P m3 H3) := h3'
    cases e3 : ixN ds.length j with
    | none => rw [e3] at h4; exact h4.elim
    | some q =>
      rw [e3] at h4
      have st4 : Step m3 H3 m3 (upd H3 a (.lst (vs.set q v))) := write_step (P := P) (List.mem_of_getElem? hm)
      refine ⟨a, vs, j, q, rfl, rfl, ha3, by rw [← relL_length rl]; exact e3, ?_⟩
      exact (show NP Z.K Y F D P m3 H3 (.nx env) (st3.set n (.lst (ds.set q d))) from h4) P m3 _ σ (At.write f3 sat3 hm ⟨vs.set q v, upd_same, relL_set q (RelL.step st4 ds rl) (Rel.step ((s2.trans s3).trans st4) d rx)⟩)
theorem s_setf {o e : Expr} {xo xe : X} {fl : Str} {p pos : Pos} (hat : attrOk Z.K Y.cls g fl) (ho : PE Z o (TX Z.K Y g xo)) (he : PE Z e (TX Z.K Y g xe)) : PS Z (.Assign [.Attribute o fl p] e pos) (TS1 Z.K Y F g (.setf xo fl xe)) :=
  PS_imp (ps_fld ho he swap_attr) fun D σ H ⟨P, m, env, st, f, sat, hw⟩ => by
  refine eval_in (k := fun v s1 => liftS env (X.ev g xo env s1) fun x s2 => match x with
    | .obj n => match s2[n]? with
      | some (.ins c fs) => if fs.length < 900 ∧ g.attr c fl = true then .ok (.nx env) (s2.set n (.ins c (putD fl v fs))) else .bad
      | _ => .bad
    | _ => .bad) f sat hw fun m1 st1 H1 d v s f1 sat1 rx h1 => ?_
  refine eval_in (k := fun x s2 => match x with
    | .obj n => match s2[n]? with
      | some (.ins c fs) => if fs.length < 900 ∧ g.attr c fl = true then .ok (.nx env) (s2.set n (.ins c (putD fl d fs))) else .bad
      | _ => .bad
    | _ => .bad) f1 sat1 h1 fun m2 st2 H2 x ov s2 f2 sat2 ro h2 => ?_
  cases x <;> first | (exact absurd h2 id) | skip
  rename_i n
  obtain ⟨a, rfl, hm⟩ := ro
  have h2' : WpS (match st2[n]? with
      | some (.ins c fs) => if fs.length < 900 ∧ g.attr c fl = true then .ok (.nx env) (st2.set n (.ins c (putD fl d fs))) else .bad
      | _ => .bad) (NP Z.K Y F D P m2 H2) (EPS Z.K Y F P m2 H2) := h2
  cases e2 : st2[n]? with
  | none => rw [e2] at h2'; exact h2'.elim
  | some ob =>
    rw [e2] at h2'
    cases ob <;> first | (exact absurd h2' id) | skip
    rename_i c fs
    have h3 : WpS (if fs.length < 900 ∧ g.attr c fl = true then .ok (.nx env) (st2.set n (.ins c (putD fl d fs))) else .bad) (NP Z.K Y F D P m2 H2) (EPS Z.K Y F P m2 H2) := h2'
    by_cases hz : fs.length < 900 ∧ g.attr c fl = true
    · rw [if_pos hz] at h3
      obtain ⟨a', C, dx, fvs, e3, ec, ea, ek, rl⟩ := sat2.st.ins e2
      rw [hm] at e3; cases e3
      obtain ⟨c1, c2⟩ := hat c C ec hz.2
      have hlen : fvs.length = fs.length := by have := congrArg List.length ek; simpa using this
      refine ⟨a, C, dx, fvs, rfl, ea, c1, c2, by have := hz.1; omega, ?_⟩
      have st3 : Step m2 H2 m2 (upd H2 a (.ins C dx (putF fl v fvs))) := write_step (P := P) (List.mem_of_getElem? hm)
      obtain ⟨k1, k2⟩ := putD_rel (f := fl) (Rel.step (s2.trans st3) d rx) ek (RelL.step st3 _ rl)
      exact (show NP Z.K Y F D P m2 H2 (.nx env) (st2.set n (.ins c (putD fl d fs))) from h3) P m2 _ σ (At.write f2 sat2 hm ⟨C, dx, putF fl v fvs, ec, upd_same, k1, k2⟩)
    · rw [if_neg hz] at h3
      exact h3.elim
end
end Fx

set_option Elab.async false
set_option linter.all false
set_option maxRecDepth 100000
set_option maxHeartbeats 1000000
/-! Fx 14: loops. -/
namespace Fx
open PySem PySem.Spec PyProof.Rows L2
section
variable {Z : Cx} {Y : Rd'} {g : G} {F : Ent}
noncomputable abbrev bodyF (g : G) (t : T) (b : SS) : Fx.D → En → Sto → RS := fun d env' s' => match stT t d env' with
    | some e2 => SS.ev g b e2 s'
    | none => .bad
theorem s_for {tg iter : Expr} {body : List Stmt} {t : T} {it : Fx.It} {b : SS} {pos : Pos} (hp : PassesOwn (model Z.prog Z.w) Z.A Z.env Z.xe) (hc : Z.calm = true) (hi : PI Z tg iter (TIt Z.K Y g okM it)) (hg : PG Z tg (TGt Z.K Y t)) (hb : PSs Z body (TSS Z.K Y F g b))
    (hs : noSet iter = true) : PS Z (.For tg iter body [] pos) (TS1 Z.K Y F g (.for t it b)) := PS_imp (ps_for hp hc hi hg hb (set_plain' hs)) fun D σ H ⟨P, m, env, st, f, sat, hw⟩ => by
  have hw' : WpS (liftS env (It.ev g it env st) fun ds s1 => loopF (bodyF g t b) ds env s1) (NP Z.K Y F D P m H) (EPS Z.K Y F P m H) := hw
  rw [wps_lift] at hw'
  refine ⟨P, m, env, st, sat, hw'.imp (fun ds st1 q m1 H1 J s r gv => ?_) fun e st1 q m1 H1 c dd s r x => q P m1 H1 σ c dd (At.of_step f sat s r) x⟩
  have q1 := q.mv s.mvP
  refine ⟨fun i k σ' H' => k = ds.length - i ∧ i ≤ ds.length ∧ ∃ P' m' env' st', Fr F P' m' H' env' σ' ∧ Sat Z.K Y.cls Y.z P' m' H' env' st' σ' ∧ Mv P m1 H1 P' m' H' ∧ WpS (loopF (bodyF g t b) (ds.drop i) env' st') (NP Z.K Y F D P m1 H1) (EPS Z.K Y F P m1 H1),
    ⟨ds.length, by simp, Nat.zero_le _, P, m1, env, st1, f.go s, sat.step s r, Mv.refl, by simpa using q1⟩, ?_⟩
  rintro i k σ' H' ⟨rfl, hi, P', m', env', st', f', sat', mv', hw2⟩
  by_cases hlt : i < ds.length
  · have hd : ds[i]? = some ds[i] := List.getElem?_eq_getElem hlt
    rw [List.drop_eq_getElem_cons hlt] at hw2
    refine .inr ⟨gv.go i _ P' m' H' hd mv', fun σ2 H2 => i + 1 ≤ ds.length ∧ ∃ P2 m2 env2 st2, Fr F P2 m2 H2 env2 σ2 ∧ Sat Z.K Y.cls Y.z P2 m2 H2 env2 st2 σ2 ∧ Mv P m1 H1 P2 m2 H2 ∧ WpS (loopF (bodyF g t b) (ds.drop (i + 1)) env2 st2) (NP Z.K Y F D P m1 H1) (EPS Z.K Y F P m1 H1),
      fun σ2 H2 h => ⟨ds.length - (i + 1), by omega, rfl, h.1, h.2⟩, fun xv Hx y => ?_⟩
    obtain ⟨same, rx⟩ := gv.yld i _ P' m' H' xv Hx hd mv' sat'.own y
    have s3 : Step m' H' m' Hx := sat'.own.to_step same
    have sat3 := sat'.step s3 (sat'.st.same same)
    have hw3 : WpS (match bodyF g t b ds[i] env' st' with
      | .ok (.nx e') s' => loopF (bodyF g t b) (ds.drop (i + 1)) e' s'
      | .ok (.ct e') s' => loopF (bodyF g t b) (ds.drop (i + 1)) e' s'
      | .ok (.bk e') s' => .ok (.nx e') s'
      | .ok (.rt v) s' => .ok (.rt v) s'
      | .exc e e' s' => .exc e e' s'
      | .bad => .bad) (NP Z.K Y F D P m1 H1) (EPS Z.K Y F P m1 H1) := hw2
    have mv3 := mv'.trans s3.mvP
    cases e1 : stT t ds[i] env' with
    | none =>
      have : bodyF g t b ds[i] env' st' = .bad := by simp only [bodyF, e1]
      rw [this] at hw3
      exact hw3.elim
    | some env2 =>
      have eb : bodyF g t b ds[i] env' st' = SS.ev g b env2 st' := by simp only [bodyF, e1]
      rw [eb] at hw3
      refine ⟨P', m', env', st', ds[i], env2, sat3, rx, e1, fun σ2 sat4 but => ?_⟩
      have f4 : Fr F P' m' Hx env2 σ2 := (f'.go s3).stored fun i ds e2 => by
        obtain ⟨h2, h3⟩ := stT_own t e1 i ds e2
        exact ⟨h2, (but.2 i h3).symm⟩
      refine ⟨P', m', env2, st', f4, sat4, ?_⟩
      cases er : SS.ev g b env2 st' with
      | bad => rw [er] at hw3; exact hw3.elim
      | exc ex e' s' => rw [er] at hw3; exact (show EPS Z.K Y F P m1 H1 ex e' s' from hw3).mv mv3
      | ok fl s' =>
        rw [er] at hw3
        cases fl with
        | nx e' => exact fun P5 m5 H5 σ5 a => ⟨hlt, P5, m5, e', s', a.fr, a.sat, mv3.trans a.mv, hw3⟩
        | ct e' => exact fun P5 m5 H5 σ5 a => ⟨hlt, P5, m5, e', s', a.fr, a.sat, mv3.trans a.mv, hw3⟩
        | bk e' => exact fun P5 m5 H5 σ5 a => (show NP Z.K Y F D P m1 H1 (.nx e') s' from hw3) P5 m5 H5 σ5 ⟨a.fr, mv3.trans a.mv, a.sat⟩
        | rt v => exact (show NP Z.K Y F D P m1 H1 (.rt v) s' from hw3)
  · have e : i = ds.length := by omega
    subst e
    refine .inl ⟨gv.stop _ P' m' H' (Nat.le_refl _) mv', ?_⟩
    rw [List.drop_length] at hw2
    exact (show NP Z.K Y F D P m1 H1 (.nx env') st' from hw2) P' m' H' σ' ⟨f', mv', sat'⟩
noncomputable abbrev bodyO (g : G) (t : T) (b : SS) (n : Nat) (ds : List Fx.D) : Fx.D → En → Sto → RS := fun d env' s' => stillS n ds (match stT t d env' with
    | some e2 => SS.ev g b e2 s'
    | none => .bad)
theorem s_forO {tg iter : Expr} {body : List Stmt} {t : T} {en : Bool} {x : X} {b : SS} {pos : Pos} (hp : PassesOwn (model Z.prog Z.w) Z.A Z.env Z.xe) (hc : Z.calm = true) (hi : PI Z tg iter (TItO Z.K Y g en x)) (hg : PG Z tg (TGt Z.K Y t)) (hb : PSs Z body (TSS Z.K Y F g b))
    (hs : noSet iter = true) : PS Z (.For tg iter body [] pos) (TS1 Z.K Y F g (.forO t en x b)) := PS_imp (ps_for hp hc hi hg hb (set_plain' hs)) fun D σ H ⟨P, m, env, st, f, sat, hw⟩ => by
  have hw' : WpS (liftS env (X.ev g x env st) fun d s1 => match d with
    | .obj n => match s1[n]? with
      | some (.lst ds) => loopF (bodyO g t b n ds) (if en then enumD ds else ds) env s1
      | _ => .bad
    | .lst ds => loopF (bodyF g t b) (if en then enumD ds else ds) env s1
    | _ => .bad) (NP Z.K Y F D P m H) (EPS Z.K Y F P m H) := hw
  rw [wps_lift] at hw'
  refine ⟨P, m, env, st, sat, hw'.imp (fun d st1 q => ?_) fun e st1 q m1 H1 c dd s r x => q P m1 H1 σ c dd (At.of_step f sat s r) x⟩
  cases d <;> first | (exact absurd q id) | skip
  · rename_i ds0
    refine .inr ⟨ds0, rfl, fun m1 H1 J s r gv => ?_⟩
    have q2 : WpS (loopF (bodyF g t b) (if en then enumD ds0 else ds0) env st1) (NP Z.K Y F D P m H) (EPS Z.K Y F P m H) := q
    have q1 := q2.mv s.mvP
    clear q q2
    generalize (if en = true then enumD ds0 else ds0) = ds at q1 gv
    refine ⟨fun i k σ' H' => k = ds.length - i ∧ i ≤ ds.length ∧ ∃ P' m' env' st', Fr F P' m' H' env' σ' ∧ Sat Z.K Y.cls Y.z P' m' H' env' st' σ' ∧ Mv P m1 H1 P' m' H' ∧ WpS (loopF (bodyF g t b) (ds.drop i) env' st') (NP Z.K Y F D P m1 H1) (EPS Z.K Y F P m1 H1),
      ⟨ds.length, by simp, Nat.zero_le _, P, m1, env, st1, f.go s, sat.step s r, Mv.refl, by simpa using q1⟩, ?_⟩
    rintro i k σ' H' ⟨rfl, hi, P', m', env', st', f', sat', mv', hw2⟩
    by_cases hlt : i < ds.length
    · have hd : ds[i]? = some ds[i] := List.getElem?_eq_getElem hlt
      rw [List.drop_eq_getElem_cons hlt] at hw2
      refine .inr ⟨gv.go i _ P' m' H' hd mv', fun σ2 H2 => i + 1 ≤ ds.length ∧ ∃ P2 m2 env2 st2, Fr F P2 m2 H2 env2 σ2 ∧ Sat Z.K Y.cls Y.z P2 m2 H2 env2 st2 σ2 ∧ Mv P m1 H1 P2 m2 H2 ∧ WpS (loopF (bodyF g t b) (ds.drop (i + 1)) env2 st2) (NP Z.K Y F D P m1 H1) (EPS Z.K Y F P m1 H1),
        fun σ2 H2 h => ⟨ds.length - (i + 1), by omega, rfl, h.1, h.2⟩, fun xv Hx y => ?_⟩
      obtain ⟨same, rx⟩ := gv.yld i _ P' m' H' xv Hx hd mv' sat'.own y
      have s3 : Step m' H' m' Hx := sat'.own.to_step same
      have sat3 := sat'.step s3 (sat'.st.same same)
      have hw3 : WpS (match bodyF g t b ds[i] env' st' with
        | .ok (.nx e') s' => loopF (bodyF g t b) (ds.drop (i + 1)) e' s'
        | .ok (.ct e') s' => loopF (bodyF g t b) (ds.drop (i + 1)) e' s'
        | .ok (.bk e') s' => .ok (.nx e') s'
        | .ok (.rt v) s' => .ok (.rt v) s'
        | .exc e e' s' => .exc e e' s'
        | .bad => .bad) (NP Z.K Y F D P m1 H1) (EPS Z.K Y F P m1 H1) := hw2
      have mv3 := mv'.trans s3.mvP
      cases e1 : stT t ds[i] env' with
      | none =>
        have : bodyF g t b ds[i] env' st' = .bad := by simp only [bodyF, e1]
        rw [this] at hw3
        exact hw3.elim
      | some env2 =>
        have eb : bodyF g t b ds[i] env' st' = SS.ev g b env2 st' := by simp only [bodyF, e1]
        rw [eb] at hw3
        refine ⟨P', m', env', st', ds[i], env2, sat3, rx, e1, fun σ2 sat4 but => ?_⟩
        have f4 : Fr F P' m' Hx env2 σ2 := (f'.go s3).stored fun i ds e2 => by
          obtain ⟨h2, h3⟩ := stT_own t e1 i ds e2
          exact ⟨h2, (but.2 i h3).symm⟩
        refine ⟨P', m', env2, st', f4, sat4, ?_⟩
        cases er : SS.ev g b env2 st' with
        | bad => rw [er] at hw3; exact hw3.elim
        | exc ex e' s' => rw [er] at hw3; exact (show EPS Z.K Y F P m1 H1 ex e' s' from hw3).mv mv3
        | ok fl s' =>
          rw [er] at hw3
          cases fl with
          | nx e' => exact fun P5 m5 H5 σ5 a => ⟨hlt, P5, m5, e', s', a.fr, a.sat, mv3.trans a.mv, hw3⟩
          | ct e' => exact fun P5 m5 H5 σ5 a => ⟨hlt, P5, m5, e', s', a.fr, a.sat, mv3.trans a.mv, hw3⟩
          | bk e' => exact fun P5 m5 H5 σ5 a => (show NP Z.K Y F D P m1 H1 (.nx e') s' from hw3) P5 m5 H5 σ5 ⟨a.fr, mv3.trans a.mv, a.sat⟩
          | rt v => exact (show NP Z.K Y F D P m1 H1 (.rt v) s' from hw3)
    · have e : i = ds.length := by omega
      subst e
      refine .inl ⟨gv.stop _ P' m' H' (Nat.le_refl _) mv', ?_⟩
      rw [List.drop_length] at hw2
      exact (show NP Z.K Y F D P m1 H1 (.nx env') st' from hw2) P' m' H' σ' ⟨f', mv', sat'⟩
  rename_i n
  have q0 : WpS (match st1[n]? with
      | some (.lst ds) => loopF (bodyO g t b n ds) (if en then enumD ds else ds) env st1
      | _ => .bad) (NP Z.K Y F D P m H) (EPS Z.K Y F P m H) := q
  cases ho : st1[n]? with
  | none => rw [ho] at q0; exact q0.elim
  | some ob =>
  rw [ho] at q0
  cases ob <;> first | (exact absurd q0 id) | skip
  rename_i dso
  refine .inl ⟨n, dso, rfl, ho, fun m1 H1 a J s r hma gv => ?_⟩
  have q2 : WpS (loopF (bodyO g t b n dso) (if en then enumD dso else dso) env st1) (NP Z.K Y F D P m H) (EPS Z.K Y F P m H) := q0
  have q1 := q2.mv s.mvP
  clear q0 q2
  generalize (if en = true then enumD dso else dso) = ds at q1 gv
  refine ⟨fun i k σ' H' => k = ds.length - i ∧ i ≤ ds.length ∧ ∃ P' m' env' st', Fr F P' m' H' env' σ' ∧ Sat Z.K Y.cls Y.z P' m' H' env' st' σ' ∧ Mv P m1 H1 P' m' H' ∧ st'[n]? = some (.lst dso) ∧ WpS (loopF (bodyO g t b n dso) (ds.drop i) env' st') (NP Z.K Y F D P m1 H1) (EPS Z.K Y F P m1 H1),
    ⟨ds.length, by simp, Nat.zero_le _, P, m1, env, st1, f.go s, sat.step s r, Mv.refl, ho, by simpa using q1⟩, ?_⟩
  rintro i k σ' H' ⟨rfl, hi, P', m', env', st', f', sat', mv', hon, hw2⟩
  have okk := okN_of sat'.st mv'.pre hma hon
  by_cases hlt : i < ds.length
  · have hd : ds[i]? = some ds[i] := List.getElem?_eq_getElem hlt
    rw [List.drop_eq_getElem_cons hlt] at hw2
    refine .inr ⟨gv.go i _ P' m' H' hd okk, fun σ2 H2 => i + 1 ≤ ds.length ∧ ∃ P2 m2 env2 st2, Fr F P2 m2 H2 env2 σ2 ∧ Sat Z.K Y.cls Y.z P2 m2 H2 env2 st2 σ2 ∧ Mv P m1 H1 P2 m2 H2 ∧ st2[n]? = some (.lst dso) ∧ WpS (loopF (bodyO g t b n dso) (ds.drop (i + 1)) env2 st2) (NP Z.K Y F D P m1 H1) (EPS Z.K Y F P m1 H1),
      fun σ2 H2 h => ⟨ds.length - (i + 1), by omega, rfl, h.1, h.2⟩, fun xv Hx y => ?_⟩
    obtain ⟨same, rx⟩ := gv.yld i _ P' m' H' xv Hx hd okk sat'.own y
    have s3 : Step m' H' m' Hx := sat'.own.to_step same
    have sat3 := sat'.step s3 (sat'.st.same same)
    have hw3 : WpS (match bodyO g t b n dso ds[i] env' st' with
      | .ok (.nx e') s' => loopF (bodyO g t b n dso) (ds.drop (i + 1)) e' s'
      | .ok (.ct e') s' => loopF (bodyO g t b n dso) (ds.drop (i + 1)) e' s'
      | .ok (.bk e') s' => .ok (.nx e') s'
      | .ok (.rt v) s' => .ok (.rt v) s'
      | .exc e e' s' => .exc e e' s'
      | .bad => .bad) (NP Z.K Y F D P m1 H1) (EPS Z.K Y F P m1 H1) := hw2
    have mv3 := mv'.trans s3.mvP
    cases e1 : stT t ds[i] env' with
    | none =>
      have : bodyO g t b n dso ds[i] env' st' = .bad := by simp only [bodyO, e1, stillS]
      rw [this] at hw3
      exact hw3.elim
    | some env2 =>
      have eb : bodyO g t b n dso ds[i] env' st' = stillS n dso (SS.ev g b env2 st') := by simp only [bodyO, e1]
      rw [eb] at hw3
      refine ⟨P', m', env', st', ds[i], env2, sat3, rx, e1, fun σ2 sat4 but => ?_⟩
      have f4 : Fr F P' m' Hx env2 σ2 := (f'.go s3).stored fun i ds e2 => by
        obtain ⟨h2, h3⟩ := stT_own t e1 i ds e2
        exact ⟨h2, (but.2 i h3).symm⟩
      refine ⟨P', m', env2, st', f4, sat4, ?_⟩
      cases er : SS.ev g b env2 st' with
      | bad => rw [er] at hw3; exact hw3.elim
      | exc ex e' s' => rw [er] at hw3; exact (show EPS Z.K Y F P m1 H1 ex e' s' from hw3).mv mv3
      | ok fl s' =>
        rw [er] at hw3
        cases fl with
        | nx e' =>
          by_cases hst : s'[n]? = some (.lst dso)
          · simp only [stillS, if_pos hst] at hw3
            exact fun P5 m5 H5 σ5 a => ⟨hlt, P5, m5, e', s', a.fr, a.sat, mv3.trans a.mv, hst, hw3⟩
          · simp only [stillS, if_neg hst] at hw3
            exact hw3.elim
        | ct e' =>
          by_cases hst : s'[n]? = some (.lst dso)
          · simp only [stillS, if_pos hst] at hw3
            exact fun P5 m5 H5 σ5 a => ⟨hlt, P5, m5, e', s', a.fr, a.sat, mv3.trans a.mv, hst, hw3⟩
          · simp only [stillS, if_neg hst] at hw3
            exact hw3.elim
        | bk e' => exact fun P5 m5 H5 σ5 a => (show NP Z.K Y F D P m1 H1 (.nx e') s' from hw3) P5 m5 H5 σ5 ⟨a.fr, mv3.trans a.mv, a.sat⟩
        | rt v => exact (show NP Z.K Y F D P m1 H1 (.rt v) s' from hw3)
  · have e : i = ds.length := by omega
    subst e
    refine .inl ⟨gv.stop _ P' m' H' (Nat.le_refl _) okk, ?_⟩
    rw [List.drop_length] at hw2
    exact (show NP Z.K Y F D P m1 H1 (.nx env') st' from hw2) P' m' H' σ' ⟨f', mv', sat'⟩
theorem s_whl {c : Expr} {body : List Stmt} {cc : C} {b : SS} {pos : Pos} (hp : PassesOwn (model Z.prog Z.w) Z.A Z.env Z.xe) (hc : PT Z c (TC Z.K Y g cc)) (hb : PSs Z body (TSS Z.K Y F g b)) : PS Z (.While c body [] pos) (TS1 Z.K Y F g (.whl cc b)) :=
  PS_imp (ps_while hp hc hb) fun D σ H ⟨P, m, env, st, f, sat, hw⟩ => by
  have hw' : WpS (loopW (fun env' s' => C.ev g cc env' s') (fun env' s' => SS.ev g b env' s') g.fuel env st) (NP Z.K Y F D P m H) (EPS Z.K Y F P m H) := hw
  refine ⟨fun k σ' H' => ∃ P' m' env' st', Fr F P' m' H' env' σ' ∧ Sat Z.K Y.cls Y.z P' m' H' env' st' σ' ∧ Mv P m H P' m' H' ∧ WpS (loopW (fun env' s' => C.ev g cc env' s') (fun env' s' => SS.ev g b env' s') k env' st') (NP Z.K Y F D P m H) (EPS Z.K Y F P m H),
    ⟨g.fuel, P, m, env, st, f, sat, Mv.refl, hw'⟩, ?_⟩
  rintro k σ' H' ⟨P', m', env', st', f', sat', mv', hw2⟩
  cases k with
  | zero => exact hw2.elim
  | succ k =>
    have hw3 : WpS (match C.ev g cc env' st' with
      | .ok false s' => .ok (.nx env') s'
      | .ok true s' => match SS.ev g b env' s' with
        | .ok (.nx e') s2 => loopW (fun env' s' => C.ev g cc env' s') (fun env' s' => SS.ev g b env' s') k e' s2
        | .ok (.ct e') s2 => loopW (fun env' s' => C.ev g cc env' s') (fun env' s' => SS.ev g b env' s') k e' s2
        | .ok (.bk e') s2 => .ok (.nx e') s2
        | .ok (.rt v) s2 => .ok (.rt v) s2
        | .exc e e' s2 => .exc e e' s2
        | .bad => .bad
      | .exc e s' => .exc e env' s'
      | .bad => .bad) (NP Z.K Y F D P m H) (EPS Z.K Y F P m H) := hw2
    refine ⟨P', m', env', st', sat', ?_⟩
    cases e1 : C.ev g cc env' st' with
    | bad => rw [e1] at hw3; exact hw3.elim
    | exc ex s' =>
      rw [e1] at hw3
      exact fun m1 H1 c dd s r x => (show EPS Z.K Y F P m H ex env' s' from hw3) P' m1 H1 σ' c dd ⟨f'.go s, mv'.trans s.mvP, sat'.step s r⟩ x
    | ok kk s' =>
      rw [e1] at hw3
      intro m1 H1 kb s r ek
      cases ek
      have f1 := f'.go s
      have sat1 := sat'.step s r
      have mv1 := mv'.trans s.mvP
      cases kk with
      | false => rw [if_neg Bool.false_ne_true]; exact (show NP Z.K Y F D P m H (.nx env') s' from hw3) P' m1 H1 σ' ⟨f1, mv1, sat1⟩
      | true =>
        rw [if_pos rfl]
        refine ⟨fun σ2 H2 => ∃ P2 m2 env2 st2, Fr F P2 m2 H2 env2 σ2 ∧ Sat Z.K Y.cls Y.z P2 m2 H2 env2 st2 σ2 ∧ Mv P m H P2 m2 H2 ∧ WpS (loopW (fun env' s' => C.ev g cc env' s') (fun env' s' => SS.ev g b env' s') k env2 st2) (NP Z.K Y F D P m H) (EPS Z.K Y F P m H),
          fun σ2 H2 h => ⟨k, Nat.lt_succ_self k, h⟩, P', m1, env', s', f1, sat1, ?_⟩
        have hw4 : WpS (match SS.ev g b env' s' with
        | .ok (.nx e') s2 => loopW (fun env' s' => C.ev g cc env' s') (fun env' s' => SS.ev g b env' s') k e' s2
        | .ok (.ct e') s2 => loopW (fun env' s' => C.ev g cc env' s') (fun env' s' => SS.ev g b env' s') k e' s2
        | .ok (.bk e') s2 => .ok (.nx e') s2
        | .ok (.rt v) s2 => .ok (.rt v) s2
        | .exc e e' s2 => .exc e e' s2
        | .bad => .bad) (NP Z.K Y F D P m H) (EPS Z.K Y F P m H) := hw3
        cases er : SS.ev g b env' s' with
        | bad => rw [er] at hw4; exact hw4.elim
        | exc ex e' s2 => rw [er] at hw4; exact (show EPS Z.K Y F P m H ex e' s2 from hw4).mv mv1
        | ok fl s2 =>
          rw [er] at hw4
          cases fl with
          | nx e' => exact fun P5 m5 H5 σ5 a => ⟨P5, m5, e', s2, a.fr, a.sat, mv1.trans a.mv, hw4⟩
          | ct e' => exact fun P5 m5 H5 σ5 a => ⟨P5, m5, e', s2, a.fr, a.sat, mv1.trans a.mv, hw4⟩
          | bk e' => exact fun P5 m5 H5 σ5 a => (show NP Z.K Y F D P m H (.nx e') s2 from hw4) P5 m5 H5 σ5 ⟨a.fr, mv1.trans a.mv, a.sat⟩
          | rt v => exact (show NP Z.K Y F D P m H (.rt v) s2 from hw4)
/-- name = [..], the comprehension on the name's line -/
theorem s_ownC {i : Nat} {y : Str} {py : Pos} {elt tg iter : Expr} {ifs : List Expr} {scope : Scope} {own : List (Str × Nat)} {pos spos : Pos} {t : T} {it : Fx.It} {co : CO} {x : X} (hc : Z.calm = true) (hN : Z.N.Nodup) (hy : Z.N[i]? = some y) (hyl : Z.env.scope.names.lookup y = some .local)
    (hsw : swapsWith (.ListComp elt [⟨tg, iter, ifs, 0⟩] scope pos) (some (.Name y py)) spos.line Z.env = pure true) (hi : PI Z tg iter (TIt Z.K Y g okS it)) (ok : BlkOk Z.N Z.env.scope scope own)
    (hv : ∀ i, i ∈ own.map (·.2) ↔ i ∈ slT t) (hg : ∀ (s : Shared) (H : Hp) (C : Addr) (cl : List (Str × Addr)) (fp : List Addr), PG (Z.blk s H scope (compEnvC scope cl C Z.env) fp) tg (TGt Z.K Y t))
    (ht : ∀ (s : Shared) (H : Hp) (C : Addr) (cl : List (Str × Addr)) (fp : List Addr), PTs (Z.blk s H scope (compEnvC scope cl C Z.env) fp) ifs (TCO Z.K (calmY Y) g co))
    (he : ∀ (s : Shared) (H : Hp) (C : Addr) (cl : List (Str × Addr)) (fp : List Addr), PE (Z.blk s H scope (compEnvC scope cl C Z.env) fp) elt (TX Z.K (calmY Y) g x)) (hs : noSet iter = true) :
    PS Z (.Assign [.Name y py] (.ListComp elt [⟨tg, iter, ifs, 0⟩] scope pos) spos) (TS1 Z.K Y F g (.own i (.comp t it co x))) := PS_imp (ps_setLc hc hN hy hyl hsw hi ok hg ht he (set_plain' hs)) fun D σ H h => comp_core hv σ H _ (own_core D σ H h)
theorem s_ownC2 {i : Nat} {y : Str} {py : Pos} {elt tg iter tg2 iter2 : Expr} {ifs ifs2 : List Expr} {scope : Scope} {own : List (Str × Nat)} {pos spos : Pos} {t t2 : T} {it it2 : Fx.It} {co co2 : CO} {x : X} (hc : Z.calm = true) (hN : Z.N.Nodup) (hy : Z.N[i]? = some y) (hyl : Z.env.scope.names.lookup y = some .local)
    (hsw : swapsWith (.ListComp elt [⟨tg, iter, ifs, 0⟩, ⟨tg2, iter2, ifs2, 0⟩] scope pos) (some (.Name y py)) spos.line Z.env = pure true) (hi : PI Z tg iter (TIt Z.K Y g okS it)) (ok : BlkOk Z.N Z.env.scope scope own)
    (hv : ∀ i, i ∈ own.map (·.2) ↔ i ∈ slT t ++ slT t2) (hg : ∀ (s : Shared) (H : Hp) (C : Addr) (cl : List (Str × Addr)) (fp : List Addr), PG (Z.blk s H scope (compEnvC scope cl C Z.env) fp) tg (TGt Z.K Y t))
    (ht : ∀ (s : Shared) (H : Hp) (C : Addr) (cl : List (Str × Addr)) (fp : List Addr), PTs (Z.blk s H scope (compEnvC scope cl C Z.env) fp) ifs (TCO Z.K (calmY Y) g co))
    (hi2 : ∀ (s : Shared) (H : Hp) (C : Addr) (cl : List (Str × Addr)) (fp : List Addr), PI (Z.blk s H scope (compEnvC scope cl C Z.env) fp) tg2 iter2 (TIt Z.K (calmY Y) g okM it2))
    (hg2 : ∀ (s : Shared) (H : Hp) (C : Addr) (cl : List (Str × Addr)) (fp : List Addr), PG (Z.blk s H scope (compEnvC scope cl C Z.env) fp) tg2 (TGt Z.K Y t2))
    (ht2 : ∀ (s : Shared) (H : Hp) (C : Addr) (cl : List (Str × Addr)) (fp : List Addr), PTs (Z.blk s H scope (compEnvC scope cl C Z.env) fp) ifs2 (TCO Z.K (calmY Y) g co2))
    (he : ∀ (s : Shared) (H : Hp) (C : Addr) (cl : List (Str × Addr)) (fp : List Addr), PE (Z.blk s H scope (compEnvC scope cl C Z.env) fp) elt (TX Z.K (calmY Y) g x)) (hs : noSet iter = true) (hs2 : noSet iter2 = true) :
    PS Z (.Assign [.Name y py] (.ListComp elt [⟨tg, iter, ifs, 0⟩, ⟨tg2, iter2, ifs2, 0⟩] scope pos) spos) (TS1 Z.K Y F g (.own i (.comp2 t it co t2 it2 co2 x))) :=
  PS_imp (ps_setLc2 hc hN hy hyl hsw hi ok (fun i hi => (hv i).mpr (List.mem_append_right _ hi)) hg ht hi2 hg2 ht2 he (set_plain' hs) (fun env => set_plain' (env := env) hs2)) fun D σ H h => comp2_core hv σ H _ (own_core D σ H h)
end
end Fx

set_option Elab.async false
set_option linter.all false
set_option maxRecDepth 100000
set_option maxHeartbeats 4000000
/-! Fx 15: exceptions. -/
namespace Fx
open PySem PySem.Spec PyProof.Rows L2

/-! ### isinstance of the exception that a suite holds, with or without a dict -/
section
open PySem.W PySem.Calls
variable {prog : Program} {w : World} {A : Around} {E : Value → Shared → Prop} {s : Shared} {K : Frag} {x D : Addr} {ox : Obj}
theorem findObj_dataD {C : Addr} {od : Option Obj} {name : Str} {a g : Value} (hc : (clsIn K C).isSome = true) (ha : findIn K (.ref C) name = some (some a)) (hg : specialIn K a "__get__" = some (some g)) (ht : takesIn K a = some true) : findObj K C od name = some (.bind g a) := by
  obtain ⟨cd, hc⟩ := Option.isSome_iff_exists.mp hc
  unfold findObj
  rw [hc, Option.bind_some, ha, Option.bind_some]
  simp [hg, ht]
theorem kin_classD {od : Option Obj} {Q : Option Value → Shared → Prop} (c : ExcC K D) (X : K.In s.heap) (I : InstAt s.heap x ox D od) (h : Q (some (.ref D)) { s with toks := s.toks + 1 }) : wpAny (model prog w) A (getAttr? (.ref x) "__class__") Q E s := by
  have hf : findObj K D od "__class__" = some (.bind (.builtin "getset_descriptor.__get__") (.builtin "object.__class__")) := findObj_dataD (by obtain ⟨cd, hc, _⟩ := any_some c.hd; rw [hc]; rfl) c.ha c.hn c.ht
  obtain ⟨hp, g, d, t, os⟩ := s
  have L0 := I.type (M := model prog w)
  have L1 := looks_findIn (M := model prog w) X c.hg
  have L2 := looks_findIn (M := model prog w) X c.hk
  have L3 := looks_find (M := model prog w) X I hf
  have sub : Looks (model prog w) hp (isInstance (.ref x) (.type "BaseException")) true := L0.andThen (looks_subIn X c.hs)
  have hx0 : (false && onTheHeap (Value.builtin "BaseException.__getattribute__")) = false := rfl
  have hx2 : (Value.builtin "BaseException.__getattribute__" == Value.builtin "object.__getattribute__") = false := by decide +kernel
  have hx1 : (onTheHeap (Value.ref D) && Value.builtin "BaseException.__getattribute__" == Value.builtin "object.__getattribute__") = false := by rw [hx2]; rfl
  unfold getAttr? getAttrBy? getAttrBy
  refine wpAny_bind (wpAny_mkText (wpAny_bind (wpAny_attempt (wpAny_holding (wpAny_bind (L0.at (wpAny_bind (L1.at ?_))))))))
  show wpAny _ _ (if (onTheHeap (Value.ref D) && Value.builtin "BaseException.__getattribute__" == Value.builtin "object.__getattribute__") = true then _ else _) _ _ _
  rw [hx1, if_neg Bool.false_ne_true]
  unfold getAttrByItsOwn hookBefore
  refine wpAny_bind ?_
  rw [if_pos (show onTheHeap (Value.ref D) = true from rfl)]
  refine L2.at ?_
  refine wpAny_bind (wpAny_attempt (wpAny_holding ?_))
  unfold callGetattribute
  rw [hx0, if_neg Bool.false_ne_true]
  unfold boundAndCalled
  rw [PySem.F.excAttr_ValueError.ga.bind (.ref x)]
  refine wpAny_bind (wpAny_pure ?_)
  show wpAny _ _ (call (.builtin "BaseException.__getattribute__") [.ref x, .str "__class__" t]) _ _ _
  refine wpAny_call (codeAny_call_builtin PySem.F.excAttr_ValueError.ga.plain PySem.F.entry_bexc_ga ?_)
  refine @check_slot (model prog w) _ _ ⟨hp, g, d, t + 1, os⟩ "BaseException.__getattribute__" "BaseException" "__getattribute__" (.ref x) [.str "__class__" t] [] _ (by decide +kernel) (by decide +kernel) sub (PySem.F.args_bexc_ga (.ref x) (.str "__class__" t)) ?_
  unfold Builtin.«object.__getattribute__»
  refine wpAny_bind (wpAny_of_eq (a := ((Value.ref x : Value), [Value.str "__class__" t])) (by first | rfl | (simp only [slotArgs]; rfl)) ?_)
  refine wpAny_bind (wpAny_pure (wpAny_bind (L0.at (wpAny_bind (L3.at ?_)))))
  show wpAny _ _ (holding [Value.builtin "object.__class__"] (call (.builtin "getset_descriptor.__get__") [.builtin "object.__class__", .ref x, .ref D]) >>= ret) _ _ _
  refine wpAny_bind (wpAny_holding (wpAny_call (class_get (s := ⟨hp, g, d, t + 1, os⟩) (ox := ox) (od := od) X I c.hm ?_)))
  refine wpAny_pure ?_
  show wpAny _ _ (handedOut (.ref D)) _ _ _
  rw [handedOut_of (v := .ref D) rfl]
  first
    | exact wpAny_pure (wpAny_pure h)
    | exact wpAny_pure h
    | exact wpAny_pure (wpAny_bind (wpAny_pure (wpAny_pure h)))
theorem kitx_excD (c : ExcC K D) : KitX K (.ref x) (.ref D) (fun h => ∃ od, InstAt h x ox D od) where
  ty := fun _ _ _ ⟨_, I⟩ => I.type
  it := fun _ _ X _ => by
    obtain ⟨cdD, hcD, _⟩ := any_some c.hd
    unfold clsIn at hcD
    split at hcD
    · rename_i c' d' cd' sl' ho
      intro A' Q' E' s' k q
      unfold isType loadHead
      exact wpAny_bind (wpAny_loadPart (k _ _ (X _ _ ho)) (wpAny_pure q))
    · cases hcD
  ne := fun h tp dd its n sl X htp => by
    obtain ⟨cdD, hcD, _⟩ := any_some c.hd
    refine Bool.eq_false_iff.mpr fun q => ?_
    have e : D = tp := Value.ref.inj (beq_iff_eq.mp q)
    subst e
    unfold clsIn at hcD
    split at hcD
    · rename_i c' d' cd' sl' ho
      have z := (X _ _ ho).symm.trans htp
      cases z
    · cases hcD
  ca := fun X ⟨_, I⟩ k => kin_classD c X I k
end
theorem call_isD {X : Cx} {a D : Addr} {d : Option Addr} {oe : Obj} {pn : List (Addr × Obj)} (C : ExcC X.K D) (hz : Zc (.ref D) d oe) (hf : ∃ vs, oe.data = .fields vs) : CallR (X.suite a ((a, oe) :: pn)) (.builtin "isinstance")
    (fun xs H Q => ∃ (c : V) (cv : Value) (b : Bool), xs = [.ref a, c] ∧ (∀ u, RelV c u → u = cv) ∧ PySem.W.kitOne X.K (.ref D) cv = some b ∧ (d = none ∨ ∃ dd fvs, d = some dd ∧ H dd = some (.xd fvs)) ∧ Q (.bl b) H) := by
  intro pins s σ H xs us Q I r h
  obtain ⟨c, cv, b, rfl, hcv, e, hd, q⟩ := h
  cases r with
  | cons rx rr =>
    cases rr with
    | cons rt rr =>
      cases rr
      cases rx
      have ec := hcv _ rt
      subst ec
      obtain ⟨hget, _⟩ := I.pin (a, oe) (List.mem_append.mpr (.inl List.mem_cons_self))
      obtain ⟨vs, hv⟩ := hf
      have J : ∃ od, PySem.W.InstAt s.heap a oe D od := by
        rcases hd with hd | ⟨dd, fvs, hd, hx⟩
        · obtain ⟨oc, od, oda, osl⟩ := oe
          obtain ⟨h1, h2⟩ := hz
          dsimp only at h1 h2 hv
          subst h1 h2 hv
          subst hd
          exact ⟨none, hget, rfl, rfl, trivial⟩
        · have hx' : ObjOk X.prog X.w H s.heap dd (.xd fvs) := I.hok dd _ hx
          obtain ⟨mA, hns, hr⟩ := hx'
          obtain ⟨od, ho, hl⟩ := lookIn_ns hns
          exact ⟨some od, hget, hz.1, by unfold PySem.W.notCls; rw [hv] <;> rfl, by rw [hz.2, hd]; exact ho⟩
      exact PySem.W.kia_one (kitx_excD C) I.kIn J e (fun z => nomatch z) fun tk => ⟨.bl b, H, I.kept (t' := tk) fun _ _ z => z, rfl, q⟩

section
variable {Z : Cx} {Y : Rd'} {g : G} {F : Ent} {a : Addr} {oe : Obj} {cv : Value} {dd : Option Addr} {pn : List (Addr × Obj)}
/-- what is known of the exception that slot i holds -/
theorem exc_slot {P : Addr → Prop} {m : List Addr} {H : Hp} {env : En} {st : Sto} {σ : L2.St} {i : Nat} {ex : Ex} (hz : Y.z = some (a, cv, dd)) (sat : Sat Z.K Y.cls Y.z P m H env st σ) (e : env.exc i = some ex) :
    (σ[i]? : Option (Option V)) = some (some (.ref a)) ∧ ExR Z.K Y.cls P m H ex cv dd := by
  obtain ⟨a', c, d', e1, e2, r⟩ := sat.sl i _ (En.exc_some e)
  rw [hz] at e1
  cases e1
  exact ⟨e2, r⟩
/-- e.f -/
def xattrOk (K : PySem.W.Frag) (cls : Nat → Option Addr) (g : G) (f : Str) : Prop := ∀ c C fs, cls c = some C → g.xfld c = some fs → XfC K C ∧ PySem.W.findIn K (.ref C) f = some none
theorem q_efld {i : Nat} {f : Str} {e : Expr} {pos : Pos} (hz : Y.z = some (a, cv, dd)) (hat : xattrOk Z.K Y.cls g f) (hZ : Zc cv dd oe) (hf : ∃ vs, oe.data = .fields vs) (hb : noSup e = true) (he : PE (Z.suite a ((a, oe) :: pn)) e (tVar i)) :
    PE (Z.suite a ((a, oe) :: pn)) (.Attribute e f pos) (TX Z.K Y g (.efld i f)) := ⟨fun pins s σ H Q I h => by
  obtain ⟨P, m, env, st, sat, hw⟩ := h
  obtain ⟨d, e1, q⟩ := wp_opt (show Wp (M.opt ((env.exc i).bind fun e => match g.xfld e.c with | some _ => e.fs.lookup f | none => none) st) _ _ from hw)
  cases ee : env.exc i with
  | none => rw [ee] at e1; cases e1
  | some ex =>
    rw [ee] at e1
    have e1' : (match g.xfld ex.c with | some _ => ex.fs.lookup f | none => none) = some d := e1
    cases ex1 : g.xfld ex.c with
    | none => rw [ex1] at e1'; cases e1'
    | some fs =>
      rw [ex1] at e1'
      have e1'' : ex.fs.lookup f = some d := e1'
      obtain ⟨es, ⟨⟨C, ec, rfl⟩, hr⟩⟩ := exc_slot hz sat ee
      obtain ⟨t1, t2⟩ := hat ex.c C fs ec ex1
      rcases hr with ⟨_, hr⟩ | ⟨b, fvs, rfl, hx, hl⟩
      · rw [hr] at e1''; cases e1''
      · obtain ⟨v, e3, rv⟩ := hl f d e1''
        refine (pe_xf (cls := .ref C) (d := some b) t1 t2 hZ hf he (base_plain hb)).run pins s σ H Q I ⟨.ref a, es, rfl, rfl, b, fvs, v, rfl, hx, e3, ?_⟩
        exact (show VP Z.K Y (rhoD Z.K) P m H Q d st from q).here sat.st rv
        ⟩
/-- what the classes' numbers stand for in an except clause, in isinstance -/
def subOk (K : PySem.W.Frag) (cls : Nat → Option Addr) (clv : Nat → Value) (g : G) : Prop := ∀ c C c2 b, cls c = some C → g.sub c c2 = some b → ExcC K C ∧ PySem.W.exmOne K (.ref C) (clv c2) = some b ∧ PySem.W.kitOne K (.ref C) (clv c2) = some b
theorem boot_isi : bootBuiltins "isinstance" = some (.builtin "isinstance") := by decide +kernel
theorem q_isE {i c2 : Nat} {clv : Nat → Value} {e : Expr} {x : Str} {w : V} {p p2 pos : Pos} (hz : Y.z = some (a, cv, dd)) (hsub : subOk Z.K Y.cls clv g) (hZ : Zc cv dd oe) (hf : ∃ vs, oe.data = .fields vs) (hs : noStar e = true) (he : PE (Z.suite a ((a, oe) :: pn)) e (tVar i))
    (hgi : Gl Z "isinstance") (hmi : Z.mg "isinstance" = none) (hc : PE (Z.suite a ((a, oe) :: pn)) (.Name x p2) (tC w)) (hw : ∀ u, RelV w u → u = clv c2) :
    PT (Z.suite a ((a, oe) :: pn)) (.Call (.Name "isinstance" p) [e, .Name x p2] [] pos) (TC Z.K Y g (.isE i c2)) := ⟨fun pins s σ H Q I h => by
  obtain ⟨P, m, env, st, sat, hw'⟩ := h
  obtain ⟨b, e1, q⟩ := wp_opt (show Wp (M.opt ((env.exc i).bind fun e => g.sub e.c c2) st) _ _ from hw')
  cases ee : env.exc i with
  | none => rw [ee] at e1; cases e1
  | some ex =>
    rw [ee] at e1
    have e1' : g.sub ex.c c2 = some b := e1
    obtain ⟨es, ⟨⟨C, ec, rfl⟩, hr⟩⟩ := exc_slot hz sat ee
    obtain ⟨h1, h2, h3⟩ := hsub ex.c C c2 b ec e1'
    have h : PE (Z.suite a ((a, oe) :: pn)) (.Call (.Name "isinstance" p) [e, .Name x p2] [] pos) _ := pe_callB (call_isD (d := dd) h1 hZ hf) hgi hmi boot_isi (pa_two hs rfl he hc) (by decide) (by decide) (star_cons hs) rfl
    refine (pt_val h (test_plain rfl)).run pins s σ H Q I ?_
    refine ⟨.ref a, es, w, clv c2, b, rfl, hw, h3, hr.imp And.left fun ⟨b, fvs, e1, e2, _⟩ => ⟨b, fvs, e1, e2⟩, b, rfl, ?_⟩
    exact (show VP Z.K Y (rhoEq (α := Bool)) P m H Q b st from q).here sat.st rfl⟩

/-! ### raise -/
/-- an expression that makes an exception: C's number, its values -/
def TMk (K : PySem.W.Frag) (Y : Rd') (g : G) (C : Addr) (fs : List Str) (xs : XS) : L2.St → Hp → XK → Prop := fun σ H Q => TG K Y (XS.ev g xs) (rhoL K) σ H fun vs H1 => vs.length = fs.length ∧ ∀ d, H1 d = none → Q (.ref C) (some d) (upd H1 d (.xd (fs.zip vs).reverse))
theorem zip_lookup {K : PySem.W.Frag} {P : Addr → Prop} {m : List Addr} {H : Hp} {f : Str} : ∀ {fs : List Str} {ds : List Fx.D} {vs : List V}, fs.Nodup → RelL K P m H ds vs → ds.length = fs.length → ∀ {d : Fx.D}, (fs.zip ds).lookup f = some d → ∃ v, (f, v) ∈ fs.zip vs ∧ Rel K P m H d v
  | [], _, _, _, _, _, d, e => by simp at e
  | _ :: _, [], _, _, _, h, _, _ => by simp at h
  | a :: fs, x :: ds, vs, nd, r, h, d, e => by
    obtain ⟨w, ws, rfl, r1, r2⟩ := r
    rw [List.zip_cons_cons, List.lookup_cons] at e
    by_cases ef : f == a
    · simp only [ef, Option.some.injEq] at e
      subst e
      have : f = a := by simpa using ef
      subst this
      exact ⟨w, by simp, r1⟩
    · have ef' : (f == a) = false := by simpa using ef
      simp only [ef'] at e
      obtain ⟨v, hm, rv⟩ := zip_lookup (List.nodup_cons.mp nd).2 r2 (by simpa using h) e
      exact ⟨v, by rw [List.zip_cons_cons]; exact List.mem_cons_of_mem _ hm, rv⟩
theorem lookup_of_mem {f : Str} {v : V} : ∀ {l : List (Str × V)}, (l.map (·.1)).Nodup → (f, v) ∈ l → l.lookup f = some v
  | [], _, h => by cases h
  | (a, b) :: l, nd, h => by
    rw [List.map_cons, List.nodup_cons] at nd
    rw [List.lookup_cons]
    rcases List.mem_cons.mp h with h | h
    · cases h; simp
    · have : (f == a) = false := by
        refine Bool.eq_false_iff.mpr fun e => nd.1 ?_
        have e' : f = a := by simpa using e
        rw [← e']; exact List.mem_map.mpr ⟨(f, v), h, rfl⟩
      simp only [this]
      exact lookup_of_mem nd.2 h
theorem s_raise {c : Nat} {C : Addr} {fs : List Str} {xs : XS} {e : Expr} {pos : Pos} (hc : Z.calm = true) (tk : Takes Z Y.W) (hC : Y.cls c = some C) (hx : g.xfld c = some fs) (nd : fs.Nodup) (he : PMk Z e (TMk Z.K Y g C fs xs)) : PS Z (.Raise (some e) none pos) (TS1 Z.K Y F g (.raise c xs)) :=
  PS_imp (ps_raise hc tk he) fun D σ H ⟨P, m, env, st, f, sat, hw⟩ => by
  refine eval_in (rho := rhoL Z.K) (k := fun ds s1 => match g.xfld c with
    | some fs => if ds.length = fs.length then .exc ⟨c, fs.zip ds⟩ env s1 else .bad
    | none => .bad) f sat hw fun m1 st1 H1 ds vs s f1 sat1 rx h1 => ?_
  rw [hx] at h1
  have h2 : WpS (if ds.length = fs.length then .exc ⟨c, fs.zip ds⟩ env st1 else .bad) (NP Z.K Y F D P m1 H1) (EPS Z.K Y F P m1 H1) := h1
  by_cases hl : ds.length = fs.length
  · rw [if_pos hl] at h2
    refine ⟨by rw [← relL_length rx]; exact hl, fun d hd => ?_⟩
    have s2 : Step m1 H1 m1 (upd H1 d (.xd (fs.zip vs).reverse)) := Step.laid hd
    refine (show EPS Z.K Y F P m1 H1 ⟨c, fs.zip ds⟩ env st1 from h2) P m1 _ σ _ _ (At.of_step f1 sat1 s2 (sat1.st.laid hd)) ⟨⟨C, hC, rfl⟩, .inr ⟨d, _, rfl, upd_same, fun n dv en => ?_⟩⟩
    obtain ⟨v, hm, rv⟩ := zip_lookup nd rx hl en
    refine ⟨v, lookup_of_mem ?_ (List.mem_reverse.mpr hm), Rel.step s2 dv rv⟩
    have hz : (fs.zip vs).map (·.1) = fs := List.map_fst_zip (by rw [← relL_length rx, hl]; exact Nat.le_refl _)
    rw [List.map_reverse, hz]
    exact List.pairwise_reverse.mpr (nd.imp Ne.symm)
  · rw [if_neg hl] at h2
    exact h2.elim
theorem s_raiseC {c : Nat} {C : Addr} {e : Expr} {pos : Pos} (hc : Z.calm = true) (tk : Takes Z Y.W) (hC : Y.cls c = some C) (he : PMk Z e (fun _ H Q => Q (.ref C) none H)) : PS Z (.Raise (some e) none pos) (TS1 Z.K Y F g (.raiseC c)) :=
  PS_imp (ps_raise hc tk he) fun D σ H ⟨P, m, env, st, f, sat, hw⟩ => by
  have hw' : WpS (if g.xfld c = none then .exc ⟨c, []⟩ env st else .bad) (NP Z.K Y F D P m H) (EPS Z.K Y F P m H) := hw
  by_cases hx : g.xfld c = none
  · rw [if_pos hx] at hw'
    exact (show EPS Z.K Y F P m H ⟨c, []⟩ env st from hw') P m H σ _ _ ⟨f, Mv.refl, sat⟩ ⟨⟨C, hC, rfl⟩, .inl ⟨rfl, rfl⟩⟩
  · rw [if_neg hx] at hw'
    exact hw'.elim

/-! ### try -/
abbrev inZ (Y : Rd') (a : Addr) (cv : Value) (dd : Option Addr) : Rd' := { Y with z := some (a, cv, dd), W := fun _ _ _ _ => False }
theorem noExc_get {env : En} {i : Nat} : (noExc env)[i]? = (env[i]?).map unX := by
  unfold noExc; rw [List.getElem?_map]
theorem noExc_own {env : En} {i : Nat} {ds : List Fx.D} (e : (noExc env)[i]? = some (.own ds)) : env[i]? = some (.own ds) := by
  rw [noExc_get] at e
  cases h : env[i]? with
  | none => rw [h] at e; cases e
  | some l => rw [h] at e; cases l <;> first | (cases e; rfl) | (cases e)
/-- the suite is left: no slot holds the exception -/
theorem Sat.leave {P : Addr → Prop} {m : List Addr} {H : Hp} {env : En} {st : Sto} {σ : L2.St} (sat : Sat Z.K Y.cls (some (a, cv, dd)) P m H env st σ) : Sat Z.K Y.cls none P m H (noExc env) st σ := by
  refine ⟨by unfold noExc; rw [List.length_map]; exact sat.len, fun i l e => ?_, sat.st, sat.hP, fun i j d1 d2 b e1 e2 => sat.un i j d1 d2 b (noExc_own e1) (noExc_own e2)⟩
  rw [noExc_get] at e
  cases h : env[i]? with
  | none => rw [h] at e; cases e
  | some l0 =>
    rw [h] at e
    have r := sat.sl i l0 h
    cases l0 with
    | exc _ => cases e; trivial
    | no => cases e; trivial
    | val _ => cases e; exact r
    | own _ => cases e; exact r
theorem Sat.enter {P : Addr → Prop} {m : List Addr} {H : Hp} {env : En} {st : Sto} {σ : L2.St} (sat : Sat Z.K Y.cls none P m H env st σ) : Sat Z.K Y.cls (some (a, cv, dd)) P m H env st σ :=
  ⟨sat.len, fun i l e => by
    have r := sat.sl i l e
    cases l with
    | exc _ => obtain ⟨_, _, _, h, _⟩ := r; cases h
    | no => trivial
    | val _ => exact r
    | own _ => exact r, sat.st, sat.hP, sat.un⟩
theorem At.leave {P P' : Addr → Prop} {m m' : List Addr} {H H' : Hp} {env' : En} {st' : Sto} {σ' : L2.St} (hz : Y.z = none) (h : At Z.K (inZ Y a cv dd) F P m H env' st' σ' P' m' H') : At Z.K Y F P m H (noExc env') st' σ' P' m' H' :=
  ⟨⟨h.fr.step, h.fr.inc, h.fr.new, fun i ds b e1 e2 => h.fr.own i ds b (noExc_own e1) e2, h.fr.old⟩, h.mv, by rw [hz]; exact Sat.leave h.sat⟩
/-- the suite's slot is taken away behind it -/
theorem At.gone {P P' : Addr → Prop} {m m' : List Addr} {H H' : Hp} {env' : En} {st' : Sto} {σ' : L2.St} (i : Nat) (h : At Z.K Y F P m H env' st' σ' P' m' H') : At Z.K Y F P m H (env'.set i .no) st' (σ'.set i none) P' m' H' :=
  ⟨⟨h.fr.step, h.fr.inc, h.fr.new, fun j ds b e1 e2 => by
    obtain ⟨n, e1⟩ := own_set (l := .no) rfl e1
    rw [List.getElem?_set_ne (Ne.symm n)] at e2
    exact h.fr.own j ds b e1 e2, h.fr.old⟩, h.mv, h.sat.setNo⟩
/-- what a try makes of its body's end -/
theorem try_body {c : Nat} {aw : Option Nat} {b h : SS} {W : WX} {D : Ends} {σ : L2.St} {H : Hp} (hw : TS1 Z.K Y F g (.try1 b c aw h) D σ H)
    (k : ∀ P m env' st' σ' H ex cc dd, g.sub ex.c c = some false → Fr F P m H env' σ' → Sat Z.K Y.cls Y.z P m H env' st' σ' → ExR Z.K Y.cls P m H ex cc dd → Y.W cc dd σ' H → W cc dd σ' H)
    (k2 : ∀ P m env' st' σ' H ex cc dd, g.sub ex.c c = some true → Fr F P m H env' σ' → Sat Z.K Y.cls Y.z P m H env' st' σ' → ExR Z.K Y.cls P m H ex cc dd →
      WpS (suiteR aw (SS.ev g h (asX aw ex env') st')) (NP Z.K Y F D P m H) (EPS Z.K Y F P m H) → W cc dd σ' H) : TSS Z.K { Y with W := W } F g b D σ H := by
  obtain ⟨P, m, env, st, f, sat, hw⟩ := hw
  have hw' : WpS (match SS.ev g b env st with
    | .exc e env' s' => match g.sub e.c c with
      | some true => suiteR aw (SS.ev g h (asX aw e env') s')
      | some false => .exc e env' s'
      | none => .bad
    | .ok f s' => .ok f s'
    | .bad => .bad) (NP Z.K Y F D P m H) (EPS Z.K Y F P m H) := hw
  refine ⟨P, m, env, st, f, sat, ?_⟩
  cases e : SS.ev g b env st with
  | bad => rw [e] at hw'; exact hw'.elim
  | ok fl s' =>
    rw [e] at hw'
    have hn : NP Z.K Y F D P m H fl s' := hw'
    cases fl with
    | nx _ => exact fun P' m' H' σ' a => hn P' m' H' σ' ⟨a.fr, a.mv, a.sat⟩
    | bk _ => exact fun P' m' H' σ' a => hn P' m' H' σ' ⟨a.fr, a.mv, a.sat⟩
    | ct _ => exact fun P' m' H' σ' a => hn P' m' H' σ' ⟨a.fr, a.mv, a.sat⟩
    | rt _ => exact hn
  | exc ex env' s' =>
    rw [e] at hw'
    intro P' m' H' σ' cc dd a r
    have a' : At Z.K Y F P m H env' s' σ' P' m' H' := ⟨a.fr, a.mv, a.sat⟩
    have hw2 : WpS (match g.sub ex.c c with
      | some true => suiteR aw (SS.ev g h (asX aw ex env') s')
      | some false => .exc ex env' s'
      | none => .bad) (NP Z.K Y F D P m H) (EPS Z.K Y F P m H) := hw'
    cases es : g.sub ex.c c with
    | none => rw [es] at hw2; exact hw2.elim
    | some bb =>
      rw [es] at hw2
      cases bb with
      | false => exact k P' m' env' s' σ' H' ex cc dd es a'.fr a'.sat r ((show EPS Z.K Y F P m H ex env' s' from hw2) P' m' H' σ' cc dd a' r)
      | true => exact k2 P' m' env' s' σ' H' ex cc dd es a'.fr a'.sat r (WpS.mv hw2 a'.mv)
theorem s_try_as {x n : Str} {i c : Nat} {clv : Nat → Value} {body suite : List Stmt} {b₀ : Stmt} {b h : SS} {np pos pos' : Pos} (hz : Y.z = none) (hsub : subOk Z.K Y.cls clv g) (hs : Z.stack = Z.env :: Z.outer) (hf : Z.env.frame = some Z.env.locals) (hN : Z.N.Nodup) (hi : Z.N[i]? = some n)
    (hln : Z.env.kindOf n = some .local) (hc : Names Z x (clv c)) (tk : Takes Z Y.W)
    (hb : ∀ (W : WX) (pn : List (Addr × Obj)) (xe : Value → Shared → Prop), Takes (Z.tr pn xe) W → PassesOwn (model Z.prog Z.w) Z.A Z.env xe → PSs (Z.tr pn xe) body (TSS Z.K { Y with W := W } F g b))
    (hsu : ∀ (a : Addr) (oe : Obj) (cls : Value) (d : Option Addr) (pn : List (Addr × Obj)), Zc cls d oe → (∃ vs, oe.data = .fields vs) → PSs (Z.suite a ((a, oe) :: pn)) (b₀ :: suite) (TSS Z.K (inZ Y a cls d) F g h)) :
    PS Z (.Try body [.ExceptHandler (some (.Name x np)) (some n) (b₀ :: suite) pos'] [] [] pos) (TS1 Z.K Y F g (.try1 b c (some i) h)) :=
  PS_imp (ps_try_as hs hf hN hi hln hc tk hb hsu) fun D σ H hw => try_body hw
    (fun P m env' st' σ' H ex cc dd es f sat r w => by
      obtain ⟨⟨C, ec, rfl⟩, hr⟩ := id r
      obtain ⟨_, h2, _⟩ := hsub ex.c C c false ec es
      exact ⟨false, h2, (fun z => nomatch z), fun _ => w⟩)
    (fun P m env' st' σ' H ex cc dd es f sat r w => by
      obtain ⟨⟨C, ec, rfl⟩, hr⟩ := id r
      obtain ⟨_, h2, _⟩ := hsub ex.c C c true ec es
      refine ⟨true, h2, fun _ a ha => ?_, (fun z => nomatch z)⟩
      have sat0 : Sat Z.K Y.cls none P m H env' st' σ' := by rw [← hz]; exact sat
      have sat1 : Sat Z.K Y.cls (some (a, .ref C, dd)) P m H (env'.set i (.exc ex)) st' (σ'.set i (some (.ref a))) := (Sat.enter sat0).setV (l := .exc ex) (o := some (.ref a)) ⟨a, .ref C, dd, rfl, rfl, r⟩ rfl
      have f1 : Fr F P m H (env'.set i (.exc ex)) (σ'.set i (some (.ref a))) := f.stored fun j ds e => by
        obtain ⟨n, e⟩ := own_set (l := .exc ex) rfl e
        exact ⟨e, List.getElem?_set_ne (Ne.symm n)⟩
      refine ⟨P, m, env'.set i (.exc ex), st', f1, sat1, ?_⟩
      have w' : WpS (suiteR (some i) (SS.ev g h (env'.set i (.exc ex)) st')) (NP Z.K Y F D P m H) (EPS Z.K Y F P m H) := w
      cases er : SS.ev g h (env'.set i (.exc ex)) st' with
      | bad => rw [er] at w'; exact w'.elim
      | exc _ _ _ => rw [er] at w'; exact w'.elim
      | ok fl s2 =>
        rw [er] at w'
        cases fl with
        | nx e2 => exact fun P' m' H' σ2 at_ => (show NP Z.K Y F D P m H (.nx ((noExc e2).set i .no)) s2 from w') P' m' H' _ ((At.leave hz at_).gone i)
        | bk e2 => exact fun P' m' H' σ2 at_ => (show NP Z.K Y F D P m H (.bk ((noExc e2).set i .no)) s2 from w') P' m' H' _ ((At.leave hz at_).gone i)
        | ct e2 => exact fun P' m' H' σ2 at_ => (show NP Z.K Y F D P m H (.ct ((noExc e2).set i .no)) s2 from w') P' m' H' _ ((At.leave hz at_).gone i)
        | rt v => exact (show NP Z.K Y F D P m H (.rt v) s2 from w'))
theorem s_try_only {x : Str} {c : Nat} {clv : Nat → Value} {body suite : List Stmt} {b₀ : Stmt} {b h : SS} {np pos pos' : Pos} (hz : Y.z = none) (hsub : subOk Z.K Y.cls clv g) (hs : Z.stack = Z.env :: Z.outer) (hf : Z.env.frame = some Z.env.locals)
    (hc : Names Z x (clv c)) (tk : Takes Z Y.W)
    (hb : ∀ (W : WX) (pn : List (Addr × Obj)) (xe : Value → Shared → Prop), Takes (Z.tr pn xe) W → PassesOwn (model Z.prog Z.w) Z.A Z.env xe → PSs (Z.tr pn xe) body (TSS Z.K { Y with W := W } F g b))
    (hsu : ∀ (a : Addr) (oe : Obj) (cls : Value) (d : Option Addr) (pn : List (Addr × Obj)), Zc cls d oe → (∃ vs, oe.data = .fields vs) → PSs (Z.suite a ((a, oe) :: pn)) (b₀ :: suite) (TSS Z.K (inZ Y a cls d) F g h)) :
    PS Z (.Try body [.ExceptHandler (some (.Name x np)) none (b₀ :: suite) pos'] [] [] pos) (TS1 Z.K Y F g (.try1 b c none h)) :=
  PS_imp (ps_try_only hs hf hc tk hb hsu) fun D σ H hw => try_body hw
    (fun P m env' st' σ' H ex cc dd es f sat r w => by
      obtain ⟨⟨C, ec, rfl⟩, hr⟩ := id r
      obtain ⟨_, h2, _⟩ := hsub ex.c C c false ec es
      exact ⟨false, h2, (fun z => nomatch z), fun _ => w⟩)
    (fun P m env' st' σ' H ex cc dd es f sat r w => by
      obtain ⟨⟨C, ec, rfl⟩, hr⟩ := id r
      obtain ⟨_, h2, _⟩ := hsub ex.c C c true ec es
      refine ⟨true, h2, fun _ a ha => ?_, (fun z => nomatch z)⟩
      have sat0 : Sat Z.K Y.cls none P m H env' st' σ' := by rw [← hz]; exact sat
      refine ⟨P, m, env', st', f, Sat.enter sat0, ?_⟩
      have w' : WpS (suiteR none (SS.ev g h env' st')) (NP Z.K Y F D P m H) (EPS Z.K Y F P m H) := w
      cases er : SS.ev g h env' st' with
      | bad => rw [er] at w'; exact w'.elim
      | exc _ _ _ => rw [er] at w'; exact w'.elim
      | ok fl s2 =>
        rw [er] at w'
        cases fl with
        | nx e2 => exact fun P' m' H' σ2 at_ => (show NP Z.K Y F D P m H (.nx (noExc e2)) s2 from w') P' m' H' _ (At.leave hz at_)
        | bk e2 => exact fun P' m' H' σ2 at_ => (show NP Z.K Y F D P m H (.bk (noExc e2)) s2 from w') P' m' H' _ (At.leave hz at_)
        | ct e2 => exact fun P' m' H' σ2 at_ => (show NP Z.K Y F D P m H (.ct (noExc e2)) s2 from w') P' m' H' _ (At.leave hz at_)
        | rt v => exact (show NP Z.K Y F D P m H (.rt v) s2 from w'))
/-! ### several except clauses, with names or without -/
/-- a clause: its class, its name's slot, its suite -/
structure Cla where
  c : Value
  i : Option Nat
  ts : Addr → Value → Option Addr → L2.TS
/-- behind the suite its name is gone -/
def offD (i : Option Nat) (D : Ends) : Ends := match i with
  | none => D
  | some j => ⟨fun τ J => D.nx (τ.set j none) J, D.rt, fun τ J => D.bk (τ.set j none) J, fun τ J => D.ct (τ.set j none) J⟩
def onS (i : Option Nat) (x : Addr) (τ : L2.St) : L2.St := match i with
  | none => τ
  | some j => τ.set j (some (.ref x))
/-- what the clauses ask of an exception of the body -/
def askW (K : PySem.W.Frag) (W0 : WX) (D : Ends) : List Cla → WX
  | [] => W0
  | q :: l => fun cv dd τ J => ∃ hit, PySem.W.exmOne K cv q.c = some hit ∧ (hit = false → askW K W0 D l cv dd τ J) ∧ (hit = true → ∀ x, J x = none → q.ts x cv dd (offD q.i D) (onS q.i x τ) J)
inductive ClaOk (Z : Cx) : List ExceptHandler → List Cla → Prop
  | nil : ClaOk Z [] []
  | bare {y : Str} {q : Value} {t : Addr → Value → Option Addr → L2.TS} {s0 : Stmt} {ss : List Stmt} {p1 p2 : Pos} {hs : List ExceptHandler} {l : List Cla} (hn : Names Z y q)
      (hq : ∀ (x : Addr) (ox : Obj) (cv : Value) (dd : Option Addr) (pn : List (Addr × Obj)), Zc cv dd ox → (∃ us, ox.data = .fields us) → PSs (Z.suite x ((x, ox) :: pn)) (s0 :: ss) (t x cv dd)) (r : ClaOk Z hs l) :
      ClaOk Z (.ExceptHandler (some (.Name y p1)) none (s0 :: ss) p2 :: hs) (⟨q, none, t⟩ :: l)
  | named {y m : Str} {j : Nat} {q : Value} {t : Addr → Value → Option Addr → L2.TS} {s0 : Stmt} {ss : List Stmt} {p1 p2 : Pos} {hs : List ExceptHandler} {l : List Cla} (hn : Names Z y q) (hm : Z.N[j]? = some m) (hk : Z.env.kindOf m = some .local)
      (hq : ∀ (x : Addr) (ox : Obj) (cv : Value) (dd : Option Addr) (pn : List (Addr × Obj)), Zc cv dd ox → (∃ us, ox.data = .fields us) → PSs (Z.suite x ((x, ox) :: pn)) (s0 :: ss) (t x cv dd)) (r : ClaOk Z hs l) :
      ClaOk Z (.ExceptHandler (some (.Name y p1)) (some m) (s0 :: ss) p2 :: hs) (⟨q, some j, t⟩ :: l)
theorem try_clauses {X : Cx} {body : List Stmt} {hd : ExceptHandler} {tl : List ExceptHandler} {l : List Cla} {pos : Pos} {tb : WX → L2.TS} {W0 : WX} (hst : X.stack = X.env :: X.outer) (hfm : X.env.frame = some X.env.locals) (nd : X.N.Nodup) (tk : Takes X W0)
    (hbody : ∀ (W : WX) (pn : List (Addr × Obj)) (xe : Value → Shared → Prop), Takes (X.tr pn xe) W → PassesOwn (model X.prog X.w) X.A X.env xe → PSs (X.tr pn xe) body (tb W)) (hcl : ClaOk X (hd :: tl) l) :
    PS X (.Try body (hd :: tl) [] [] pos) fun D σ H => tb (askW X.K W0 D l) D σ H := by
  refine ⟨fun pins s σ H D I hw => wpAny_Try_except ?_⟩
  have ok := I.ok
  have hfs : X.A.frames = some (X.env :: X.outer) := by rw [← hst]; exact ok.frames
  refine wpAny_mono ((hbody (askW X.K W0 D l) (X.pn ++ pins) (fun ev s1 => wpAny (model X.prog X.w) X.A (noteFrame ev X.env) (fun _ s2 => wpAny (model X.prog X.w) X.A (setFlight ev none) (fun _ s3 => wpAny (model X.prog X.w) X.A (handleBy ev X.env (hd :: tl)) (SP X pins D) X.xe s3) X.xe s2) X.xe s1) ?_ PassesOwn.looking).run [] s σ H D (I.toTry _) hw) ?_ fun _ _ he => he
  · rintro ev s1 ⟨x, B, sI, pi', τ, J, cv, dd, rfl, I0, nb, up, sky, nx, os, ag, w⟩
    have I1 : Inv X pins τ J sI := I0.ofTry ok
    refine Sky.land Zc.steady hfs hfm (by rw [← hst]; exact sky) fun hp fl u2 => ?_
    have I2 : Inv X pins τ J { s1 with heap := hp } := I1.landed nb fl.1 (up.trans u2) os ag
    obtain ⟨ox, us, hox, hzx, hdx⟩ := fl.there
    have off : x ∉ frs (X.env :: X.outer) := fun hm => by
      obtain ⟨_, o2, e2, no⟩ := fl.2.2.1.mem hm
      rw [hox] at e2; cases e2
      exact no _ hdx
    have off1 : x ≠ X.env.locals := fun e => off (List.mem_filterMap.mpr ⟨X.env, .head _, by rw [hfm, e]⟩)
    have off2 : x ∉ X.fs := fun hm => by
      obtain ⟨e, he, q⟩ := List.mem_filterMap.mp hm
      exact off (List.mem_filterMap.mpr ⟨e, .tail _ he, q⟩)
    have IS := I2.suite hox hdx nx off1 off2
    have tyx : PySem.W.Looks (model X.prog X.w) hp (typeOf (.ref x)) cv := fun A Q E s5 k q => wpAny_typeOf_ref (k _ _ hox) (by rw [hzx.1]; exact q)
    have reads : ∀ {y : Str} {q : Value} {p1 : Pos} {Q E : Value → Shared → Prop}, Names X y q → Q q { s1 with heap := hp } → wpAny (model X.prog X.w) (X.A.mark (some (.ref x))) (eval (.Name y p1) X.env) Q E { s1 with heap := hp } := fun {y q p1 Q E} hn k => by
      obtain ⟨hg, hb, h1 | ⟨h1, h2, h3⟩⟩ := hn
      · exact ld_glob (X := X.suite x ((x, ox) :: (X.pn ++ pins))) IS hg h1 k hb
      · exact ld_blt (X := X.suite x ((x, ox) :: (X.pn ++ pins))) IS hg h1 h2 k h3 hb
    have all : ∀ {hs : List ExceptHandler} {l2 : List Cla}, ClaOk X hs l2 → askW X.K W0 D l2 cv dd τ J → wpAny (model X.prog X.w) X.A (handleBy (.ref x) X.env hs) (SP X pins D) X.xe { s1 with heap := hp } := by
      intro hs l2 hk
      induction hk with
      | nil =>
        intro w
        refine wpAny_handleBy_nil ?_
        obtain ⟨k1, k2, k3, oe, vs, T, oT, tt, he, hz, hd2, h1, hr⟩ := id fl
        unfold PySem.passOn
        refine wpAny_bind (wpAny_field he hd2 h1 ?_)
        rw [if_neg (show ¬ ((Value.ref T == Value.none) = true) from by simp)]
        have last : wpAny (model X.prog X.w) X.A (setFlight (.ref x) X.env.frame) (fun _ s4 => wpAny (model X.prog X.w) X.A (throw (.ref x) : Sem Flow) (SP X pins D) X.xe s4) X.xe { s1 with heap := hp } := by
          rw [hfm]
          exact HandSPX.setFlight_upZ fl fun h4 up4 u4 => wpAny_throw (tk _ _ ⟨x, B, sI, pins, τ, J, cv, dd, rfl, I1, nb, (up.trans u2).trans u4, .inr (.inr (by rw [hst]; exact up4)), nx, os, ag, w⟩)
        first
          | exact wpAny_bind last
          | exact wpAny_bind (wpAny_pure (wpAny_bind last))
      | @bare y q t s0 ss p1 p2 hs l hn hq r ih =>
        rintro ⟨hit, e1, no, yes⟩
        refine wpAny_handleBy_cons (codeAny_handlers_test (reads hn ((PySem.W.exm_one (M := model X.prog X.w) I2.kIn tyx e1).here ?_))) (by intro z; cases z)
        cases hit with
        | false => exact ih (no rfl)
        | true =>
          refine codeAny_handlers_suite (HandSPX.lands_againZ fl fun h4 f4 u4 => ?_)
          obtain ⟨o4, v4, g1, g2, g3⟩ := f4.there
          have I3 : Inv X pins τ J { s1 with heap := h4 } := I1.landed nb f4.1 ((up.trans u2).trans u4) os ag
          have I4 := I3.suite g1 g3 nx off1 off2
          refine wpAny_mono ((hq x o4 cv dd (X.pn ++ pins) g2 ⟨_, g3⟩).run [] _ _ J _ I4 (yes rfl x nx)) ?_ fun _ _ z => z.elim
          rintro (_ | _ | _ | u) s6 k
          · obtain ⟨τ6, J6, I6, q6⟩ := k; exact ⟨_, _, I6.unsuite ok, q6⟩
          · obtain ⟨τ6, J6, I6, q6⟩ := k; exact ⟨_, _, I6.unsuite ok, q6⟩
          · obtain ⟨τ6, J6, I6, q6⟩ := k; exact ⟨_, _, I6.unsuite ok, q6⟩
          · obtain ⟨v6, τ6, J6, I6, r6, q6⟩ := k; exact ⟨_, _, _, I6.unsuite ok, r6, q6⟩
      | @named y m j q t s0 ss p1 p2 hs l hn hm hk hq r ih =>
        rintro ⟨hit, e1, no, yes⟩
        refine wpAny_handleBy_cons (codeAny_handlers_test (reads hn ((PySem.W.exm_one (M := model X.prog X.w) I2.kIn tyx e1).here ?_))) (by intro z; cases z)
        cases hit with
        | false => exact ih (no rfl)
        | true =>
          refine codeAny_handlers_suite_as (HandSPX.lands_againZ fl fun h4 f4 u4 => ?_)
          obtain ⟨o4, v4, g1, g2, g3⟩ := f4.there
          have I3 : Inv X pins τ J { s1 with heap := h4 } := I1.landed nb f4.1 ((up.trans u2).trans u4) os ag
          have I4 := I3.suite g1 g3 nx off1 off2
          refine store_ok (X := X.suite x ((x, o4) :: (X.pn ++ pins))) (v := .ref x) I4 nd hm (.inl hk) rfl (fun s5 I5 => ?_) (.inr hk)
          refine wpAny_mono ((hq x o4 cv dd (X.pn ++ pins) g2 ⟨_, g3⟩).run [] s5 _ J _ I5 (yes rfl x nx)) (fun f s6 k => ?_) fun _ _ z => z.elim
          have bare : ∀ {τ6 : L2.St} {J6 : Hp} {Q : Shared → Prop}, Inv (X.suite x ((x, o4) :: (X.pn ++ pins))) [] τ6 J6 s6 → (∀ s7, Inv X pins (τ6.set j none) J6 s7 → Q s7) → wpAny (model X.prog X.w) X.A (do bindName X.env m .none; unbindBehindTheSuite X.env m p2) (fun _ s7 => Q s7) X.xe s6 := fun I6 hQ => gone_ok (I6.unsuite ok) nd hm hk hQ
          cases f with
          | next => obtain ⟨τ6, J6, I6, q6⟩ := k; exact bare I6 fun s7 I7 => ⟨_, _, I7, q6⟩
          | brk => obtain ⟨τ6, J6, I6, q6⟩ := k; exact bare I6 fun s7 I7 => ⟨_, _, I7, q6⟩
          | cont => obtain ⟨τ6, J6, I6, q6⟩ := k; exact bare I6 fun s7 I7 => ⟨_, _, I7, q6⟩
          | ret u => obtain ⟨v6, τ6, J6, I6, r6, q6⟩ := k; exact bare I6 fun s7 I7 => ⟨_, _, _, I7, r6, q6⟩
    exact all hcl w
  · rintro (_ | _ | _ | u) s1 k
    · obtain ⟨τ, J, I1, q⟩ := k; exact wpAny_execs_nil ⟨τ, J, I1.ofTry ok, q⟩
    · obtain ⟨τ, J, I1, q⟩ := k; exact ⟨τ, J, I1.ofTry ok, q⟩
    · obtain ⟨τ, J, I1, q⟩ := k; exact ⟨τ, J, I1.ofTry ok, q⟩
    · obtain ⟨v, τ, J, I1, r, q⟩ := k; exact ⟨v, τ, J, I1.ofTry ok, r, q⟩
/-- a suite's end, in the language -/
theorem suite_in {aw : Option Nat} {h : SS} {P : Addr → Prop} {m : List Addr} {H : Hp} {env' : En} {st' : Sto} {σ' : L2.St} {ex : Ex} {cv : Value} {dd : Option Addr} {D : Ends} {x : Addr} (hz : Y.z = none) (f : Fr F P m H env' σ') (sat : Sat Z.K Y.cls Y.z P m H env' st' σ') (r : ExR Z.K Y.cls P m H ex cv dd)
    (w : WpS (suiteR aw (SS.ev g h (asX aw ex env') st')) (NP Z.K Y F D P m H) (EPS Z.K Y F P m H)) : TSS Z.K (inZ Y x cv dd) F g h (offD aw D) (onS aw x σ') H := by
  have sat0 : Sat Z.K Y.cls none P m H env' st' σ' := by rw [← hz]; exact sat
  cases aw with
  | none =>
    refine ⟨P, m, env', st', f, Sat.enter sat0, ?_⟩
    have w' : WpS (suiteR none (SS.ev g h env' st')) (NP Z.K Y F D P m H) (EPS Z.K Y F P m H) := w
    cases er : SS.ev g h env' st' with
    | bad => rw [er] at w'; exact w'.elim
    | exc _ _ _ => rw [er] at w'; exact w'.elim
    | ok fl s2 =>
      rw [er] at w'
      cases fl with
      | nx e2 => exact fun P' m' H' σ2 at_ => (show NP Z.K Y F D P m H (.nx (noExc e2)) s2 from w') P' m' H' _ (At.leave hz at_)
      | bk e2 => exact fun P' m' H' σ2 at_ => (show NP Z.K Y F D P m H (.bk (noExc e2)) s2 from w') P' m' H' _ (At.leave hz at_)
      | ct e2 => exact fun P' m' H' σ2 at_ => (show NP Z.K Y F D P m H (.ct (noExc e2)) s2 from w') P' m' H' _ (At.leave hz at_)
      | rt v => exact (show NP Z.K Y F D P m H (.rt v) s2 from w')
  | some i =>
    have sat1 : Sat Z.K Y.cls (some (x, cv, dd)) P m H (env'.set i (.exc ex)) st' (σ'.set i (some (.ref x))) := (Sat.enter sat0).setV (l := .exc ex) (o := some (.ref x)) ⟨x, cv, dd, rfl, rfl, r⟩ rfl
    have f1 : Fr F P m H (env'.set i (.exc ex)) (σ'.set i (some (.ref x))) := f.stored fun j ds e => by
      obtain ⟨n, e⟩ := own_set (l := .exc ex) rfl e
      exact ⟨e, List.getElem?_set_ne (Ne.symm n)⟩
    refine ⟨P, m, env'.set i (.exc ex), st', f1, sat1, ?_⟩
    have w' : WpS (suiteR (some i) (SS.ev g h (env'.set i (.exc ex)) st')) (NP Z.K Y F D P m H) (EPS Z.K Y F P m H) := w
    cases er : SS.ev g h (env'.set i (.exc ex)) st' with
    | bad => rw [er] at w'; exact w'.elim
    | exc _ _ _ => rw [er] at w'; exact w'.elim
    | ok fl s2 =>
      rw [er] at w'
      cases fl with
      | nx e2 => exact fun P' m' H' σ2 at_ => (show NP Z.K Y F D P m H (.nx ((noExc e2).set i .no)) s2 from w') P' m' H' _ ((At.leave hz at_).gone i)
      | bk e2 => exact fun P' m' H' σ2 at_ => (show NP Z.K Y F D P m H (.bk ((noExc e2).set i .no)) s2 from w') P' m' H' _ ((At.leave hz at_).gone i)
      | ct e2 => exact fun P' m' H' σ2 at_ => (show NP Z.K Y F D P m H (.ct ((noExc e2).set i .no)) s2 from w') P' m' H' _ ((At.leave hz at_).gone i)
      | rt v => exact (show NP Z.K Y F D P m H (.rt v) s2 from w')
theorem s_try2 {c1 c2 : Nat} {a1 a2 : Option Nat} {clv : Nat → Value} {body : List Stmt} {hd1 hd2 : ExceptHandler} {b h1 h2 : SS} {pos : Pos} (hz : Y.z = none) (hsub : subOk Z.K Y.cls clv g) (hs : Z.stack = Z.env :: Z.outer) (hf : Z.env.frame = some Z.env.locals) (nd : Z.N.Nodup) (tk : Takes Z Y.W)
    (hb : ∀ (W : WX) (pn : List (Addr × Obj)) (xe : Value → Shared → Prop), Takes (Z.tr pn xe) W → PassesOwn (model Z.prog Z.w) Z.A Z.env xe → PSs (Z.tr pn xe) body (TSS Z.K { Y with W := W } F g b))
    (hcl : ClaOk Z [hd1, hd2] [⟨clv c1, a1, fun x cv dd => TSS Z.K (inZ Y x cv dd) F g h1⟩, ⟨clv c2, a2, fun x cv dd => TSS Z.K (inZ Y x cv dd) F g h2⟩]) :
    PS Z (.Try body [hd1, hd2] [] [] pos) (TS1 Z.K Y F g (.try2 b c1 a1 h1 c2 a2 h2)) :=
  PS_imp (try_clauses hs hf nd tk hb hcl) fun D σ H ⟨P, m, env, st, f, sat, hw⟩ => by
  have hw' : WpS (match SS.ev g b env st with
    | .exc e env' s' => match g.sub e.c c1 with
      | some true => suiteR a1 (SS.ev g h1 (asX a1 e env') s')
      | some false => match g.sub e.c c2 with
        | some true => suiteR a2 (SS.ev g h2 (asX a2 e env') s')
        | some false => .exc e env' s'
        | none => .bad
      | none => .bad
    | .ok f s' => .ok f s'
    | .bad => .bad) (NP Z.K Y F D P m H) (EPS Z.K Y F P m H) := hw
  refine ⟨P, m, env, st, f, sat, ?_⟩
  cases e : SS.ev g b env st with
  | bad => rw [e] at hw'; exact hw'.elim
  | ok fl s' =>
    rw [e] at hw'
    have hn : NP Z.K Y F D P m H fl s' := hw'
    cases fl with
    | nx _ => exact fun P' m' H' σ' a => hn P' m' H' σ' ⟨a.fr, a.mv, a.sat⟩
    | bk _ => exact fun P' m' H' σ' a => hn P' m' H' σ' ⟨a.fr, a.mv, a.sat⟩
    | ct _ => exact fun P' m' H' σ' a => hn P' m' H' σ' ⟨a.fr, a.mv, a.sat⟩
    | rt _ => exact hn
  | exc ex env' s' =>
    rw [e] at hw'
    intro P' m' H' σ' cc dd a r
    have a' : At Z.K Y F P m H env' s' σ' P' m' H' := ⟨a.fr, a.mv, a.sat⟩
    have hw2 : WpS (match g.sub ex.c c1 with
      | some true => suiteR a1 (SS.ev g h1 (asX a1 ex env') s')
      | some false => match g.sub ex.c c2 with
        | some true => suiteR a2 (SS.ev g h2 (asX a2 ex env') s')
        | some false => .exc ex env' s'
        | none => .bad
      | none => .bad) (NP Z.K Y F D P m H) (EPS Z.K Y F P m H) := hw'
    obtain ⟨⟨C, ec, rfl⟩, hr⟩ := id r
    cases es : g.sub ex.c c1 with
    | none => rw [es] at hw2; exact hw2.elim
    | some bb =>
      rw [es] at hw2
      obtain ⟨_, q1, _⟩ := hsub ex.c C c1 bb ec es
      cases bb with
      | true => exact ⟨true, q1, (fun z => nomatch z), fun _ x hx => suite_in hz a'.fr a'.sat r (WpS.mv hw2 a'.mv)⟩
      | false =>
        have hw3 : WpS (match g.sub ex.c c2 with
          | some true => suiteR a2 (SS.ev g h2 (asX a2 ex env') s')
          | some false => .exc ex env' s'
          | none => .bad) (NP Z.K Y F D P m H) (EPS Z.K Y F P m H) := hw2
        refine ⟨false, q1, fun _ => ?_, (fun z => nomatch z)⟩
        cases es2 : g.sub ex.c c2 with
        | none => rw [es2] at hw3; exact hw3.elim
        | some b2 =>
          rw [es2] at hw3
          obtain ⟨_, q2, _⟩ := hsub ex.c C c2 b2 ec es2
          cases b2 with
          | true => exact ⟨true, q2, (fun z => nomatch z), fun _ x hx => suite_in hz a'.fr a'.sat r (WpS.mv hw3 a'.mv)⟩
          | false => exact ⟨false, q2, fun _ => (show EPS Z.K Y F P m H ex env' s' from hw3) P' m' H' σ' _ dd a' r, (fun z => nomatch z)⟩
end
end Fx

set_option Elab.async false
set_option linter.all false
set_option maxRecDepth 100000
set_option maxHeartbeats 4000000
/-! Fx 16: the check of a text against the language: expressions. -/
namespace Fx
open PySem PySem.Spec PyProof.Rows L2

/-- what the module's names stand for -/
structure Tb where
  fn : Str → Option Nat
  nd : Nat → Nat → Bool
  cn : Nat → Nat → Bool
  cl : Str → Option Nat
  ex : Str → Option Nat
  free : Str → Bool
  fld : Str → Bool
  xfl : Str → Bool
  mt : Str → Bool
  rz : Str → Option Nat
  rx : Str → Option Nat
/-- the place of a text -/
structure Sc where
  N : List Str
  sc : Scope
  fn : Str → Bool
  hot : Bool
def okNm (x : Str) : Bool := !(x == ("__debug__" : Str)) && !(x == ("__classdict__" : Str))
def visB (sc : Scope) (x : Str) : Bool := match sc.names.lookup x with
  | some .local | some .cell | some .free => true
  | _ => false
def glB (sc : Scope) (x : Str) : Bool := decide (sc.names.lookup x = some .globalImplicit)
def stoB (S : Sc) (x : Str) : Bool := match S.sc.names.lookup x with
  | some .local => true
  | some .cell => S.fn x
  | _ => false
def litOk : Fx.D → Const → Bool
  | .non, .none => true
  | .bl b, .bool c => b == c
  | .int i, .int j => decide (i = j)
  | .str x, .str y => decide (x = y)
  | _, _ => false
def binOk : Operator → Bool
  | .Add | .Sub | .Mult | .FloorDiv | .Mod | .BitAnd => true
  | _ => false
def isCmp : X → Bool
  | .cmp _ _ _ => true
  | .cmpo _ _ _ => true
  | .chain _ _ _ _ _ => true
  | _ => false
def varB (S : Sc) (i : Nat) : Expr → Bool
  | .Name x _ => decide (S.N[i]? = some x) && visB S.sc x && okNm x
  | _ => false
/-- a comprehension's own names, with their slots -/
def ownOf (N : List Str) (scope : Scope) : List (Str × Nat) := scope.names.filterMap fun y => match y.2 with
  | .local | .cell => (N.idxOf? y.1).map fun i => (y.1, i)
  | _ => none
def inScope (S : Sc) (scope : Scope) : Sc := ⟨S.N, relS scope S.sc, fun x => scope.names.lookup x == some .cell, S.hot⟩
/-- a walk over a list of the store, with numbers or without -/
def chkIO (chk : Expr → Bool) (B : Tb) (S : Sc) (en : Bool) (tg e : Expr) : Bool := match en with
  | false => chk e
  | true => match tg, e with
    | .Tuple _ _ _, .Call (.Name f _) [ea] [] _ => decide (f = ("enumerate" : Str)) && glB S.sc f && B.free f && noStar ea && chk ea
    | _, _ => false
def noOwn : Fx.It → Bool
  | .seq (.own _) => false
  | .enum (.own _) => false
  | _ => true
mutual
def chkX (B : Tb) (S : Sc) : X → Expr → Bool
  | .lit d, e => match e with
    | .Constant c _ _ => litOk d c
    | _ => false
  | .var i, e => varB S i e
  | .con x, e => match e with
    | .Name y _ => decide (x = y) && glB S.sc y && okNm y
    | _ => false
  | .bin op a b, e => match e with
    | .BinOp ea o eb _ => decide (op = o) && binOk o && chkX B S a ea && chkX B S b eb
    | _ => false
  | .neg a, e => match e with
    | .UnaryOp .USub ea _ => chkX B S a ea
    | _ => false
  | .cmp op a b, e => match e with
    | .Compare ea [o] [eb] _ => decide (op = o) && noSet eb && chkL B S a ea && chkL B S b eb
    | _ => false
  | .cmpo op a b, e => match e with
    | .Compare ea [o] [eb] _ => decide (op = o) && noSet eb && chkL B S a ea && chkL B S b eb
    | _ => false
  | .bad, _ => true
  | .trng _ _, _ => false
  | .dnew, _ => false
  | .dhas _ _ _, _ => false
  | .dget _ _, _ => false
  | .b1o b a, e => match e with
    | .Call (.Name x _) [ea] [] _ => decide (b.nm = x) && glB S.sc x && B.free x && (b.free || !S.hot) && noStar ea && chkL B S a ea
    | _ => false
  | .chain o1 o2 a b c, e => match e with
    | .Compare ea [p1, p2] [eb, ec] _ => decide (o1 = p1) && decide (o2 = p2) && noSet ec && chkX B S a ea && chkX B S b eb && chkX B S c ec
    | _ => false
  | .ofC c, e => chkV B S c e
  | .ite c a b, e => match e with
    | .IfExp ec ea eb _ => chkC B S c ec && chkX B S a ea && chkX B S b eb
    | _ => false
  | .tup es, e => match e with
    | .Tuple l _ _ => chkXS B S es l
    | _ => false
  | .fr f, e => chkF B S f e
  | .alloc f, e => chkF B S f e
  | .ix a i, e => match e with
    | .Subscript ea ei _ => noSlice ei && chkL B S a ea && chkX B S i ei
    | _ => false
  | .sl a lo hi, e => match e with
    | .Subscript ea (.Slice l h none _) _ => chkL B S a ea && chkXO B S lo l && chkXO B S hi h
    | _ => false
  | .b1 b a, e => match e with
    | .Call (.Name x _) [ea] [] _ => decide (b.nm = x) && glB S.sc x && B.free x && (b.free || !S.hot) && noStar ea && chkL B S a ea
    | _ => false
  | .b2 b (.x a) c, e => match e with
    | .Call (.Name x _) [ea, ec] [] _ => decide (b.nm = x) && b.two && glB S.sc x && B.free x && !S.hot && noStar ea && noStar ec && chkX B S a ea && chkX B S c ec
    | .Call (.Name x _) [ea] [⟨some k, ec, _⟩] _ => decide (b = .maxD) && decide (x = ("max" : Str)) && decide (k = ("default" : Str)) && glB S.sc x && B.free x && !S.hot && noStar ea && chkX B S a ea && chkX B S c ec
    | _ => false
  | .b2 _ (.own _) _, _ => false
  | .m1 b o a, e => match e with
    | .Call (.Attribute eo m ap) [ea] [] p => (match b with
        | .split => decide (m = ("split" : Str))
        | .join => decide (m = ("join" : Str))
        | _ => false) && noSup eo && noStar ea && (ap.endLine == p.line) && chkX B S o eo && chkL B S a ea
    | _ => false
  | .fld a f, e => match e with
    | .Attribute ea x _ => decide (f = x) && B.fld x && noSup ea && chkX B S a ea
    | _ => false
  | .efld i f, e => match e with
    | .Attribute ea x _ => decide (f = x) && B.xfl x && S.hot && noSup ea && varB S i ea
    | _ => false
  | .call f es nd, e => match e with
    | .Call (.Name x _) l [] _ => decide (B.fn x = some f) && B.nd f nd && !S.hot && glB S.sc x && okNm x && l.all noStar && chkXS B S es l
    | _ => false
  | .callp f es nd, e => match e with
    | .Call (.Name x _) l [] _ => decide (B.fn x = some f) && B.nd f nd && !S.hot && glB S.sc x && okNm x && l.all noStar && !l.isEmpty && chkXS B S es l
    | _ => false
  | .meth nm _ o es, e => match e with
    | .Call (.Attribute eo m ap) l [] p => decide (nm = m) && B.mt m && !S.hot && noSup eo && l.all noStar && (ap.endLine == p.line) && decide (l.length < 29) && chkX B S o eo && chkXS B S es l
    | _ => false
  | .mk c es nd, e => match e with
    | .Call (.Name x _) l [] _ => decide (B.cl x = some c) && B.cn c nd && !S.hot && glB S.sc x && okNm x && l.all noStar && chkXS B S es l
    | _ => false
  | .isT t a, e => match e with
    | .Call (.Name f _) [ea, .Name x _] [] _ => decide (f = ("isinstance" : Str)) && decide (t < 4) && decide (x = tyNm t) && glB S.sc f && B.free f && glB S.sc x && B.free x && noStar ea && chkL B S a ea
    | _ => false
def chkV (B : Tb) (S : Sc) : C → Expr → Bool
  | .x x, e => chkX B S x e
  | .tru _, _ => false
  | .not c, e => match e with
    | .UnaryOp .Not ec _ => chkV B S c ec
    | _ => false
  | .and a b, e => match e with
    | .BoolOp .And (ea :: eb :: r) p => chkV B S a ea && chkV B S b (.BoolOp .And (eb :: r) p)
    | _ => false
  | .or a b, e => match e with
    | .BoolOp .Or (ea :: eb :: r) p => chkV B S a ea && chkV B S b (.BoolOp .Or (eb :: r) p)
    | _ => false
  | .one c, e => match e with
    | .BoolOp _ [ea] _ => chkV B S c ea
    | _ => false
  | .isE _ _, _ => false
def chkC (B : Tb) (S : Sc) : C → Expr → Bool
  | .x x, e => (plainTest e || isCmp x) && chkX B S x e
  | .tru l, e => plainTest e && chkL B S l e
  | .not c, e => match e with
    | .UnaryOp .Not ec _ => chkC B S c ec
    | _ => false
  | .and a b, e => match e with
    | .BoolOp .And (ea :: eb :: r) p => chkC B S a ea && chkW B S b (.BoolOp .And (eb :: r) p)
    | _ => false
  | .or a b, e => match e with
    | .BoolOp .Or (ea :: eb :: r) p => chkC B S a ea && chkW B S b (.BoolOp .Or (eb :: r) p)
    | _ => false
  | .one _, _ => false
  | .isE i c, e => match e with
    | .Call (.Name f _) [ea, .Name x _] [] _ => decide (f = ("isinstance" : Str)) && glB S.sc f && B.free f && S.hot && noStar ea && varB S i ea && decide (B.ex x = some c) && glB S.sc x && okNm x
    | _ => false
/-- the rest of a row of and, or -/
def chkW (B : Tb) (S : Sc) : C → Expr → Bool
  | .x _, _ => false
  | .tru _, _ => false
  | .not _, _ => false
  | .and a b, e => match e with
    | .BoolOp .And (ea :: eb :: r) p => chkC B S a ea && chkW B S b (.BoolOp .And (eb :: r) p)
    | _ => false
  | .or a b, e => match e with
    | .BoolOp .Or (ea :: eb :: r) p => chkC B S a ea && chkW B S b (.BoolOp .Or (eb :: r) p)
    | _ => false
  | .one c, e => match e with
    | .BoolOp _ [ea] _ => chkC B S c ea
    | _ => false
  | .isE _ _, _ => false
def chkL (B : Tb) (S : Sc) : L → Expr → Bool
  | .own i, e => varB S i e
  | .x x, e => chkX B S x e
def chkXS (B : Tb) (S : Sc) : XS → List Expr → Bool
  | .nil, l => l.isEmpty
  | .cons x r, l => match l with
    | e :: l => noStar e && chkX B S x e && chkXS B S r l
    | [] => false
def chkXO (B : Tb) (S : Sc) : XO → Option Expr → Bool
  | .none, o => o.isNone
  | .some x, o => match o with
    | some e => chkX B S x e
    | none => false
def chkF (B : Tb) (S : Sc) : Fx.F → Expr → Bool
  | .disp es, e => match e with
    | .List l _ => chkXS B S es l
    | _ => false
  | .comp t it co x, e => match e with
    | .ListComp elt [⟨tg, iter, ifs, a⟩] scope _ => decide (a = 0) && !S.hot && blkC S.N S.sc scope (ownOf S.N scope) && ((ownOf S.N scope).map (·.2)).all (fun i => decide (i ∈ slT t)) && (slT t).all (fun i => decide (i ∈ (ownOf S.N scope).map (·.2))) && noSet iter &&
        chkIt B S it tg iter && chkT (inScope S scope) t tg && chkCO B (inScope S scope) co ifs && chkX B (inScope S scope) x elt
    | _ => false
  | .comp2 t it co t2 it2 co2 x, e => match e with
    | .ListComp elt [⟨tg, iter, ifs, a⟩, ⟨tg2, iter2, ifs2, a2⟩] scope _ => decide (a = 0) && decide (a2 = 0) && !S.hot && blkC S.N S.sc scope (ownOf S.N scope) && ((ownOf S.N scope).map (·.2)).all (fun i => decide (i ∈ slT t ++ slT t2)) && (slT t ++ slT t2).all (fun i => decide (i ∈ (ownOf S.N scope).map (·.2))) && noSet iter && noSet iter2 && noOwn it2 &&
        chkIt B S it tg iter && chkT (inScope S scope) t tg && chkCO B (inScope S scope) co ifs && chkIt B (inScope S scope) it2 tg2 iter2 && chkT (inScope S scope) t2 tg2 && chkCO B (inScope S scope) co2 ifs2 && chkX B (inScope S scope) x elt
    | _ => false
  | .compO _ _ _ _ _, _ => false
  | .cat a b, e => match e with
    | .BinOp ea .Add eb _ => chkL B S a ea && chkL B S b eb
    | _ => false
  | .sl a lo hi, e => match e with
    | .Subscript ea (.Slice l h none _) _ => chkL B S a ea && chkXO B S lo l && chkXO B S hi h
    | _ => false
  | .sorted _, _ => false
  | .list a, e => match e with
    | .Call (.Name x _) [ea] [] _ => decide (x = ("list" : Str)) && glB S.sc x && B.free x && noStar ea && chkL B S a ea
    | _ => false
  | .rep f n, e => match e with
    | .BinOp ea .Mult eb _ => chkF B S f ea && chkX B S n eb
    | _ => false
def chkCO (B : Tb) (S : Sc) : CO → List Expr → Bool
  | .none, l => l.isEmpty
  | .some c, l => match l with
    | [e] => chkC B S c e
    | _ => false
def chkIt (B : Tb) (S : Sc) : Fx.It → Expr → Expr → Bool
  | .seq (.x x), _, e => chkX B S x e
  | .seq (.own i), _, e => varB S i e
  | .rng1 x, _, e => match e with
    | .Call (.Name f _) [ea] [] _ => decide (f = ("range" : Str)) && glB S.sc f && B.free f && noStar ea && chkX B S x ea
    | _ => false
  | .rng2 x y, _, e => match e with
    | .Call (.Name f _) [ea, eb] [] _ => decide (f = ("range" : Str)) && glB S.sc f && B.free f && noStar ea && noStar eb && chkX B S x ea && chkX B S y eb
    | _ => false
  | .rng3 x y c, _, e => match e with
    | .Call (.Name f _) [ea, eb, .Constant (.int k) _ _] [] _ => decide (f = ("range" : Str)) && decide (k = (c : Int)) && decide (0 < c) && decide (c < 1073741824) && glB S.sc f && B.free f && noStar ea && noStar eb && chkX B S x ea && chkX B S y eb
    | _ => false
  | .rngC x y z, _, e => match e with
    | .Call (.Name f _) [ea, eb, .Name w _] [] _ => decide (f = ("range" : Str)) && decide (z = w) && glB S.sc w && okNm w && glB S.sc f && B.free f && noStar ea && noStar eb && chkX B S x ea && chkX B S y eb
    | _ => false
  | .enum (.x x), tg, e => match tg, e with
    | .Tuple _ _ _, .Call (.Name f _) [ea] [] _ => decide (f = ("enumerate" : Str)) && glB S.sc f && B.free f && noStar ea && chkX B S x ea
    | _, _ => false
  | .enum (.own i), tg, e => match tg, e with
    | .Tuple _ _ _, .Call (.Name f _) [ea] [] _ => decide (f = ("enumerate" : Str)) && glB S.sc f && B.free f && noStar ea && varB S i ea
    | _, _ => false
def chkT (S : Sc) : T → Expr → Bool
  | .name i, e => match e with
    | .Name x _ => decide (S.N[i]? = some x) && stoB S x
    | _ => false
  | .tup ts, e => match e with
    | .Tuple l _ _ => !S.hot && decide (l.length = lenTS ts) && chkTS S ts l
    | _ => false
def chkTS (S : Sc) : Fx.TS → List Expr → Bool
  | .nil, l => l.isEmpty
  | .cons t r, l => match l with
    | e :: l => noStar e && chkT S t e && chkTS S r l
    | [] => false
end
end Fx

set_option Elab.async false
set_option linter.all false
set_option maxRecDepth 100000
set_option maxHeartbeats 4000000
/-! Fx 17: the check is sound: expressions. -/
namespace Fx
open PySem PySem.Spec PyProof.Rows L2

structure Base (B : Tb) (P : Program) (w : World) (K : PySem.W.Frag) (mg : Str → Option Value) (base : Heap) (cls : Nat → Option Addr) (g : G) (clv : Nat → Value) (k : Nat) : Prop where
  fn : ∀ x n nd, B.fn x = some n → B.nd n nd = true → ∃ f fd ps ds dvs, mg x = some (.ref f) ∧ PySem.W.keepIn K (.ref f) = true ∧ FnG P w K mg base k f fd ps (spF K cls (g.call n)) ∧ Binds K fd ps ds ∧ Vals dvs ds ∧ ∀ P m H, RelL K P m H (g.dv n nd) dvs
  cl : ∀ x c nd, B.cl x = some c → B.cn c nd = true → ∃ n C f fd ps ds dvs, cls c = some C ∧ g.init c = some n ∧ Mk K C f ∧ FnG P w K mg base k f fd ps (spF K cls (g.call n)) ∧ mg x = some (.ref C) ∧ Binds K fd ps ds ∧ Vals dvs ds ∧ ∀ P m H, RelL K P m H (g.dv n nd) dvs
  con : ∀ x d, g.con x = some d → ∃ v u, mg x = some u ∧ RelV v u ∧ ∀ P m H, Rel K P m H d v
  free : ∀ x, B.free x = true → mg x = none
  fld : ∀ f, B.fld f = true → attrOk K cls g f
  xfl : ∀ f, B.xfl f = true → xattrOk K cls g f
  mt : ∀ m, B.mt m = true → ∀ c C n, cls c = some C → g.meth c m = some n → Cls K C ∧ ∃ a fd ps, Meth K C m a ∧ FnG P w K mg base k a fd ps (spF K cls (g.call n)) ∧ Binds K fd ps []
  ex : ∀ x c, B.ex x = some c → ∃ v, RelV v (clv c) ∧ (∀ u, RelV v u → u = clv c) ∧ (mg x = some (clv c) ∨ (mg x = none ∧ bootBuiltins x = some (clv c) ∧ x ≠ "__name__"))
  sub : subOk K cls clv g
structure Cok (B : Tb) (S : Sc) (Z : Cx) (Y : Rd') (g : G) (clv : Nat → Value) (k : Nat) : Prop where
  base : Base B Z.prog Z.w Z.K Z.mg Z.base Y.cls g clv k
  nd : Z.N.Nodup
  N : Z.N = S.N
  sc : Z.env.scope = S.sc
  fn : ∀ x, S.fn x = true → Z.fn x = true
  gd : Z.A.guards = some []
  un : Z.A.units + 66 < cLine
  calm : S.hot = false → Z.calm = true ∧ Room (k + 1) Z.A ∧ Takes Z Y.W ∧ Y.z = none
  hot : S.hot = true → ∃ (Z0 : Cx) (a : Addr) (oe : Obj) (cv : Value) (dd : Option Addr) (pn : List (Addr × Obj)), Z = Z0.suite a ((a, oe) :: pn) ∧ Y.z = some (a, cv, dd) ∧ Zc cv dd oe ∧ ∃ vs, oe.data = .fields vs
section
variable {B : Tb} {S : Sc} {Z : Cx} {Y : Rd'} {g : G} {clv : Nat → Value} {k : Nat} {F : Ent}
theorem okNm_ok {x : Str} (h : okNm x = true) : (x == ("__debug__" : Str)) = false ∧ (x == ("__classdict__" : Str)) = false := by
  unfold okNm at h
  rw [Bool.and_eq_true] at h
  exact ⟨by simpa using h.1, by simpa using h.2⟩
theorem visB_ok {sc : Scope} {x : Str} (h : visB sc x = true) : Vis sc x := by
  unfold visB at h
  split at h
  · rename_i e; exact .inl e
  · rename_i e; exact .inr (.inl e)
  · rename_i e; exact .inr (.inr e)
  · cases h
theorem Cok.gl (c : Cok B S Z Y g clv k) {x : Str} (h : glB S.sc x = true) : Gl Z x := by
  unfold glB at h
  show Z.env.scope.names.lookup x = _
  rw [c.sc]
  exact of_decide_eq_true h
theorem Cok.var (c : Cok B S Z Y g clv k) {i : Nat} {e : Expr} (h : varB S i e = true) : PE Z e (tVar i) := by
  unfold varB at h
  split at h
  · rename_i x p
    simp only [Bool.and_eq_true, decide_eq_true_eq] at h
    obtain ⟨⟨h1, h2⟩, h3⟩ := h
    obtain ⟨n1, n2⟩ := okNm_ok h3
    exact pe_var (by rw [c.N]; exact h1) (by rw [c.sc]; exact visB_ok h2) n1 n2
  · cases h
theorem Cok.sto (c : Cok B S Z Y g clv k) {x : Str} (h : stoB S x = true) : Loc Z.env.scope x ∧ (Z.fn x = true ∨ Z.env.scope.names.lookup x = some .local) := by
  unfold stoB at h
  rw [c.sc]
  split at h
  · rename_i e; exact ⟨.inl e, .inr e⟩
  · rename_i e; exact ⟨.inr e, .inl (c.fn x h)⟩
  · cases h
theorem lit_ok {d : Fx.D} {q : Const} {j : Nat} {p : Pos} (h : litOk d q = true) : PE Z (.Constant q j p) (TX Z.K Y g (.lit d)) := by
  cases d <;> cases q <;> first | (cases (show false = true from h)) | skip
  · exact q_const pe_non fun _ _ _ => rfl
  · rename_i b c
    have e : b = c := by simpa [litOk] using h
    subst e
    exact q_const pe_bl fun _ _ _ => rfl
  · rename_i b c
    have e : b = c := by simpa [litOk] using h
    subst e
    exact q_const pe_int fun _ _ _ => rfl
  · rename_i b c
    have e : b = c := by simpa [litOk] using h
    subst e
    exact q_const pe_str fun _ _ _ => rfl
theorem bin_ok {op : Operator} (h : binOk op = true) : op = .Add ∨ op = .Sub ∨ op = .Mult ∨ op = .FloorDiv ∨ op = .Mod ∨ op = .BitAnd := by
  cases op <;> first | (cases (show false = true from h)) | simp
theorem relabel_scope {scope : Scope} {env : Env} {cl : List (Str × Addr)} {C : Addr} : (compEnvC scope cl C env).scope = relS scope env.scope := rfl
theorem Cok.blk (c : Cok B S Z Y g clv k) (hh : S.hot = false) (s : Shared) (H : Hp) (scope : Scope) (C : Addr) (cl : List (Str × Addr)) (fp : List Addr) : Cok B (inScope S scope) (Z.blk s H scope (compEnvC scope cl C Z.env) fp) (calmY Y) g clv k where
  base := c.base
  nd := c.nd
  N := c.N
  sc := by show relS scope Z.env.scope = relS scope S.sc; rw [c.sc]
  fn := fun x h => h
  gd := c.gd
  un := c.un
  calm := fun _ => by
    obtain ⟨h1, h2, h3, h4⟩ := c.calm hh
    exact ⟨h1, h2, fun u s' ⟨_, _, _, _, _, _, _, _, _, _, _, _, _, _, _, _, w⟩ => w.elim, h4⟩
  hot := fun h => by
    have : S.hot = true := h
    rw [hh] at this; cases this
theorem notHot {b : Bool} (h : (!b) = true) : b = false := by simpa using h
theorem pe_name {x : Str} {p : Pos} (c : Cok B S Z Y g clv k) {cn : Nat} (he : B.ex x = some cn) (hg : glB S.sc x = true) (hn : okNm x = true) : ∃ v, (∀ u, RelV v u → u = clv cn) ∧ PE Z (.Name x p) (tC v) := by
  obtain ⟨v, h1, h2, h3⟩ := c.base.ex x cn he
  refine ⟨v, h2, ?_⟩
  rcases h3 with h3 | ⟨h3, h4, h5⟩
  · exact pe_glob (c.gl hg) h3 h1 (okNm_ok hn).1
  · exact pe_bltn (c.gl hg) h3 h4 h1 h5 (okNm_ok hn).1
theorem own_iff {N : List Str} {scope : Scope} {t : T} (h1 : ((ownOf N scope).map (·.2)).all (fun i => decide (i ∈ slT t)) = true) (h2 : (slT t).all (fun i => decide (i ∈ (ownOf N scope).map (·.2))) = true) : ∀ i, i ∈ (ownOf N scope).map (·.2) ↔ i ∈ slT t := fun i =>
  ⟨fun h => of_decide_eq_true (List.all_eq_true.mp h1 i h), fun h => of_decide_eq_true (List.all_eq_true.mp h2 i h)⟩
end

section
variable {B : Tb} {g : G} {clv : Nat → Value} {k : Nat}
mutual
theorem okX : ∀ (x : X) {S : Sc} {Z : Cx} {Y : Rd'} {e : Expr}, Cok B S Z Y g clv k → chkX B S x e = true → PE Z e (TX Z.K Y g x)
  | .lit d, S, Z, Y, e, c, h => by
    simp only [chkX] at h
    split at h
    · exact lit_ok h
    · cases h
  | .var i, S, Z, Y, e, c, h => by
    simp only [chkX] at h
    exact q_var (c.var h)
  | .con x, S, Z, Y, e, c, h => by
    simp only [chkX] at h
    split at h
    · rename_i y p
      simp only [Bool.and_eq_true, decide_eq_true_eq] at h
      obtain ⟨⟨h1, h2⟩, h3⟩ := h
      subst h1
      refine q_con fun d hd => ?_
      obtain ⟨v, u, q1, q2, q3⟩ := c.base.con _ d hd
      exact ⟨v, pe_glob (c.gl h2) q1 q2 (okNm_ok h3).1, q3⟩
    · cases h
  | .bin op a b, S, Z, Y, e, c, h => by
    simp only [chkX] at h
    split at h
    · simp only [Bool.and_eq_true, decide_eq_true_eq] at h
      obtain ⟨⟨⟨h1, h2⟩, h3⟩, h4⟩ := h
      subst h1
      exact q_bin (bin_ok h2) (okX a c h3) (okX b c h4)
    · cases h
  | .neg a, S, Z, Y, e, c, h => by
    simp only [chkX] at h
    split at h
    · exact q_neg (okX a c h)
    · cases h
  | .cmp op a b, S, Z, Y, e, c, h => by
    simp only [chkX] at h
    split at h
    · simp only [Bool.and_eq_true, decide_eq_true_eq] at h
      obtain ⟨⟨⟨h1, h2⟩, h3⟩, h4⟩ := h
      subst h1
      exact q_cmp (by have := c.un; omega) h2 (okL a c h3) (okL b c h4)
    · cases h
  | .cmpo op a b, S, Z, Y, e, c, h => by
    simp only [chkX] at h
    split at h
    · simp only [Bool.and_eq_true, decide_eq_true_eq] at h
      obtain ⟨⟨⟨h1, h2⟩, h3⟩, h4⟩ := h
      subst h1
      exact q_cmpo (by have := c.un; omega) h2 (okL a c h3) (okL b c h4)
    · cases h
  | .bad, S, Z, Y, e, c, h => q_bad
  | .trng _ _, S, Z, Y, e, c, h => by simp only [chkX] at h; cases h
  | .dnew, S, Z, Y, e, c, h => by simp only [chkX] at h; cases h
  | .dhas _ _ _, S, Z, Y, e, c, h => by simp only [chkX] at h; cases h
  | .dget _ _, S, Z, Y, e, c, h => by simp only [chkX] at h; cases h
  | .b1o b a, S, Z, Y, e, c, h => by
    simp only [chkX] at h
    split at h
    · simp only [Bool.and_eq_true, decide_eq_true_eq] at h
      obtain ⟨⟨⟨⟨⟨h1, h2⟩, h3⟩, h4⟩, h5⟩, h6⟩ := h
      subst h1
      have hc : b.free = true ∨ Z.calm = true := by
        rw [Bool.or_eq_true] at h4
        exact h4.imp id fun z => (c.calm (notHot z)).1
      exact q_b1o c.gd c.un hc (c.gl h2) (c.base.free _ h3) h5 (okL a c h6)
    · cases h
  | .chain o1 o2 a b d, S, Z, Y, e, c, h => by
    simp only [chkX] at h
    split at h
    · simp only [Bool.and_eq_true, decide_eq_true_eq] at h
      obtain ⟨⟨⟨⟨⟨h1, h2⟩, h3⟩, h4⟩, h5⟩, h6⟩ := h
      subst h1 h2
      exact q_chain (by have := c.un; omega) h3 (okX a c h4) (okX b c h5) (okX d c h6)
    · cases h
  | .ofC q, S, Z, Y, e, c, h => by
    simp only [chkX] at h
    exact okV q c h
  | .ite q a b, S, Z, Y, e, c, h => by
    simp only [chkX] at h
    split at h
    · simp only [Bool.and_eq_true] at h
      obtain ⟨⟨h1, h2⟩, h3⟩ := h
      exact q_ite (okC q c h1) (okX a c h2) (okX b c h3)
    · cases h
  | .tup es, S, Z, Y, e, c, h => by
    simp only [chkX] at h
    split at h
    · exact q_tup (okXS es c h)
    · cases h
  | .fr f, S, Z, Y, e, c, h => by
    simp only [chkX] at h
    exact q_fr (okF f c h)
  | .alloc f, S, Z, Y, e, c, h => by
    simp only [chkX] at h
    exact q_alloc (okF f c h)
  | .ix a i, S, Z, Y, e, c, h => by
    simp only [chkX] at h
    split at h
    · simp only [Bool.and_eq_true] at h
      obtain ⟨⟨h1, h2⟩, h3⟩ := h
      exact q_ix h1 (okL a c h2) (okX i c h3)
    · cases h
  | .sl a lo hi, S, Z, Y, e, c, h => by
    simp only [chkX] at h
    split at h
    · simp only [Bool.and_eq_true] at h
      obtain ⟨⟨h1, h2⟩, h3⟩ := h
      exact q_sl (okL a c h1) (okXO lo c h2) (okXO hi c h3)
    · cases h
  | .b1 b a, S, Z, Y, e, c, h => by
    simp only [chkX] at h
    split at h
    · simp only [Bool.and_eq_true, decide_eq_true_eq] at h
      obtain ⟨⟨⟨⟨⟨h1, h2⟩, h3⟩, h4⟩, h5⟩, h6⟩ := h
      subst h1
      have hc : b.free = true ∨ Z.calm = true := by
        rw [Bool.or_eq_true] at h4
        exact h4.imp id fun z => (c.calm (notHot z)).1
      exact q_b1 c.gd c.un hc (c.gl h2) (c.base.free _ h3) h5 (okL a c h6)
    · cases h
  | .b2 b (.x a) d, S, Z, Y, e, c, h => by
    simp only [chkX] at h
    split at h
    · simp only [Bool.and_eq_true, decide_eq_true_eq] at h
      obtain ⟨⟨⟨⟨⟨⟨⟨⟨h1, h2⟩, h3⟩, h4⟩, h5⟩, h6⟩, h7⟩, h8⟩, h9⟩ := h
      subst h1
      exact q_b2 h2 c.un (c.calm (notHot h5)).1 (c.gl h3) (c.base.free _ h4) h6 h7 (okX a c h8) (okX d c h9)
    · simp only [Bool.and_eq_true, decide_eq_true_eq] at h
      obtain ⟨⟨⟨⟨⟨⟨⟨⟨h1, h2⟩, h3⟩, h4⟩, h5⟩, h6⟩, h7⟩, h8⟩, h9⟩ := h
      subst h1 h2 h3
      exact q_maxD c.un (c.calm (notHot h6)).1 (c.gl h4) (c.base.free _ h5) h7 (okX a c h8) (okX d c h9)
    · cases h
  | .b2 _ (.own _) _, S, Z, Y, e, c, h => by
    simp only [chkX] at h
    cases h
  | .m1 b o a, S, Z, Y, e, c, h => by
    simp only [chkX] at h
    split at h
    · simp only [Bool.and_eq_true] at h
      obtain ⟨⟨⟨⟨⟨h1, h2⟩, h3⟩, h4⟩, h5⟩, h6⟩ := h
      cases b with
      | split => have e1 := of_decide_eq_true h1; subst e1; exact q_split h2 h3 h4 (okX o c h5) (okL a c h6)
      | join => have e1 := of_decide_eq_true h1; subst e1; exact q_join h2 h3 h4 (okX o c h5) (okL a c h6)
      | _ => cases h1
    · cases h
  | .fld a f, S, Z, Y, e, c, h => by
    simp only [chkX] at h
    split at h
    · simp only [Bool.and_eq_true, decide_eq_true_eq] at h
      obtain ⟨⟨⟨h1, h2⟩, h3⟩, h4⟩ := h
      subst h1
      exact q_fld (c.base.fld _ h2) h3 (okX a c h4)
    · cases h
  | .efld i f, S, Z, Y, e, c, h => by
    simp only [chkX] at h
    split at h
    · simp only [Bool.and_eq_true, decide_eq_true_eq] at h
      obtain ⟨⟨⟨⟨h1, h2⟩, h3⟩, h4⟩, h5⟩ := h
      subst h1
      have hv := c.var h5
      obtain ⟨Z0, a, oe, cv, dd, pn, rfl, hz, hZ, hf⟩ := c.hot h3
      exact q_efld (Z := Z0) hz (c.base.xfl _ h2) hZ hf h4 hv
    · cases h
  | .call f es nd, S, Z, Y, e, c, h => by
    simp only [chkX] at h
    split at h
    · rename_i x p l pos
      simp only [Bool.and_eq_true, decide_eq_true_eq] at h
      obtain ⟨⟨⟨⟨⟨⟨h1, h2⟩, h3⟩, h4⟩, h5⟩, h6⟩, h7⟩ := h
      obtain ⟨fa, fd, ps, ds, dvs, q1, q2, q3, q4, q5, q6⟩ := c.base.fn x f nd h1 h2
      obtain ⟨k1, k2, k3, k4⟩ := c.calm (notHot h3)
      cases l with
      | nil =>
        cases es with
        | nil => exact q_call0 q3 (k2.mono (Nat.le_succ k)) c.gd (c.gl h4) q1 q2 q4 q5 q6 k3 (okNm_ok h5).1
        | cons _ _ => simp only [chkXS] at h7; cases h7
      | cons e0 l => exact q_call q3 (k2.mono (Nat.le_succ k)) c.gd (c.gl h4) q1 q2 q4 q5 q6 k3 h6 (okXS es c h7) (okNm_ok h5).1
    · cases h
  | .callp f es nd, S, Z, Y, e, c, h => by
    simp only [chkX] at h
    split at h
    · rename_i x p l pos
      simp only [Bool.and_eq_true, decide_eq_true_eq] at h
      obtain ⟨⟨⟨⟨⟨⟨⟨h1, h2⟩, h3⟩, h4⟩, h5⟩, h6⟩, h8⟩, h7⟩ := h
      obtain ⟨fa, fd, ps, ds, dvs, q1, q2, q3, q4, q5, q6⟩ := c.base.fn x f nd h1 h2
      obtain ⟨k1, k2, k3, k4⟩ := c.calm (notHot h3)
      cases l with
      | nil => cases h8
      | cons e0 l => exact q_callp q3 (k2.mono (Nat.le_succ k)) c.gd (c.gl h4) q1 q2 q4 q5 q6 k3 h6 (okXS es c h7) (okNm_ok h5).1
    · cases h
  | .meth nm n o es, S, Z, Y, e, c, h => by
    simp only [chkX] at h
    split at h
    · rename_i eo m ap l p
      simp only [Bool.and_eq_true, decide_eq_true_eq] at h
      obtain ⟨⟨⟨⟨⟨⟨⟨⟨h1, h2⟩, h3⟩, h4⟩, h5⟩, h6⟩, h7⟩, h8⟩, h9⟩ := h
      subst h1
      obtain ⟨k1, k2, k3, k4⟩ := c.calm (notHot h3)
      have hm : methOk Z Y.cls g k nm := c.base.mt nm h2
      cases l with
      | nil =>
        cases es with
        | nil => exact q_meth0 hm (k2.mono (Nat.le_succ k)) c.gd k3 (okX o c h8) h4 h6
        | cons _ _ => simp only [chkXS] at h9; cases h9
      | cons e0 l => exact q_meth hm (k2.mono (Nat.le_succ k)) c.gd k3 (okX o c h8) h4 h5 h6 h7 (okXS es c h9)
    · cases h
  | .mk cn es nd, S, Z, Y, e, c, h => by
    simp only [chkX] at h
    split at h
    · rename_i x p l pos
      simp only [Bool.and_eq_true, decide_eq_true_eq] at h
      obtain ⟨⟨⟨⟨⟨⟨h1, h2⟩, h3⟩, h4⟩, h5⟩, h6⟩, h7⟩ := h
      obtain ⟨n, C, fa, fd, ps, ds, dvs, q1, q2, q3, q4, q5, q6, q7, q8⟩ := c.base.cl x cn nd h1 h2
      obtain ⟨k1, k2, k3, k4⟩ := c.calm (notHot h3)
      cases l with
      | nil =>
        cases es with
        | nil => exact q_mk0 q1 q2 q3 q4 k2 c.gd (c.gl h4) q5 q6 q7 q8 k3 (okNm_ok h5).1
        | cons _ _ => simp only [chkXS] at h7; cases h7
      | cons e0 l => exact q_mk q1 q2 q3 q4 k2 c.gd (c.gl h4) q5 q6 q7 q8 k3 h6 (okXS es c h7) (okNm_ok h5).1
    · cases h
  | .isT t a, S, Z, Y, e, c, h => by
    simp only [chkX] at h
    split at h
    · simp only [Bool.and_eq_true, decide_eq_true_eq] at h
      obtain ⟨⟨⟨⟨⟨⟨⟨⟨h1, h2⟩, h3⟩, h4⟩, h5⟩, h6⟩, h7⟩, h8⟩, h9⟩ := h
      subst h1 h3
      exact q_isT h2 h8 (okL a c h9) (c.gl h4) (c.base.free _ h5) (c.gl h6) (c.base.free _ h7)
    · cases h
theorem okV : ∀ (x : C) {S : Sc} {Z : Cx} {Y : Rd'} {e : Expr}, Cok B S Z Y g clv k → chkV B S x e = true → PE Z e (TX Z.K Y g (.ofC x))
  | .x x, S, Z, Y, e, c, h => by
    simp only [chkV] at h
    exact q_vX (okX x c h)
  | .tru _, S, Z, Y, e, c, h => by simp only [chkV] at h; cases h
  | .isE _ _, S, Z, Y, e, c, h => by simp only [chkV] at h; cases h
  | .not q, S, Z, Y, e, c, h => by
    simp only [chkV] at h
    split at h
    · exact q_vNot (okV q c h)
    · cases h
  | .and a b, S, Z, Y, e, c, h => by
    simp only [chkV] at h
    split at h
    · rw [Bool.and_eq_true] at h
      exact q_vAnd (okV a c h.1) (okV b c h.2)
    · cases h
  | .or a b, S, Z, Y, e, c, h => by
    simp only [chkV] at h
    split at h
    · rw [Bool.and_eq_true] at h
      exact q_vOr (okV a c h.1) (okV b c h.2)
    · cases h
  | .one q, S, Z, Y, e, c, h => by
    simp only [chkV] at h
    split at h
    · exact q_vOne (okV q c h)
    · cases h
theorem okC : ∀ (x : C) {S : Sc} {Z : Cx} {Y : Rd'} {e : Expr}, Cok B S Z Y g clv k → chkC B S x e = true → PT Z e (TC Z.K Y g x)
  | .x x, S, Z, Y, e, c, h => by
    simp only [chkC] at h
    rw [Bool.and_eq_true, Bool.or_eq_true] at h
    obtain ⟨h1, h2⟩ := h
    rcases h1 with h1 | h1
    · exact q_testX h1 (okX x c h2)
    · cases x <;> first | (cases (show false = true from h1)) | skip
      · rename_i op a b
        simp only [chkX] at h2
        split at h2
        · simp only [Bool.and_eq_true, decide_eq_true_eq] at h2
          obtain ⟨⟨⟨h3, h4⟩, h5⟩, h6⟩ := h2
          subst h3
          exact q_cmpT (by have := c.un; omega) h4 (okL a c h5) (okL b c h6)
        · cases h2
      · rename_i op a b
        simp only [chkX] at h2
        split at h2
        · simp only [Bool.and_eq_true, decide_eq_true_eq] at h2
          obtain ⟨⟨⟨h3, h4⟩, h5⟩, h6⟩ := h2
          subst h3
          exact q_cmpoT (by have := c.un; omega) h4 (okL a c h5) (okL b c h6)
        · cases h2
      · rename_i o1 o2 a b d
        simp only [chkX] at h2
        split at h2
        · simp only [Bool.and_eq_true, decide_eq_true_eq] at h2
          obtain ⟨⟨⟨⟨⟨h3, h4⟩, h5⟩, h6⟩, h7⟩, h8⟩ := h2
          subst h3 h4
          exact q_chainT (by have := c.un; omega) h5 (okX a c h6) (okX b c h7) (okX d c h8)
        · cases h2
  | .tru l, S, Z, Y, e, c, h => by
    simp only [chkC] at h
    rw [Bool.and_eq_true] at h
    exact q_tru h.1 (okL l c h.2)
  | .not q, S, Z, Y, e, c, h => by
    simp only [chkC] at h
    split at h
    · exact q_notT (okC q c h)
    · cases h
  | .and a b, S, Z, Y, e, c, h => by
    simp only [chkC] at h
    split at h
    · rw [Bool.and_eq_true] at h
      exact (q_and (okC a c h.1) (okW b c h.2)).pt
    · cases h
  | .or a b, S, Z, Y, e, c, h => by
    simp only [chkC] at h
    split at h
    · rw [Bool.and_eq_true] at h
      exact (q_or (okC a c h.1) (okW b c h.2)).pt
    · cases h
  | .one _, S, Z, Y, e, c, h => by simp only [chkC] at h; cases h
  | .isE i cn, S, Z, Y, e, c, h => by
    simp only [chkC] at h
    split at h
    · simp only [Bool.and_eq_true, decide_eq_true_eq] at h
      obtain ⟨⟨⟨⟨⟨⟨⟨⟨h1, h2⟩, h3⟩, h4⟩, h5⟩, h6⟩, h7⟩, h8⟩, h9⟩ := h
      subst h1
      have hv := c.var h6
      obtain ⟨v, hw, hn⟩ := pe_name c h7 h8 h9
      have hg := c.gl h2
      obtain ⟨Z0, a, oe, cv, dd, pn, rfl, hz, hZ, hf⟩ := c.hot h4
      exact q_isE (Z := Z0) hz c.base.sub hZ hf h5 hv hg (c.base.free _ h3) hn hw
    · cases h
theorem okW : ∀ (x : C) {S : Sc} {Z : Cx} {Y : Rd'} {e : Expr}, Cok B S Z Y g clv k → chkW B S x e = true → PW Z e (TC Z.K Y g x)
  | .x _, S, Z, Y, e, c, h => by simp only [chkW] at h; cases h
  | .tru _, S, Z, Y, e, c, h => by simp only [chkW] at h; cases h
  | .not _, S, Z, Y, e, c, h => by simp only [chkW] at h; cases h
  | .isE _ _, S, Z, Y, e, c, h => by simp only [chkW] at h; cases h
  | .and a b, S, Z, Y, e, c, h => by
    simp only [chkW] at h
    split at h
    · rw [Bool.and_eq_true] at h
      exact q_and (okC a c h.1) (okW b c h.2)
    · cases h
  | .or a b, S, Z, Y, e, c, h => by
    simp only [chkW] at h
    split at h
    · rw [Bool.and_eq_true] at h
      exact q_or (okC a c h.1) (okW b c h.2)
    · cases h
  | .one q, S, Z, Y, e, c, h => by
    simp only [chkW] at h
    split at h
    · exact q_oneC (okC q c h)
    · cases h
theorem okL : ∀ (x : L) {S : Sc} {Z : Cx} {Y : Rd'} {e : Expr}, Cok B S Z Y g clv k → chkL B S x e = true → PE Z e (TL Z.K Y g x)
  | .own i, S, Z, Y, e, c, h => by
    simp only [chkL] at h
    exact q_own (c.var h)
  | .x x, S, Z, Y, e, c, h => by
    simp only [chkL] at h
    exact q_lx (okX x c h)
theorem okXS : ∀ (x : XS) {S : Sc} {Z : Cx} {Y : Rd'} {e : List Expr}, Cok B S Z Y g clv k → chkXS B S x e = true → PA Z e (TXS Z.K Y g x)
  | .nil, S, Z, Y, e, c, h => by
    simp only [chkXS] at h
    cases e with
    | nil => exact q_nil
    | cons _ _ => cases h
  | .cons x r, S, Z, Y, e, c, h => by
    simp only [chkXS] at h
    split at h
    · simp only [Bool.and_eq_true] at h
      exact q_cons h.1.1 (okX x c h.1.2) (okXS r c h.2)
    · cases h
theorem okXO : ∀ (x : XO) {S : Sc} {Z : Cx} {Y : Rd'} {e : Option Expr}, Cok B S Z Y g clv k → chkXO B S x e = true → PO Z e (TXO Z.K Y g x)
  | .none, S, Z, Y, e, c, h => by
    simp only [chkXO] at h
    cases e with
    | none => exact q_onone
    | some _ => cases h
  | .some x, S, Z, Y, e, c, h => by
    simp only [chkXO] at h
    split at h
    · exact q_osome (okX x c h)
    · cases h
theorem okF : ∀ (x : Fx.F) {S : Sc} {Z : Cx} {Y : Rd'} {e : Expr}, Cok B S Z Y g clv k → chkF B S x e = true → PE Z e (TFn Z.K Y g x)
  | .disp es, S, Z, Y, e, c, h => by
    simp only [chkF] at h
    split at h
    · exact q_disp (okXS es c h)
    · cases h
  | .comp t it co x, S, Z, Y, e, c, h => by
    simp only [chkF] at h
    split at h
    · rename_i elt tg iter ifs a scope p
      simp only [Bool.and_eq_true] at h
      obtain ⟨⟨⟨⟨⟨⟨⟨⟨⟨h0, h1⟩, h2⟩, h3⟩, h4⟩, h5⟩, h6⟩, h7⟩, h8⟩, h9⟩ := h
      have h0' : a = 0 := of_decide_eq_true h0
      subst h0'
      have hh := notHot h1
      obtain ⟨k1, _⟩ := c.calm hh
      exact q_comp k1 c.nd (okIt it c h6).1 (by rw [c.N, c.sc]; exact blkOk_by h2) (own_iff h3 h4) (fun s H C cl fp => okT (Y := calmY Y) t (c.blk hh s H scope C cl fp) h7) (fun s H C cl fp => okCO co (c.blk hh s H scope C cl fp) h8)
        (fun s H C cl fp => okX x (c.blk hh s H scope C cl fp) h9) h5
    · cases h
  | .comp2 t it co t2 it2 co2 x, S, Z, Y, e, c, h => by
    simp only [chkF] at h
    split at h
    · rename_i elt tg iter ifs a tg2 iter2 ifs2 a2 scope p
      simp only [Bool.and_eq_true] at h
      obtain ⟨⟨⟨⟨⟨⟨⟨⟨⟨⟨⟨⟨⟨⟨⟨h0, h0b⟩, h1⟩, h2⟩, h3⟩, h4⟩, h5⟩, h5b⟩, h5c⟩, h6⟩, h7⟩, h8⟩, h9⟩, h10⟩, h11⟩, h12⟩ := h
      have h0' : a = 0 := of_decide_eq_true h0
      have h0b' : a2 = 0 := of_decide_eq_true h0b
      subst h0' h0b'
      have hh := notHot h1
      obtain ⟨k1, _⟩ := c.calm hh
      exact q_comp2 k1 c.nd (okIt it c h6).1 (by rw [c.N, c.sc]; exact blkOk_by h2)
        (fun i => ⟨fun h => of_decide_eq_true (List.all_eq_true.mp h3 i h), fun h => of_decide_eq_true (List.all_eq_true.mp h4 i h)⟩)
        (fun s H C cl fp => okT (Y := calmY Y) t (c.blk hh s H scope C cl fp) h7) (fun s H C cl fp => okCO co (c.blk hh s H scope C cl fp) h8)
        (fun s H C cl fp => (okIt it2 (c.blk hh s H scope C cl fp) h9).2 h5c) (fun s H C cl fp => okT (Y := calmY Y) t2 (c.blk hh s H scope C cl fp) h10) (fun s H C cl fp => okCO co2 (c.blk hh s H scope C cl fp) h11)
        (fun s H C cl fp => okX x (c.blk hh s H scope C cl fp) h12) h5 h5b
    · cases h
  | .compO _ _ _ _ _, S, Z, Y, e, c, h => by simp only [chkF] at h; cases h
  | .cat a b, S, Z, Y, e, c, h => by
    simp only [chkF] at h
    split at h
    · rw [Bool.and_eq_true] at h
      exact q_catF (okL a c h.1) (okL b c h.2)
    · cases h
  | .sl a lo hi, S, Z, Y, e, c, h => by
    simp only [chkF] at h
    split at h
    · simp only [Bool.and_eq_true] at h
      exact q_slF (okL a c h.1.1) (okXO lo c h.1.2) (okXO hi c h.2)
    · cases h
  | .sorted _, S, Z, Y, e, c, h => by simp only [chkF] at h; cases h
  | .list a, S, Z, Y, e, c, h => by
    simp only [chkF] at h
    split at h
    · simp only [Bool.and_eq_true, decide_eq_true_eq] at h
      obtain ⟨⟨⟨⟨h1, h2⟩, h3⟩, h4⟩, h5⟩ := h
      subst h1
      exact q_listF (c.gl h2) (c.base.free _ h3) h4 (okL a c h5)
    · cases h
  | .rep f n, S, Z, Y, e, c, h => by
    simp only [chkF] at h
    split at h
    · rw [Bool.and_eq_true] at h
      exact q_rep (okF f c h.1) (okX n c h.2)
    · cases h
theorem okCO : ∀ (x : CO) {S : Sc} {Z : Cx} {Y : Rd'} {e : List Expr}, Cok B S Z Y g clv k → chkCO B S x e = true → PTs Z e (TCO Z.K Y g x)
  | .none, S, Z, Y, e, c, h => by
    simp only [chkCO] at h
    cases e with
    | nil => exact q_cnone
    | cons _ _ => cases h
  | .some q, S, Z, Y, e, c, h => by
    simp only [chkCO] at h
    split at h
    · exact q_csome (okC q c h)
    · cases h
theorem okIt : ∀ (x : Fx.It) {S : Sc} {Z : Cx} {Y : Rd'} {tg e : Expr}, Cok B S Z Y g clv k → chkIt B S x tg e = true → PI Z tg e (TIt Z.K Y g okS x) ∧ (noOwn x = true → PI Z tg e (TIt Z.K Y g okM x))
  | .seq (.x x), S, Z, Y, tg, e, c, h => by
    simp only [chkIt] at h
    have q := q_iseq (tg := tg) (okX x c h)
    exact ⟨TIt.weak (e := e) q, fun _ => q⟩
  | .seq (.own i), S, Z, Y, tg, e, c, h => by
    simp only [chkIt] at h
    exact ⟨q_iown (q_own (c.var h)), fun z => by cases z⟩
  | .rng1 x, S, Z, Y, tg, e, c, h => by
    simp only [chkIt] at h
    split at h
    · simp only [Bool.and_eq_true, decide_eq_true_eq] at h
      obtain ⟨⟨⟨⟨h1, h2⟩, h3⟩, h4⟩, h5⟩ := h
      subst h1
      exact ⟨TIt.weak (q_irange1 (tg := tg) (c.gl h2) (c.base.free _ h3) h4 (okX x c h5)), fun _ => q_irange1 (tg := tg) (c.gl h2) (c.base.free _ h3) h4 (okX x c h5)⟩
    · cases h
  | .rng2 x y, S, Z, Y, tg, e, c, h => by
    simp only [chkIt] at h
    split at h
    · simp only [Bool.and_eq_true, decide_eq_true_eq] at h
      obtain ⟨⟨⟨⟨⟨⟨h1, h2⟩, h3⟩, h4⟩, h5⟩, h6⟩, h7⟩ := h
      subst h1
      exact ⟨TIt.weak (q_irange2 (tg := tg) (c.gl h2) (c.base.free _ h3) h4 h5 (okX x c h6) (okX y c h7)), fun _ => q_irange2 (tg := tg) (c.gl h2) (c.base.free _ h3) h4 h5 (okX x c h6) (okX y c h7)⟩
    · cases h
  | .rng3 x y n, S, Z, Y, tg, e, c, h => by
    simp only [chkIt] at h
    split at h
    · simp only [Bool.and_eq_true, decide_eq_true_eq] at h
      obtain ⟨⟨⟨⟨⟨⟨⟨⟨⟨h1, h1b⟩, h1c⟩, h1d⟩, h2⟩, h3⟩, h4⟩, h5⟩, h6⟩, h7⟩ := h
      subst h1 h1b
      exact ⟨TIt.weak (q_irange3 (tg := tg) h1c h1d (c.gl h2) (c.base.free _ h3) h4 h5 rfl (okX x c h6) (okX y c h7) pe_int), fun _ => q_irange3 (tg := tg) h1c h1d (c.gl h2) (c.base.free _ h3) h4 h5 rfl (okX x c h6) (okX y c h7) pe_int⟩
    · cases h
  | .rngC x y n, S, Z, Y, tg, e, c, h => by
    simp only [chkIt] at h
    split at h
    · simp only [Bool.and_eq_true, decide_eq_true_eq] at h
      obtain ⟨⟨⟨⟨⟨⟨⟨⟨⟨h1, h1b⟩, h1c⟩, h1d⟩, h2⟩, h3⟩, h4⟩, h5⟩, h6⟩, h7⟩ := h
      subst h1 h1b
      have hk : ∀ (i : Int) (q : Pos), g.con n = some (.int i) → PE Z (.Name n q) (tC (.int i)) := fun i q hi => by
        obtain ⟨v, u, q1, q2, q3⟩ := c.base.con _ _ hi
        have e : v = .int i := q3 (fun _ => True) [] (fun _ => none)
        rw [← e]
        exact pe_glob (c.gl h1c) q1 q2 (okNm_ok h1d).1
      exact ⟨TIt.weak (q_irangeC (tg := tg) (c.gl h2) (c.base.free _ h3) h4 h5 rfl (okX x c h6) (okX y c h7) fun i hi => hk i _ hi), fun _ => q_irangeC (tg := tg) (c.gl h2) (c.base.free _ h3) h4 h5 rfl (okX x c h6) (okX y c h7) fun i hi => hk i _ hi⟩
    · cases h
  | .enum (.x x), S, Z, Y, tg, e, c, h => by
    simp only [chkIt] at h
    split at h
    · simp only [Bool.and_eq_true, decide_eq_true_eq] at h
      obtain ⟨⟨⟨⟨h1, h2⟩, h3⟩, h4⟩, h5⟩ := h
      subst h1
      exact ⟨TIt.weak (q_ienum (c.gl h2) (c.base.free _ h3) h4 (okX x c h5)), fun _ => q_ienum (c.gl h2) (c.base.free _ h3) h4 (okX x c h5)⟩
    · cases h
  | .enum (.own i), S, Z, Y, tg, e, c, h => by
    simp only [chkIt] at h
    split at h
    · simp only [Bool.and_eq_true, decide_eq_true_eq] at h
      obtain ⟨⟨⟨⟨h1, h2⟩, h3⟩, h4⟩, h5⟩ := h
      subst h1
      exact ⟨q_ienumO (c.gl h2) (c.base.free _ h3) h4 (q_own (c.var h5)), fun z => by cases z⟩
    · cases h
theorem okT : ∀ (x : T) {S : Sc} {Z : Cx} {Y : Rd'} {e : Expr}, Cok B S Z Y g clv k → chkT S x e = true → PG Z e (TGt Z.K Y x)
  | .name i, S, Z, Y, e, c, h => by
    simp only [chkT] at h
    split at h
    · simp only [Bool.and_eq_true, decide_eq_true_eq] at h
      obtain ⟨q1, q2⟩ := c.sto h.2
      exact q_tname (pg_name c.nd (by rw [c.N]; exact h.1) q1 q2)
    · cases h
  | .tup ts, S, Z, Y, e, c, h => by
    simp only [chkT] at h
    split at h
    · simp only [Bool.and_eq_true, decide_eq_true_eq] at h
      obtain ⟨q1, q2⟩ := okTS ts c h.2
      exact q_ttup (c.calm (notHot h.1.1)).1 q1 h.1.2 q2
    · cases h
theorem okTS : ∀ (x : Fx.TS) {S : Sc} {Z : Cx} {Y : Rd'} {e : List Expr}, Cok B S Z Y g clv k → chkTS S x e = true → e.all noStar = true ∧ PGs Z e (TGts Z.K Y x)
  | .nil, S, Z, Y, e, c, h => by
    simp only [chkTS] at h
    cases e with
    | nil => exact ⟨rfl, q_tnil⟩
    | cons _ _ => cases h
  | .cons t r, S, Z, Y, e, c, h => by
    simp only [chkTS] at h
    split at h
    · simp only [Bool.and_eq_true] at h
      obtain ⟨q1, q2⟩ := okTS r c h.2
      exact ⟨by rw [List.all_cons, h.1.1, q1]; rfl, q_tcons h.1.1 (okT t c h.1.2) q2⟩
    · cases h
end
end
end Fx

set_option Elab.async false
set_option linter.all false
set_option maxRecDepth 100000
set_option maxHeartbeats 4000000
/-! Fx 18: the check of statements, and that it is sound. -/
namespace Fx
open PySem PySem.Spec PyProof.Rows L2

/-- a comprehension stored on its name's line -/
def swapB (sc : Scope) (x : Str) (p : Pos) (l : Nat) : Expr → Bool
  | .ListComp _ _ s q => decide (sc.names.lookup x = some .local) && (p.line == q.line) && !(s.names.any fun y => y.1 == x && (y.2 == .local || y.2 == .cell))
  | _ => false
def isLC : Expr → Bool
  | .ListComp _ _ _ _ => true
  | _ => false
def nmB (S : Sc) (a : Option Nat) (nm : Option Str) : Bool := match a, nm with
  | some i, some n => decide (S.N[i]? = some n) && decide (S.sc.names.lookup n = some .local)
  | none, none => true
  | _, _ => false
mutual
def chkS (B : Tb) (S : Sc) : Fx.S → Stmt → Bool
  | .set t x, s => match s with
    | .Assign [tg] e _ => noStar tg && (nameT tg || notTup e) && noComp e && chkT S t tg && chkX B S x e
    | _ => false
  | .own i f, s => match s with
    | .Assign [.Name x _] e _ => decide (S.N[i]? = some x) && stoB S x && decide (S.sc.kind = .function) && (noComp e || isLC e) && chkF B S f e
    | _ => false
  | .app i x, s => match s with
    | .Expr (.Call (.Attribute o m ap) [e] [] cp) _ => decide (m = ("append" : Str)) && varB S i o && noSup o && noStar e && (ap.endLine == cp.line) && chkX B S x e
    | _ => false
  | .ext _ _, _ => false
  | .seti o i x, s => match s with
    | .Assign [.Subscript eo ei _] e _ => noSlice ei && chkX B S o eo && chkX B S i ei && chkX B S x e
    | _ => false
  | .setf o f x, s => match s with
    | .Assign [.Attribute eo m _] e _ => decide (f = m) && B.fld m && chkX B S o eo && chkX B S x e
    | _ => false
  | .oapp o x, s => match s with
    | .Expr (.Call (.Attribute eo m ap) [e] [] cp) _ => decide (m = ("append" : Str)) && noSup eo && noStar e && (ap.endLine == cp.line) && chkX B S o eo && chkX B S x e
    | _ => false
  | .expr x, s => match s with
    | .Expr e _ => noComp e && chkX B S x e
    | _ => false
  | .ret x, s => match s with
    | .Return (some e) _ => chkX B S x e
    | _ => false
  | .retN, s => match s with
    | .Return none _ => true
    | _ => false
  | .ite c a b, s => match s with
    | .If ec la lb _ => chkC B S c ec && chkSS B S a la && chkSS B S b lb
    | _ => false
  | .for t it b, s => match s with
    | .For tg iter body [] _ => !S.hot && noOwn it && noSet iter && chkIt B S it tg iter && chkT S t tg && chkSS B S b body
    | _ => false
  | .forO t en x b, s => match s with
    | .For tg iter body [] _ => !S.hot && noSet iter && chkIO (chkX B S x) B S en tg iter && chkT S t tg && chkSS B S b body
    | _ => false
  | .bad, _ => true
  | .pop _ _, _ => false
  | .ins _ _ _, _ => false
  | .setd _ _ _, _ => false
  | .try2 b c a h c2 a2 h2, s => match s with
    | .Try body [.ExceptHandler (some (.Name x _)) nm (b0 :: suite) _, .ExceptHandler (some (.Name x2 _)) nm2 (b1 :: suite2) _] [] [] _ => !S.hot && decide (B.ex x = some c) && glB S.sc x && okNm x && decide (B.ex x2 = some c2) && glB S.sc x2 && okNm x2 && chkSS B S b body && chkSS B ⟨S.N, S.sc, S.fn, true⟩ h (b0 :: suite) && chkSS B ⟨S.N, S.sc, S.fn, true⟩ h2 (b1 :: suite2) && nmB S a nm && nmB S a2 nm2
    | _ => false
  | .whl c b, s => match s with
    | .While ec body [] _ => !S.hot && chkC B S c ec && chkSS B S b body
    | _ => false
  | .brk, s => match s with
    | .Break _ => true
    | _ => false
  | .cnt, s => match s with
    | .Continue _ => true
    | _ => false
  | .pass, s => match s with
    | .Pass _ => true
    | .Expr (.Constant (.str _) _ _) _ => true
    | _ => false
  | .raise c es, s => match s with
    | .Raise (some (.Call (.Name x _) (e :: l) [] _)) none _ => !S.hot && decide (B.rx x = some c) && glB S.sc x && okNm x && (e :: l).all noStar && chkXS B S es (e :: l)
    | _ => false
  | .raiseC c, s => match s with
    | .Raise (some (.Call (.Name x _) [.Constant (.str _) _ _] [] _)) none _ => !S.hot && decide (B.rz x = some c) && glB S.sc x && okNm x
    | _ => false
  | .try1 b c a h, s => match s with
    | .Try body [.ExceptHandler (some (.Name x _)) nm (b0 :: suite) _] [] [] _ => !S.hot && decide (B.ex x = some c) && glB S.sc x && okNm x && chkSS B S b body && chkSS B ⟨S.N, S.sc, S.fn, true⟩ h (b0 :: suite) && (match a, nm with
        | some i, some n => decide (S.N[i]? = some n) && decide (S.sc.names.lookup n = some .local)
        | none, none => true
        | _, _ => false)
    | _ => false
def chkSS (B : Tb) (S : Sc) : Fx.SS → List Stmt → Bool
  | .nil, l => l.isEmpty
  | .cons a r, l => match l with
    | s :: l => chkS B S a s && chkSS B S r l
    | [] => false
  | .fin _ r, l => chkSS B S r l
  | .finO _ r, l => chkSS B S r l
end
/-- C's __init__ stores its arguments in its fields -/
def spX (C : Addr) (fs : List Str) : Sp := fun vs H Q E => ∃ a ws, vs = .ref a :: ws ∧ ws.length = fs.length ∧ H a = some (exo a C none) ∧ ∀ d, H d = none → d ≠ a → Q .non (upd (upd H d (exd d (fs.zip ws).reverse)) a (exo a C (some d)))
structure Base2 (B : Tb) (P : Program) (w : World) (K : PySem.W.Frag) (mg : Str → Option Value) (base : Heap) (cls : Nat → Option Addr) (g : G) (k : Nat) : Prop where
  rz : ∀ x c, B.rz x = some c → ∃ (C : Addr) (bmB : List Value) (BB newId initId : String), cls c = some C ∧ ExcBaseFacts BB newId initId bmB ∧ PySem.W.excIn K C bmB newId = true ∧ mg x = some (.ref C) ∧ PySem.W.keepIn K (.ref C) = true ∧ PySem.W.subIn K (.ref C) (.type "BaseException") = some true ∧ PySem.W.typeIn K (.ref C) = some (.type "type")
  rx : ∀ x c, B.rx x = some c → ∃ (C fI : Addr) (fs : List Str) (fd : FuncData) (ps : List Str), cls c = some C ∧ g.xfld c = some fs ∧ fs.Nodup ∧ fs.length ≤ 900 ∧ OexC K C ∧ PySem.W.findIn K (.ref C) "__init__" = some (some (.ref fI)) ∧ PySem.W.typeIn K (.ref fI) = some (.type "function") ∧
    FnOk P w K mg base (L2.CX P w) k fI fd ps (spX C fs) ∧ Binds K fd ps [] ∧ mg x = some (.ref C)
structure Sok (B : Tb) (S : Sc) (Z : Cx) (Y : Rd') (g : G) (clv : Nat → Value) (k : Nat) : Prop where
  c : Cok B S Z Y g clv k
  st : S.hot = false → PassesOwn (model Z.prog Z.w) Z.A Z.env Z.xe ∧ Z.stack = Z.env :: Z.outer ∧ Z.env.frame = some Z.env.locals
  b2 : Base2 B Z.prog Z.w Z.K Z.mg Z.base Y.cls g k
section
variable {B : Tb} {S : Sc} {Z : Cx} {Y : Rd'} {g : G} {clv : Nat → Value} {k : Nat} {F : Ent}
theorem Sok.tr (s : Sok B S Z Y g clv k) (hh : S.hot = false) {W : WX} {pn : List (Addr × Obj)} {xe : Value → Shared → Prop} (tk : Takes (Z.tr pn xe) W) (hp : PassesOwn (model Z.prog Z.w) Z.A Z.env xe) : Sok B S (Z.tr pn xe) { Y with W := W } g clv k where
  c := { base := s.c.base, nd := s.c.nd, N := s.c.N, sc := s.c.sc, fn := s.c.fn, gd := s.c.gd, un := s.c.un,
         calm := fun _ => let ⟨h1, h2, h3, h4⟩ := s.c.calm hh; ⟨h1, h2, tk, h4⟩
         hot := fun h => by rw [hh] at h; cases h }
  st := fun h => let ⟨h1, h2, h3⟩ := s.st h; ⟨hp, h2, h3⟩
  b2 := s.b2
theorem Sok.suite (s : Sok B S Z Y g clv k) {a : Addr} {oe : Obj} {cv : Value} {dd : Option Addr} {pn : List (Addr × Obj)} (hz : Zc cv dd oe) (hf : ∃ vs, oe.data = .fields vs) : Sok B ⟨S.N, S.sc, S.fn, true⟩ (Z.suite a ((a, oe) :: pn)) (inZ Y a cv dd) g clv k where
  c := { base := s.c.base, nd := s.c.nd, N := s.c.N, sc := s.c.sc, fn := s.c.fn, gd := s.c.gd, un := s.c.un,
         calm := fun h => by cases h
         hot := fun _ => ⟨Z, a, oe, cv, dd, pn, rfl, rfl, hz, hf⟩ }
  st := fun h => by cases h
  b2 := s.b2
theorem swap_lc {sc : Scope} {x : Str} {p : Pos} {l : Nat} {e : Expr} {env : Env} (h : isLC e = true) (hs : env.scope = sc) (hk : sc.kind = .function) : swapsWith e (some (.Name x p)) l env = pure (swapB sc x p l e) := by
  cases e <;> first | (cases (show false = true from h)) | skip
  rename_i elt gens scope pos
  have hb : (env.blockKind == ScopeKind.function) = true := by
    unfold Env.blockKind
    rw [hs, hk]
    rfl
  show (pure (env.blockKind == .function && env.kindOf x == some .local && p.line == pos.line && !(scope.names.any fun (n, k) => n == x && (k == .local || k == .cell))) : Sem Bool) = _
  rw [hb]
  unfold Env.kindOf swapB
  rw [hs]
  congr 1
  have : (sc.names.lookup x == some NameKind.local) = decide (sc.names.lookup x = some NameKind.local) := by
    by_cases hd : sc.names.lookup x = some NameKind.local
    · rw [hd]; rfl
    · rw [decide_eq_false hd]; exact beq_eq_false_iff_ne.mpr hd
  rw [this, Bool.true_and]
/-- C(e, ..) with an own __init__ -/
theorem mk_ini {C : Addr} {fs : List Str} {xs : XS} (hl : fs.length ≤ 900) (σ : L2.St) (H : Hp) (Q : XK) (h : TMk Z.K Y g C fs xs σ H Q) : tMkO C (spX C fs) [] (TXS Z.K Y g xs) σ H Q := by
  obtain ⟨P, m, env, st, sat, hw⟩ := h
  refine ⟨P, m, env, st, sat, hw.imp (fun ds st1 q m1 H1 vs s r rx => ?_) fun _ _ h => h⟩
  obtain ⟨hv, q2⟩ := q m1 H1 vs s r rx
  refine ⟨by omega, fun a ha => ⟨a, vs ++ [], rfl, by rw [List.append_nil]; exact hv, upd_same, fun d hd hne => ⟨rfl, d, (fs.zip (vs ++ [])).reverse, upd_same, ?_, ?_, ?_⟩⟩⟩
  · rw [upd_ne hne, upd_same]
  · rw [upd_ne hne] at hd; exact hd
  · have hd1 : H1 d = none := by rw [upd_ne hne] at hd; exact hd
    have e : upd (del (upd (upd (upd H1 a (exo a C none)) d (exd d (fs.zip (vs ++ [])).reverse)) a (exo a C (some d))) a) d (.xd (fs.zip (vs ++ [])).reverse) = upd H1 d (.xd (fs.zip vs).reverse) := by
      rw [List.append_nil]
      funext b
      by_cases hb : b = d
      · subst hb; rw [upd_same, upd_same]
      · rw [upd_ne hb, upd_ne hb]
        by_cases hba : b = a
        · subst hba; rw [del_same, ha]
        · rw [del_ne hba, upd_ne hba, upd_ne hb, upd_ne hba]
    rw [e]
    exact q2 d hd1
end
theorem cla_of {B : Tb} {S : Sc} {Z : Cx} {Y : Rd'} {g : G} {clv : Nat → Value} {k : Nat} {y : Str} {q : Value} {t : Addr → Value → Option Addr → L2.TS} {a : Option Nat} {nm : Option Str} {s0 : Stmt} {ss : List Stmt} {p1 p2 : Pos} {hs : List ExceptHandler} {l : List Cla} (c : Sok B S Z Y g clv k) (hb : nmB S a nm = true) (hn : Names Z y q)
    (hq : ∀ (x : Addr) (ox : Obj) (cv : Value) (dd : Option Addr) (pn : List (Addr × Obj)), Zc cv dd ox → (∃ us, ox.data = .fields us) → PSs (Z.suite x ((x, ox) :: pn)) (s0 :: ss) (t x cv dd)) (r : ClaOk Z hs l) :
    ClaOk Z (.ExceptHandler (some (.Name y p1)) nm (s0 :: ss) p2 :: hs) (⟨q, a, t⟩ :: l) := by
  unfold nmB at hb
  split at hb
  · simp only [Bool.and_eq_true, decide_eq_true_eq] at hb
    exact .named hn (by rw [c.c.N]; exact hb.1) (by show Z.env.scope.names.lookup _ = _; rw [c.c.sc]; exact hb.2) hq r
  · exact .bare hn hq r
  · cases hb
section
variable {B : Tb} {g : G} {clv : Nat → Value} {k : Nat} {F : Ent}
mutual
theorem okS' : ∀ (x : Fx.S) {S : Sc} {Z : Cx} {Y : Rd'} {s : Stmt}, Sok B S Z Y g clv k → chkS B S x s = true → PS Z s (TS1 Z.K Y F g x)
  | .set t x, S, Z, Y, s, c, h => by
    simp only [chkS] at h
    split at h
    · simp only [Bool.and_eq_true] at h
      obtain ⟨⟨⟨⟨h1, h2⟩, h3⟩, h4⟩, h5⟩ := h
      exact s_set h1 h2 h3 (okX x c.c h5) (okT t c.c h4)
    · cases h
  | .own i f, S, Z, Y, s, c, h => by
    simp only [chkS] at h
    split at h
    · rename_i x p e pos
      simp only [Bool.and_eq_true, decide_eq_true_eq] at h
      obtain ⟨⟨⟨⟨h1, h2⟩, h3⟩, h4⟩, h5⟩ := h
      obtain ⟨q1, q2⟩ := c.c.sto h2
      have hi : Z.N[i]? = some x := by rw [c.c.N]; exact h1
      by_cases hn : noComp e = true
      · exact s_own c.c.nd hi q1 q2 (swap_some hn) (okF f c.c h5)
      · have hlc : isLC e = true := by
          rw [Bool.or_eq_true] at h4
          exact h4.resolve_left hn
        have hsw := swap_lc (x := x) (p := p) (l := pos.line) hlc c.c.sc h3
        cases hb : swapB S.sc x p pos.line e with
        | false => rw [hb] at hsw; exact s_own c.c.nd hi q1 q2 hsw (okF f c.c h5)
        | true =>
          rw [hb] at hsw
          cases f with
          | comp t it co x' =>
            simp only [chkF] at h5
            split at h5
            · rename_i elt tg iter ifs a scope p'
              simp only [Bool.and_eq_true] at h5
              obtain ⟨⟨⟨⟨⟨⟨⟨⟨⟨h0, g1⟩, g2⟩, g3⟩, g4⟩, g5⟩, g6⟩, g7⟩, g8⟩, g9⟩ := h5
              have h0' : a = 0 := of_decide_eq_true h0
              subst h0'
              have hh := notHot g1
              obtain ⟨k1, _⟩ := c.c.calm hh
              have hyl : Z.env.scope.names.lookup x = some .local := by
                rw [c.c.sc]
                unfold swapB at hb
                simp only [Bool.and_eq_true, decide_eq_true_eq] at hb
                exact hb.1.1
              exact s_ownC k1 c.c.nd hi hyl hsw (okIt it c.c g6).1 (by rw [c.c.N, c.c.sc]; exact blkOk_by g2) (own_iff g3 g4) (fun s H C cl fp => okT (Y := calmY Y) t (c.c.blk hh s H scope C cl fp) g7) (fun s H C cl fp => okCO co (c.c.blk hh s H scope C cl fp) g8)
                (fun s H C cl fp => okX x' (c.c.blk hh s H scope C cl fp) g9) g5
            · cases h5
          | disp es =>
            simp only [chkF] at h5
            split at h5
            · cases (show false = true from hlc)
            · cases h5
          | comp2 t it co t2 it2 co2 x' =>
            simp only [chkF] at h5
            split at h5
            · rename_i elt tg iter ifs a tg2 iter2 ifs2 a2 scope p'
              simp only [Bool.and_eq_true] at h5
              obtain ⟨⟨⟨⟨⟨⟨⟨⟨⟨⟨⟨⟨⟨⟨⟨h0, h0b⟩, g1⟩, g2⟩, g3⟩, g4⟩, g5⟩, g5b⟩, g5c⟩, g6⟩, g7⟩, g8⟩, g9⟩, g10⟩, g11⟩, g12⟩ := h5
              have h0' : a = 0 := of_decide_eq_true h0
              have h0b' : a2 = 0 := of_decide_eq_true h0b
              subst h0' h0b'
              have hh := notHot g1
              obtain ⟨k1, _⟩ := c.c.calm hh
              have hyl : Z.env.scope.names.lookup x = some .local := by
                rw [c.c.sc]
                unfold swapB at hb
                simp only [Bool.and_eq_true, decide_eq_true_eq] at hb
                exact hb.1.1
              exact s_ownC2 k1 c.c.nd hi hyl hsw (okIt it c.c g6).1 (by rw [c.c.N, c.c.sc]; exact blkOk_by g2)
                (fun i => ⟨fun h => of_decide_eq_true (List.all_eq_true.mp g3 i h), fun h => of_decide_eq_true (List.all_eq_true.mp g4 i h)⟩)
                (fun s H C cl fp => okT (Y := calmY Y) t (c.c.blk hh s H scope C cl fp) g7) (fun s H C cl fp => okCO co (c.c.blk hh s H scope C cl fp) g8)
                (fun s H C cl fp => (okIt it2 (c.c.blk hh s H scope C cl fp) g9).2 g5c) (fun s H C cl fp => okT (Y := calmY Y) t2 (c.c.blk hh s H scope C cl fp) g10) (fun s H C cl fp => okCO co2 (c.c.blk hh s H scope C cl fp) g11)
                (fun s H C cl fp => okX x' (c.c.blk hh s H scope C cl fp) g12) g5 g5b
            · cases h5
          | rep _ _ =>
            simp only [chkF] at h5
            split at h5
            · cases (show false = true from hlc)
            · cases h5
          | cat _ _ =>
            simp only [chkF] at h5
            split at h5
            · cases (show false = true from hlc)
            · cases h5
          | sl _ _ _ =>
            simp only [chkF] at h5
            split at h5
            · cases (show false = true from hlc)
            · cases h5
          | sorted _ => simp only [chkF] at h5; cases h5
          | compO _ _ _ _ _ => simp only [chkF] at h5; cases h5
          | list _ =>
            simp only [chkF] at h5
            split at h5
            · cases (show false = true from hlc)
            · cases h5
    · cases h
  | .app i x, S, Z, Y, s, c, h => by
    simp only [chkS] at h
    split at h
    · simp only [Bool.and_eq_true, decide_eq_true_eq] at h
      obtain ⟨⟨⟨⟨⟨h1, h2⟩, h3⟩, h4⟩, h5⟩, h6⟩ := h
      subst h1
      exact s_app (x := "") h3 h4 h5 (c.c.var h2) (okX x c.c h6)
    · cases h
  | .ext _ _, S, Z, Y, s, c, h => by simp only [chkS] at h; cases h
  | .seti o i x, S, Z, Y, s, c, h => by
    simp only [chkS] at h
    split at h
    · simp only [Bool.and_eq_true] at h
      obtain ⟨⟨⟨h1, h2⟩, h3⟩, h4⟩ := h
      exact s_seti h1 (okX o c.c h2) (okX i c.c h3) (okX x c.c h4)
    · cases h
  | .setf o f x, S, Z, Y, s, c, h => by
    simp only [chkS] at h
    split at h
    · simp only [Bool.and_eq_true, decide_eq_true_eq] at h
      obtain ⟨⟨⟨h1, h2⟩, h3⟩, h4⟩ := h
      subst h1
      exact s_setf (c.c.base.fld _ h2) (okX o c.c h3) (okX x c.c h4)
    · cases h
  | .oapp o x, S, Z, Y, s, c, h => by
    simp only [chkS] at h
    split at h
    · simp only [Bool.and_eq_true, decide_eq_true_eq] at h
      obtain ⟨⟨⟨⟨⟨h1, h2⟩, h3⟩, h4⟩, h5⟩, h6⟩ := h
      subst h1
      exact s_oapp h2 h3 h4 (okX o c.c h5) (okX x c.c h6)
    · cases h
  | .expr x, S, Z, Y, s, c, h => by
    simp only [chkS] at h
    split at h
    · rw [Bool.and_eq_true] at h
      exact s_expr h.1 (okX x c.c h.2)
    · cases h
  | .ret x, S, Z, Y, s, c, h => by
    simp only [chkS] at h
    split at h
    · exact s_ret (okX x c.c h)
    · cases h
  | .retN, S, Z, Y, s, c, h => by
    simp only [chkS] at h
    split at h
    · exact s_retN
    · cases h
  | .ite q a b, S, Z, Y, s, c, h => by
    simp only [chkS] at h
    split at h
    · simp only [Bool.and_eq_true] at h
      exact s_ite (okC q c.c h.1.1) (okSS a c h.1.2) (okSS b c h.2)
    · cases h
  | .for t it b, S, Z, Y, s, c, h => by
    simp only [chkS] at h
    split at h
    · simp only [Bool.and_eq_true] at h
      obtain ⟨⟨⟨⟨⟨h1, h2⟩, h3⟩, h4⟩, h5⟩, h6⟩ := h
      have hh := notHot h1
      exact s_for (c.st hh).1 (c.c.calm hh).1 ((okIt it c.c h4).2 h2) (okT t c.c h5) (okSS b c h6) h3
    · cases h
  | .forO t en x b, S, Z, Y, s, c, h => by
    simp only [chkS] at h
    split at h
    · simp only [Bool.and_eq_true] at h
      obtain ⟨⟨⟨⟨h1, h3⟩, h4⟩, h5⟩, h6⟩ := h
      have hh := notHot h1
      cases en with
      | false => exact s_forO (c.st hh).1 (c.c.calm hh).1 (q_iobj (okX x c.c h4)) (okT t c.c h5) (okSS b c h6) h3
      | true =>
        simp only [chkIO] at h4
        split at h4
        · simp only [Bool.and_eq_true, decide_eq_true_eq] at h4
          obtain ⟨⟨⟨⟨g1, g2⟩, g3⟩, g4⟩, g5⟩ := h4
          subst g1
          exact s_forO (c.st hh).1 (c.c.calm hh).1 (q_iobjE (c.c.gl g2) (c.c.base.free _ g3) g4 (okX x c.c g5)) (okT t c.c h5) (okSS b c h6) h3
        · cases h4
    · cases h
  | .bad, S, Z, Y, s, c, h => s_bad
  | .pop _ _, S, Z, Y, s, c, h => by simp only [chkS] at h; cases h
  | .ins _ _ _, S, Z, Y, s, c, h => by simp only [chkS] at h; cases h
  | .setd _ _ _, S, Z, Y, s, c, h => by simp only [chkS] at h; cases h
  | .try2 b cn a hs c2 a2 hs2, S, Z, Y, s, c, h => by
    simp only [chkS] at h
    split at h
    · rename_i body x p nm b0 suite p2 x2 p3 nm2 b1 suite2 p4 p5
      simp only [Bool.and_eq_true, decide_eq_true_eq] at h
      obtain ⟨⟨⟨⟨⟨⟨⟨⟨⟨⟨⟨g1, g2⟩, g3⟩, g4⟩, g5⟩, g6⟩, g7⟩, g8⟩, g9⟩, g10⟩, g11⟩, g12⟩ := h
      have hh := notHot g1
      obtain ⟨k1, k2, k3, k4⟩ := c.c.calm hh
      obtain ⟨t1, t2, t3⟩ := c.st hh
      obtain ⟨v, w1, w2, w3⟩ := c.c.base.ex x cn g2
      obtain ⟨v', w1', w2', w3'⟩ := c.c.base.ex x2 c2 g5
      have hn : Names Z x (clv cn) := ⟨c.c.gl g3, (okNm_ok g4).1, w3⟩
      have hn' : Names Z x2 (clv c2) := ⟨c.c.gl g6, (okNm_ok g7).1, w3'⟩
      refine s_try2 k4 c.c.base.sub t2 t3 c.c.nd k3 (fun W pn xe tk hp => okSS b (c.tr hh tk hp) g8) ?_
      exact cla_of c g11 hn (fun x ox cv dd pn hz hf => okSS hs (c.suite hz hf) g9) (cla_of c g12 hn' (fun x ox cv dd pn hz hf => okSS hs2 (c.suite hz hf) g10) .nil)
    · cases h
  | .whl q b, S, Z, Y, s, c, h => by
    simp only [chkS] at h
    split at h
    · simp only [Bool.and_eq_true] at h
      exact s_whl (c.st (notHot h.1.1)).1 (okC q c.c h.1.2) (okSS b c h.2)
    · cases h
  | .brk, S, Z, Y, s, c, h => by
    simp only [chkS] at h
    split at h
    · exact s_brk
    · cases h
  | .cnt, S, Z, Y, s, c, h => by
    simp only [chkS] at h
    split at h
    · exact s_cnt
    · cases h
  | .pass, S, Z, Y, s, c, h => by
    simp only [chkS] at h
    split at h
    · exact s_pass
    · exact s_doc
    · cases h
  | .raise cn es, S, Z, Y, s, c, h => by
    simp only [chkS] at h
    split at h
    · rename_i x p e l p2 p3
      simp only [Bool.and_eq_true, decide_eq_true_eq] at h
      obtain ⟨⟨⟨⟨⟨h1, h2⟩, h3⟩, h4⟩, h5⟩, h6⟩ := h
      obtain ⟨k1, k2, k3, k4⟩ := c.c.calm (notHot h1)
      obtain ⟨C, fI, fs, fd, ps, r1, r2, r3, r4, r5, r6, r7, r8, r9, r10⟩ := c.b2.rx x cn h2
      have h5' : noStar e = true ∧ l.all noStar = true := by rw [List.all_cons, Bool.and_eq_true] at h5; exact h5
      exact s_raise k1 k3 r1 r2 r3 fun pins s σ H Q I q => pmk_oex (dvs := []) (ds := []) r5 r6 r7 r8 k2 r9 .nil (fun _ _ _ _ _ _ _ ⟨_, _, _, _, _, _, _, _, _, _, _, _, z⟩ => z.elim) (c.c.gl h3) r10 (okXS es c.c h6) (okNm_ok h4).1 (star_cons h5'.1) (star_any _ h5'.2) pins s σ H Q I (mk_ini r4 σ H Q q)
    · cases h
  | .raiseC cn, S, Z, Y, s, c, h => by
    simp only [chkS] at h
    split at h
    · simp only [Bool.and_eq_true, decide_eq_true_eq] at h
      obtain ⟨⟨⟨h1, h2⟩, h3⟩, h4⟩ := h
      obtain ⟨k1, k2, k3, k4⟩ := c.c.calm (notHot h1)
      obtain ⟨C, bmB, BB, newId, initId, r1, r2, r3, r4, r5, r6, r7⟩ := c.b2.rz _ cn h2
      exact s_raiseC k1 k3 r1 (pmk_own r2 r3 r4 r5 (raises_own r6 r7) (c.c.gl h3) (okNm_ok h4).1)
    · cases h
  | .try1 b cn a hs, S, Z, Y, s, c, h => by
    simp only [chkS] at h
    split at h
    · rename_i body x p nm b0 suite p2 p3
      simp only [Bool.and_eq_true, decide_eq_true_eq] at h
      obtain ⟨⟨⟨⟨⟨⟨h1, h2⟩, h3⟩, h4⟩, h5⟩, h6⟩, h7⟩ := h
      have hh := notHot h1
      obtain ⟨k1, k2, k3, k4⟩ := c.c.calm hh
      obtain ⟨t1, t2, t3⟩ := c.st hh
      obtain ⟨v, w1, w2, w3⟩ := c.c.base.ex x cn h2
      have hn : Names Z x (clv cn) := ⟨c.c.gl h3, (okNm_ok h4).1, w3⟩
      cases a with
      | none =>
        cases nm with
        | none => exact s_try_only k4 c.c.base.sub t2 t3 hn k3 (fun W pn xe tk hp => okSS b (c.tr hh tk hp) h5) fun a oe cv dd pn hz hf => okSS hs (c.suite hz hf) h6
        | some _ => cases h7
      | some i =>
        cases nm with
        | none => cases h7
        | some n =>
          simp only [Bool.and_eq_true, decide_eq_true_eq] at h7
          exact s_try_as k4 c.c.base.sub t2 t3 c.c.nd (by rw [c.c.N]; exact h7.1) (by show Z.env.scope.names.lookup n = _; rw [c.c.sc]; exact h7.2) hn k3 (fun W pn xe tk hp => okSS b (c.tr hh tk hp) h5) fun a oe cv dd pn hz hf => okSS hs (c.suite hz hf) h6
    · cases h
theorem okSS : ∀ (x : Fx.SS) {S : Sc} {Z : Cx} {Y : Rd'} {s : List Stmt}, Sok B S Z Y g clv k → chkSS B S x s = true → PSs Z s (TSS Z.K Y F g x)
  | .nil, S, Z, Y, s, c, h => by
    simp only [chkSS] at h
    cases s with
    | nil => exact s_nil
    | cons _ _ => cases h
  | .cons a r, S, Z, Y, s, c, h => by
    simp only [chkSS] at h
    split at h
    · rw [Bool.and_eq_true] at h
      exact s_cons (okS' a c h.1) (okSS r c h.2)
    · cases h
  | .fin i r, S, Z, Y, s, c, h => by
    simp only [chkSS] at h
    exact s_fin (okSS r c h)
  | .finO i r, S, Z, Y, s, c, h => by
    simp only [chkSS] at h
    exact s_finO (okSS r c h)
end
end
end Fx

set_option Elab.async false
set_option linter.all false
set_option maxRecDepth 100000
set_option maxHeartbeats 4000000
/-! Fx 19: the defs of a text, all together; the end of a law. -/
namespace Fx
open PySem PySem.Spec PyProof.Rows L2

/-- a def: its names (parameters first), its body in the language -/
structure Def where
  name : Str
  qual : Str
  st : Stmt
  N : List Str
  np : Nat
  body : SS
def Def.ps (d : Def) : List Str := d.N.take d.np
noncomputable section
def endD : RS → R D
  | .ok (.rt v) s => .ok v s
  | .ok (.nx _) s => .ok .non s
  | .exc e _ s => .exc e s
  | _ => .bad
def runD (g : G) (d : Def) : List D → M D := fun ds s => if ds.length = d.np then endD (SS.ev g d.body (ds.map Sl.val ++ List.replicate (d.N.length - d.np) Sl.no) s) else .bad
/-- the defs of the text, calls within calls n deep -/
def gen (T : G) (defs : List Def) : Nat → G
  | 0 => { T with call := fun _ _ => M.bad }
  | n + 1 => { T with call := fun i ds => match defs[i]? with
      | some d => runD (gen T defs n) d ds
      | none => M.bad }
end
def scOk (d : Def) : Bool :=
  let sc := defScope d.st
  decide (sc.kind = .function) && decide (sc.isCoroutine = false) && decide (sc.isGenerator = false) && decide d.N.Nodup && decide (d.np ≤ d.N.length) &&
    (d.ps.all fun x => decide (sc.names.lookup x = some .local) || decide (sc.names.lookup x = some .cell)) && (sc.names.all fun y => decide (y.2 ≠ .free))
def chkD (B : Tb) (d : Def) : Bool := scOk d && chkSS B ⟨d.N, defScope d.st, fun _ => true, false⟩ d.body (defBody d.st)
theorem scOk_ok {d : Def} (h : scOk d = true) : FnScope d.N d.ps (defScope d.st) ∧ d.ps.length = d.np := by
  unfold scOk at h
  simp only [Bool.and_eq_true, decide_eq_true_eq, List.all_eq_true, Bool.or_eq_true] at h
  obtain ⟨⟨⟨⟨⟨⟨h1, h2⟩, h3⟩, h4⟩, h5⟩, h6⟩, h7⟩ := h
  have hl : d.ps.length = d.np := by unfold Def.ps; rw [List.length_take]; omega
  exact ⟨⟨h1, h2, h3, h4, by rw [hl]; rfl, h6, h7⟩, hl⟩
/-- the def d stands at f -/
def DefAt (K : PySem.W.Frag) (d : Def) (f : Addr) (fd : FuncData) : Prop := ∃ (oc : Value) (od : Option Addr) (dV kV doc pm : Value) (an : Option Addr) (cdv ct : Value) (osl : Array (Option Value)),
  fd = PySem.W.fnOf d.name d.qual (defArgs d.st) (defBody d.st) (defScope d.st) dV kV doc pm an cdv ct ∧ K.lookup f = some ⟨oc, od, .func fd, osl⟩ ∧ PySem.W.codeIn K cdv d.qual = true
section
variable {P : Program} {w : World} {K : PySem.W.Frag} {mg : Str → Option Value} {base : Heap} {B : Tb} {cls : Nat → Option Addr} {g : G} {clv : Nat → Value} {k : Nat}
theorem start_get {N : List Str} {vs : List V} {i : Nat} {v : V} (h : vs[i]? = some v) : (L2.start N vs)[i]? = some (some v) := by
  unfold L2.start
  rw [List.getElem?_append_left (by rw [List.length_map]; exact (List.getElem?_eq_some_iff.mp h).1), List.getElem?_map, h]
  rfl
theorem def_ok {d : Def} {f : Addr} {fd : FuncData} (c : chkD B d = true) (at_ : DefAt K d f fd) (b : Base B P w K mg base cls g clv k) (b2 : Base2 B P w K mg base cls g k) : FnG P w K mg base (k + 2) f fd d.ps (spF K cls (runD g d)) := by
  unfold chkD at c
  rw [Bool.and_eq_true] at c
  obtain ⟨c1, c2⟩ := c
  obtain ⟨S, hl⟩ := scOk_ok c1
  obtain ⟨oc, od, dV, kV, doc, pm, an, cdv, ct, osl, rfl, lk, hcd⟩ := at_
  refine fnG_of lk hcd S (fun vs H Q E h => ?_) fun A outer s H vs Q E hr hg h => ?_
  · obtain ⟨P', m, st, ds, r, hP, rl, hw⟩ := h
    unfold runD at hw
    by_cases hd : ds.length = d.np
    · rw [← relL_length rl, hd, hl]
    · rw [if_neg hd] at hw; exact hw.elim
  · obtain ⟨P', m, st, ds, r, hP, rl, hw⟩ := h
    have hd : ds.length = d.np := by
      by_cases hd : ds.length = d.np
      · exact hd
      · unfold runD at hw; rw [if_neg hd] at hw; exact hw.elim
    have hw' : Wp (endD (SS.ev g d.body (ds.map Sl.val ++ List.replicate (d.N.length - d.np) Sl.no) st)) (fun dv st' => ∀ m' H' v, Step m H m' H' → StR K cls P' m' H' st' → Rel K P' m' H' dv v → Q v H')
        (fun e st' => ∀ m' H' cc dd, Step m H m' H' → StR K cls P' m' H' st' → ExR K cls P' m' H' e cc dd → E cc dd H') := by
      unfold runD at hw; rw [if_pos hd] at hw; exact hw
    have hNp : d.np ≤ d.N.length := by rw [← hl]; unfold Def.ps; rw [List.length_take]; omega
    have hvl : vs.length = ds.length := (relL_length rl).symm
    let Y : Rd' := ⟨cls, none, fun cc dd _ H' => E cc dd H'⟩
    have sok : Sok B ⟨d.N, defScope d.st, fun _ => true, false⟩ (cxOf (L2.CX P w) P w K mg base d.N d.qual (defScope d.st) f cdv A outer s H E) Y g clv k :=
      { c := { base := b, nd := S.nd, N := rfl, sc := rfl, fn := fun _ _ => rfl, gd := hg, un := by have := hr.un; show (A.deeper _).units + 66 < _; omega,
               calm := fun _ => ⟨rfl, hr, takes_of rfl rfl rfl rfl, rfl⟩
               hot := fun h => by cases h }
        st := fun _ => ⟨passes_of rfl, rfl, rfl⟩
        b2 := b2 }
    refine ⟨TSS K Y ⟨P', m, H⟩ g d.body, okSS d.body sok c2, P', m, ds.map Sl.val ++ List.replicate (d.N.length - d.np) Sl.no, st, ?_, ?_, ?_⟩
    · refine ⟨Step.refl m H, fun _ h => h, fun _ h => .inl h, fun i es a e1 e2 => ?_, fun a ha => let ⟨ws, e⟩ := hP a ha; ⟨_, e⟩⟩
      have := List.mem_of_getElem? e1
      rcases List.mem_append.mp this with h | h
      · obtain ⟨x, _, hx⟩ := List.mem_map.mp h; cases hx
      · have := List.eq_of_mem_replicate h; cases this
    · refine ⟨?_, fun i l e => ?_, r, hP, fun i j d1 d2 a e1 => ?_⟩
      · show _ = (L2.start d.N vs).length
        unfold L2.start
        rw [List.length_append, List.length_append, List.length_map, List.length_map, List.length_replicate, List.length_replicate]
        omega
      · by_cases hi : i < ds.length
        · rw [List.getElem?_append_left (by rw [List.length_map]; exact hi), List.getElem?_map, List.getElem?_eq_getElem hi] at e
          cases e
          obtain ⟨v, ev, rv⟩ := relL_get rl (List.getElem?_eq_getElem hi)
          exact ⟨v, start_get ev, rv⟩
        · rw [List.getElem?_append_right (by rw [List.length_map]; omega)] at e
          have := List.eq_of_mem_replicate (List.mem_of_getElem? e)
          subst this
          trivial
      · have := List.mem_of_getElem? e1
        rcases List.mem_append.mp this with h | h
        · obtain ⟨x, _, hx⟩ := List.mem_map.mp h; cases hx
        · have := List.eq_of_mem_replicate h; cases this
    · cases er : SS.ev g d.body (ds.map Sl.val ++ List.replicate (d.N.length - d.np) Sl.no) st with
      | bad => rw [er] at hw'; exact hw'.elim
      | exc ex env' s' =>
        rw [er] at hw'
        intro P2 m2 H2 σ2 cc dd a rx
        exact (show ∀ m' H' cc dd, Step m H m' H' → StR K cls P' m' H' s' → ExR K cls P' m' H' ex cc dd → E cc dd H' from hw') m2 H2 cc dd a.fr.step (a.sat.st.fewer a.fr.inc) ⟨rx.1, rx.2.imp id fun ⟨b, fvs, e1, e2, h3⟩ => ⟨b, fvs, e1, e2, fun f d hf => let ⟨v, e3, rv⟩ := h3 f d hf; ⟨v, e3, rv.fewer a.fr.inc⟩⟩⟩
      | ok fl s' =>
        rw [er] at hw'
        cases fl with
        | nx env' => exact fun P2 m2 H2 σ2 a => (show ∀ m' H' v, Step m H m' H' → StR K cls P' m' H' s' → Rel K P' m' H' .non v → Q v H' from hw') m2 H2 .non a.fr.step (a.sat.st.fewer a.fr.inc) rfl
        | rt v => exact fun m2 H2 u s2 r2 ru => (show ∀ m' H' v', Step m H m' H' → StR K cls P' m' H' s' → Rel K P' m' H' v v' → Q v' H' from hw') m2 H2 u s2 r2 ru
        | bk env' => exact hw'.elim
        | ct env' => exact hw'.elim

/-- what the top has written, by the tables -/
structure Stat (B : Tb) (T : G) (defs : List Def) (P : Program) (w : World) (K : PySem.W.Frag) (mg : Str → Option Value) (base : Heap) (cls : Nat → Option Addr) (clv : Nat → Value) : Prop where
  fn : ∀ x n nd, B.fn x = some n → B.nd n nd = true → ∃ d f fd ds dvs, defs[n]? = some d ∧ mg x = some (.ref f) ∧ PySem.W.keepIn K (.ref f) = true ∧ DefAt K d f fd ∧ Binds K fd d.ps ds ∧ Vals dvs ds ∧ ∀ P m H, RelL K P m H (T.dv n nd) dvs
  cl : ∀ x c nd, B.cl x = some c → B.cn c nd = true → ∃ n d C f fd ds dvs, defs[n]? = some d ∧ cls c = some C ∧ T.init c = some n ∧ Mk K C f ∧ DefAt K d f fd ∧ mg x = some (.ref C) ∧ Binds K fd d.ps ds ∧ Vals dvs ds ∧ ∀ P m H, RelL K P m H (T.dv n nd) dvs
  con : ∀ x d, T.con x = some d → ∃ v u, mg x = some u ∧ RelV v u ∧ ∀ P m H, Rel K P m H d v
  free : ∀ x, B.free x = true → mg x = none
  fld : ∀ f, B.fld f = true → attrOk K cls T f
  xfl : ∀ f, B.xfl f = true → xattrOk K cls T f
  mt : ∀ m, B.mt m = true → ∀ c C n, cls c = some C → T.meth c m = some n → Cls K C ∧ ∃ d a fd, defs[n]? = some d ∧ Meth K C m a ∧ DefAt K d a fd ∧ Binds K fd d.ps []
  ex : ∀ x c, B.ex x = some c → ∃ v, RelV v (clv c) ∧ (∀ u, RelV v u → u = clv c) ∧ (mg x = some (clv c) ∨ (mg x = none ∧ bootBuiltins x = some (clv c) ∧ x ≠ "__name__"))
  sub : subOk K cls clv T
  b2 : ∀ k, 1 ≤ k → Base2 B P w K mg base cls T k
theorem gen_stat {T : G} {defs : List Def} (n : Nat) : (gen T defs n).dv = T.dv ∧ (gen T defs n).con = T.con ∧ (gen T defs n).meth = T.meth ∧ (gen T defs n).init = T.init ∧ (gen T defs n).attr = T.attr ∧ (gen T defs n).xfld = T.xfld ∧ (gen T defs n).sub = T.sub := by
  cases n <;> exact ⟨rfl, rfl, rfl, rfl, rfl, rfl, rfl⟩
theorem base_of {T : G} {defs : List Def} (hk : 1 ≤ k) (st : Stat B T defs P w K mg base cls clv) (g : G) (e : g.dv = T.dv ∧ g.con = T.con ∧ g.meth = T.meth ∧ g.init = T.init ∧ g.attr = T.attr ∧ g.xfld = T.xfld ∧ g.sub = T.sub)
    (h : ∀ n d f fd, defs[n]? = some d → DefAt K d f fd → FnG P w K mg base k f fd d.ps (spF K cls (g.call n))) : Base B P w K mg base cls g clv k ∧ Base2 B P w K mg base cls g k := by
  obtain ⟨gc, g1, g2, g3, g4, g5, g6, g7, gf⟩ := g
  obtain ⟨rfl, rfl, rfl, rfl, rfl, rfl, rfl⟩ := e
  refine ⟨⟨fun x n nd h1 h2 => ?_, fun x c nd h1 h2 => ?_, st.con, st.free, st.fld, st.xfl, fun m hm c C n hc hn => ?_, st.ex, st.sub⟩, ⟨(st.b2 k hk).rz, (st.b2 k hk).rx⟩⟩
  · obtain ⟨d, f, fd, ds, dvs, q0, q1, q2, q3, q4, q5, q6⟩ := st.fn x n nd h1 h2
    exact ⟨f, fd, d.ps, ds, dvs, q1, q2, h n d f fd q0 q3, q4, q5, q6⟩
  · obtain ⟨n, d, C, f, fd, ds, dvs, q0, q1, q2, q3, q4, q5, q6, q7, q8⟩ := st.cl x c nd h1 h2
    exact ⟨n, C, f, fd, d.ps, ds, dvs, q1, q2, q3, h n d f fd q0 q4, q5, q6, q7, q8⟩
  · obtain ⟨q0, d, a, fd, q1, q2, q3, q4⟩ := st.mt m hm c C n hc hn
    exact ⟨q0, a, fd, d.ps, q2, h n d a fd q1 q3, q4⟩
/-- all defs keep their promises, calls within calls n deep -/
theorem all_ok {T : G} {defs : List Def} (st : Stat B T defs P w K mg base cls clv) (hc : ∀ d ∈ defs, chkD B d = true) : ∀ (n i : Nat) (d : Def) (f : Addr) (fd : FuncData), defs[i]? = some d → DefAt K d f fd → FnG P w K mg base (2 * n + 1) f fd d.ps (spF K cls ((gen T defs n).call i))
  | 0, i, d, f, fd, _, _ => ⟨fun vs H Q E ⟨_, _, _, _, _, _, _, h⟩ => h.elim, fun A outer s H args us vs Q E _ _ _ _ _ ⟨_, _, _, _, _, _, _, h⟩ => h.elim⟩
  | n + 1, i, d, f, fd, hi, hf => by
    obtain ⟨b, b2⟩ := base_of (k := 2 * n + 1) (Nat.succ_le_succ (Nat.zero_le _)) st (gen T defs n) (gen_stat n) fun j d' f' fd' h1 h2 => all_ok st hc n j d' f' fd' h1 h2
    have h := def_ok (hc d (List.mem_of_getElem? hi)) hf b b2
    have e : (gen T defs (n + 1)).call i = runD (gen T defs n) d := by
      funext ds
      show (match defs[i]? with
        | some d => runD (gen T defs n) d ds
        | none => M.bad) = _
      rw [hi]
    rw [e]
    exact h
end
/-! ### the law's end -/
theorem law_callG {P : Program} {w : World} {K : PySem.W.Frag} {mg mb : Str → Option Value} {k : Nat} {fa a : Addr} {fd : FuncData} {x : Str} {sp : Sp} {s₁ : Shared} {vs : List Value} {ns : List Int}
    (KX : K.In s₁.heap) (hns : s₁.heap.Ns mainGlobals mg) (hb : s₁.heap.Ns builtinsNs mb) (hbb : ∀ x : Str, x ≠ "__name__" → mb x = bootBuiltins x) (hlim : s₁.heap.NoLimit) (hg : s₁.gens = #[])
    (ha : s₁.heap.get? a = some { cls := .type "list", data := .seq vs.toArray }) (hi : IntsAre vs ns) (hl : ns.length ≤ sizeLine) (hr : Room k callerA)
    (F : ∀ base : Heap, K.In base → base.Ns mainGlobals mg → FnG P w K mg base k fa fd [x] sp) (hbind : ∀ (s : Shared) (u : Value), BindsTo s fd ⟨[u], []⟩ [(x, u)])
    (hsp : ∀ H : Hp, Only H → SqL K H a (ns.map V.int) → sp [.ref a] H (fun v _ => v = .bl true) fun _ _ _ => False) :
    codeAny (model P w) callerA (.call (.ref fa) ⟨[.ref a], []⟩) (fun r s' => r = .ok (.ret (.bool true)) ∧ OldK s₁.heap s'.heap ∧ s'.os = s₁.os ∧ AllBare s'.gens) s₁ := by
  have rv := vals_ints hi
  have lenV := hi.length
  have core : ∀ H : Hp, Only H → SqL K H a (ns.map V.int) → HOk P w H s₁.heap → (∀ b, H b ≠ none → b = a) → (H a ≠ none → K.lookup a = none) →
      codeAny (model P w) callerA (.call (.ref fa) ⟨[.ref a], []⟩) (fun r s' => r = .ok (.ret (.bool true)) ∧ OldK s₁.heap s'.heap ∧ s'.os = s₁.os ∧ AllBare s'.gens) s₁ := by
    intro H hO hS hok hA hK
    have base_of : ∀ {b : Addr} {o : Obj}, s₁.heap.get? b = some o → H b = none → (hidT s₁.heap H).get? b = some o := fun e n => hidT_get e n
    have noA : ∀ {b : Addr} {o : Obj} {es : Array DictEntry} {ep : Nat}, s₁.heap.get? b = some o → o.data = .dict es ep → H b = none := fun {b o es ep} e d => by
      cases q : H b with
      | none => rfl
      | some u =>
        have e' : b = a := hA b (by rw [q]; simp)
        subst e'
        rw [ha] at e; cases e
        have d' : Data.seq vs.toArray _ = Data.dict es ep := d
        cases d'
    have nsK : ∀ {b : Addr} {m : Str → Option Value}, s₁.heap.Ns b m → (hidT s₁.heap H).Ns b m := fun {b m} ⟨o, es, ep, e, d, r⟩ => ⟨o, es, ep, base_of e (noA e d), d, r⟩
    have hKb : K.In (hidT s₁.heap H) := fun b o e => base_of (KX b o e) (by
      cases q : H b with
      | none => rfl
      | some u =>
        have e' : b = a := hA b (by rw [q]; simp)
        subst e'
        rw [hK (by rw [q]; simp)] at e; cases e)
    have hM : Mod K mg (hidT s₁.heap H) := ⟨hKb, nsK hns, ⟨mb, nsK hb, hbb⟩, let ⟨mc, h1, h2⟩ := hlim; ⟨mc, nsK h1, h2⟩⟩
    have e0 : Env0 P w K mg (hidT s₁.heap H) callerA [] s₁ H := ⟨rfl, hM, fun b o e => of_hidT e, Nat.le_of_eq (hidT_size _ _), trivial, fun b hb => absurd (show b ∈ ([] : List Addr) from hb) (by simp), hok, .of_eq hg⟩
    refine codeAny_mono ((F _ hKb (nsK hns)).run callerA [] s₁ H ⟨[.ref a], []⟩ [.ref a] [.ref a] _ _ hr rfl e0 (hbind s₁ (.ref a)) (.cons rfl .nil) (hsp H hO hS)) fun r s' h => ?_
    cases r with
    | error e =>
      obtain ⟨_, _, _, _, _, _, _, _, _, _, _, _, z⟩ := h
      exact z.elim
    | ok fl =>
      cases fl with
      | next => exact False.elim h
      | brk => exact False.elim h
      | cont => exact False.elim h
      | ret u =>
        obtain ⟨v, H', os, bare, un, hok', r', q⟩ := h
        have q' : v = .bl true := q
        subst q'
        obtain rfl : u = Value.bool true := r'
        refine ⟨rfl, OldK.of_keep fun b o e => ?_, os, bare⟩
        cases q : H b with
        | none => exact un.keep b o e q (by intro z; exact absurd (show b ∈ ([] : List Addr) from z) (by simp)) (by simp)
        | some u =>
          rcases hO b with z | ⟨ob, xs, z⟩
          · rw [q] at z; cases z
          · have z2 := un.frzs b ob _ z
            obtain ⟨e1, _⟩ := hok b _ z
            obtain ⟨e2, _⟩ := hok' b _ z2
            rw [e] at e1; cases e1
            exact e2
  cases hk : K.lookup a with
  | some o =>
    have e := KX a o hk
    rw [ha] at e
    cases e
    refine core (fun _ => none) (fun _ => .inl rfl) (.inr ⟨_, vs.toArray, _, hk, rfl, rfl, rfl, by rw [List.size_toArray, lenV]; exact hl, by simpa using rv⟩) (fun b u z => by have z' : (none : Option HO) = some u := z; cases z') (fun b z => absurd rfl z) fun z => absurd rfl z
  | none =>
    refine core (fun b => if b = a then some (.frz { cls := .type "list", data := .seq vs.toArray } (.lst (ns.map V.int))) else none) (fun b => ?_) (.inl (.inr ⟨{ cls := .type "list", data := .seq vs.toArray }, if_pos rfl⟩)) (fun b u z => ?_) (fun b z => ?_) fun _ => hk
    · by_cases hb : b = a
      · exact .inr ⟨_, _, if_pos hb⟩
      · exact .inl (if_neg hb)
    · by_cases hb : b = a
      · have z' := (if_pos hb).symm.trans z
        cases z'
        subst hb
        exact ⟨ha, by rw [List.length_map]; exact hl, vs, _, rv, ha⟩
      · have z' := (if_neg hb).symm.trans z
        cases z'
    · by_cases hb : b = a
      · exact hb
      · exact absurd (if_neg hb) z
/-- the law's promise from the plain law -/
theorem sp_law {K : PySem.W.Frag} {cls : Nat → Option Addr} {run : List D → M D} {H : Hp} {a : Addr} {ns : List Int} (hS : SqL K H a (ns.map V.int)) (h : ∃ s', run [.lst (ns.map .int)] [] = .ok (.bl true) s') : spF K cls run [.ref a] H (fun v _ => v = .bl true) fun _ _ _ => False := by
  obtain ⟨s', e⟩ := h
  refine ⟨fun _ => False, [], [], [.lst (ns.map .int)], ⟨rfl, List.nodup_nil, (fun _ h => nomatch h), fun n o e => nomatch (show (none : Option O) = some o from e)⟩, fun _ h => h.elim, ⟨.ref a, [], rfl, ⟨a, ns.map V.int, rfl, hS.imp (fun h => ⟨h, fun hb => hb.elim (fun z => nomatch z) id⟩) id, relL_of_ints ns⟩, rfl⟩, ?_⟩
  rw [e]
  exact fun m' H' v _ _ r => r
theorem walk_ofG {l : PySem.W.OpenLaw} {n N : Nat} {q : Program} {loose : List Str} {XP : (Str → Option Value) → Heap → Prop} {YP : World → Heap → Prop} {d : DefRec} {K : Params → PySem.W.Frag} {x : Str} {T : G} {defs : List Def} {i : Nat} {D : Def} {B : Tb}
    (hn : l.most = some n) (hn2 : n ≤ sizeLine) (hdf : d.params.defaults = []) (hr : Room (2 * N + 1) callerA)
    (hY : ∀ (w : World) (h : Heap), YP w h → (K w.params).In h) (hD : defs[i]? = some D) (hps : D.ps = [x]) (hc : ∀ d ∈ defs, chkD B d = true)
    (F : ∀ (w : World) (mg : Str → Option Value) (fa : Addr) (h : Heap), (K w.params).In h → h.Ns mainGlobals mg → mg d.name = some (.ref fa) →
      ∃ (fd : FuncData) (cls : Nat → Option Addr) (clv : Nat → Value), (∀ (s : Shared) (u : Value), BindsTo s fd ⟨[u], []⟩ [(x, u)]) ∧ DefAt (K w.params) D fa fd ∧ ∀ base : Heap, (K w.params).In base → base.Ns mainGlobals mg → Stat B T defs l.prog w (K w.params) mg base cls clv)
    (hlaw : ∀ ns : List Int, ns.length ≤ n → ∃ s', (gen T defs N).call i [.lst (ns.map .int)] [] = .ok (.bl true) s') :
    PySem.W.WalkO q loose XP YP l.row.toRowW d [] (fun f vs => PySem.call f vs) := by
  refine Att.attach_call hn hdf fun w s₀ s₁ mg mb fa o pm cd doc a vs ns G Y ho hd hcd hmg hobj hints hlen hg => ?_
  have KX := hY w _ Y
  obtain ⟨fd, cls, clv, hb, hat, hF⟩ := F w mg fa _ KX G.T.g hmg
  exact law_callG KX G.T.g G.T.b G.T.builtins G.T.nolimit hg hobj hints (Nat.le_trans hlen hn2) hr (fun base h1 h2 => by
    have q := all_ok (hF base h1 h2) hc N i D fa fd hD hat
    rw [hps] at q
    exact q) hb (fun H hO hS => sp_law hS (hlaw ns hlen))
end Fx

set_option Elab.async false
set_option linter.all false
set_option maxRecDepth 100000
set_option maxHeartbeats 4000000
/-! Fx 20: facts of the top, in the shape that the tables ask. -/
namespace Fx
open PySem PySem.Spec PyProof.Rows L2
section
variable {P : Program} {w : World} {K : PySem.W.Frag} {mg : Str → Option Value} {base : Heap}
theorem defAt_of {d : Def} {f : Addr} {fd : FuncData} (F : L2.Fun K d.name d.qual d.st f fd) : DefAt K d f fd := by
  obtain ⟨oc, od, kV, doc, pm, an, cdv, ct, osl, e, lk, hcd⟩ := F.ex
  exact ⟨oc, od, .none, kV, doc, pm, an, cdv, ct, osl, e, lk, hcd⟩
/-! ### exceptions -/
theorem sub_of {C C2 : Addr} {b : Bool} (e : ExcC K C) (h1 : PySem.W.subIn K (.ref C2) (.type "BaseException") = some true) (h2 : PySem.W.hasDictIn K C2 = true) (h3 : PySem.W.typeIn K (.ref C2) = some (.type "type")) (h4 : PySem.W.subIn K (.ref C) (.ref C2) = some b)
    (h5 : PySem.W.subIn K (.ref C) (.ref C) = some true) : ExcC K C ∧ PySem.W.exmOne K (.ref C) (.ref C2) = some b ∧ PySem.W.kitOne K (.ref C) (.ref C2) = some b := by
  have q := PySem.W.exm_ref h1 h2 h3 h4
  refine ⟨e, q, ?_⟩
  unfold PySem.W.kitOne
  by_cases hc : C = C2
  · subst hc
    rw [h5] at h4
    cases h4
    rw [if_pos (by simp)]
  · have hne : ¬ ((Value.ref C == Value.ref C2) = true) := fun z => hc (Value.ref.inj (beq_iff_eq.mp z))
    rw [if_neg hne]
    have e1 : (PySem.W.subIn K (.ref C2) (.type "BaseException") == some true) = true := by rw [h1] <;> rfl
    unfold PySem.W.exmOne at q
    rw [if_pos e1] at q
    exact q
/-! ### an exception's own __init__ -/
def chkI (sc : Scope) (N : List Str) : List Str → Nat → List Stmt → Bool
  | [], _, l => l.isEmpty
  | f :: r, j, l => match l with
    | .Assign [.Attribute (.Name s _) m _] (.Name p _) _ :: l => decide (f = m) && decide (N[0]? = some s) && decide (N[j + 1]? = some p) && visB sc s && visB sc p && okNm s && okNm p && chkI sc N r (j + 1) l
    | _ => false
def tIni (K : PySem.W.Frag) : List Str → Nat → L2.TS
  | [], _ => tNext
  | f :: r, j => tSeq (tOst K f (tVar 0) (tVar (j + 1))) (tIni K r (j + 1))
theorem ini_ss {Z : Cx} {sc : Scope} (hs : Z.env.scope = sc) : ∀ (fs : List Str) (j : Nat) (l : List Stmt), chkI sc Z.N fs j l = true → PSs Z l (tIni Z.K fs j)
  | [], j, l, h => by
    simp only [chkI] at h
    cases l with
    | nil => exact pss_nil
    | cons _ _ => cases h
  | f :: r, j, l, h => by
    simp only [chkI] at h
    split at h
    · simp only [Bool.and_eq_true, decide_eq_true_eq] at h
      obtain ⟨⟨⟨⟨⟨⟨⟨h1, h2⟩, h3⟩, h4⟩, h5⟩, h6⟩, h7⟩, h8⟩ := h
      subst h1
      exact pss_cons (ps_ost (pe_var h2 (by rw [hs]; exact visB_ok h4) (okNm_ok h6).1 (okNm_ok h6).2) (pe_var h3 (by rw [hs]; exact visB_ok h5) (okNm_ok h7).1 (okNm_ok h7).2) swap_attr) (ini_ss hs r (j + 1) _ h8)
    · cases h
theorem ini_run {C a d : Addr} {σ : L2.St} {D : Ends} (T : OexC K C) (h0 : (σ[0]? : Option (Option V)) = some (some (.ref a))) (hda : d ≠ a) : ∀ (fs : List Str) (ws : List V) (j : Nat) (l : List (Str × V)) (H : Hp), ws.length = fs.length → (∀ f ∈ fs, PySem.W.findIn K (.ref C) f = some none) →
    (∀ (i : Nat) v, ws[i]? = some v → (σ[j + 1 + i]? : Option (Option V)) = some (some v)) → l.length + fs.length ≤ 900 → H a = some (exo a C (some d)) → H d = some (exd d l) → D.nx σ (upd H d (exd d ((fs.zip ws).reverse ++ l))) → tIni K fs j D σ H
  | [], ws, j, l, H, hl, _, _, _, ha, hd, q => by
    have e : upd H d (exd d l) = H := by
      funext b
      by_cases hb : b = d
      · subst hb; rw [upd_same, hd]
      · rw [upd_ne hb]
    have q' : D.nx σ (upd H d (exd d l)) := q
    rw [e] at q'
    exact q'
  | f :: r, [], j, l, H, hl, _, _, _, _, _, _ => by simp at hl
  | f :: r, y :: ys, j, l, H, hl, hf, hw, hz, ha, hd, q => by
    refine ⟨y, hw 0 y rfl, .ref a, h0, a, C, rfl, T, hf f List.mem_cons_self, .inr ⟨d, l, ha, hd, by simp at hz; omega, ?_⟩⟩
    refine ini_run T h0 hda r ys (j + 1) ((f, y) :: l) _ (by simpa using hl) (fun g hg => hf g (List.mem_cons_of_mem _ hg)) (fun i v e => ?_) (by simp at hz ⊢; omega) (by rw [upd_ne (Ne.symm hda)]; exact ha) upd_same ?_
    · have := hw (i + 1) v (by simpa using e)
      rwa [show j + 1 + (i + 1) = j + 1 + 1 + i by omega] at this
    · have e : upd (upd H d (exd d ((f, y) :: l))) d (exd d ((r.zip ys).reverse ++ (f, y) :: l)) = upd H d (exd d (((f :: r).zip (y :: ys)).reverse ++ l)) := by
        funext b
        by_cases hb : b = d
        · subst hb
          rw [upd_same, upd_same, List.zip_cons_cons, List.reverse_cons, List.append_assoc]
          rfl
        · rw [upd_ne hb, upd_ne hb, upd_ne hb]
      rw [e]; exact q
theorem ini_ok {C f : Addr} {fd : FuncData} {st : Stmt} {qual : Str} {N fs : List Str} (F : L2.Fun K "__init__" qual st f fd) (S : FnScope N N (defScope st)) (hN : N.length = fs.length + 1) (hne : fs ≠ []) (h9 : fs.length ≤ 900) (hc : chkI (defScope st) N fs 0 (defBody st) = true)
    (T : OexC K C) (hf : ∀ g ∈ fs, PySem.W.findIn K (.ref C) g = some none) (k : Nat) : FnOk P w K mg base (L2.CX P w) (k + 1) f fd N (spX C fs) := by
  obtain ⟨oc, od, kV, doc, pm, an, cdv, ct, osl, rfl, lk, hcd⟩ := F.ex
  refine fn_of lk hcd S (fun vs H Q E h => ?_) fun A outer s H vs Q E hr h => ?_
  · obtain ⟨a, ws, rfl, hl, _⟩ := h
    simp [hl, hN]
  · obtain ⟨a, ws, rfl, hl, ha, q⟩ := h
    refine ⟨tIni K fs 0, ini_ss rfl fs 0 _ hc, ?_⟩
    cases fs with
    | nil => exact absurd rfl hne
    | cons g r =>
      cases ws with
      | nil => simp at hl
      | cons y ys =>
        have s0 : ((L2.start N (.ref a :: y :: ys))[0]? : Option (Option V)) = some (some (.ref a)) := start_get rfl
        refine ⟨y, start_get rfl, .ref a, s0, a, C, rfl, T, hf g List.mem_cons_self, .inl ⟨ha, fun d hd hda => ?_⟩⟩
        refine ini_run (a := a) (d := d) T s0 hda r ys 1 [(g, y)] _ (by simpa using hl) (fun x hx => hf x (List.mem_cons_of_mem _ hx)) (fun i v e => start_get (by rw [show 1 + 1 + i = i + 2 by omega]; simpa using e)) (by simp at h9 ⊢; omega) upd_same (by rw [upd_ne hda, upd_same]) ?_
        have e : upd (upd (upd H d (exd d [(g, y)])) a (exo a C (some d))) d (exd d ((r.zip ys).reverse ++ [(g, y)])) = upd (upd H d (exd d ((g :: r).zip (y :: ys)).reverse)) a (exo a C (some d)) := by
          funext b
          by_cases hb : b = d
          · subst hb
            rw [upd_same, upd_ne hda, upd_same, List.zip_cons_cons, List.reverse_cons]
          · rw [upd_ne hb]
            by_cases hba : b = a
            · subst hba; rw [upd_same, upd_same]
            · rw [upd_ne hba, upd_ne hb, upd_ne hba, upd_ne hb]
        show Q .non _
        rw [e]
        exact q d hd hda

/-! ### tables by entries -/
theorem lookup_mem {α β : Type} [BEq α] [LawfulBEq α] {a : α} {b : β} : ∀ {l : List (α × β)}, l.lookup a = some b → (a, b) ∈ l
  | [], h => by cases h
  | (x, y) :: l, h => by
    rw [List.lookup_cons] at h
    by_cases e : a == x
    · simp only [e, Option.some.injEq] at h
      have := eq_of_beq e
      subst this h
      exact List.mem_cons_self
    · have e' : (a == x) = false := by simpa using e
      simp only [e'] at h
      exact List.mem_cons_of_mem _ (lookup_mem h)
theorem fa_nil {α : Type} {Pr : α → Prop} : ∀ p ∈ ([] : List α), Pr p := fun _ h => nomatch h
theorem fa_cons {α : Type} {Pr : α → Prop} {a : α} {l : List α} (h : Pr a) (t : ∀ p ∈ l, Pr p) : ∀ p ∈ a :: l, Pr p := fun p hp => (List.mem_cons.mp hp).elim (fun e => e ▸ h) (t p)
def FnE (K : PySem.W.Frag) (mg : Str → Option Value) (T : G) (defs : List Def) (x : Str) (n nd : Nat) : Prop := ∃ d f fd ds dvs, defs[n]? = some d ∧ mg x = some (.ref f) ∧ PySem.W.keepIn K (.ref f) = true ∧ DefAt K d f fd ∧ Binds K fd d.ps ds ∧ Vals dvs ds ∧ ∀ P m H, RelL K P m H (T.dv n nd) dvs
theorem fnE0 {T : G} {defs : List Def} {x : Str} {n : Nat} {d : Def} {f : Addr} {fd : FuncData} (hd : defs[n]? = some d) (hx : mg x = some (.ref f)) (hk : PySem.W.keepIn K (.ref f) = true) (F : L2.Fun K d.name d.qual d.st f fd) (b : Binds K fd d.ps []) (hv : T.dv n 0 = []) (nd : Nat) (h : decide (nd ≤ 0) = true) :
    FnE K mg T defs x n nd := by
  have e : nd = 0 := Nat.le_zero.mp (of_decide_eq_true h)
  subst e
  exact ⟨d, f, fd, [], [], hd, hx, hk, defAt_of F, b, .nil, fun _ _ _ => by rw [hv]; exact rfl⟩
/-- the parameters' defaults: a tuple of scalars -/
theorem relL_scal {K : PySem.W.Frag} {P : Addr → Prop} {m : List Addr} {H : Hp} : ∀ {ds : List D} {vs : List V}, (∀ (i : Nat) d v, ds[i]? = some d → vs[i]? = some v → Rel K P m H d v) → ds.length = vs.length → RelL K P m H ds vs
  | [], [], _, _ => rfl
  | [], _ :: _, _, h => by simp at h
  | _ :: _, [], _, h => by simp at h
  | d :: ds, v :: vs, r, h => ⟨v, vs, rfl, r 0 d v rfl rfl, relL_scal (fun i d v e1 e2 => r (i + 1) d v (by simpa using e1) (by simpa using e2)) (by simpa using h)⟩
theorem subE {cls : Nat → Option Addr} {clv : Nat → Value} {T : G} {l : List ((Nat × Nat) × Bool)} (hT : T.sub = fun a b => l.lookup (a, b)) (h : ∀ p ∈ l, ∃ C C2, cls p.1.1 = some C ∧ clv p.1.2 = .ref C2 ∧ ExcC K C ∧ PySem.W.exmOne K (.ref C) (.ref C2) = some p.2 ∧ PySem.W.kitOne K (.ref C) (.ref C2) = some p.2) : subOk K cls clv T := by
  intro c C c2 b hc hs
  rw [hT] at hs
  obtain ⟨C', C2, q1, q2, q3⟩ := h _ (lookup_mem (l := l) hs)
  have e1 : some C' = some C := q1.symm.trans hc
  cases e1
  have e2 : clv c2 = .ref C2 := q2
  rw [e2]
  exact q3
theorem xflE {cls : Nat → Option Addr} {T : G} {l : List (Nat × List Str)} {fl : List Str} (hT : T.xfld = fun c => l.lookup c) (h : ∀ p ∈ l, ∃ C, cls p.1 = some C ∧ XfC K C ∧ ∀ f ∈ fl, PySem.W.findIn K (.ref C) f = some none) (f : Str) (hf : f ∈ fl) : xattrOk K cls T f := by
  intro c C fs hc hs
  rw [hT] at hs
  obtain ⟨C', q1, q2, q3⟩ := h _ (lookup_mem (l := l) hs)
  have e1 : some C' = some C := q1.symm.trans hc
  cases e1
  exact ⟨q2, q3 f hf⟩
end
/-- a class that is made, by its name -/
def ClE (K : PySem.W.Frag) (mg : Str → Option Value) (T : G) (defs : List Def) (cls : Nat → Option Addr) (x : Str) (c nd : Nat) : Prop := ∃ n d C f fd ds dvs, defs[n]? = some d ∧ cls c = some C ∧ T.init c = some n ∧ Mk K C f ∧ DefAt K d f fd ∧ mg x = some (.ref C) ∧ Binds K fd d.ps ds ∧ Vals dvs ds ∧ ∀ P m H, RelL K P m H (T.dv n nd) dvs
end Fx

set_option Elab.async false
set_option linter.all false
set_option maxRecDepth 100000
set_option maxHeartbeats 4000000
/-! Fx 21: the meaning, step by step (for the plain laws): what follows is told behind each step. -/
namespace Fx
open PySem PySem.Spec PyProof.Rows L2

/-- an option's value goes on -/
def wo {α : Type} (o : Option α) (k : α → Prop) : Prop := match o with
  | some a => k a
  | none => False
theorem wo_some {α : Type} {a : α} {k : α → Prop} : wo (some a) k = k a := rfl
theorem wo_none {α : Type} {k : α → Prop} : wo (none : Option α) k = False := rfl
/-- the object's number -/
def wobj (d : D) (k : Nat → Prop) : Prop := match d with
  | .obj n => k n
  | _ => False
def wint (d : D) (k : Int → Prop) : Prop := match d with
  | .int n => k n
  | _ => False
def wbl (d : D) (k : Bool → Prop) : Prop := match d with
  | .bl n => k n
  | _ => False
def wstr (d : D) (k : Str → Prop) : Prop := match d with
  | .str n => k n
  | _ => False
theorem wobj_obj {n : Nat} {k : Nat → Prop} : wobj (.obj n) k = k n := rfl
theorem wint_int {n : Int} {k : Int → Prop} : wint (.int n) k = k n := rfl
theorem wbl_bl {n : Bool} {k : Bool → Prop} : wbl (.bl n) k = k n := rfl
theorem wstr_str {n : Str} {k : Str → Prop} : wstr (.str n) k = k n := rfl
def wlst (o : Option O) (k : List D → Prop) : Prop := match o with
  | some (.lst ds) => k ds
  | _ => False
theorem wlst_lst {n : List D} {k : List D → Prop} : wlst (some (.lst n)) k = k n := rfl
def wif (b : Bool) (p q : Prop) : Prop := (b = true → p) ∧ (b = false → q)
theorem wif_true {p q : Prop} : wif true p q = p := by simp [wif]
theorem wif_false {p q : Prop} : wif false p q = q := by simp [wif]
section
variable {g : G} {env : En} {s : Sto} {E : Ex → Sto → Prop}
theorem w_ok {α : Type} {a : α} {s : Sto} {Q : α → Sto → Prop} {E : Ex → Sto → Prop} : Wp (R.ok a s) Q E = Q a s := rfl
theorem w_opt {α : Type} {o : Option α} {s : Sto} {Q : α → Sto → Prop} {E : Ex → Sto → Prop} : Wp (M.opt o s) Q E = wo o fun a => Q a s := by cases o <;> rfl
theorem w_lit {d : D} {Q : D → Sto → Prop} : Wp (X.ev g (.lit d) env s) Q E = Q d s := rfl
theorem w_var {i : Nat} {Q : D → Sto → Prop} : Wp (X.ev g (.var i) env s) Q E = wo (env.val i) fun d => Q d s := w_opt
theorem w_con {x : Str} {Q : D → Sto → Prop} : Wp (X.ev g (.con x) env s) Q E = wo (g.con x) fun d => Q d s := w_opt
theorem w_bin {op : Operator} {a b : X} {Q : D → Sto → Prop} : Wp (X.ev g (.bin op a b) env s) Q E = Wp (X.ev g a env s) (fun x s1 => Wp (X.ev g b env s1) (fun y s2 => wo (opBin op x y) fun d => Q d s2) E) E := by
  show Wp ((X.ev g a env >>= fun x => X.ev g b env >>= fun y => M.opt (opBin op x y)) s) Q E = _
  simp only [wp_seq, w_opt]
theorem w_neg {a : X} {Q : D → Sto → Prop} : Wp (X.ev g (.neg a) env s) Q E = Wp (X.ev g a env s) (fun x s1 => wint x fun i => Q (.int (-i)) s1) E := by
  show Wp ((X.ev g a env >>= fun x => match x with | .int i => pure (D.int (-i)) | _ => M.bad) s) Q E = _
  rw [wp_seq]
  congr 1
  funext x s1
  cases x <;> rfl
theorem w_cmp {op : CmpOp} {a b : L} {Q : D → Sto → Prop} : Wp (X.ev g (.cmp op a b) env s) Q E = Wp (L.ev g a env s) (fun x s1 => Wp (L.ev g b env s1) (fun y s2 => wo (opCmp op x y) fun k => Q (.bl k) s2) E) E := by
  show Wp ((L.ev g a env >>= fun x => L.ev g b env >>= fun y => M.opt ((opCmp op x y).map D.bl)) s) Q E = _
  simp only [wp_seq, w_opt]
  congr 1
  funext x s1
  congr 1
  funext y s2
  cases opCmp op x y <;> rfl
theorem w_chain {o1 o2 : CmpOp} {a b c : X} {Q : D → Sto → Prop} : Wp (X.ev g (.chain o1 o2 a b c) env s) Q E = Wp (X.ev g a env s) (fun x s1 => Wp (X.ev g b env s1) (fun y s2 => wo (opCmp o1 x y) fun k => wif k (Wp (X.ev g c env s2) (fun z s3 => wo (opCmp o2 y z) fun k => Q (.bl k) s3) E) (Q (.bl false) s2)) E) E := by
  show Wp ((X.ev g a env >>= fun x => X.ev g b env >>= fun y => M.opt (opCmp o1 x y) >>= fun k => match k with | true => X.ev g c env >>= fun z => M.opt ((opCmp o2 y z).map D.bl) | false => pure (D.bl false)) s) Q E = _
  simp only [wp_seq, w_opt]
  congr 1
  funext x s1
  congr 1
  funext y s2
  cases opCmp o1 x y with
  | none => rfl
  | some k =>
    simp only [wo_some]
    cases k with
    | false => simp only [wif_false]; rfl
    | true =>
      simp only [wif_true, wp_seq, w_opt]
      congr 1
      funext z s3
      cases opCmp o2 y z <;> rfl
theorem w_ofC {c : C} {Q : D → Sto → Prop} : Wp (X.ev g (.ofC c) env s) Q E = Wp (C.ev g c env s) (fun k s1 => Q (.bl k) s1) E := by
  show Wp ((C.ev g c env >>= fun k => pure (D.bl k)) s) Q E = _
  rw [wp_seq]; rfl
theorem w_ite {c : C} {a b : X} {Q : D → Sto → Prop} : Wp (X.ev g (.ite c a b) env s) Q E = Wp (C.ev g c env s) (fun k s1 => wif k (Wp (X.ev g a env s1) Q E) (Wp (X.ev g b env s1) Q E)) E := by
  show Wp ((C.ev g c env >>= fun k => match k with | true => X.ev g a env | false => X.ev g b env) s) Q E = _
  rw [wp_seq]
  congr 1
  funext k s1
  cases k
  · rw [wif_false]
  · rw [wif_true]
theorem w_tup {es : XS} {Q : D → Sto → Prop} : Wp (X.ev g (.tup es) env s) Q E = Wp (XS.ev g es env s) (fun ds s1 => ds.length ≤ 16777216 ∧ Q (.tup ds) s1) E := by
  show Wp ((XS.ev g es env >>= fun ds => M.need (ds.length ≤ 16777216) >>= fun _ => pure (D.tup ds)) s) Q E = _
  rw [wp_seq]
  congr 1
  funext ds s1
  rw [wp_seq]
  unfold M.need
  by_cases h : ds.length ≤ 16777216
  · rw [if_pos h]; simp only [h, true_and]; rfl
  · rw [if_neg h]; simp only [h, false_and]; rfl
theorem w_fr {f : F} {Q : D → Sto → Prop} : Wp (X.ev g (.fr f) env s) Q E = Wp (F.ev g f env s) (fun ds s1 => Q (.lst ds) s1) E := by
  show Wp ((F.ev g f env >>= fun ds => pure (D.lst ds)) s) Q E = _
  rw [wp_seq]; rfl
theorem w_alloc {f : F} {Q : D → Sto → Prop} : Wp (X.ev g (.alloc f) env s) Q E = Wp (F.ev g f env s) (fun ds s1 => Q (.obj s1.length) (s1 ++ [.lst ds])) E := by
  show Wp ((F.ev g f env >>= fun ds => M.get >>= fun s => M.put (s ++ [.lst ds]) >>= fun _ => pure (D.obj s.length)) s) Q E = _
  rw [wp_seq]; rfl
/-- a place: of an object of the store, of a value -/
def wix (x k : D) (s : Sto) (q : D → Prop) : Prop := match x, k with
  | .obj n, .int j => wlst s[n]? fun ds => wo (atI ds j) q
  | x, k => wo (ixD x k) q
theorem w_ix {a : L} {i : X} {Q : D → Sto → Prop} : Wp (X.ev g (.ix a i) env s) Q E = Wp (L.ev g a env s) (fun x s1 => Wp (X.ev g i env s1) (fun k s2 => wix x k s2 fun d => Q d s2) E) E := by
  show Wp ((L.ev g a env >>= fun x => X.ev g i env >>= fun k => match x, k with
    | D.obj n, D.int j => M.get >>= fun s => match s[n]? with
      | some (.lst ds) => M.opt (atI ds j)
      | _ => M.bad
    | x, k => M.opt (ixD x k)) s) Q E = _
  simp only [wp_seq]
  congr 1
  funext x s1
  congr 1
  funext k s2
  have plain : Wp (M.opt (ixD x k) s2) Q E = wo (ixD x k) fun d => Q d s2 := w_opt
  cases x with
  | obj n =>
    cases k with
    | int j =>
      show Wp ((M.get >>= fun s => match s[n]? with
      | some (.lst ds) => M.opt (atI ds j)
      | _ => M.bad) s2) Q E = wlst s2[n]? fun ds => wo (atI ds j) fun d => Q d s2
      rw [wp_seq, wp_get]
      cases s2[n]? with
      | none => rfl
      | some o => cases o <;> first | rfl | exact w_opt
    | _ => exact plain
  | _ => exact plain
def wb1 (b : B1) (x : D) (s : Sto) (q : D → Prop) : Prop := match b, x with
  | .len, .obj n => wlst s[n]? fun ds => q (.int ds.length)
  | b, x => wo (opB1 b x) q
theorem w_b1 {b : B1} {a : L} {Q : D → Sto → Prop} : Wp (X.ev g (.b1 b a) env s) Q E = Wp (L.ev g a env s) (fun x s1 => wb1 b x s1 fun d => Q d s1) E := by
  show Wp ((L.ev g a env >>= fun x => match b, x with
    | .len, D.obj n => M.get >>= fun s => match s[n]? with
      | some (.lst ds) => pure (.int ds.length)
      | _ => M.bad
    | b, x => M.opt (opB1 b x)) s) Q E = _
  rw [wp_seq]
  congr 1
  funext x s1
  have plain : Wp (M.opt (opB1 b x) s1) Q E = wo (opB1 b x) fun d => Q d s1 := w_opt
  cases x with
  | obj n =>
    cases b with
    | len =>
      show Wp ((M.get >>= fun s => match s[n]? with
        | some (O.lst ds) => pure (D.int ds.length)
        | _ => M.bad) s1) Q E = wlst s1[n]? fun ds => Q (.int ds.length) s1
      rw [wp_seq, wp_get]
      cases s1[n]? with
      | none => rfl
      | some o => cases o <;> rfl
    | _ => exact plain
  | _ => cases b <;> exact plain
def wder (s : Sto) (d : D) (k : D → Prop) : Prop := k (derS s d)
theorem w_cmpo {op : CmpOp} {a b : L} {Q : D → Sto → Prop} : Wp (X.ev g (.cmpo op a b) env s) Q E = Wp (L.ev g a env s) (fun x s1 => Wp (L.ev g b env s1) (fun y s2 => wder s2 x fun x => wder s2 y fun y => wo (opCmp op x y) fun k => Q (.bl k) s2) E) E := by
  show Wp ((L.ev g a env >>= fun x => L.ev g b env >>= fun y => M.get >>= fun s => M.opt ((opCmp op (derS s x) (derS s y)).map D.bl)) s) Q E = _
  simp only [wp_seq, w_opt, wp_get]
  congr 1
  funext x s1
  congr 1
  funext y s2
  show wo ((opCmp op (derS s2 x) (derS s2 y)).map D.bl) _ = wo (opCmp op (derS s2 x) (derS s2 y)) _
  cases opCmp op (derS s2 x) (derS s2 y) <;> rfl
theorem w_b1o {b : B1} {a : L} {Q : D → Sto → Prop} : Wp (X.ev g (.b1o b a) env s) Q E = Wp (L.ev g a env s) (fun x s1 => wder s1 x fun x => wo (opB1 b x) fun d => Q d s1) E := by
  show Wp ((L.ev g a env >>= fun x => M.get >>= fun s => M.opt (opB1 b (derS s x))) s) Q E = _
  simp only [wp_seq, w_opt, wp_get]; rfl
section
variable {k : D → Prop}
theorem de_i {i : Int} : wder s (.int i) k = k (.int i) := rfl
theorem de_b {i : Bool} : wder s (.bl i) k = k (.bl i) := rfl
theorem de_n : wder s .non k = k .non := rfl
theorem de_s {i : Str} : wder s (.str i) k = k (.str i) := rfl
theorem de_t {i : List D} : wder s (.tup i) k = k (.tup i) := rfl
theorem de_l {i : List D} : wder s (.lst i) k = k (.lst i) := rfl
theorem de_o {n : Nat} {ds : List D} (h : s[n]? = some (.lst ds)) : wder s (.obj n) k = k (.lst ds) := by unfold wder; rw [derS_obj, h]
end
theorem w_b2 {b : B2} {a : L} {c : X} {Q : D → Sto → Prop} : Wp (X.ev g (.b2 b a c) env s) Q E = Wp (L.ev g a env s) (fun x s1 => Wp (X.ev g c env s1) (fun y s2 => wo (opB2 b x y) fun d => Q d s2) E) E := by
  show Wp ((L.ev g a env >>= fun x => X.ev g c env >>= fun y => M.opt (opB2 b x y)) s) Q E = _
  simp only [wp_seq, w_opt]
theorem w_efld {i : Nat} {f : Str} {Q : D → Sto → Prop} : Wp (X.ev g (.efld i f) env s) Q E = wo (env.exc i) fun e => wo (g.xfld e.c) fun _ => wo (e.fs.lookup f) fun d => Q d s := by
  have : Wp (X.ev g (.efld i f) env s) Q E = wo ((env.exc i).bind fun e => match g.xfld e.c with | some _ => e.fs.lookup f | none => none) fun d => Q d s := w_opt
  rw [this]
  cases env.exc i with
  | none => rfl
  | some e =>
    show wo (match g.xfld e.c with | some _ => e.fs.lookup f | none => none) _ = wo (g.xfld e.c) fun _ => wo (e.fs.lookup f) fun d => Q d s
    cases g.xfld e.c <;> rfl
theorem w_call {f : Nat} {es : XS} {nd : Nat} {Q : D → Sto → Prop} : Wp (X.ev g (.call f es nd) env s) Q E = Wp (XS.ev g es env s) (fun ds s1 => Wp (g.call f (ds ++ g.dv f nd) s1) Q E) E := by
  show Wp ((XS.ev g es env >>= fun ds => g.call f (ds ++ g.dv f nd)) s) Q E = _
  rw [wp_seq]
theorem w_lx {x : X} {Q : D → Sto → Prop} : Wp (L.ev g (.x x) env s) Q E = Wp (X.ev g x env s) Q E := rfl
theorem w_lown {i : Nat} {Q : D → Sto → Prop} : Wp (L.ev g (.own i) env s) Q E = wo (env.own i) fun ds => Q (.lst ds) s := by
  show Wp (M.opt ((env.own i).map D.lst) s) Q E = _
  rw [w_opt]
  cases env.own i <;> rfl
theorem w_nil {Q : List D → Sto → Prop} : Wp (XS.ev g .nil env s) Q E = Q [] s := rfl
theorem w_cons {e : X} {r : XS} {Q : List D → Sto → Prop} : Wp (XS.ev g (.cons e r) env s) Q E = Wp (X.ev g e env s) (fun d s1 => Wp (XS.ev g r env s1) (fun ds s2 => Q (d :: ds) s2) E) E := by
  show Wp ((X.ev g e env >>= fun d => XS.ev g r env >>= fun ds => pure (d :: ds)) s) Q E = _
  simp only [wp_seq]; rfl
theorem w_cx {e : X} {Q : Bool → Sto → Prop} : Wp (C.ev g (.x e) env s) Q E = Wp (X.ev g e env s) (fun d s1 => wbl d fun k => Q k s1) E := by
  show Wp ((X.ev g e env >>= fun d => match d with | .bl k => pure k | _ => M.bad) s) Q E = _
  rw [wp_seq]
  congr 1
  funext d s1
  cases d <;> rfl
theorem w_tru {e : L} {Q : Bool → Sto → Prop} : Wp (C.ev g (.tru e) env s) Q E = Wp (L.ev g e env s) (fun d s1 => wo (truD d) fun k => Q k s1) E := by
  show Wp ((L.ev g e env >>= fun d => M.opt (truD d)) s) Q E = _
  simp only [wp_seq, w_opt]
theorem w_not {c : C} {Q : Bool → Sto → Prop} : Wp (C.ev g (.not c) env s) Q E = Wp (C.ev g c env s) (fun k s1 => Q (!k) s1) E := by
  show Wp ((C.ev g c env >>= fun k => pure (!k)) s) Q E = _
  rw [wp_seq]; rfl
theorem w_and {a b : C} {Q : Bool → Sto → Prop} : Wp (C.ev g (.and a b) env s) Q E = Wp (C.ev g a env s) (fun k s1 => wif k (Wp (C.ev g b env s1) Q E) (Q false s1)) E := by
  show Wp ((C.ev g a env >>= fun k => match k with | true => C.ev g b env | false => pure false) s) Q E = _
  rw [wp_seq]
  congr 1
  funext k s1
  cases k
  · rw [wif_false]; rfl
  · rw [wif_true]
theorem w_or {a b : C} {Q : Bool → Sto → Prop} : Wp (C.ev g (.or a b) env s) Q E = Wp (C.ev g a env s) (fun k s1 => wif k (Q true s1) (Wp (C.ev g b env s1) Q E)) E := by
  show Wp ((C.ev g a env >>= fun k => match k with | true => pure true | false => C.ev g b env) s) Q E = _
  rw [wp_seq]
  congr 1
  funext k s1
  cases k
  · rw [wif_false]
  · rw [wif_true]; rfl
theorem w_one {c : C} {Q : Bool → Sto → Prop} : Wp (C.ev g (.one c) env s) Q E = Wp (C.ev g c env s) Q E := rfl
theorem w_isE {i c : Nat} {Q : Bool → Sto → Prop} : Wp (C.ev g (.isE i c) env s) Q E = wo (env.exc i) fun e => wo (g.sub e.c c) fun k => Q k s := by
  show Wp (M.opt ((env.exc i).bind fun e => g.sub e.c c) s) Q E = _
  rw [w_opt]
  cases env.exc i <;> rfl
theorem w_disp {es : XS} {Q : List D → Sto → Prop} : Wp (F.ev g (.disp es) env s) Q E = Wp (XS.ev g es env s) (fun ds s1 => ds.length ≤ 16777216 ∧ Q ds s1) E := by
  show Wp ((XS.ev g es env >>= fun ds => M.need (ds.length ≤ 16777216) >>= fun _ => pure ds) s) Q E = _
  rw [wp_seq]
  congr 1
  funext ds s1
  rw [wp_seq]
  unfold M.need
  by_cases h : ds.length ≤ 16777216
  · rw [if_pos h]; simp only [h, true_and]; rfl
  · rw [if_neg h]; simp only [h, false_and]; rfl
theorem w_iseq {a : L} {Q : List D → Sto → Prop} : Wp (It.ev g (.seq a) env s) Q E = Wp (L.ev g a env s) (fun d s1 => wo (walkD d) fun ds => Q ds s1) E := by
  show Wp ((L.ev g a env >>= fun d => M.opt (walkD d)) s) Q E = _
  simp only [wp_seq, w_opt]
theorem w_rng1 {e : X} {Q : List D → Sto → Prop} : Wp (It.ev g (.rng1 e) env s) Q E = Wp (X.ev g e env s) (fun d s1 => wint d fun j => (-(2 ^ 62) ≤ j ∧ j < 2 ^ 62) ∧ Q (rangeI 0 j.toNat) s1) E := by
  show Wp ((X.ev g e env >>= fun d => match d with
    | .int j => M.need (-(2 ^ 62) ≤ j ∧ j < 2 ^ 62) >>= fun _ => pure (rangeI 0 j.toNat)
    | _ => M.bad) s) Q E = _
  rw [wp_seq]
  congr 1
  funext d s1
  cases d <;> try rfl
  rename_i j
  show Wp ((M.need (-(2 ^ 62) ≤ j ∧ j < 2 ^ 62) >>= fun _ => pure (rangeI 0 j.toNat)) s1) Q E = ((-(2 ^ 62) ≤ j ∧ j < 2 ^ 62) ∧ Q (rangeI 0 j.toNat) s1)
  rw [wp_seq]
  unfold M.need
  by_cases h : -(2 ^ 62) ≤ j ∧ j < 2 ^ 62
  · rw [if_pos h]; exact (propext ⟨fun q => ⟨h, q⟩, fun q => q.2⟩)
  · rw [if_neg h]; exact (propext ⟨fun q => q.elim, fun q => h q.1⟩)
/-! ### statements: N what follows where the end is f -/
variable {NN : Fl → Sto → Prop} {EE : Ex → En → Sto → Prop}
theorem v_nil : WpS (SS.ev g .nil env s) NN EE = NN (.nx env) s := rfl
/-- what follows a statement: the rest where it goes on -/
def nxt (k : En → Sto → Prop) (NN : Fl → Sto → Prop) : Fl → Sto → Prop
  | .nx e, s => k e s
  | f, s => NN f s
theorem nxt_nx {k : En → Sto → Prop} {e : En} {s : Sto} : nxt k NN (.nx e) s = k e s := rfl
theorem nxt_rt {k : En → Sto → Prop} {e : D} {s : Sto} : nxt k NN (.rt e) s = NN (.rt e) s := rfl
theorem nxt_bk {k : En → Sto → Prop} {e : En} {s : Sto} : nxt k NN (.bk e) s = NN (.bk e) s := rfl
theorem nxt_ct {k : En → Sto → Prop} {e : En} {s : Sto} : nxt k NN (.ct e) s = NN (.ct e) s := rfl
theorem v_cons {a : S} {r : SS} : WpS (SS.ev g (.cons a r) env s) NN EE = WpS (S.ev g a env s) (nxt (fun e s1 => WpS (SS.ev g r e s1) NN EE) NN) EE := by
  show WpS (match S.ev g a env s with
    | .ok (.nx e') s' => SS.ev g r e' s'
    | .ok f s' => .ok f s'
    | .exc e e' s' => .exc e e' s'
    | .bad => .bad) NN EE = _
  cases S.ev g a env s with
  | ok f s' => cases f <;> rfl
  | exc _ _ _ => rfl
  | bad => rfl
theorem v_fin {i : Nat} {r : SS} : WpS (SS.ev g (.fin i r) env s) NN EE = wo (env.own i) fun ds => WpS (SS.ev g r (env.set i (.val (.lst ds))) s) NN EE := by
  show WpS (match env.own i with | some ds => SS.ev g r (env.set i (.val (.lst ds))) s | none => .bad) NN EE = _
  cases env.own i <;> rfl
theorem v_finO {i : Nat} {r : SS} : WpS (SS.ev g (.finO i r) env s) NN EE = wo (env.own i) fun ds => WpS (SS.ev g r (env.set i (.val (.obj s.length))) (s ++ [.lst ds])) NN EE := by
  show WpS (match env.own i with | some ds => SS.ev g r (env.set i (.val (.obj s.length))) (s ++ [.lst ds]) | none => .bad) NN EE = _
  cases env.own i <;> rfl
/-- a list of the store, or a value -/
def wlo (d : D) (s : Sto) (k1 : Nat → List D → Prop) (k2 : List D → Prop) : Prop := match d with
  | .obj n => wlst s[n]? fun ds => k1 n ds
  | .lst ds => k2 ds
  | _ => False
theorem wlo_obj {n : Nat} {s : Sto} {k1 : Nat → List D → Prop} {k2 : List D → Prop} : wlo (.obj n) s k1 k2 = wlst s[n]? fun ds => k1 n ds := rfl
theorem wlo_lst {ds : List D} {s : Sto} {k1 : Nat → List D → Prop} {k2 : List D → Prop} : wlo (.lst ds) s k1 k2 = k2 ds := rfl
def wen (en : Bool) (ds : List D) (k : List D → Prop) : Prop := k (if en then enumD ds else ds)
theorem wen_t {ds : List D} {k : List D → Prop} : wen true ds k = k (enumD ds) := rfl
theorem wen_f {ds : List D} {k : List D → Prop} : wen false ds k = k ds := rfl
theorem v_forO {t : T} {en : Bool} {x : X} {b : SS} : WpS (S.ev g (.forO t en x b) env s) NN EE = Wp (X.ev g x env s) (fun d s1 => wlo d s1 (fun n ds => wen en ds fun es => WpS (loopF (bodyO g t b n ds) es env s1) NN EE) (fun ds => wen en ds fun es => WpS (loopF (bodyF g t b) es env s1) NN EE)) (fun x s1 => EE x env s1) := by
  show WpS (liftS env (X.ev g x env s) fun d s1 => match d with
    | .obj n => match s1[n]? with
      | some (.lst ds) => loopF (bodyO g t b n ds) (if en then enumD ds else ds) env s1
      | _ => .bad
    | .lst ds => loopF (bodyF g t b) (if en then enumD ds else ds) env s1
    | _ => .bad) NN EE = _
  rw [wps_lift]
  congr 1
  funext d s1
  cases d <;> try rfl
  rename_i n
  show WpS (match s1[n]? with
      | some (.lst ds) => loopF (bodyO g t b n ds) (if en then enumD ds else ds) env s1
      | _ => .bad) NN EE = wlst s1[n]? _
  cases s1[n]? with
  | none => rfl
  | some o => cases o <;> rfl
theorem v_set {t : T} {e : X} : WpS (S.ev g (.set t e) env s) NN EE = Wp (X.ev g e env s) (fun d s1 => wo (stT t d env) fun env' => NN (.nx env') s1) (fun x s1 => EE x env s1) := by
  show WpS (liftS env (X.ev g e env s) fun d s1 => match stT t d env with
    | some env' => .ok (.nx env') s1
    | none => .bad) NN EE = _
  rw [wps_lift]
  congr 1
  funext d s1
  cases stT t d env <;> rfl
theorem v_own {i : Nat} {f : F} : WpS (S.ev g (.own i f) env s) NN EE = Wp (F.ev g f env s) (fun ds s1 => i < env.length ∧ NN (.nx (env.set i (.own ds))) s1) (fun x s1 => EE x env s1) := by
  show WpS (liftS env (F.ev g f env s) fun ds s1 => if i < env.length then .ok (.nx (env.set i (.own ds))) s1 else .bad) NN EE = _
  rw [wps_lift]
  congr 1
  funext d s1
  by_cases h : i < env.length
  · rw [if_pos h]; exact propext ⟨fun q => ⟨h, q⟩, fun q => q.2⟩
  · rw [if_neg h]; exact propext ⟨fun q => q.elim, fun q => h q.1⟩
theorem v_app {i : Nat} {e : X} : WpS (S.ev g (.app i e) env s) NN EE = wo (env.own i) fun ds => Wp (X.ev g e env s) (fun d s1 => ds.length < 16777216 ∧ NN (.nx (env.set i (.own (ds ++ [d])))) s1) (fun x s1 => EE x env s1) := by
  show WpS (match env.own i with
    | some _ => liftS env (X.ev g e env s) fun d s1 => match env.own i with
      | some ds => if ds.length < 16777216 then .ok (.nx (env.set i (.own (ds ++ [d])))) s1 else .bad
      | none => .bad
    | none => .bad) NN EE = _
  cases env.own i with
  | none => rfl
  | some ds =>
    show WpS (liftS env (X.ev g e env s) fun d s1 => if ds.length < 16777216 then .ok (.nx (env.set i (.own (ds ++ [d])))) s1 else .bad) NN EE = _
    rw [wps_lift, wo_some]
    congr 1
    funext d s1
    by_cases h : ds.length < 16777216
    · rw [if_pos h]; exact propext ⟨fun q => ⟨h, q⟩, fun q => q.2⟩
    · rw [if_neg h]; exact propext ⟨fun q => q.elim, fun q => h q.1⟩
theorem v_seti {o i e : X} : WpS (S.ev g (.seti o i e) env s) NN EE = Wp (X.ev g e env s) (fun v s1 => Wp (X.ev g o env s1) (fun x s2 => Wp (X.ev g i env s2) (fun k s3 => wobj x fun n => wint k fun j => wlst s3[n]? fun ds => wo (ixN ds.length j) fun q => NN (.nx env) (s3.set n (.lst (ds.set q v)))) (fun x s1 => EE x env s1)) (fun x s1 => EE x env s1)) (fun x s1 => EE x env s1) := by
  show WpS (liftS env (X.ev g e env s) fun v s1 => liftS env (X.ev g o env s1) fun x s2 => liftS env (X.ev g i env s2) fun k s3 => match x, k with
    | .obj n, .int j => match s3[n]? with
      | some (.lst ds) => match ixN ds.length j with
        | some q => .ok (.nx env) (s3.set n (.lst (ds.set q v)))
        | none => .bad
      | _ => .bad
    | _, _ => .bad) NN EE = _
  simp only [wps_lift]
  congr 1
  funext v s1
  congr 1
  funext x s2
  congr 1
  funext k s3
  cases x <;> try rfl
  rename_i n
  cases k <;> try rfl
  rename_i j
  show WpS (match s3[n]? with
      | some (.lst ds) => match ixN ds.length j with
        | some q => .ok (.nx env) (s3.set n (.lst (ds.set q v)))
        | none => .bad
      | _ => .bad) NN EE = wlst s3[n]? fun ds => wo (ixN ds.length j) fun q => NN (.nx env) (s3.set n (.lst (ds.set q v)))
  cases s3[n]? with
  | none => rfl
  | some ob =>
    cases ob <;> try rfl
    rename_i ds
    show WpS (match ixN ds.length j with
        | some q => .ok (.nx env) (s3.set n (.lst (ds.set q v)))
        | none => .bad) NN EE = wo (ixN ds.length j) fun q => NN (.nx env) (s3.set n (.lst (ds.set q v)))
    cases ixN ds.length j <;> rfl
theorem v_expr {e : X} : WpS (S.ev g (.expr e) env s) NN EE = Wp (X.ev g e env s) (fun _ s1 => NN (.nx env) s1) (fun x s1 => EE x env s1) := by
  show WpS (liftS env (X.ev g e env s) fun _ s1 => .ok (.nx env) s1) NN EE = _
  rw [wps_lift]; rfl
theorem v_ret {e : X} : WpS (S.ev g (.ret e) env s) NN EE = Wp (X.ev g e env s) (fun d s1 => NN (.rt d) s1) (fun x s1 => EE x env s1) := by
  show WpS (liftS env (X.ev g e env s) fun d s1 => .ok (.rt d) s1) NN EE = _
  rw [wps_lift]; rfl
theorem v_retN : WpS (S.ev g .retN env s) NN EE = NN (.rt .non) s := rfl
theorem v_pass : WpS (S.ev g .pass env s) NN EE = NN (.nx env) s := rfl
theorem v_brk : WpS (S.ev g .brk env s) NN EE = NN (.bk env) s := rfl
theorem v_cnt : WpS (S.ev g .cnt env s) NN EE = NN (.ct env) s := rfl
theorem v_ite {c : C} {a b : SS} : WpS (S.ev g (.ite c a b) env s) NN EE = Wp (C.ev g c env s) (fun k s1 => wif k (WpS (SS.ev g a env s1) NN EE) (WpS (SS.ev g b env s1) NN EE)) (fun x s1 => EE x env s1) := by
  show WpS (liftS env (C.ev g c env s) fun k s1 => match k with
    | true => SS.ev g a env s1
    | false => SS.ev g b env s1) NN EE = _
  rw [wps_lift]
  congr 1
  funext k s1
  cases k
  · rw [wif_false]
  · rw [wif_true]
theorem v_for {t : T} {it : It} {b : SS} : WpS (S.ev g (.for t it b) env s) NN EE = Wp (It.ev g it env s) (fun ds s1 => WpS (loopF (bodyF g t b) ds env s1) NN EE) (fun x s1 => EE x env s1) := by
  show WpS (liftS env (It.ev g it env s) fun ds s1 => loopF (bodyF g t b) ds env s1) NN EE = _
  rw [wps_lift]
theorem v_raise {c : Nat} {es : XS} : WpS (S.ev g (.raise c es) env s) NN EE = Wp (XS.ev g es env s) (fun ds s1 => wo (g.xfld c) fun fs => ds.length = fs.length ∧ EE ⟨c, fs.zip ds⟩ env s1) (fun x s1 => EE x env s1) := by
  show WpS (liftS env (XS.ev g es env s) fun ds s1 => match g.xfld c with
    | some fs => if ds.length = fs.length then .exc ⟨c, fs.zip ds⟩ env s1 else .bad
    | none => .bad) NN EE = _
  rw [wps_lift]
  congr 1
  funext ds s1
  cases g.xfld c with
  | none => rfl
  | some fs =>
    show WpS (if ds.length = fs.length then .exc ⟨c, fs.zip ds⟩ env s1 else .bad) NN EE = (ds.length = fs.length ∧ EE ⟨c, fs.zip ds⟩ env s1)
    by_cases h : ds.length = fs.length
    · rw [if_pos h]; exact propext ⟨fun q => ⟨h, q⟩, fun q => q.2⟩
    · rw [if_neg h]; exact propext ⟨fun q => q.elim, fun q => h q.1⟩
def sufE (a : Option Nat) (NN : Fl → Sto → Prop) : Fl → Sto → Prop
  | .nx e, s => NN (.nx (goneX a e)) s
  | .bk e, s => NN (.bk (goneX a e)) s
  | .ct e, s => NN (.ct (goneX a e)) s
  | .rt v, s => NN (.rt v) s
theorem v_try1 {b h : SS} {c : Nat} {a : Option Nat} : WpS (S.ev g (.try1 b c a h) env s) NN EE = WpS (SS.ev g b env s) NN (fun e env' s' => wo (g.sub e.c c) fun k => wif k (WpS (SS.ev g h (asX a e env') s') (sufE a NN) (fun _ _ _ => False)) (EE e env' s')) := by
  show WpS (match SS.ev g b env s with
    | .exc e env' s' => match g.sub e.c c with
      | some true => suiteR a (SS.ev g h (asX a e env') s')
      | some false => .exc e env' s'
      | none => .bad
    | .ok f s' => .ok f s'
    | .bad => .bad) NN EE = _
  cases SS.ev g b env s with
  | ok f s' => rfl
  | bad => rfl
  | exc e env' s' =>
    show WpS (match g.sub e.c c with
      | some true => suiteR a (SS.ev g h (asX a e env') s')
      | some false => .exc e env' s'
      | none => .bad) NN EE = wo (g.sub e.c c) fun k => wif k (WpS (SS.ev g h (asX a e env') s') (sufE a NN) (fun _ _ _ => False)) (EE e env' s')
    cases g.sub e.c c with
    | none => rfl
    | some k =>
      cases k with
      | false => rw [wo_some, wif_false]; rfl
      | true =>
        rw [wo_some, wif_true]
        show WpS (suiteR a (SS.ev g h (asX a e env') s')) NN EE = _
        cases SS.ev g h (asX a e env') s' with
        | ok f s2 => cases f <;> rfl
        | exc _ _ _ => rfl
        | bad => rfl
theorem v_try2 {b h h2 : SS} {c c2 : Nat} {a a2 : Option Nat} : WpS (S.ev g (.try2 b c a h c2 a2 h2) env s) NN EE = WpS (SS.ev g b env s) NN (fun e env' s' => wo (g.sub e.c c) fun k => wif k (WpS (SS.ev g h (asX a e env') s') (sufE a NN) (fun _ _ _ => False)) (wo (g.sub e.c c2) fun k2 => wif k2 (WpS (SS.ev g h2 (asX a2 e env') s') (sufE a2 NN) (fun _ _ _ => False)) (EE e env' s'))) := by
  have suf : ∀ {a : Option Nat} {r : RS}, WpS (suiteR a r) NN EE = WpS r (sufE a NN) (fun _ _ _ => False) := fun {a r} => by
    cases r with
    | ok f s2 => cases f <;> rfl
    | exc _ _ _ => rfl
    | bad => rfl
  show WpS (match SS.ev g b env s with
    | .exc e env' s' => match g.sub e.c c with
      | some true => suiteR a (SS.ev g h (asX a e env') s')
      | some false => match g.sub e.c c2 with
        | some true => suiteR a2 (SS.ev g h2 (asX a2 e env') s')
        | some false => .exc e env' s'
        | none => .bad
      | none => .bad
    | .ok f s' => .ok f s'
    | .bad => .bad) NN EE = _
  cases SS.ev g b env s with
  | ok f s' => rfl
  | bad => rfl
  | exc e env' s' =>
    show WpS (match g.sub e.c c with
      | some true => suiteR a (SS.ev g h (asX a e env') s')
      | some false => match g.sub e.c c2 with
        | some true => suiteR a2 (SS.ev g h2 (asX a2 e env') s')
        | some false => .exc e env' s'
        | none => .bad
      | none => .bad) NN EE = wo (g.sub e.c c) _
    cases g.sub e.c c with
    | none => rfl
    | some k =>
      cases k with
      | true => rw [wo_some, wif_true]; exact suf
      | false =>
        rw [wo_some, wif_false]
        show WpS (match g.sub e.c c2 with
          | some true => suiteR a2 (SS.ev g h2 (asX a2 e env') s')
          | some false => .exc e env' s'
          | none => .bad) NN EE = wo (g.sub e.c c2) _
        cases g.sub e.c c2 with
        | none => rfl
        | some k =>
          cases k with
          | true => rw [wo_some, wif_true]; exact suf
          | false => rw [wo_some, wif_false]; rfl
/-- a def's run -/
def endN (Q : D → Sto → Prop) : Fl → Sto → Prop
  | .rt v, s => Q v s
  | .nx _, s => Q .non s
  | .bk _, _ => False
  | .ct _, _ => False
theorem w_run {d : Def} {ds : List D} {Q : D → Sto → Prop} : Wp (runD g d ds s) Q E = (ds.length = d.np ∧ WpS (SS.ev g d.body (ds.map Sl.val ++ List.replicate (d.N.length - d.np) Sl.no) s) (endN Q) (fun e _ s1 => E e s1)) := by
  unfold runD
  by_cases h : ds.length = d.np
  · rw [if_pos h]
    have : ∀ r : RS, Wp (endD r) Q E = WpS r (endN Q) (fun e _ s1 => E e s1) := fun r => by
      cases r with
      | ok f s => cases f <;> rfl
      | exc _ _ _ => rfl
      | bad => rfl
    rw [this]
    exact propext ⟨fun q => ⟨h, q⟩, fun q => q.2⟩
  · rw [if_neg h]; exact propext ⟨fun q => q.elim, fun q => h q.1⟩
end
end Fx

set_option Elab.async false
set_option linter.all false
set_option maxRecDepth 100000
set_option maxHeartbeats 4000000
/-! Fx 22: the plain walk's tellings of values, slots, loops, calls. -/
namespace Fx
open PySem PySem.Spec PyProof.Rows L2
section
variable {k : D → Prop}
theorem o_val0 {a : D} {r : En} : wo (En.val (.val a :: r) 0) k = k a := rfl
theorem o_valS {x : Sl} {r : En} {n : Nat} : wo (En.val (x :: r) (n + 1)) k = wo (En.val r n) k := rfl
theorem o_own0 {a : List D} {r : En} {k : List D → Prop} : wo (En.own (.own a :: r) 0) k = k a := rfl
theorem o_ownS {x : Sl} {r : En} {n : Nat} {k : List D → Prop} : wo (En.own (x :: r) (n + 1)) k = wo (En.own r n) k := rfl
theorem o_exc0 {a : Ex} {r : En} {k : Ex → Prop} : wo (En.exc (.exc a :: r) 0) k = k a := rfl
theorem o_excS {x : Sl} {r : En} {n : Nat} {k : Ex → Prop} : wo (En.exc (x :: r) (n + 1)) k = wo (En.exc r n) k := rfl
theorem o_map {α β : Type} {f : α → β} {o : Option α} {k : β → Prop} : wo (o.map f) k = wo o fun a => k (f a) := by cases o <;> rfl
theorem o_add {i j : Int} : wo (opBin .Add (.int i) (.int j)) k = k (.int (i + j)) := rfl
theorem o_sub {i j : Int} : wo (opBin .Sub (.int i) (.int j)) k = k (.int (i - j)) := rfl
theorem o_if {α : Type} {p : Prop} [Decidable p] {a : α} {k : α → Prop} : wo (if p then some a else none) k = (p ∧ k a) := by
  by_cases h : p
  · rw [if_pos h]; exact propext ⟨fun q => ⟨h, q⟩, fun q => q.2⟩
  · rw [if_neg h]; exact propext ⟨fun q => q.elim, fun q => h q.1⟩
theorem o_mul {i j : Int} : wo (opBin .Mult (.int i) (.int j)) k = (okMul i j ∧ k (.int (i * j))) := o_if
theorem o_div {i j : Int} : wo (opBin .FloorDiv (.int i) (.int j)) k = ((0 < j ∧ j < 1073741824) ∧ k (.int (i / j))) := o_if
theorem o_mod {i j : Int} : wo (opBin .Mod (.int i) (.int j)) k = (0 < j ∧ k (.int (i % j))) := o_if
theorem o_adds {i j : Str} : wo (opBin .Add (.str i) (.str j)) k = (i.length + j.length ≤ 16777216 ∧ k (.str (i ++ j))) := o_if
theorem o_addt {i j : List D} : wo (opBin .Add (.tup i) (.tup j)) k = (i.length + j.length ≤ 16777216 ∧ k (.tup (i ++ j))) := o_if
variable {q : Bool → Prop}
theorem o_eqI {i j : Int} : wo (opCmp .Eq (.int i) (.int j)) q = q (decide (i = j)) := rfl
theorem o_eqS {i j : Str} : wo (opCmp .Eq (.str i) (.str j)) q = q (decide (i = j)) := rfl
theorem o_eqB {i j : Bool} : wo (opCmp .Eq (.bl i) (.bl j)) q = q (decide (i = j)) := rfl
theorem o_neI {i j : Int} : wo (opCmp .NotEq (.int i) (.int j)) q = q (!decide (i = j)) := rfl
theorem o_neS {i j : Str} : wo (opCmp .NotEq (.str i) (.str j)) q = q (!decide (i = j)) := rfl
theorem o_ltI {i j : Int} : wo (opCmp .Lt (.int i) (.int j)) q = q (decide (i < j)) := rfl
theorem o_gtI {i j : Int} : wo (opCmp .Gt (.int i) (.int j)) q = q (decide (j < i)) := rfl
theorem o_leI {i j : Int} : wo (opCmp .LtE (.int i) (.int j)) q = q (!decide (j < i)) := rfl
theorem o_geI {i j : Int} : wo (opCmp .GtE (.int i) (.int j)) q = q (!decide (i < j)) := rfl
theorem o_isN : wo (opCmp .Is .non .non) q = q true := rfl
theorem o_isI {i : Int} : wo (opCmp .Is (.int i) .non) q = q false := rfl
theorem o_isB {i : Bool} : wo (opCmp .Is (.bl i) .non) q = q false := rfl
theorem o_isS {i : Str} : wo (opCmp .Is (.str i) .non) q = q false := rfl
theorem o_isT {i : List D} : wo (opCmp .Is (.tup i) .non) q = q false := rfl
theorem o_isL {i : List D} : wo (opCmp .Is (.lst i) .non) q = q false := rfl
theorem o_isO {i : Nat} : wo (opCmp .Is (.obj i) .non) q = q false := rfl
theorem o_notN : wo (opCmp .IsNot .non .non) q = q false := rfl
theorem o_notI {i : Int} : wo (opCmp .IsNot (.int i) .non) q = q true := rfl
theorem o_notB {i : Bool} : wo (opCmp .IsNot (.bl i) .non) q = q true := rfl
theorem o_notS {i : Str} : wo (opCmp .IsNot (.str i) .non) q = q true := rfl
theorem o_notT {i : List D} : wo (opCmp .IsNot (.tup i) .non) q = q true := rfl
theorem o_notL {i : List D} : wo (opCmp .IsNot (.lst i) .non) q = q true := rfl
theorem o_notO {i : Nat} : wo (opCmp .IsNot (.obj i) .non) q = q true := rfl
theorem o_trN : wo (truD .non) q = q false := rfl
theorem o_trB {b : Bool} : wo (truD (.bl b)) q = q b := rfl
theorem o_trI {b : Int} : wo (truD (.int b)) q = q (b != 0) := rfl
theorem o_trT {b : List D} : wo (truD (.tup b)) q = q (!b.isEmpty) := rfl
theorem o_trL {b : List D} : wo (truD (.lst b)) q = q (!b.isEmpty) := rfl
/-- places of a list that is told whole -/
theorem at_pos {ds : List D} {i : Int} (h0 : 0 ≤ i) (h : i < ds.length) : atI ds i = ds[i.toNat]? := by
  unfold atI ixN
  rw [if_pos h0, if_pos h]; rfl
theorem a_0 {d : D} {r : List D} : wo (atI (d :: r) 0) k = k d := by
  rw [at_pos (by omega) (by rw [List.length_cons]; omega)]; rfl
theorem a_1 {d e : D} {r : List D} : wo (atI (d :: e :: r) 1) k = k e := by
  rw [at_pos (by omega) (by rw [List.length_cons, List.length_cons]; omega)]; rfl
theorem a_2 {d e f : D} {r : List D} : wo (atI (d :: e :: f :: r) 2) k = k f := by
  rw [at_pos (by omega) (by rw [List.length_cons, List.length_cons, List.length_cons]; omega)]; rfl
theorem a_get {ds : List D} {i : Int} {d : D} (h0 : 0 ≤ i) (h : ds[i.toNat]? = some d) : wo (atI ds i) k = k d := by
  have := (List.getElem?_eq_some_iff.mp h).1
  rw [at_pos h0 (by omega), h]; rfl
theorem x_tup {ds : List D} {i : Int} {s : Sto} : wix (.tup ds) (.int i) s k = wo (atI ds i) k := rfl
theorem x_lst {ds : List D} {i : Int} {s : Sto} : wix (.lst ds) (.int i) s k = wo (atI ds i) k := rfl
theorem x_obj {n : Nat} {i : Int} {s : Sto} : wix (.obj n) (.int i) s k = wlst s[n]? fun ds => wo (atI ds i) k := rfl
theorem st_S {o : O} {n : Nat} {s : Sto} {k : List D → Prop} : wlst ((o :: s)[n + 1]?) k = wlst s[n]? k := rfl
theorem st_0 {ds : List D} {s : Sto} {k : List D → Prop} : wlst ((O.lst ds :: s)[0]?) k = k ds := rfl
theorem b_lenO {n : Nat} {s : Sto} : wb1 .len (.obj n) s k = wlst s[n]? fun ds => k (.int ds.length) := rfl
theorem b_lenT {n : List D} {s : Sto} : wb1 .len (.tup n) s k = k (.int n.length) := rfl
theorem b_lenL {n : List D} {s : Sto} : wb1 .len (.lst n) s k = k (.int n.length) := rfl
theorem b_intI {n : Int} {s : Sto} : wb1 .int (.int n) s k = k (.int n) := rfl
theorem b_intB {n : Bool} {s : Sto} : wb1 .int (.bl n) s k = k (.int (if n then 1 else 0)) := rfl
theorem b_repr {d : D} {s : Sto} : wb1 .repr d s k = ((d.flat = true ∧ d.py.showable = true ∧ d.py.depth ≤ 64 ∧ d.py.shown.length ≤ 16777216) ∧ k (.str d.py.shown)) := by
  have : wb1 .repr d s k = wo (opB1 .repr d) k := by cases d <;> rfl
  rw [this]
  have : opB1 .repr d = if d.flat = true ∧ d.py.showable = true ∧ d.py.depth ≤ 64 ∧ d.py.shown.length ≤ 16777216 then some (.str d.py.shown) else none := by cases d <;> rfl
  rw [this]
  exact o_if
end
theorem i_dec {p : Prop} [Decidable p] {a b : Prop} : wif (decide p) a b = ((p → a) ∧ (¬ p → b)) := by
  by_cases h : p <;> simp [wif, h]
theorem i_not {b : Bool} {p q : Prop} : wif (!b) p q = wif b q p := by cases b <;> simp [wif]
/-! ### slots -/
def wset (env : En) (i : Nat) (x : Sl) (k : En → Prop) : Prop := i < env.length ∧ k (env.set i x)
theorem e_0 {a x : Sl} {r : En} {k : En → Prop} : wset (a :: r) 0 x k = k (x :: r) := propext ⟨fun q => q.2, fun q => ⟨by simp, q⟩⟩
theorem e_S {a x : Sl} {r : En} {n : Nat} {k : En → Prop} : wset (a :: r) (n + 1) x k = wset r n x fun r' => k (a :: r') := by
  unfold wset
  rw [List.length_cons, List.set_cons_succ]
  exact propext ⟨fun q => ⟨by omega, q.2⟩, fun q => ⟨by omega, q.2⟩⟩
theorem t_name {i : Nat} {d : D} {env : En} {k : En → Prop} : wo (stT (.name i) d env) k = wset env i (.val d) k := o_if
theorem t_tup {ts : TS} {ds : List D} {env : En} {k : En → Prop} : wo (stT (.tup ts) (.tup ds) env) k = wo (stTS ts ds env) k := rfl
theorem t_nil {env : En} {k : En → Prop} : wo (stTS .nil [] env) k = k env := rfl
theorem t_cons {t : T} {r : TS} {d : D} {ds : List D} {env : En} {k : En → Prop} : wo (stTS (.cons t r) (d :: ds) env) k = wo (stT t d env) fun e => wo (stTS r ds e) k := by
  show wo ((stT t d env).bind (stTS r ds)) k = _
  cases stT t d env <;> rfl
section
variable {g : G} {env : En} {s : Sto} {E : Ex → Sto → Prop} {NN : Fl → Sto → Prop} {EE : Ex → En → Sto → Prop}
theorem u_own {i : Nat} {f : F} : WpS (S.ev g (.own i f) env s) NN EE = Wp (F.ev g f env s) (fun ds s1 => wset env i (.own ds) fun e => NN (.nx e) s1) (fun x s1 => EE x env s1) := v_own
theorem own_lt {i : Nat} {ds : List D} (h : env.own i = some ds) : i < env.length := by
  unfold En.own at h
  rcases Nat.lt_or_ge i env.length with q | q
  · exact q
  · rw [List.getElem?_eq_none q] at h; cases h
theorem u_app {i : Nat} {e : X} : WpS (S.ev g (.app i e) env s) NN EE = wo (env.own i) fun ds => Wp (X.ev g e env s) (fun d s1 => ds.length < 16777216 ∧ wset env i (.own (ds ++ [d])) fun e' => NN (.nx e') s1) (fun x s1 => EE x env s1) := by
  rw [v_app]
  unfold wset
  cases h : env.own i with
  | none => rfl
  | some ds =>
    rw [wo_some, wo_some]
    simp only [own_lt h, true_and]
theorem u_fin {i : Nat} {r : SS} : WpS (SS.ev g (.fin i r) env s) NN EE = wo (env.own i) fun ds => wset env i (.val (.lst ds)) fun e => WpS (SS.ev g r e s) NN EE := by
  rw [v_fin]
  unfold wset
  cases h : env.own i with
  | none => rfl
  | some ds => rw [wo_some, wo_some]; simp only [own_lt h, true_and]
theorem u_finO {i : Nat} {r : SS} : WpS (SS.ev g (.finO i r) env s) NN EE = wo (env.own i) fun ds => wset env i (.val (.obj s.length)) fun e => WpS (SS.ev g r e (s ++ [.lst ds])) NN EE := by
  rw [v_finO]
  unfold wset
  cases h : env.own i with
  | none => rfl
  | some ds => rw [wo_some, wo_some]; simp only [own_lt h, true_and]
/-- a place's new thing -/
def wseq (ds : List D) (j : Int) (v : D) (k : List D → Prop) : Prop := wo (ixN ds.length j) fun q => k (ds.set q v)
theorem q_pos {ds : List D} {j : Int} {v : D} {k : List D → Prop} (h0 : 0 ≤ j) (h : j < ds.length) : wseq ds j v k = k (ds.set j.toNat v) := by
  unfold wseq ixN
  rw [if_pos h0, if_pos h]; rfl
theorem q_0 {d : D} {r : List D} {v : D} {k : List D → Prop} : wseq (d :: r) 0 v k = k (v :: r) := by
  rw [q_pos (by omega) (by rw [List.length_cons]; omega)]; rfl
theorem q_1 {d e : D} {r : List D} {v : D} {k : List D → Prop} : wseq (d :: e :: r) 1 v k = k (d :: v :: r) := by
  rw [q_pos (by omega) (by simp only [List.length_cons]; omega)]; rfl
theorem q_2 {d e f : D} {r : List D} {v : D} {k : List D → Prop} : wseq (d :: e :: f :: r) 2 v k = k (d :: e :: v :: r) := by
  rw [q_pos (by omega) (by simp only [List.length_cons]; omega)]; rfl
def wst (s : Sto) (n : Nat) (o : O) (k : Sto → Prop) : Prop := k (s.set n o)
theorem p_0 {a o : O} {s : Sto} {k : Sto → Prop} : wst (a :: s) 0 o k = k (o :: s) := rfl
theorem p_S {a o : O} {s : Sto} {n : Nat} {k : Sto → Prop} : wst (a :: s) (n + 1) o k = wst s n o fun s' => k (a :: s') := rfl
theorem u_seti {o i e : X} : WpS (S.ev g (.seti o i e) env s) NN EE = Wp (X.ev g e env s) (fun v s1 => Wp (X.ev g o env s1) (fun x s2 => Wp (X.ev g i env s2) (fun k s3 => wobj x fun n => wint k fun j => wlst s3[n]? fun ds => wseq ds j v fun ds' => wst s3 n (.lst ds') fun s4 => NN (.nx env) s4) (fun x s1 => EE x env s1)) (fun x s1 => EE x env s1)) (fun x s1 => EE x env s1) := v_seti
/-! ### loops -/
def lpN (k : En → Sto → Prop) (NN : Fl → Sto → Prop) : Fl → Sto → Prop
  | .nx e, s => k e s
  | .ct e, s => k e s
  | .bk e, s => NN (.nx e) s
  | .rt v, s => NN (.rt v) s
theorem lp_nx {k : En → Sto → Prop} {e : En} : lpN k NN (.nx e) s = k e s := rfl
theorem lp_ct {k : En → Sto → Prop} {e : En} : lpN k NN (.ct e) s = k e s := rfl
theorem lp_bk {k : En → Sto → Prop} {e : En} : lpN k NN (.bk e) s = NN (.nx e) s := rfl
theorem lp_rt {k : En → Sto → Prop} {e : D} : lpN k NN (.rt e) s = NN (.rt e) s := rfl
theorem l_nil {t : T} {b : SS} : WpS (loopF (bodyF g t b) [] env s) NN EE = NN (.nx env) s := rfl
theorem l_cons {t : T} {b : SS} {d : D} {ds : List D} : WpS (loopF (bodyF g t b) (d :: ds) env s) NN EE = wo (stT t d env) fun e' => WpS (SS.ev g b e' s) (lpN (fun e s => WpS (loopF (bodyF g t b) ds e s) NN EE) NN) EE := by
  have : bodyF g t b d env s = match stT t d env with
    | some env' => SS.ev g b env' s
    | none => .bad := rfl
  show WpS (match bodyF g t b d env s with
    | .ok (.nx e') s' => loopF (bodyF g t b) ds e' s'
    | .ok (.ct e') s' => loopF (bodyF g t b) ds e' s'
    | .ok (.bk e') s' => .ok (.nx e') s'
    | .ok (.rt v) s' => .ok (.rt v) s'
    | .exc e e' s' => .exc e e' s'
    | .bad => .bad) NN EE = _
  rw [this]
  cases stT t d env with
  | none => rfl
  | some e' =>
    rw [wo_some]
    show WpS (match SS.ev g b e' s with
    | .ok (.nx e') s' => loopF (bodyF g t b) ds e' s'
    | .ok (.ct e') s' => loopF (bodyF g t b) ds e' s'
    | .ok (.bk e') s' => .ok (.nx e') s'
    | .ok (.rt v) s' => .ok (.rt v) s'
    | .exc e e' s' => .exc e e' s'
    | .bad => .bad) NN EE = _
    cases SS.ev g b e' s with
    | ok f s' => cases f <;> rfl
    | exc _ _ _ => rfl
    | bad => rfl
/-! ### calls -/
theorem gen_dv {T : G} {defs : List Def} {n : Nat} : (gen T defs n).dv = T.dv := by cases n <;> rfl
theorem w_call0 {T : G} {defs : List Def} {n f nd : Nat} {es : XS} {Q : D → Sto → Prop} (h : T.dv f nd = []) : Wp (X.ev (gen T defs n) (.call f es nd) env s) Q E = Wp (XS.ev (gen T defs n) es env s) (fun ds s1 => Wp ((gen T defs n).call f ds s1) Q E) E := by
  rw [w_call, gen_dv, h]
  simp only [List.append_nil]
/-- a run's first step: the def's body over its slots -/
theorem w_def {T : G} {defs : List Def} {n f : Nat} {d : Def} {ds : List D} {env : En} {Q : D → Sto → Prop} (h : defs[f]? = some d) (hl : ds.length = d.np) (he : ds.map Sl.val ++ List.replicate (d.N.length - d.np) Sl.no = env) : Wp ((gen T defs (n + 1)).call f ds s) Q E = WpS (SS.ev (gen T defs n) d.body env s) (endN Q) (fun e _ s1 => E e s1) := by
  have : (gen T defs (n + 1)).call f ds = runD (gen T defs n) d ds := by
    show (match defs[f]? with
      | some d => runD (gen T defs n) d ds
      | none => M.bad) = _
    rw [h]
  rw [this, w_run, he]
  exact propext ⟨fun q => q.2, fun q => ⟨hl, q⟩⟩
theorem endN_rt {Q : D → Sto → Prop} {v : D} : endN Q (.rt v) s = Q v s := rfl
theorem endN_nx {Q : D → Sto → Prop} {v : En} : endN Q (.nx v) s = Q .non s := rfl
theorem sufE_nx {a : Option Nat} {e : En} : sufE a NN (.nx e) s = NN (.nx (goneX a e)) s := rfl
theorem sufE_bk {a : Option Nat} {e : En} : sufE a NN (.bk e) s = NN (.bk (goneX a e)) s := rfl
theorem sufE_ct {a : Option Nat} {e : En} : sufE a NN (.ct e) s = NN (.ct (goneX a e)) s := rfl
theorem sufE_rt {a : Option Nat} {e : D} : sufE a NN (.rt e) s = NN (.rt e) s := rfl
end
theorem wp_okI {α : Type} {r : R α} {a : α} {s : Sto} (h : r = .ok a s) {Q : α → Sto → Prop} {E : Ex → Sto → Prop} : Wp r Q E = Q a s := by rw [h]; rfl
theorem wp_okE {α : Type} {r : R α} {a : α} {s : Sto} (h : Wp r (fun b t => b = a ∧ t = s) (fun _ _ => False)) : r = .ok a s := by
  cases r with
  | ok b t => rcases h with ⟨h1, h2⟩; rw [h1, h2]
  | exc _ _ => exact absurd h id
  | bad => exact absurd h id
end Fx

set_option Elab.async false
set_option linter.all false
set_option maxRecDepth 100000
set_option maxHeartbeats 4000000
/-! Fx 23: text of data; pairs of ints told apart and in order. -/
namespace Fx
open PySem PySem.Spec PyProof.Rows L2
def okR (d : D) : Prop := d.flat = true ∧ d.py.showable = true ∧ d.py.depth ≤ 64 ∧ d.py.shown.length ≤ 16777216
theorem b_reprK {d : D} {s : Sto} {k : D → Prop} : wb1 .repr d s k = (okR d ∧ k (.str d.py.shown)) := b_repr
/-- an int whose text is short -/
def smI (i : Int) : Prop := i.natAbs < 10 ^ 30
theorem smI_of {i : Int} (h : -1000000000000000000000000000000 < i) (h' : i < 1000000000000000000000000000000) : smI i := by
  have e : (10 : Nat) ^ 30 = 1000000000000000000000000000000 := by decide +kernel
  unfold smI
  rw [e]; omega
mutual
/-- a datum with short leaves -/
def smD : D → Prop
  | .int i => smI i
  | .str x => ∀ c ∈ x.cps.toList, c < 16 ^ 8
  | .tup ds => smA ds
  | .lst ds => smA ds
  | .non => True
  | .bl _ => True
  | .obj _ => True
def smA : List D → Prop
  | [] => True
  | d :: ds => smD d ∧ smA ds
end
theorem smI_log2 {i : Int} (h : smI i) : i.natAbs.log2 < 100 := by
  by_cases h0 : i.natAbs = 0
  · rw [h0]; decide
  · exact (Nat.log2_lt h0).mpr (Nat.lt_of_lt_of_le h (by decide +kernel))
theorem smI_log {i : Int} (h : smI i) : i.natAbs.log2 < 1920 := Nat.lt_trans (smI_log2 h) (by decide)
theorem smI_w {i : Int} (h : smI i) : (PyData.int i).weight ≤ 100 := by
  have := smI_log2 h
  show (if i == 0 then 0 else i.natAbs.log2 + 1) ≤ 100
  split <;> omega
theorem smI_len {i : Int} (h : smI i) : (PyData.shown (.int i)).length ≤ 32 := by
  have h1 := int_text_length_le10 (k := 30) (by decide) h
  show (Str.ofString (toString i)).length ≤ 32
  rw [PySem.ofString_length]; omega
mutual
theorem sm_show : ∀ d : D, smD d → d.py.showable = true ∧ d.py.leavesShort 32 = true
  | .int i, h => ⟨decide_eq_true (smI_log h), decide_eq_true (smI_len h)⟩
  | .str x, h => ⟨rfl, by
    show (x.cps.toList.all fun c => decide (c < 16 ^ 8)) = true
    simp only [List.all_eq_true, decide_eq_true_eq]
    exact h⟩
  | .tup ds, h => sm_showA ds h
  | .lst ds, h => sm_showA ds h
  | .non, _ => ⟨rfl, rfl⟩
  | .bl _, _ => ⟨rfl, rfl⟩
  | .obj _, _ => ⟨rfl, rfl⟩
theorem sm_showA : ∀ ds : List D, smA ds → PyData.showableAll (D.pyAll ds) = true ∧ PyData.leavesShortAll 32 (D.pyAll ds) = true
  | [], _ => ⟨rfl, rfl⟩
  | d :: ds, h => by
    have h1 := sm_show d h.1
    have h2 := sm_showA ds h.2
    simp only [D.pyAll, PyData.showableAll, PyData.leavesShortAll, h1.1, h1.2, h2.1, h2.2, Bool.and_self, and_self]
end
theorem okR_of {d : D} (hf : d.flat = true) (hs : smD d) (hd : d.py.depth ≤ 64) (hw : d.py.weight ≤ 490000) : okR d := by
  have h := sm_show d hs
  have := PyData.shown_le 32 (by decide) d.py h.2
  exact ⟨hf, h.1, hd, by omega⟩
theorem r_non : okR .non := okR_of rfl trivial (by decide) (by decide)
theorem r_bl {b : Bool} : okR (.bl b) := okR_of rfl trivial (by cases b <;> decide) (by cases b <;> decide)
theorem r_t2 {a b : Int} (ha : smI a) (hb : smI b) : okR (.tup [.int a, .int b]) := by
  refine okR_of rfl ⟨ha, hb, trivial⟩ ?_ ?_
  · simp only [D.py, D.pyAll, PyData.depth, PyData.depthAll]; omega
  · have h1 := smI_w ha
    have h2 := smI_w hb
    simp only [D.py, D.pyAll, PyData.weight, PyData.weightAll] at h1 h2 ⊢; omega
theorem c_ltD {a b c d : Int} : ltD (.tup [.int a, .int b]) (.tup [.int c, .int d]) = some (decide (a < c ∨ a = c ∧ b < d)) := by
  have hd : ∀ a b : Int, (D.tup [.int a, .int b]).py.depth ≤ 32 := fun a b => by
    simp only [D.py, D.pyAll, PyData.depth, PyData.depthAll]; omega
  have h : PySem.W.dataLt (D.tup [.int a, .int b]).py (D.tup [.int c, .int d]).py = decide (a < c ∨ a = c ∧ b < d) := by
    simp only [D.py, D.pyAll, PySem.W.dataLt, PySem.W.keyToks, PySem.W.keyToksAll, List.cons_append, List.nil_append]
    rw [PyProof.Rows.lex_self (O := itemOrd)]
    by_cases h1 : a = c
    · subst h1
      rw [PyProof.Rows.lex_self (O := itemOrd), PyProof.Rows.lex_self (O := itemOrd)]
      by_cases h2 : b = d
      · subst h2
        simp only [Int.lt_irrefl, and_false, or_self, decide_false]
        exact PyProof.Rows.lex_irrefl _
      · have := PySem.W.dataLt_int b d
        simp only [PySem.W.dataLt, PySem.W.keyToks] at this
        rw [PySem.W.lex_atom (by simpa using h2), this]
        simp
    · rw [PySem.W.lex_atom (by simpa using h1)]
      have := PySem.W.dataLt_int a c
      simp only [PySem.W.dataLt, PySem.W.keyToks] at this
      rw [this]
      simp [h1]
  have : ltD (.tup [.int a, .int b]) (.tup [.int c, .int d]) = if (D.tup [.int a, .int b]).flat = true ∧ (D.tup [.int c, .int d]).flat = true ∧ PySem.W.alike (D.tup [.int a, .int b]).py (D.tup [.int c, .int d]).py = true ∧ (D.tup [.int a, .int b]).isN = false ∧ (D.tup [.int a, .int b]).py.depth ≤ 32 ∧ (D.tup [.int c, .int d]).py.depth ≤ 32 then some (PySem.W.dataLt (D.tup [.int a, .int b]).py (D.tup [.int c, .int d]).py) else none := rfl
  rw [this, if_pos ⟨rfl, rfl, rfl, rfl, hd a b, hd c d⟩, h]
theorem c_eqD {a b c d : Int} : eqD (.tup [.int a, .int b]) (.tup [.int c, .int d]) = some (decide (a = c ∧ b = d)) := by
  have h : PyData.eqv (D.tup [.int a, .int b]).py (D.tup [.int c, .int d]).py = decide (a = c ∧ b = d) := by
    simp only [D.py, D.pyAll, PyData.eqv, PyData.eqvAll]
    by_cases h1 : a = c <;> by_cases h2 : b = d <;> simp [h1, h2]
  have : eqD (.tup [.int a, .int b]) (.tup [.int c, .int d]) = if (D.tup [.int a, .int b]).flat = true ∧ (D.tup [.int c, .int d]).flat = true ∧ SeqAt.shaped (D.tup [.int a, .int b]).py = true ∧ SeqAt.shaped (D.tup [.int c, .int d]).py = true then some (PyData.eqv (D.tup [.int a, .int b]).py (D.tup [.int c, .int d]).py) else none := rfl
  rw [this, if_pos ⟨rfl, rfl, rfl, rfl⟩, h]
section
variable {q : Bool → Prop} {k : D → Prop} {a b c d : Int}
theorem o_leT : wo (opCmp .LtE (.tup [.int a, .int b]) (.tup [.int c, .int d])) q = q (!decide (c < a ∨ c = a ∧ d < b)) := by
  show wo ((ltD (.tup [.int c, .int d]) (.tup [.int a, .int b])).map (!·)) q = _
  rw [c_ltD]; rfl
theorem o_ltT : wo (opCmp .Lt (.tup [.int a, .int b]) (.tup [.int c, .int d])) q = q (decide (a < c ∨ a = c ∧ b < d)) := by
  show wo (ltD (.tup [.int a, .int b]) (.tup [.int c, .int d])) q = _
  rw [c_ltD]; rfl
theorem o_eqT : wo (opCmp .Eq (.tup [.int a, .int b]) (.tup [.int c, .int d])) q = q (decide (a = c ∧ b = d)) := by
  show wo (eqD (.tup [.int a, .int b]) (.tup [.int c, .int d])) q = _
  rw [c_eqD]; rfl
theorem o_minT : wo (opB2 .min (.tup [.int a, .int b]) (.tup [.int c, .int d])) k = k (.tup [.int (if c < a ∨ c = a ∧ d < b then c else a), .int (if c < a ∨ c = a ∧ d < b then d else b)]) := by
  show wo ((ltD (.tup [.int c, .int d]) (.tup [.int a, .int b])).map fun k => if k then (D.tup [.int c, .int d]) else (.tup [.int a, .int b])) k = _
  rw [c_ltD]
  by_cases h : c < a ∨ c = a ∧ d < b
  · rw [decide_eq_true h, if_pos h, if_pos h]; rfl
  · rw [decide_eq_false h, if_neg h, if_neg h]; rfl
end
section
variable {g : G} {env : En} {s : Sto} {NN : Fl → Sto → Prop} {EE : Ex → En → Sto → Prop} {t : T} {b : SS}
theorem w_rng2 {e f : X} {Q : List D → Sto → Prop} {E : Ex → Sto → Prop} : Wp (It.ev g (.rng2 e f) env s) Q E = Wp (X.ev g e env s) (fun d s1 => Wp (X.ev g f env s1) (fun d2 s2 => wint d fun i => wint d2 fun j => (-(2 ^ 62) ≤ i ∧ i < 2 ^ 62 ∧ -(2 ^ 62) ≤ j ∧ j < 2 ^ 62) ∧ Q (rangeI i (j - i).toNat) s2) E) E := by
  show Wp ((X.ev g e env >>= fun x => X.ev g f env >>= fun y => match x, y with
    | .int i, .int j => M.need (-(2 ^ 62) ≤ i ∧ i < 2 ^ 62 ∧ -(2 ^ 62) ≤ j ∧ j < 2 ^ 62) >>= fun _ => pure (rangeI i (j - i).toNat)
    | _, _ => M.bad) s) Q E = _
  rw [wp_seq]
  congr 1
  funext d s1
  rw [wp_seq]
  congr 1
  funext d2 s2
  cases d <;> try rfl
  rename_i i
  cases d2 <;> try rfl
  rename_i j
  show Wp ((M.need (-(2 ^ 62) ≤ i ∧ i < 2 ^ 62 ∧ -(2 ^ 62) ≤ j ∧ j < 2 ^ 62) >>= fun _ => pure (rangeI i (j - i).toNat)) s2) Q E = (_ ∧ Q (rangeI i (j - i).toNat) s2)
  rw [wp_seq]
  unfold M.need
  by_cases h : -(2 ^ 62) ≤ i ∧ i < 2 ^ 62 ∧ -(2 ^ 62) ≤ j ∧ j < 2 ^ 62
  · rw [if_pos h]; exact (propext ⟨fun q => ⟨h, q⟩, fun q => q.2⟩)
  · rw [if_neg h]; exact (propext ⟨fun q => q.elim, fun q => h q.1⟩)
def wdv (dd : List D) (k : List D → Prop) : Prop := k dd
def wapp (ds dd : List D) (k : List D → Prop) : Prop := k (ds ++ dd)
theorem ap_nil {dd : List D} {k : List D → Prop} : wapp [] dd k = k dd := rfl
theorem ap_cons {d : D} {ds dd : List D} {k : List D → Prop} : wapp (d :: ds) dd k = wapp ds dd fun l => k (d :: l) := rfl
theorem w_callD {T : G} {defs : List Def} {n f nd : Nat} {es : XS} {Q : D → Sto → Prop} {E : Ex → Sto → Prop} : Wp (X.ev (gen T defs n) (.call f es nd) env s) Q E = Wp (XS.ev (gen T defs n) es env s) (fun ds s1 => wdv (T.dv f nd) fun dd => wapp ds dd fun ds' => Wp ((gen T defs n).call f ds' s1) Q E) E := by
  rw [w_call, gen_dv]; rfl
theorem dv_nil {k : List D → Prop} : wdv [] k = k [] := rfl
theorem o_wkT {ds : List D} {k : List D → Prop} : wo (walkD (.tup ds)) k = k ds := rfl
theorem o_wkL {ds : List D} {k : List D → Prop} : wo (walkD (.lst ds)) k = k ds := rfl
/-! exceptions -/
def wexc (e : Ex) (k : Nat → List (Str × D) → Prop) : Prop := k e.c e.fs
theorem ex_mk {c : Nat} {fs : List (Str × D)} {k : Nat → List (Str × D) → Prop} : wexc ⟨c, fs⟩ k = k c fs := rfl
def wzip (fs : List Str) (ds : List D) (k : List (Str × D) → Prop) : Prop := k (fs.zip ds)
theorem zp_nil {k : List (Str × D) → Prop} : wzip [] [] k = k [] := rfl
theorem zp_cons {f : Str} {d : D} {fs : List Str} {ds : List D} {k : List (Str × D) → Prop} : wzip (f :: fs) (d :: ds) k = wzip fs ds fun l => k ((f, d) :: l) := rfl
theorem lk_hit {f : Str} {d : D} {r : List (Str × D)} {k : D → Prop} : wo (List.lookup f ((f, d) :: r)) k = k d := by
  rw [List.lookup_cons_self]; rfl
theorem lk_miss {f h : Str} {d : D} {r : List (Str × D)} {k : D → Prop} (e : (f == h) = false) : wo (List.lookup f ((h, d) :: r)) k = wo (List.lookup f r) k := by
  rw [List.lookup, e]
def wsetU (env : En) (i : Nat) (x : Sl) (k : En → Prop) : Prop := k (env.set i x)
theorem su_0 {a x : Sl} {r : En} {k : En → Prop} : wsetU (a :: r) 0 x k = k (x :: r) := rfl
theorem su_S {a x : Sl} {r : En} {n : Nat} {k : En → Prop} : wsetU (a :: r) (n + 1) x k = wsetU r n x fun r' => k (a :: r') := rfl
def wunx (env : En) (k : En → Prop) : Prop := k (env.map unX)
theorem un_nil {k : En → Prop} : wunx [] k = k [] := rfl
theorem un_val {d : D} {r : En} {k : En → Prop} : wunx (.val d :: r) k = wunx r fun r' => k (.val d :: r') := rfl
theorem un_own {d : List D} {r : En} {k : En → Prop} : wunx (.own d :: r) k = wunx r fun r' => k (.own d :: r') := rfl
theorem un_no {r : En} {k : En → Prop} : wunx (.no :: r) k = wunx r fun r' => k (.no :: r') := rfl
theorem un_exc {d : Ex} {r : En} {k : En → Prop} : wunx (.exc d :: r) k = wunx r fun r' => k (.no :: r') := rfl
def wasX (a : Option Nat) (e : Ex) (env : En) (k : En → Prop) : Prop := k (asX a e env)
theorem as_some {i : Nat} {e : Ex} {k : En → Prop} : wasX (some i) e env k = wsetU env i (.exc e) k := rfl
theorem as_none {e : Ex} {k : En → Prop} : wasX none e env k = k env := rfl
def wgone (a : Option Nat) (env : En) (k : En → Prop) : Prop := k (goneX a env)
theorem go_some {i : Nat} {k : En → Prop} : wgone (some i) env k = wunx env fun e => wsetU e i .no k := rfl
theorem go_none {k : En → Prop} : wgone none env k = wunx env k := rfl
theorem se_nx {a : Option Nat} {e : En} : sufE a NN (.nx e) s = wgone a e fun e' => NN (.nx e') s := rfl
theorem se_bk {a : Option Nat} {e : En} : sufE a NN (.bk e) s = wgone a e fun e' => NN (.bk e') s := rfl
theorem se_ct {a : Option Nat} {e : En} : sufE a NN (.ct e) s = wgone a e fun e' => NN (.ct e') s := rfl
theorem y_isE {i c : Nat} {Q : Bool → Sto → Prop} {E : Ex → Sto → Prop} : Wp (C.ev g (.isE i c) env s) Q E = wo (env.exc i) fun e => wexc e fun c' _ => wo (g.sub c' c) fun k => Q k s := w_isE
theorem y_efld {i : Nat} {f : Str} {Q : D → Sto → Prop} {E : Ex → Sto → Prop} : Wp (X.ev g (.efld i f) env s) Q E = wo (env.exc i) fun e => wexc e fun c fs => wo (g.xfld c) fun _ => wo (fs.lookup f) fun d => Q d s := w_efld
theorem y_raise {c : Nat} {es : XS} : WpS (S.ev g (.raise c es) env s) NN EE = Wp (XS.ev g es env s) (fun ds s1 => wo (g.xfld c) fun fs => ds.length = fs.length ∧ wzip fs ds fun l => EE ⟨c, l⟩ env s1) (fun x s1 => EE x env s1) := v_raise
theorem y_try1 {b h : SS} {c : Nat} {a : Option Nat} : WpS (S.ev g (.try1 b c a h) env s) NN EE = WpS (SS.ev g b env s) NN (fun e env' s' => wexc e fun c' fs => wo (g.sub c' c) fun k => wif k (wasX a ⟨c', fs⟩ env' fun env2 => WpS (SS.ev g h env2 s') (sufE a NN) (fun _ _ _ => False)) (EE ⟨c', fs⟩ env' s')) := v_try1
theorem y_try2 {b h h2 : SS} {c c2 : Nat} {a a2 : Option Nat} : WpS (S.ev g (.try2 b c a h c2 a2 h2) env s) NN EE = WpS (SS.ev g b env s) NN (fun e env' s' => wexc e fun c' fs => wo (g.sub c' c) fun k => wif k (wasX a ⟨c', fs⟩ env' fun env2 => WpS (SS.ev g h env2 s') (sufE a NN) (fun _ _ _ => False)) (wo (g.sub c' c2) fun k2 => wif k2 (wasX a2 ⟨c', fs⟩ env' fun env2 => WpS (SS.ev g h2 env2 s') (sufE a2 NN) (fun _ _ _ => False)) (EE ⟨c', fs⟩ env' s'))) := v_try2
/-- a for, by what holds before each turn -/
theorem l_for (I : List D → En → Sto → Prop) (hs : ∀ d r env s, I (d :: r) env s → wo (stT t d env) fun e' => WpS (SS.ev g b e' s) (lpN (fun e s => I r e s) NN) EE) (hn : ∀ env s, I [] env s → NN (.nx env) s) : ∀ (ds : List D) (env : En) (s : Sto), I ds env s → WpS (loopF (bodyF g t b) ds env s) NN EE
  | [], env, s, h => by rw [l_nil]; exact hn _ _ h
  | d :: r, env, s, h => by
    rw [l_cons]
    have := hs d r env s h
    cases hst : stT t d env with
    | none => rw [hst] at this; exact this
    | some e' =>
      rw [hst] at this
      refine WpS.imp (r := SS.ev g b e' s) this (fun f s1 q => ?_) fun _ _ _ q => q
      cases f with
      | nx e => exact l_for I hs hn r e s1 q
      | ct e => exact l_for I hs hn r e s1 q
      | bk e => exact q
      | rt v => exact q
theorem rng_int {lo : Int} {n : Nat} : ∀ d ∈ rangeI lo n, ∃ k : Int, d = .int k := fun d h => by
  unfold rangeI at h
  obtain ⟨k, _, e⟩ := List.mem_map.mp h
  exact ⟨_, e.symm⟩
theorem rng_len {lo : Int} {n : Nat} : (rangeI lo n).length = n := by
  unfold rangeI; rw [List.length_map, List.length_range]
end
end Fx

set_option Elab.async false
set_option linter.all false
set_option maxRecDepth 100000
set_option maxHeartbeats 4000000
/-! Fx 24: more tellings: comprehensions, slices, lists joined, texts, classes. -/
namespace Fx
open PySem PySem.Spec PyProof.Rows L2
theorem i_pos {p : Prop} [Decidable p] {a b : Prop} (h : p) : wif (decide p) a b = a := by simp [wif, h]
theorem i_neg {p : Prop} [Decidable p] {a b : Prop} (h : ¬ p) : wif (decide p) a b = b := by simp [wif, h]
theorem i_t {a b : Prop} : wif true a b = a := wif_true
theorem i_f {a b : Prop} : wif false a b = b := wif_false
section
variable {g : G} {env : En} {s : Sto} {E : Ex → Sto → Prop}
theorem w_calm {α : Type} {x : M α} {Q : α → Sto → Prop} : Wp (M.calm x s) Q E = Wp (x s) Q fun _ _ => False := by
  unfold M.calm
  cases x s <;> rfl
def nE : Ex → Sto → Prop := fun _ _ => False
theorem w_comp {t : T} {it : Fx.It} {c : CO} {e : X} {Q : List D → Sto → Prop} : Wp (F.ev g (.comp t it c e) env s) Q E = Wp (It.ev g it env s) (fun ds s1 => Wp (goes (stepF g t c e env) ds [] s1) Q nE) E := by
  have : F.ev g (.comp t it c e) env = (It.ev g it env >>= fun ds => M.calm (goes (stepF g t c e env) ds [])) := rfl
  rw [this, wp_seq]
  congr 1
  funext ds s1
  exact w_calm
theorem w_comp2 {t t2 : T} {it it2 : Fx.It} {c c2 : CO} {e : X} {Q : List D → Sto → Prop} : Wp (F.ev g (.comp2 t it c t2 it2 c2 e) env s) Q E = Wp (It.ev g it env s) (fun ds s1 => Wp (goesL (stepL g t c t2 it2 c2 e env) ds [] s1) Q nE) E := by
  have : F.ev g (.comp2 t it c t2 it2 c2 e) env = (It.ev g it env >>= fun ds => M.calm (goesL (stepL g t c t2 it2 c2 e env) ds [])) := rfl
  rw [this, wp_seq]
  congr 1
  funext ds s1
  exact w_calm
/-! wiped slots -/
def wcatN (a b : List Nat) (k : List Nat → Prop) : Prop := k (a ++ b)
theorem cn_nil {b : List Nat} {k : List Nat → Prop} : wcatN [] b k = k b := rfl
theorem cn_cons {x : Nat} {a b : List Nat} {k : List Nat → Prop} : wcatN (x :: a) b k = wcatN a b fun c => k (x :: c) := rfl
def wsl (t : T) (k : List Nat → Prop) : Prop := k (slT t)
def wslS (t : Fx.TS) (k : List Nat → Prop) : Prop := k (slTS t)
theorem sl_name {i : Nat} {k : List Nat → Prop} : wsl (.name i) k = k [i] := rfl
theorem sl_tup {ts : Fx.TS} {k : List Nat → Prop} : wsl (.tup ts) k = wslS ts k := rfl
theorem sl_nil {k : List Nat → Prop} : wslS .nil k = k [] := rfl
theorem sl_cons {t : T} {r : Fx.TS} {k : List Nat → Prop} : wslS (.cons t r) k = wsl t fun a => wslS r fun b => wcatN a b k := rfl
def wwipe (env : En) (l : List Nat) (k : En → Prop) : Prop := k (wipeE env l)
theorem wi_nil {k : En → Prop} : wwipe env [] k = k env := rfl
theorem wi_cons {i : Nat} {r : List Nat} {k : En → Prop} : wwipe env (i :: r) k = wwipe env r fun e => wsetU e i .no k := rfl
/-- a comprehension's turn -/
def turnC (g : G) (t : T) (c : CO) (e : X) (env : En) (d : D) (s : Sto) (yes : D → Sto → Prop) (no : Sto → Prop) : Prop :=
  wsl t fun l => wwipe env l fun e0 => wo (stT t d e0) fun env' => Wp (CO.ev g c env' s) (fun b s' => wif b (Wp (X.ev g e env' s') yes nE) (no s')) nE
theorem c_none {Q : Bool → Sto → Prop} : Wp (CO.ev g .none env s) Q E = Q true s := rfl
theorem c_some {c : C} {Q : Bool → Sto → Prop} : Wp (CO.ev g (.some c) env s) Q E = Wp (C.ev g c env s) Q E := rfl
theorem stepF_w {t : T} {c : CO} {e : X} {d : D} {yes : D → Sto → Prop} {no : Sto → Prop} : Wp (stepF g t c e env d s) (fun o s' => match o with | some v => yes v s' | none => no s') nE = turnC g t c e env d s yes no := by
  show Wp ((M.opt (stT t d (wipeE env (slT t))) >>= fun env' => CO.ev g c env' >>= fun b => match b with
    | true => X.ev g e env' >>= fun v => pure (some v)
    | false => pure none) s) _ nE = wo (stT t d (wipeE env (slT t))) fun env' => Wp (CO.ev g c env' s) (fun b s' => wif b (Wp (X.ev g e env' s') yes nE) (no s')) nE
  rw [wp_seq, w_opt]
  congr 1
  funext env'
  rw [wp_seq]
  congr 1
  funext b s'
  cases b
  · rw [wif_false]; rfl
  · rw [wif_true, wp_seq]; rfl
theorem g_nil {f : D → M (Option D)} {acc : List D} {Q : List D → Sto → Prop} : Wp (goes f [] acc s) Q E = Q acc s := rfl
theorem g_cons {t : T} {c : CO} {e : X} {d : D} {r acc : List D} {Q : List D → Sto → Prop} : Wp (goes (stepF g t c e env) (d :: r) acc s) Q nE = turnC g t c e env d s (fun v s2 => acc.length < 16777216 ∧ Wp (goes (stepF g t c e env) r (acc ++ [v]) s2) Q nE) (fun s2 => Wp (goes (stepF g t c e env) r acc s2) Q nE) := by
  rw [← stepF_w]
  show Wp ((stepF g t c e env d >>= fun o => match o with
    | some v => M.need (acc.length < 16777216) >>= fun _ => goes (stepF g t c e env) r (acc ++ [v])
    | none => goes (stepF g t c e env) r acc) s) Q nE = _
  rw [wp_seq]
  congr 1
  funext o s2
  cases o with
  | none => rfl
  | some v =>
    show Wp ((M.need (acc.length < 16777216) >>= fun _ => goes (stepF g t c e env) r (acc ++ [v])) s2) Q nE = _
    rw [wp_seq]
    unfold M.need
    by_cases h : acc.length < 16777216
    · rw [if_pos h]; exact propext ⟨fun q => ⟨h, q⟩, fun q => q.2⟩
    · rw [if_neg h]; exact propext ⟨fun q => q.elim, fun q => h q.1⟩
/-- a comprehension by what holds before each turn -/
theorem l_goes {t : T} {c : CO} {e : X} {Q : List D → Sto → Prop} (I : List D → List D → Sto → Prop)
    (hs : ∀ d r acc s, I (d :: r) acc s → turnC g t c e env d s (fun v s2 => acc.length < 16777216 ∧ I r (acc ++ [v]) s2) (fun s2 => I r acc s2)) (hn : ∀ acc s, I [] acc s → Q acc s) :
    ∀ (ds acc : List D) (s : Sto), I ds acc s → Wp (goes (stepF g t c e env) ds acc s) Q nE
  | [], acc, s, h => by rw [g_nil]; exact hn _ _ h
  | d :: r, acc, s, h => by
    rw [g_cons]
    have h1 := hs d r acc s h
    rw [← stepF_w] at h1 ⊢
    refine h1.imp (fun o s2 q => ?_) fun _ _ h => h
    cases o with
    | none => exact l_goes I hs hn r acc s2 q
    | some v => exact ⟨q.1, l_goes I hs hn r _ s2 q.2⟩
/-- where each turn gives f's value and leaves all as it is -/
theorem l_map {t : T} {e : X} {Q : List D → Sto → Prop} (f : D → D) {ds : List D} (hl : ds.length ≤ 16777216) (hs : ∀ d ∈ ds, ∀ {yes : D → Sto → Prop} {no : Sto → Prop}, yes (f d) s → turnC g t .none e env d s yes no) (h : Q (ds.map f) s) : Wp (goes (stepF g t .none e env) ds [] s) Q nE := by
  refine l_goes (fun r acc s' => s' = s ∧ ∃ p, ds = p ++ r ∧ acc = p.map f) ?_ ?_ ds [] s ⟨rfl, [], rfl, rfl⟩
  · rintro d r acc s' ⟨rfl, p, e1, e2⟩
    refine hs d (by rw [e1]; simp) ⟨?_, rfl, p ++ [d], by rw [e1]; simp, by rw [e2]; simp⟩
    rw [e2, List.length_map]
    have := congrArg List.length e1
    rw [List.length_append, List.length_cons] at this
    omega
  · rintro acc s' ⟨rfl, p, e1, e2⟩
    rw [List.append_nil] at e1
    rw [e2, ← e1]; exact h
theorem h_nil {f : D → List D → M (List D)} {acc : List D} {Q : List D → Sto → Prop} : Wp (goesL f [] acc s) Q E = Q acc s := rfl
theorem h_cons {t t2 : T} {it2 : Fx.It} {c c2 : CO} {e : X} {d : D} {r acc : List D} {Q : List D → Sto → Prop} : Wp (goesL (stepL g t c t2 it2 c2 e env) (d :: r) acc s) Q nE =
    wsl t fun l1 => wsl t2 fun l2 => wcatN l1 l2 fun l => wwipe env l fun e0 => wo (stT t d e0) fun env' => Wp (CO.ev g c env' s) (fun b s' => wif b (Wp (It.ev g it2 env' s') (fun ds2 s2 => Wp (goes (stepF g t2 c2 e env') ds2 acc s2) (fun acc' s3 => Wp (goesL (stepL g t c t2 it2 c2 e env) r acc' s3) Q nE) nE) nE)
      (Wp (goesL (stepL g t c t2 it2 c2 e env) r acc s') Q nE)) nE := by
  rw [goesL_cons]
  show Wp ((M.opt (stT t d (wipeE env (slT t ++ slT t2))) >>= fun env' => CO.ev g c env' >>= fun b => match b with
    | true => It.ev g it2 env' >>= fun ds2 => goes (stepF g t2 c2 e env') ds2 acc
    | false => pure acc) s) _ nE = wo (stT t d (wipeE env (slT t ++ slT t2))) _
  rw [wp_seq, w_opt]
  congr 1
  funext env'
  rw [wp_seq]
  congr 1
  funext b s'
  cases b
  · rw [wif_false]; rfl
  · rw [wif_true, wp_seq]
/-! slices, lists joined -/
def wxo (o : Option Int) (k : Option Int → Prop) : Prop := k o
theorem w_onone {Q : Option Int → Sto → Prop} : Wp (XO.ev g .none env s) Q E = Q none s := rfl
theorem w_osome {e : X} {Q : Option Int → Sto → Prop} : Wp (XO.ev g (.some e) env s) Q E = Wp (X.ev g e env s) (fun d s1 => wint d fun i => Q (some i) s1) E := by
  show Wp ((X.ev g e env >>= fun d => match d with | .int i => pure (some i) | _ => M.bad) s) Q E = _
  rw [wp_seq]
  congr 1
  funext d s1
  cases d <;> rfl
theorem w_sl {a : L} {lo hi : XO} {Q : D → Sto → Prop} : Wp (X.ev g (.sl a lo hi) env s) Q E = Wp (L.ev g a env s) (fun x s1 => Wp (XO.ev g lo env s1) (fun l s2 => Wp (XO.ev g hi env s2) (fun h s3 => wo (slD x l h) fun d => Q d s3) E) E) E := by
  show Wp ((L.ev g a env >>= fun x => XO.ev g lo env >>= fun l => XO.ev g hi env >>= fun h => M.opt (slD x l h)) s) Q E = _
  simp only [wp_seq, w_opt]
def wls (d : D) (k : List D → Prop) : Prop := match d with
  | .lst ds => k ds
  | _ => False
theorem wls_lst {ds : List D} {k : List D → Prop} : wls (.lst ds) k = k ds := rfl
def wlsO (d : D) (s : Sto) (k : List D → Prop) : Prop := match d with
  | .lst ds => k ds
  | .obj n => wlst s[n]? k
  | _ => False
theorem wlsO_lst {ds : List D} {s : Sto} {k : List D → Prop} : wlsO (.lst ds) s k = k ds := rfl
theorem wlsO_obj {n : Nat} {s : Sto} {k : List D → Prop} : wlsO (.obj n) s k = wlst s[n]? k := rfl
theorem w_slF {a : L} {lo hi : XO} {Q : List D → Sto → Prop} : Wp (F.ev g (.sl a lo hi) env s) Q E = Wp (L.ev g a env s) (fun x s1 => Wp (XO.ev g lo env s1) (fun l s2 => Wp (XO.ev g hi env s2) (fun h s3 => wlsO x s3 fun ds => Q (cutD ds l h) s3) E) E) E := by
  show Wp ((L.ev g a env >>= fun x => XO.ev g lo env >>= fun l => XO.ev g hi env >>= fun h => match x with
    | .lst ds => pure (cutD ds l h)
    | .obj n => M.get >>= fun s => match s[n]? with
      | some (O.lst ds) => pure (cutD ds l h)
      | _ => M.bad
    | _ => M.bad) s) Q E = _
  simp only [wp_seq]
  congr 1
  funext x s1
  congr 1
  funext l s2
  congr 1
  funext h s3
  cases x <;> try rfl
  rename_i n
  show Wp ((M.get >>= fun s => match s[n]? with
      | some (O.lst ds) => pure (cutD ds l h)
      | _ => M.bad) s3) Q E = wlst s3[n]? _
  rw [wp_seq, wp_get]
  cases s3[n]? with
  | none => rfl
  | some o => cases o <;> rfl
theorem w_cat {a b : L} {Q : List D → Sto → Prop} : Wp (F.ev g (.cat a b) env s) Q E = Wp (L.ev g a env s) (fun x s1 => Wp (L.ev g b env s1) (fun y s2 => wls x fun ds => wls y fun es => ds.length + es.length ≤ 16777216 ∧ Q (ds ++ es) s2) E) E := by
  show Wp ((L.ev g a env >>= fun x => L.ev g b env >>= fun y => match x, y with
    | .lst ds, .lst es => M.need (ds.length + es.length ≤ 16777216) >>= fun _ => pure (ds ++ es)
    | _, _ => M.bad) s) Q E = _
  simp only [wp_seq]
  congr 1
  funext x s1
  congr 1
  funext y s2
  cases x <;> try rfl
  rename_i ds
  cases y <;> try rfl
  rename_i es
  show Wp ((M.need (ds.length + es.length ≤ 16777216) >>= fun _ => pure (ds ++ es)) s2) Q E = (ds.length + es.length ≤ 16777216 ∧ Q (ds ++ es) s2)
  rw [wp_seq]
  unfold M.need
  by_cases h : ds.length + es.length ≤ 16777216
  · rw [if_pos h]; exact propext ⟨fun q => ⟨h, q⟩, fun q => q.2⟩
  · rw [if_neg h]; exact propext ⟨fun q => q.elim, fun q => h q.1⟩
theorem w_rep {f : F} {n : X} {Q : List D → Sto → Prop} : Wp (F.ev g (.rep f n) env s) Q E = Wp (F.ev g f env s) (fun ds s1 => Wp (X.ev g n env s1) (fun d s2 => wint d fun k => (-(2 ^ 62) < k ∧ k < 2 ^ 62 ∧ ds.length * k.toNat ≤ 16777216) ∧ Q (List.replicate k.toNat ds).flatten s2) E) E := by
  show Wp ((F.ev g f env >>= fun ds => X.ev g n env >>= fun k => match k with
    | .int k => M.need (-(2 ^ 62) < k ∧ k < 2 ^ 62 ∧ ds.length * k.toNat ≤ 16777216) >>= fun _ => pure (List.replicate k.toNat ds).flatten
    | _ => M.bad) s) Q E = _
  simp only [wp_seq]
  congr 1
  funext ds s1
  congr 1
  funext d s2
  cases d <;> try rfl
  rename_i k
  show Wp ((M.need (-(2 ^ 62) < k ∧ k < 2 ^ 62 ∧ ds.length * k.toNat ≤ 16777216) >>= fun _ => pure (List.replicate k.toNat ds).flatten) s2) Q E = (_ ∧ Q _ s2)
  rw [wp_seq]
  unfold M.need
  by_cases h : -(2 ^ 62) < k ∧ k < 2 ^ 62 ∧ ds.length * k.toNat ≤ 16777216
  · rw [if_pos h]; exact propext ⟨fun q => ⟨h, q⟩, fun q => q.2⟩
  · rw [if_neg h]; exact propext ⟨fun q => q.elim, fun q => h q.1⟩
def wisT (t : Nat) (x : D) (s : Sto) (k : Bool → Prop) : Prop := match x with
  | .obj n => wlst s[n]? fun _ => k (t == 1)
  | x => wo (isTD t x) k
theorem w_isT {t : Nat} {a : L} {Q : D → Sto → Prop} : Wp (X.ev g (.isT t a) env s) Q E = Wp (L.ev g a env s) (fun x s1 => wisT t x s1 fun b => Q (.bl b) s1) E := by
  show Wp ((L.ev g a env >>= fun x => match x with
    | .obj n => M.get >>= fun s => match s[n]? with
      | some (O.lst _) => pure (D.bl (t == 1))
      | _ => M.bad
    | x => M.opt ((isTD t x).map D.bl)) s) Q E = _
  rw [wp_seq]
  congr 1
  funext x s1
  have plain : Wp (M.opt ((isTD t x).map D.bl) s1) Q E = wo (isTD t x) fun b => Q (.bl b) s1 := by rw [w_opt, o_map]
  cases x with
  | obj n =>
    show Wp ((M.get >>= fun s => match s[n]? with
      | some (O.lst _) => pure (D.bl (t == 1))
      | _ => M.bad) s1) Q E = wlst s1[n]? fun _ => Q (.bl (t == 1)) s1
    rw [wp_seq, wp_get]
    cases s1[n]? with
    | none => rfl
    | some o => cases o <;> rfl
  | _ => exact plain
theorem ty_0 {ds : List D} {k : Bool → Prop} : wisT 0 (.tup ds) s k = k true := rfl
theorem ty_1 {ds : List D} {k : Bool → Prop} : wisT 1 (.lst ds) s k = k true := rfl
theorem ty_i {i : Int} {k : Bool → Prop} : wisT 2 (.int i) s k = k true := rfl
theorem ty_s {i : Str} {k : Bool → Prop} : wisT 3 (.str i) s k = k true := rfl
theorem ty_0s {i : Str} {k : Bool → Prop} : wisT 0 (.str i) s k = k false := rfl
theorem ty_0n {k : Bool → Prop} : wisT 0 .non s k = k false := rfl
theorem ty_1n {k : Bool → Prop} : wisT 1 .non s k = k false := rfl
theorem w_rng3 {a b : X} {c : Nat} {Q : List D → Sto → Prop} : Wp (It.ev g (.rng3 a b c) env s) Q E = Wp (X.ev g a env s) (fun d s1 => Wp (X.ev g b env s1) (fun d2 s2 => wint d fun i => wint d2 fun j => (-(2 ^ 30) ≤ i ∧ i < 2 ^ 30 ∧ -(2 ^ 30) ≤ j ∧ j < 2 ^ 30) ∧ Q (stepI i (c : Int) (stepN i j c)) s2) E) E := by
  show Wp ((X.ev g a env >>= fun x => X.ev g b env >>= fun y => match x, y with
    | .int i, .int j => M.need (-(2 ^ 30) ≤ i ∧ i < 2 ^ 30 ∧ -(2 ^ 30) ≤ j ∧ j < 2 ^ 30) >>= fun _ => pure (stepI i (c : Int) (stepN i j c))
    | _, _ => M.bad) s) Q E = _
  rw [wp_seq]
  congr 1
  funext d s1
  rw [wp_seq]
  congr 1
  funext d2 s2
  cases d <;> try rfl
  rename_i i
  cases d2 <;> try rfl
  rename_i j
  show Wp ((M.need (-(2 ^ 30) ≤ i ∧ i < 2 ^ 30 ∧ -(2 ^ 30) ≤ j ∧ j < 2 ^ 30) >>= fun _ => pure (stepI i (c : Int) (stepN i j c))) s2) Q E = (_ ∧ Q _ s2)
  rw [wp_seq]
  unfold M.need
  by_cases h : -(2 ^ 30) ≤ i ∧ i < 2 ^ 30 ∧ -(2 ^ 30) ≤ j ∧ j < 2 ^ 30
  · rw [if_pos h]; exact propext ⟨fun q => ⟨h, q⟩, fun q => q.2⟩
  · rw [if_neg h]; exact propext ⟨fun q => q.elim, fun q => h q.1⟩
theorem w_rngC {a b : X} {z : Str} {c : Int} {Q : List D → Sto → Prop} (h : g.con z = some (.int c)) (hc : 0 < c ∧ c < 1073741824) : Wp (It.ev g (.rngC a b z) env s) Q E = Wp (It.ev g (.rng3 a b c.toNat) env s) Q E := by
  rw [rngC_eq h hc]
theorem w_enum {a : L} {Q : List D → Sto → Prop} : Wp (It.ev g (.enum a) env s) Q E = Wp (L.ev g a env s) (fun x s1 => wls x fun ds => Q (enumD ds) s1) E := by
  show Wp ((L.ev g a env >>= fun x => match x with
    | .lst ds => pure (enumD ds)
    | _ => M.bad) s) Q E = _
  rw [wp_seq]
  congr 1
  funext x s1
  cases x <;> rfl
/-! methods of texts -/
theorem w_m1 {b : M1} {o : X} {a : L} {Q : D → Sto → Prop} : Wp (X.ev g (.m1 b o a) env s) Q E = Wp (X.ev g o env s) (fun x s1 => wstr x fun z => Wp (L.ev g a env s1) (fun y s2 => wo (opM1 b (.str z) y) fun d => Q d s2) E) E := by
  show Wp ((X.ev g o env >>= fun x => match x with
    | .str z => L.ev g a env >>= fun y => M.opt (opM1 b (.str z) y)
    | _ => M.bad) s) Q E = _
  rw [wp_seq]
  congr 1
  funext x s1
  cases x <;> try rfl
  rename_i z
  show Wp ((L.ev g a env >>= fun y => M.opt (opM1 b (.str z) y)) s1) Q E = Wp (L.ev g a env s1) (fun y s2 => wo (opM1 b (.str z) y) fun d => Q d s2) E
  simp only [wp_seq, w_opt]
/-! instances -/
def wins (o : Option O) (k : Nat → List (Str × D) → Prop) : Prop := match o with
  | some (.ins c fs) => k c fs
  | _ => False
theorem ins_S {o : O} {n : Nat} {s : Sto} {k : Nat → List (Str × D) → Prop} : wins ((o :: s)[n + 1]?) k = wins s[n]? k := rfl
theorem ins_0 {c : Nat} {fs : List (Str × D)} {s : Sto} {k : Nat → List (Str × D) → Prop} : wins ((O.ins c fs :: s)[0]?) k = k c fs := rfl
theorem w_fld {a : X} {f : Str} {Q : D → Sto → Prop} : Wp (X.ev g (.fld a f) env s) Q E = Wp (X.ev g a env s) (fun x s1 => wobj x fun n => wins s1[n]? fun c fs => g.attr c f = true ∧ wo (fs.lookup f) fun d => Q d s1) E := by
  show Wp ((X.ev g a env >>= fun x => match x with
    | .obj n => M.get >>= fun s => match s[n]? with
      | some (.ins c fs) => M.need (g.attr c f = true) >>= fun _ => M.opt (fs.lookup f)
      | _ => M.bad
    | _ => M.bad) s) Q E = _
  rw [wp_seq]
  congr 1
  funext x s1
  cases x <;> try rfl
  rename_i n
  show Wp ((M.get >>= fun s => match s[n]? with
      | some (.ins c fs) => M.need (g.attr c f = true) >>= fun _ => M.opt (fs.lookup f)
      | _ => M.bad) s1) Q E = wins s1[n]? fun c fs => g.attr c f = true ∧ wo (fs.lookup f) fun d => Q d s1
  rw [wp_seq, wp_get]
  cases s1[n]? with
  | none => rfl
  | some o =>
    cases o <;> try rfl
    rename_i c fs
    show Wp ((M.need (g.attr c f = true) >>= fun _ => M.opt (fs.lookup f)) s1) Q E = (g.attr c f = true ∧ wo (fs.lookup f) fun d => Q d s1)
    rw [wp_seq]
    unfold M.need
    by_cases h : g.attr c f = true
    · rw [if_pos h]; exact propext ⟨fun q => ⟨h, (w_opt (E := E)) ▸ q⟩, fun q => (w_opt (E := E)).symm ▸ q.2⟩
    · rw [if_neg h]; exact propext ⟨fun q => q.elim, fun q => h q.1⟩
variable {NN : Fl → Sto → Prop} {EE : Ex → En → Sto → Prop}
theorem v_oapp {o e : X} : WpS (S.ev g (.oapp o e) env s) NN EE = Wp (X.ev g o env s) (fun x s1 => wobj x fun n => wlst s1[n]? fun _ => Wp (X.ev g e env s1) (fun v s2 => wlst s2[n]? fun ds => ds.length < 16777216 ∧ wst s2 n (.lst (ds ++ [v])) fun s3 => NN (.nx env) s3) (fun x s1 => EE x env s1)) (fun x s1 => EE x env s1) := by
  show WpS (liftS env (X.ev g o env s) fun x s1 => match x with
    | .obj n => match s1[n]? with
      | some (.lst _) => liftS env (X.ev g e env s1) fun v s2 => match s2[n]? with
        | some (.lst ds) => if ds.length < 16777216 then .ok (.nx env) (s2.set n (.lst (ds ++ [v]))) else .bad
        | _ => .bad
      | _ => .bad
    | _ => .bad) NN EE = _
  rw [wps_lift]
  congr 1
  funext x s1
  cases x <;> try rfl
  rename_i n
  show WpS (match s1[n]? with
      | some (.lst _) => liftS env (X.ev g e env s1) fun v s2 => match s2[n]? with
        | some (.lst ds) => if ds.length < 16777216 then .ok (.nx env) (s2.set n (.lst (ds ++ [v]))) else .bad
        | _ => .bad
      | _ => .bad) NN EE = wlst s1[n]? fun _ => Wp (X.ev g e env s1) (fun v s2 => wlst s2[n]? fun ds => ds.length < 16777216 ∧ wst s2 n (.lst (ds ++ [v])) fun s3 => NN (.nx env) s3) (fun x s1 => EE x env s1)
  cases s1[n]? with
  | none => rfl
  | some o' =>
    cases o' <;> try rfl
    show WpS (liftS env (X.ev g e env s1) fun v s2 => match s2[n]? with
        | some (.lst ds) => if ds.length < 16777216 then .ok (.nx env) (s2.set n (.lst (ds ++ [v]))) else .bad
        | _ => .bad) NN EE = Wp (X.ev g e env s1) (fun v s2 => wlst s2[n]? fun ds => ds.length < 16777216 ∧ wst s2 n (.lst (ds ++ [v])) fun s3 => NN (.nx env) s3) (fun x s1 => EE x env s1)
    rw [wps_lift]
    congr 1
    funext v s2
    cases s2[n]? with
    | none => rfl
    | some o2 =>
      cases o2 <;> try rfl
      rename_i ds
      show WpS (if ds.length < 16777216 then .ok (.nx env) (s2.set n (.lst (ds ++ [v]))) else .bad) NN EE = (ds.length < 16777216 ∧ NN (.nx env) (s2.set n (.lst (ds ++ [v]))))
      by_cases h : ds.length < 16777216
      · rw [if_pos h]; exact propext ⟨fun q => ⟨h, q⟩, fun q => q.2⟩
      · rw [if_neg h]; exact propext ⟨fun q => q.elim, fun q => h q.1⟩
def wput (f : Str) (v : D) (fs : List (Str × D)) (k : List (Str × D) → Prop) : Prop := k (putD f v fs)
theorem pu_nil {f : Str} {v : D} {k : List (Str × D) → Prop} : wput f v [] k = k [(f, v)] := rfl
theorem pu_hit {f : Str} {v x : D} {r : List (Str × D)} {k : List (Str × D) → Prop} : wput f v ((f, x) :: r) k = k ((f, v) :: r) := by
  unfold wput putD; rw [if_pos rfl]
theorem pu_miss {f h : Str} {v x : D} {r : List (Str × D)} {k : List (Str × D) → Prop} (e : (h == f) = false) : wput f v ((h, x) :: r) k = wput f v r fun r' => k ((h, x) :: r') := by
  unfold wput
  rw [putD, if_neg (by simpa using e)]
theorem v_setf {o e : X} {f : Str} : WpS (S.ev g (.setf o f e) env s) NN EE = Wp (X.ev g e env s) (fun v s1 => Wp (X.ev g o env s1) (fun x s2 => wobj x fun n => wins s2[n]? fun c fs => (fs.length < 900 ∧ g.attr c f = true) ∧ wput f v fs fun fs' => wst s2 n (.ins c fs') fun s3 => NN (.nx env) s3) (fun x s1 => EE x env s1)) (fun x s1 => EE x env s1) := by
  show WpS (liftS env (X.ev g e env s) fun v s1 => liftS env (X.ev g o env s1) fun x s2 => match x with
    | .obj n => match s2[n]? with
      | some (.ins c fs) => if fs.length < 900 ∧ g.attr c f = true then .ok (.nx env) (s2.set n (.ins c (putD f v fs))) else .bad
      | _ => .bad
    | _ => .bad) NN EE = _
  simp only [wps_lift]
  congr 1
  funext v s1
  congr 1
  funext x s2
  cases x <;> try rfl
  rename_i n
  show WpS (match s2[n]? with
      | some (.ins c fs) => if fs.length < 900 ∧ g.attr c f = true then .ok (.nx env) (s2.set n (.ins c (putD f v fs))) else .bad
      | _ => .bad) NN EE = wins s2[n]? fun c fs => (fs.length < 900 ∧ g.attr c f = true) ∧ NN (.nx env) (s2.set n (.ins c (putD f v fs)))
  cases s2[n]? with
  | none => rfl
  | some o =>
    cases o <;> try rfl
    rename_i c fs
    show WpS (if fs.length < 900 ∧ g.attr c f = true then .ok (.nx env) (s2.set n (.ins c (putD f v fs))) else .bad) NN EE = ((fs.length < 900 ∧ g.attr c f = true) ∧ NN (.nx env) (s2.set n (.ins c (putD f v fs))))
    by_cases h : fs.length < 900 ∧ g.attr c f = true
    · rw [if_pos h]; exact propext ⟨fun q => ⟨h, q⟩, fun q => q.2⟩
    · rw [if_neg h]; exact propext ⟨fun q => q.elim, fun q => h q.1⟩
end
/-! places of a list that ends with what is told -/
theorem at_last {ds : List D} {d : D} {k : D → Prop} : wo (atI (ds ++ [d]) (-1)) k = k d := by
  have : atI (ds ++ [d]) (-1) = some d := by
    unfold atI ixN
    rw [if_neg (by omega), List.length_append, List.length_singleton, if_pos (by omega)]
    show (ds ++ [d])[((-1 : Int) + ((ds.length + 1 : Nat) : Int)).toNat]? = some d
    have : ((-1 : Int) + ((ds.length + 1 : Nat) : Int)).toNat = ds.length := by omega
    rw [this, List.getElem?_append_right (Nat.le_refl _)]; simp
  rw [this]; rfl
section
variable {k : D → Prop} {q : Bool → Prop}
theorem o_neg {i : Int} : wint (.int i) (fun j => k (.int (-j))) = k (.int (-i)) := rfl
theorem o_mulS {x : Str} {j : Int} : wo (opBin .Mult (.str x) (.int j)) k = ((-(2 ^ 62) < j ∧ j < 2 ^ 32 ∧ x.length * j.toNat ≤ 16777216) ∧ k (.str (repS x j))) := o_if
theorem o_and8 {i : Int} : wo (opBin .BitAnd (.int i) (.int 255)) k = k (.int (i % 256)) := rfl
theorem o_minI {a b : Int} : wo (opB2 .min (.int a) (.int b)) k = k (.int (if b < a then b else a)) := by
  show wo ((some (decide (b < a))).map fun c => if c then D.int b else D.int a) k = _
  by_cases h : b < a <;> simp [h, wo]
theorem o_maxI {a b : Int} : wo (opB2 .max (.int a) (.int b)) k = k (.int (if a < b then b else a)) := by
  show wo ((some (decide (a < b))).map fun c => if c then D.int b else D.int a) k = _
  by_cases h : a < b <;> simp [h, wo]
theorem intsD_map : ∀ is : List Int, intsD (is.map .int) = some is
  | [] => rfl
  | i :: is => by rw [List.map_cons, intsD, intsD_map is]; rfl
theorem b_sum {is : List Int} {s : Sto} : wb1 .sum (.lst (is.map .int)) s k = k (.int is.sum) := by
  show wo ((intsD (is.map .int)).map fun is => D.int is.sum) k = _
  rw [intsD_map]; rfl
theorem b_max {i : Int} {is : List Int} {s : Sto} : wb1 .max (.lst ((i :: is).map .int)) s k = k (.int (maxI i is)) := by
  show wo (match intsD ((i :: is).map .int) with | some (i :: is) => some (D.int (maxI i is)) | _ => none) k = _
  rw [intsD_map]; rfl
theorem b_tupL {ds : List D} {s : Sto} : wb1 .tuple (.lst ds) s k = k (.tup ds) := rfl
theorem b_tupT {ds : List D} {s : Sto} : wb1 .tuple (.tup ds) s k = k (.tup ds) := rfl
theorem b_lenS {z : Str} {s : Sto} : wb1 .len (.str z) s k = (z.length ≤ 16777216 ∧ k (.int z.length)) := o_if
theorem o_slT {ds : List D} {lo hi : Option Int} : wo (slD (.tup ds) lo hi) k = k (.tup (cutD ds lo hi)) := rfl
theorem o_slS {z : Str} {lo hi : Option Int} : wo (slD (.str z) lo hi) k = (z.length ≤ 16777216 ∧ k (.str (cutS z lo hi))) := o_if
theorem o_neB {i j : Bool} : wo (opCmp .NotEq (.bl i) (.bl j)) q = q (!decide (i = j)) := rfl
theorem o_eqIN {i : Int} : wo (opCmp .Eq (.int i) .non) q = q false := rfl
theorem o_eqNI {i : Int} : wo (opCmp .Eq .non (.int i)) q = q false := rfl
theorem o_neNI {i : Int} : wo (opCmp .NotEq .non (.int i)) q = q true := rfl
theorem o_neIN {i : Int} : wo (opCmp .NotEq (.int i) .non) q = q true := rfl
end
end Fx
namespace Fx
open PySem PySem.Spec PyProof.Rows L2
/-! answers that are known -/
theorem i_cno {c : Prop} [Decidable c] {p q : Prop} (h : decide c = false) : wif (decide c) p q = q := by rw [h, wif_false]
theorem i_cyes {c : Prop} [Decidable c] {p q : Prop} (h : decide c = true) : wif (decide c) p q = p := by rw [h, wif_true]
theorem i_seq {a : Str} {p q : Prop} : wif (decide (a = a)) p q = p := by rw [decide_eq_true rfl, wif_true]
theorem i_ieq {a : Int} {p q : Prop} : wif (decide (a = a)) p q = p := by rw [decide_eq_true rfl, wif_true]
section
variable {g : G} {env : En} {s : Sto} {NN : Fl → Sto → Prop} {EE : Ex → En → Sto → Prop}
/-- a cut behind the first statement -/
theorem v_cut {a : S} {r : SS} (K : En → Sto → Prop) (h : WpS (S.ev g a env s) (nxt K NN) EE) (hk : ∀ e s1, K e s1 → WpS (SS.ev g r e s1) NN EE) : WpS (SS.ev g (.cons a r) env s) NN EE := by
  rw [v_cons]
  refine WpS.imp (r := S.ev g a env s) h (fun f s1 q => ?_) fun _ _ _ q => q
  cases f with
  | nx e => exact hk e s1 q
  | bk e => exact q
  | ct e => exact q
  | rt v => exact q
/-- where the first statement goes on in any case -/
theorem v_mono {a : S} {N1 : Fl → Sto → Prop} (h : WpS (S.ev g a env s) N1 EE) (hk : ∀ f s1, N1 f s1 → NN f s1) : WpS (S.ev g a env s) NN EE := WpS.imp (r := S.ev g a env s) h hk fun _ _ _ q => q
theorem pickD {ds : List D} {i : Int} {k : D → Prop} (h0 : 0 ≤ i) (h1 : i < ds.length) (hk : ∀ d ∈ ds, k d) : wo (atI ds i) k := by
  rw [at_pos h0 h1]
  have : i.toNat < ds.length := by omega
  rw [List.getElem?_eq_getElem this]
  exact hk _ (List.getElem_mem this)
theorem a_m1 {d : D} {k : D → Prop} : wo (atI [d] (-1)) k = k d := rfl
theorem a_m1b {d e : D} {k : D → Prop} : wo (atI [d, e] (-1)) k = k e := rfl
theorem a_m2 {d e : D} {k : D → Prop} : wo (atI [d, e] (-2)) k = k d := rfl
theorem a_3 {d e f h : D} {r : List D} {k : D → Prop} : wo (atI (d :: e :: f :: h :: r) 3) k = k h := by
  rw [at_pos (by omega) (by simp only [List.length_cons]; omega)]; rfl
theorem a_4 {d e f h i : D} {r : List D} {k : D → Prop} : wo (atI (d :: e :: f :: h :: i :: r) 4) k = k i := by
  rw [at_pos (by omega) (by simp only [List.length_cons]; omega)]; rfl
theorem a_5 {d e f h i j : D} {r : List D} {k : D → Prop} : wo (atI (d :: e :: f :: h :: i :: j :: r) 5) k = k j := by
  rw [at_pos (by omega) (by simp only [List.length_cons]; omega)]; rfl
theorem cut_suf {a b : List D} {m : Int} (h : m = b.length) (h1 : 1 ≤ m) : cutD (a ++ b) (some (-m)) none = b := by
  unfold cutD HT.sIx
  simp only [List.length_append]
  rw [if_pos (by omega)]
  have e : (-m + ((a.length + b.length : Nat) : Int)).toNat = a.length := by omega
  rw [e, List.drop_left, List.take_of_length_le (by omega)]
theorem cut_pre {a b : List D} {m : Int} (h : m = b.length) (h1 : 1 ≤ m) : cutD (a ++ b) none (some (-m)) = a := by
  unfold cutD HT.sIx
  simp only [List.length_append, List.drop_zero, Nat.sub_zero]
  rw [if_pos (by omega)]
  have e : (-m + ((a.length + b.length : Nat) : Int)).toNat = a.length := by omega
  rw [e, List.take_left]
end
end Fx
namespace Fx
open PySem PySem.Spec PyProof.Rows L2
theorem in_yes {x : Str} {ds : List D} {q : Bool → Prop} (h : inD (.str x) (.tup ds) = some true) : wo (opCmp .In (.str x) (.tup ds)) q = q true := by
  show wo (inD (.str x) (.tup ds)) q = _
  rw [h]; rfl
theorem in_no {x : Str} {ds : List D} {q : Bool → Prop} (h : inD (.str x) (.tup ds) = some false) : wo (opCmp .In (.str x) (.tup ds)) q = q false := by
  show wo (inD (.str x) (.tup ds)) q = _
  rw [h]; rfl
theorem nin_yes {x : Str} {ds : List D} {q : Bool → Prop} (h : inD (.str x) (.tup ds) = some true) : wo (opCmp .NotIn (.str x) (.tup ds)) q = q false := by
  show wo ((inD (.str x) (.tup ds)).map (!·)) q = _
  rw [h]; rfl
theorem nin_no {x : Str} {ds : List D} {q : Bool → Prop} (h : inD (.str x) (.tup ds) = some false) : wo (opCmp .NotIn (.str x) (.tup ds)) q = q true := by
  show wo ((inD (.str x) (.tup ds)).map (!·)) q = _
  rw [h]; rfl
end Fx
namespace Fx
open PySem PySem.Spec PyProof.Rows L2
/-! how long a datum's text may be -/
structure Sz (d : D) (k n : Nat) : Prop where
  fl : d.flat = true
  sm : smD d
  dp : d.py.depth ≤ k
  wt : d.py.weight ≤ n
structure SzA (ds : List D) (k n : Nat) : Prop where
  fl : D.flatAll ds = true
  sm : smA ds
  dp : PyData.depthAll (D.pyAll ds) ≤ k
  wt : PyData.weightAll (D.pyAll ds) ≤ n
theorem Sz.mono {d : D} {k n k' n' : Nat} (h : Sz d k n) (hk : k ≤ k') (hn : n ≤ n') : Sz d k' n' := ⟨h.fl, h.sm, Nat.le_trans h.dp hk, Nat.le_trans h.wt hn⟩
theorem SzA.mono {d : List D} {k n k' n' : Nat} (h : SzA d k n) (hk : k ≤ k') (hn : n ≤ n') : SzA d k' n' := ⟨h.fl, h.sm, Nat.le_trans h.dp hk, Nat.le_trans h.wt hn⟩
theorem Sz.okR {d : D} {k n : Nat} (h : Sz d k n) (hk : k ≤ 64) (hn : n ≤ 490000) : okR d := okR_of h.fl h.sm (Nat.le_trans h.dp hk) (Nat.le_trans h.wt hn)
theorem sz_non : Sz .non 0 0 := ⟨rfl, trivial, Nat.le_refl _, Nat.le_refl _⟩
theorem sz_bl {b : Bool} : Sz (.bl b) 0 0 := ⟨rfl, trivial, Nat.le_refl _, Nat.le_refl _⟩
theorem sz_int {i : Int} (h : smI i) : Sz (.int i) 0 100 := ⟨rfl, h, Nat.le_refl _, smI_w h⟩
theorem sz_i {i : Int} (h : -1000000000000 ≤ i) (h' : i ≤ 1000000000000) : Sz (.int i) 0 100 := sz_int (smI_of (by omega) (by omega))
theorem sz_str {x : Str} (h : x.cps.toList.all (fun c => decide (c < 16 ^ 8)) = true) (hl : x.length ≤ 100) : Sz (.str x) 0 100 := ⟨rfl, fun c hc => of_decide_eq_true (List.all_eq_true.mp h c hc), Nat.le_refl _, hl⟩
theorem szA_nil {k : Nat} : SzA [] k 0 := ⟨rfl, trivial, Nat.zero_le _, Nat.le_refl _⟩
theorem szA_cons {d : D} {ds : List D} {k a b : Nat} (h : Sz d k a) (hs : SzA ds k b) : SzA (d :: ds) k (a + 1 + b) := by
  refine ⟨by simp only [D.flatAll, h.fl, hs.fl, Bool.and_self], ⟨h.sm, hs.sm⟩, ?_, ?_⟩
  · simp only [D.pyAll, PyData.depthAll]; have := h.dp; have := hs.dp; omega
  · simp only [D.pyAll, PyData.weightAll]; have := h.wt; have := hs.wt; omega
theorem szA_append : ∀ {ds es : List D} {k a b : Nat}, SzA ds k a → SzA es k b → SzA (ds ++ es) k (a + b)
  | [], es, k, a, b, _, h => h.mono (Nat.le_refl _) (by omega)
  | d :: ds, es, k, a, b, hd, h => by
    have h1 : Sz d k d.py.weight := ⟨by have := hd.fl; simp only [D.flatAll, Bool.and_eq_true] at this; exact this.1, hd.sm.1, by have := hd.dp; simp only [D.pyAll, PyData.depthAll] at this; omega, Nat.le_refl _⟩
    have h2 : SzA ds k (PyData.weightAll (D.pyAll ds)) := ⟨by have := hd.fl; simp only [D.flatAll, Bool.and_eq_true] at this; exact this.2, hd.sm.2, by have := hd.dp; simp only [D.pyAll, PyData.depthAll] at this; omega, Nat.le_refl _⟩
    have := hd.wt
    simp only [D.pyAll, PyData.weightAll] at this
    exact (szA_cons h1 (szA_append h2 h)).mono (Nat.le_refl _) (by omega)
theorem szA_all {k c : Nat} : ∀ {ds : List D}, (∀ d ∈ ds, Sz d k c) → SzA ds k ((c + 1) * ds.length)
  | [], _ => szA_nil
  | d :: ds, h => (szA_cons (h d (by simp)) (szA_all fun e he => h e (by simp [he]))).mono (Nat.le_refl _) (by rw [List.length_cons, Nat.mul_add, Nat.mul_one]; omega)
theorem szA_ints {is : List Int} (h : ∀ i ∈ is, -1000000000000 ≤ i ∧ i ≤ 1000000000000) : SzA (is.map .int) 0 (101 * is.length) := by
  have := szA_all (ds := is.map D.int) (k := 0) (c := 100) fun d hd => by
    obtain ⟨i, hi, e⟩ := List.mem_map.mp hd
    subst e
    exact sz_i (h i hi).1 (h i hi).2
  rw [List.length_map] at this
  exact this
theorem sz_tup {ds : List D} {k n : Nat} (h : SzA ds k n) : Sz (.tup ds) (k + 1) n := ⟨by simp only [D.flat, h.fl], h.sm, by simp only [D.py, PyData.depth]; exact Nat.add_le_add_right h.dp 1, by simp only [D.py, PyData.weight]; exact h.wt⟩
theorem sz_lst {ds : List D} {k n : Nat} (h : SzA ds k n) : Sz (.lst ds) (k + 1) n := ⟨by simp only [D.flat, h.fl], h.sm, by simp only [D.py, PyData.depth]; exact Nat.add_le_add_right h.dp 1, by simp only [D.py, PyData.weight]; exact h.wt⟩
/-! rows joined by two clauses -/
section
variable {g : G} {env : En} {s : Sto}
theorem set_val {i : Nat} {d : D} {env : En} (h : i < env.length) : En.val (env.set i (.val d)) i = some d := by
  unfold En.val
  rw [List.getElem?_set_self h]
theorem l_ext {j : Nat} {Q : List D → Sto → Prop} : ∀ {ds acc : List D} {env : En}, j < env.length → acc.length + ds.length ≤ 16777216 → Q (acc ++ ds) s → Wp (goes (stepF g (.name j) .none (.var j) env) ds acc s) Q nE
  | [], acc, env, hj, hl, h => by rw [g_nil]; rwa [List.append_nil] at h
  | d :: r, acc, env, hj, hl, h => by
    rw [g_cons]
    show wo (stT (.name j) d (wipeE env [j])) _
    have hw : j < (wipeE env [j]).length := by rw [wipeE_length]; exact hj
    have e : stT (.name j) d (wipeE env [j]) = some ((wipeE env [j]).set j (.val d)) := if_pos hw
    rw [e, wo_some, c_none, wif_true, w_var, set_val hw, wo_some]
    rw [List.length_cons] at hl
    refine ⟨by omega, l_ext hj (by rw [List.length_append, List.length_singleton]; omega) ?_⟩
    rw [List.append_assoc]; exact h
theorem l_flat {i j : Nat} {Q : List D → Sto → Prop} (hij : i ≠ j) (hi : i < env.length) (hj : j < env.length) : ∀ {dss : List (List D)} {acc : List D}, acc.length + dss.flatten.length ≤ 16777216 → Q (acc ++ dss.flatten) s →
    Wp (goesL (stepL g (.name i) .none (.name j) (.seq (.x (.var i))) .none (.var j) env) (dss.map .tup) acc s) Q nE
  | [], acc, hl, h => by
    rw [List.flatten_nil, List.append_nil] at h
    exact h
  | ds :: r, acc, hl, h => by
    rw [List.map_cons, h_cons]
    show wo (stT (.name i) (.tup ds) (wipeE env [i, j])) _
    have hw : i < (wipeE env [i, j]).length := by rw [wipeE_length]; exact hi
    have e : stT (.name i) (.tup ds) (wipeE env [i, j]) = some ((wipeE env [i, j]).set i (.val (.tup ds))) := if_pos hw
    rw [e, wo_some, c_none, wif_true, w_iseq, w_lx, w_var, set_val hw, wo_some, o_wkT]
    rw [List.flatten_cons, List.length_append] at hl
    refine l_ext (by rw [List.length_set, wipeE_length]; exact hj) (by omega) ?_
    refine l_flat hij hi hj (by rw [List.length_append]; omega) ?_
    rw [List.append_assoc, ← List.flatten_cons]; exact h
end
section
variable {s : Sto} {k : D → Prop}
theorem b_int_no {c : Prop} [Decidable c] (h : decide c = false) : wb1 .int (.bl (decide c)) s k = k (.int 0) := by rw [h]; rfl
theorem b_int_yes {c : Prop} [Decidable c] (h : decide c = true) : wb1 .int (.bl (decide c)) s k = k (.int 1) := by rw [h]; rfl
end
end Fx
namespace Fx
open PySem PySem.Spec PyProof.Rows L2
section
variable {k : D → Prop}
theorem o_modD {i j : Int} (h : decide (0 < j) = true) : wo (opBin .Mod (.int i) (.int j)) k = k (.int (i % j)) := by
  rw [o_mod]; exact propext ⟨fun q => q.2, fun q => ⟨of_decide_eq_true h, q⟩⟩
theorem o_divD {i j : Int} (h : decide (0 < j ∧ j < 1073741824) = true) : wo (opBin .FloorDiv (.int i) (.int j)) k = k (.int (i / j)) := by
  rw [o_div]; exact propext ⟨fun q => q.2, fun q => ⟨of_decide_eq_true h, q⟩⟩
theorem o_mulR {i j : Int} (h : decide (-(2 ^ 64) < j ∧ j < 2 ^ 64) = true) : wo (opBin .Mult (.int i) (.int j)) k = k (.int (i * j)) := by
  rw [o_mul]; exact propext ⟨fun q => q.2, fun q => ⟨.inr (of_decide_eq_true h), q⟩⟩
theorem o_mulL {i j : Int} (h : decide (-(2 ^ 64) < i ∧ i < 2 ^ 64) = true) : wo (opBin .Mult (.int i) (.int j)) k = k (.int (i * j)) := by
  rw [o_mul]; exact propext ⟨fun q => q.2, fun q => ⟨.inl (of_decide_eq_true h), q⟩⟩
end
end Fx
namespace Fx
open PySem PySem.Spec PyProof.Rows L2
theorem wps_okI {r : RS} {f : Fl} {s : Sto} (h : r = .ok f s) {NN : Fl → Sto → Prop} {EE : Ex → En → Sto → Prop} : WpS r NN EE = NN f s := by rw [h]; rfl
theorem wps_okE {r : RS} {f : Fl} {s : Sto} (h : WpS r (fun g t => g = f ∧ t = s) (fun _ _ _ => False)) : r = .ok f s := by
  cases r with
  | ok g t => rcases h with ⟨h1, h2⟩; rw [h1, h2]
  | exc _ _ _ => exact absurd h id
  | bad => exact absurd h id
end Fx

set_option Elab.async false
set_option linter.all false
set_option maxRecDepth 100000
set_option maxHeartbeats 4000000
/-! Pl 1: plans as trees. -/
namespace Pl
open PySem PySem.Spec PyProof.Rows L2
/-- what a node says, its parts apart -/
inductive Nd where
  | job (d : Int) (th : Bool) (v c : Int) (f : Option Int)
  | all | race | any
  | pool (n : Int)
  | timeout (t : Int)
  | seq | orelse
  | retry (r d : Int)
inductive Tr where
  | mk (h : Nd) (ps : List Tr)
def tI (is : List Int) : Fx.D := .tup (is.map .int)
def oI : Option Int → Fx.D
  | none => .non
  | some i => .int i
/-- the node, by the places of its parts -/
def Nd.node (is : List Int) : Nd → Fx.D
  | .job d th v c f => .tup [.str "job", .int d, .str (if th then "throws" else "gives"), .int v, .int c, oI f]
  | .all => .tup [.str "all", tI is]
  | .race => .tup [.str "race", tI is]
  | .any => .tup [.str "any", tI is]
  | .pool n => .tup [.str "pool", .int n, tI is]
  | .timeout t => .tup [.str "timeout", .int t, .int (is.getD 0 0)]
  | .seq => .tup [.str "sequence", tI is]
  | .orelse => .tup [.str "orelse", .int (is.getD 0 0), .int (is.getD 1 0)]
  | .retry r d => .tup [.str "retry", .int r, .int d, .int (is.getD 0 0)]
/-- the bounds of a node's numbers, of how many parts it has -/
def Nd.ok (n : Nat) : Nd → Prop
  | .job d _ v c f => 0 ≤ d ∧ d ≤ 1000 ∧ 0 ≤ v ∧ v < 1000 ∧ 0 ≤ c ∧ c ≤ 100 ∧ (∀ x, f = some x → 0 ≤ x ∧ x < 1000) ∧ n = 0
  | .all => 1 ≤ n ∧ n ≤ 6
  | .race => 1 ≤ n ∧ n ≤ 6
  | .any => 1 ≤ n ∧ n ≤ 6
  | .pool s => 1 ≤ s ∧ s ≤ 6 ∧ 1 ≤ n ∧ n ≤ 6
  | .timeout t => 0 ≤ t ∧ t ≤ 1000 ∧ n = 1
  | .seq => 1 ≤ n ∧ n ≤ 6
  | .orelse => n = 2
  | .retry r d => 0 ≤ r ∧ r ≤ 2 ∧ 0 ≤ d ∧ d ≤ 100 ∧ n = 1
mutual
def Tr.sz : Tr → Nat
  | .mk _ ps => szL ps + 1
def szL : List Tr → Nat
  | [] => 0
  | t :: r => t.sz + szL r
end
/-- the places of the roots of a row of trees -/
def tops (o : Nat) : List Tr → List Int
  | [] => []
  | t :: r => (((o + t.sz : Nat) : Int) - 1) :: tops (o + t.sz) r
mutual
def Tr.nodes (o : Nat) : Tr → List Fx.D
  | .mk h ps => nodesL o ps ++ [h.node (tops o ps)]
def nodesL (o : Nat) : List Tr → List Fx.D
  | [] => []
  | t :: r => t.nodes o ++ nodesL (o + t.sz) r
end
mutual
def Tr.dp : Tr → Int
  | .mk _ ps => 1 + dpL ps
def dpL : List Tr → Int
  | [] => 0
  | t :: r => if t.dp < dpL r then dpL r else t.dp
end
def Nd.times : Nd → Int
  | .retry r _ => 1 + r
  | _ => 1
mutual
def Tr.runs : Tr → Int
  | .mk h ps => match h with
    | .job _ _ _ _ _ => 1
    | h => h.times * runsL ps
def runsL : List Tr → Int
  | [] => 0
  | t :: r => t.runs + runsL r
end
mutual
def Tr.ok : Tr → Prop
  | .mk h ps => h.ok ps.length ∧ okL ps
def okL : List Tr → Prop
  | [] => True
  | t :: r => t.ok ∧ okL r
end
theorem szL_append : ∀ a b : List Tr, szL (a ++ b) = szL a + szL b
  | [], b => by simp [szL]
  | t :: r, b => by simp only [List.cons_append, szL, szL_append r b]; omega
theorem runsL_append : ∀ a b : List Tr, runsL (a ++ b) = runsL a + runsL b
  | [], b => by simp [runsL]
  | t :: r, b => by simp only [List.cons_append, runsL, runsL_append r b]; omega
theorem okL_append : ∀ a b : List Tr, okL (a ++ b) ↔ okL a ∧ okL b
  | [], b => by simp [okL]
  | t :: r, b => by simp only [List.cons_append, okL, okL_append r b, and_assoc]
theorem tops_append : ∀ (a b : List Tr) (o : Nat), tops o (a ++ b) = tops o a ++ tops (o + szL a) b
  | [], b, o => by simp [tops, szL]
  | t :: r, b, o => by simp only [List.cons_append, tops, szL, tops_append r b]; rw [Nat.add_assoc]
theorem nodesL_append : ∀ (a b : List Tr) (o : Nat), nodesL o (a ++ b) = nodesL o a ++ nodesL (o + szL a) b
  | [], b, o => by simp [nodesL, szL]
  | t :: r, b, o => by simp only [List.cons_append, nodesL, szL, nodesL_append r b, List.append_assoc]; rw [Nat.add_assoc]
theorem tops_length : ∀ (a : List Tr) (o : Nat), (tops o a).length = a.length
  | [], _ => rfl
  | t :: r, o => by simp only [tops, List.length_cons, tops_length r]
mutual
theorem nodes_length : ∀ (t : Tr) (o : Nat), (t.nodes o).length = t.sz
  | .mk h ps, o => by simp only [Tr.nodes, Tr.sz, List.length_append, List.length_singleton, nodesL_length ps o]
theorem nodesL_length : ∀ (a : List Tr) (o : Nat), (nodesL o a).length = szL a
  | [], _ => rfl
  | t :: r, o => by simp only [nodesL, szL, List.length_append, nodes_length t o, nodesL_length r]
end
mutual
theorem runs_pos : ∀ t : Tr, t.ok → 1 ≤ t.runs
  | .mk h ps, hk => by
    have h2 := runsL_pos ps hk.2
    have h3 := hk.1
    cases h with
    | job => show (1 : Int) ≤ 1; omega
    | retry r d =>
      show (1 : Int) ≤ (1 + r) * runsL ps
      have h4 : 0 ≤ r ∧ r ≤ 2 ∧ 0 ≤ d ∧ d ≤ 100 ∧ ps.length = 1 := h3
      have : 0 ≤ r * runsL ps := Int.mul_nonneg h4.1 (by omega)
      have e : (1 + r) * runsL ps = runsL ps + r * runsL ps := by rw [Int.add_mul, Int.one_mul]
      omega
    | pool n => have h4 : 1 ≤ n ∧ n ≤ 6 ∧ 1 ≤ ps.length ∧ ps.length ≤ 6 := h3; show (1 : Int) ≤ 1 * runsL ps; omega
    | timeout n => have h4 : 0 ≤ n ∧ n ≤ 1000 ∧ ps.length = 1 := h3; show (1 : Int) ≤ 1 * runsL ps; omega
    | orelse => have h4 : ps.length = 2 := h3; show (1 : Int) ≤ 1 * runsL ps; omega
    | all => have h4 : 1 ≤ ps.length ∧ ps.length ≤ 6 := h3; show (1 : Int) ≤ 1 * runsL ps; omega
    | race => have h4 : 1 ≤ ps.length ∧ ps.length ≤ 6 := h3; show (1 : Int) ≤ 1 * runsL ps; omega
    | any => have h4 : 1 ≤ ps.length ∧ ps.length ≤ 6 := h3; show (1 : Int) ≤ 1 * runsL ps; omega
    | seq => have h4 : 1 ≤ ps.length ∧ ps.length ≤ 6 := h3; show (1 : Int) ≤ 1 * runsL ps; omega
theorem runsL_pos : ∀ a : List Tr, okL a → (a.length : Int) ≤ runsL a
  | [], _ => by simp [runsL]
  | t :: r, h => by
    have h1 := runs_pos t h.1
    have h2 := runsL_pos r h.2
    simp only [runsL, List.length_cons]; omega
end
mutual
theorem dp_pos : ∀ t : Tr, 1 ≤ t.dp
  | .mk h ps => by have := dpL_nn ps; simp only [Tr.dp]; omega
theorem dpL_nn : ∀ a : List Tr, 0 ≤ dpL a
  | [] => by simp [dpL]
  | t :: r => by have h1 := dp_pos t; have h2 := dpL_nn r; simp only [dpL]; split <;> omega
end
theorem dpL_le {m : Int} : ∀ {a : List Tr}, 0 ≤ m → (∀ t ∈ a, t.dp ≤ m) → dpL a ≤ m
  | [], h0, _ => h0
  | t :: r, h0, h => by
    have h1 := h t (by simp)
    have h2 := dpL_le (a := r) h0 fun t ht => h t (by simp [ht])
    simp only [dpL]; split <;> omega
theorem le_dpL : ∀ {a : List Tr} {t : Tr}, t ∈ a → t.dp ≤ dpL a
  | t :: r, t', h => by
    simp only [dpL]
    rcases List.mem_cons.mp h with h | h
    · subst h; split <;> omega
    · have := le_dpL h; split <;> omega
/-- the greatest of the depths, as the program takes it -/
theorem maxI_dp : ∀ (r : List Tr) (i : Int), 0 ≤ i → Fx.maxI i (r.map Tr.dp) = if i < dpL r then dpL r else i
  | [], i, h => by
    rw [if_neg (show ¬ i < dpL [] from by have : dpL [] = 0 := rfl; omega)]; rfl
  | t :: r, i, h => by
    have h1 := dp_pos t
    have h2 := dpL_nn r
    simp only [List.map_cons, Fx.maxI, dpL]
    rw [maxI_dp r _ (by split <;> omega)]
    repeat' split
    all_goals omega
theorem max_dp (t : Tr) (r : List Tr) : Fx.maxI t.dp (r.map Tr.dp) = dpL (t :: r) := by
  have := dp_pos t
  rw [maxI_dp r _ (by omega)]; rfl
theorem sum_runs : ∀ a : List Tr, (a.map Tr.runs).sum = runsL a
  | [] => rfl
  | t :: r => by simp only [List.map_cons, List.sum_cons, runsL, sum_runs r]
/-- each node of a plan is a node within its bounds -/
def isNode (d : Fx.D) : Prop := ∃ (h : Nd) (is : List Int), d = h.node is ∧ h.ok is.length ∧ ∀ i ∈ is, 0 ≤ i ∧ i < 1000000
mutual
theorem nodes_are : ∀ (t : Tr) (o : Nat), t.ok → o + t.sz ≤ 1000000 → ∀ d ∈ t.nodes o, isNode d
  | .mk h ps, o, hk, hz, d, hd => by
    have hz' : o + (szL ps + 1) ≤ 1000000 := hz
    simp only [Tr.nodes, List.mem_append, List.mem_singleton] at hd
    rcases hd with hd | hd
    · exact nodesL_are ps o hk.2 (by omega) d hd
    · refine ⟨h, tops o ps, hd, by rw [tops_length]; exact hk.1, fun i hi => ?_⟩
      have : ∀ (a : List Tr) (o : Nat), i ∈ tops o a → 0 ≤ i ∧ i < ((o + szL a : Nat) : Int) := by
        intro a
        induction a with
        | nil => intro o h; simp [tops] at h
        | cons t r ih =>
          intro o h
          simp only [tops, List.mem_cons] at h
          have hs : 1 ≤ t.sz := by cases t; simp [Tr.sz]
          simp only [szL]
          rcases h with h | h
          · subst h; omega
          · have := ih _ h; omega
      have := this ps o hi
      omega
theorem nodesL_are : ∀ (a : List Tr) (o : Nat), okL a → o + szL a ≤ 1000000 → ∀ d ∈ nodesL o a, isNode d
  | [], _, _, _, d, hd => by simp [nodesL] at hd
  | t :: r, o, hk, hz, d, hd => by
    have hz' : o + (t.sz + szL r) ≤ 1000000 := hz
    simp only [nodesL, List.mem_append] at hd
    rcases hd with hd | hd
    · exact nodes_are t o hk.1 (by omega) d hd
    · exact nodesL_are r _ hk.2 (by omega) d hd
end
end Pl
namespace Pl
open PySem PySem.Spec PyProof.Rows L2
theorem tops_snoc (pre : List Tr) (t : Tr) : tops 0 (pre ++ [t]) = tops 0 pre ++ [((szL (pre ++ [t]) : Nat) : Int) - 1] := by
  rw [tops_append, szL_append]
  simp only [tops, szL, Nat.add_zero, Nat.zero_add]
theorem nodes_snoc (pre suf : List Tr) (h : Nd) : nodesL 0 (pre ++ [.mk h suf]) = nodesL 0 (pre ++ suf) ++ [h.node (tops (szL pre) suf)] := by
  rw [nodesL_append, nodesL_append]
  simp only [nodesL, Tr.nodes, Nat.zero_add, List.append_nil, List.append_assoc]
theorem okL_mem : ∀ {a : List Tr} {t : Tr}, okL a → t ∈ a → t.ok
  | t :: r, t', h, hm => by
    rcases List.mem_cons.mp hm with e | e
    · subst e; exact h.1
    · exact okL_mem h.2 e
/-- a row of trees under way -/
structure Row (ts : List Tr) (D : Int) (L R Z : Nat) : Prop where
  ok : okL ts
  dp : ∀ t ∈ ts, t.dp ≤ D
  len : ts.length ≤ L
  runs : runsL ts ≤ (R : Int)
  sz : szL ts ≤ Z
/-- the row's lists, as the law keeps them -/
def RowE (ts : List Tr) (a b c d : Fx.Sl) : Prop := a = .own (nodesL 0 ts) ∧ b = .own ((tops 0 ts).map .int) ∧ c = .own ((ts.map Tr.dp).map .int) ∧ d = .own ((ts.map Tr.runs).map .int)
theorem split_last (ts : List Tr) (m : Nat) (h : m ≤ ts.length) : ∃ pre suf, ts = pre ++ suf ∧ suf.length = m := ⟨ts.take (ts.length - m), ts.drop (ts.length - m), (List.take_append_drop _ _).symm, by rw [List.length_drop]; omega⟩
theorem b_maxDp {suf : List Tr} {s : Fx.Sto} {k : Fx.D → Prop} (h : 1 ≤ suf.length) : Fx.wb1 .max (.lst ((suf.map Tr.dp).map .int)) s k = k (.int (dpL suf)) := by
  cases suf with
  | nil => simp at h
  | cons t r => rw [List.map_cons, Fx.b_max, max_dp]
theorem b_sumR {suf : List Tr} {s : Fx.Sto} {k : Fx.D → Prop} : Fx.wb1 .sum (.lst ((suf.map Tr.runs).map .int)) s k = k (.int (runsL suf)) := by
  rw [Fx.b_sum, sum_runs]
/-- a new node over the last trees -/
theorem Row.step {pre suf : List Tr} {h : Nd} {D D' : Int} {L R Z R' : Nat} (hr : Row (pre ++ suf) D L R Z) (h1 : 1 ≤ suf.length) (hk : h.ok suf.length) (hd : 1 + dpL suf ≤ D') (hD : D ≤ D') (hR : runsL pre + (Tr.mk h suf).runs ≤ (R' : Int)) : Row (pre ++ [.mk h suf]) D' (L - suf.length + 1) R' (Z + 1) := by
  obtain ⟨q1, q2, q3, q4, q5⟩ := hr
  obtain ⟨o1, o2⟩ := (okL_append _ _).mp q1
  refine ⟨(okL_append _ _).mpr ⟨o1, ⟨hk, o2⟩, trivial⟩, fun t ht => ?_, ?_, ?_, ?_⟩
  · rcases List.mem_append.mp ht with z | z
    · have := q2 t (List.mem_append_left _ z); omega
    · simp at z; subst z; exact hd
  · rw [List.length_append] at q3 ⊢; simp only [List.length_singleton]; omega
  · rw [runsL_append]; simpa [runsL] using hR
  · rw [szL_append] at q5 ⊢; simp only [szL, Tr.sz]; omega
theorem runs_of {h : Nd} {ps : List Tr} (hn : ∀ d th v c f, h ≠ .job d th v c f) : (Tr.mk h ps).runs = h.times * runsL ps := by
  cases h with
  | job d th v c f => exact absurd rfl (hn d th v c f)
  | _ => rfl
end Pl

set_option Elab.async false
set_option linter.all false
set_option maxRecDepth 100000
set_option maxHeartbeats 4000000
/-! Pl 2: a plan's subtrees, in the order of its nodes. -/
namespace Pl
open PySem PySem.Spec PyProof.Rows L2
mutual
def Tr.tl : Tr → List Tr
  | .mk h ps => tlL ps ++ [.mk h ps]
def tlL : List Tr → List Tr
  | [] => []
  | t :: r => t.tl ++ tlL r
end
mutual
theorem tl_length : ∀ t : Tr, t.tl.length = t.sz
  | .mk h ps => by simp only [Tr.tl, Tr.sz, List.length_append, List.length_singleton, tlL_length ps]
theorem tlL_length : ∀ a : List Tr, (tlL a).length = szL a
  | [] => rfl
  | t :: r => by simp only [tlL, szL, List.length_append, tl_length t, tlL_length r]
end
theorem sz_pos (t : Tr) : 1 ≤ t.sz := by cases t; simp [Tr.sz]
theorem tl_last (t : Tr) : t.tl[t.sz - 1]? = some t := by
  cases t with
  | mk h ps =>
    simp only [Tr.tl, Tr.sz]
    rw [List.getElem?_append_right (by rw [tlL_length]; omega), tlL_length]
    simp
/-- the nodes N are those of the trees L, their parts' places count from o -/
structure Wk (o : Nat) (L : List Tr) (N : List Fx.D) : Prop where
  len : L.length = N.length
  at_ : ∀ (k : Nat) (h : Nd) (ps : List Tr), L[k]? = some (.mk h ps) → ∃ is : List Int, N[k]? = some (h.node is) ∧ is.length = ps.length ∧ ∀ (j : Nat) (p : Tr), ps[j]? = some p → ∃ i : Nat, is[j]? = some ((o + i : Nat) : Int) ∧ i < k ∧ L[i]? = some p
theorem Wk.append {o : Nat} {L L2 : List Tr} {N N2 : List Fx.D} (h : Wk o L N) (h2 : Wk (o + L.length) L2 N2) : Wk o (L ++ L2) (N ++ N2) := by
  refine ⟨by rw [List.length_append, List.length_append, h.len, h2.len], fun k hd ps e => ?_⟩
  by_cases hk : k < L.length
  · rw [List.getElem?_append_left hk] at e
    obtain ⟨is, e1, e2, e3⟩ := h.at_ k hd ps e
    refine ⟨is, by rw [List.getElem?_append_left (by rw [← h.len]; exact hk)]; exact e1, e2, fun j p hp => ?_⟩
    obtain ⟨i, q1, q2, q3⟩ := e3 j p hp
    exact ⟨i, q1, q2, by rw [List.getElem?_append_left (by omega)]; exact q3⟩
  · rw [List.getElem?_append_right (by omega)] at e
    obtain ⟨is, e1, e2, e3⟩ := h2.at_ _ hd ps e
    refine ⟨is, by rw [List.getElem?_append_right (by rw [← h.len]; omega), ← h.len]; exact e1, e2, fun j p hp => ?_⟩
    obtain ⟨i, q1, q2, q3⟩ := e3 j p hp
    exact ⟨L.length + i, by rw [q1, Nat.add_assoc], by omega, by rw [List.getElem?_append_right (by omega)]; simpa using q3⟩
theorem tops_at : ∀ (ps : List Tr) (o j : Nat) (p : Tr), ps[j]? = some p → ∃ i : Nat, (tops o ps)[j]? = some ((o + i : Nat) : Int) ∧ i < szL ps ∧ (tlL ps)[i]? = some p
  | [], o, j, p, e => by simp at e
  | t :: r, o, 0, p, e => by
    simp at e; subst e
    have h1 := sz_pos t
    refine ⟨t.sz - 1, ?_, by simp only [szL]; omega, ?_⟩
    · simp only [tops, List.getElem?_cons_zero, Option.some.injEq]; omega
    · simp only [tlL]
      rw [List.getElem?_append_left (by rw [tl_length]; omega)]
      exact tl_last t
  | t :: r, o, j + 1, p, e => by
    simp only [List.getElem?_cons_succ] at e
    obtain ⟨i, q1, q2, q3⟩ := tops_at r (o + t.sz) j p e
    refine ⟨t.sz + i, ?_, by simp only [szL]; omega, ?_⟩
    · simp only [tops, List.getElem?_cons_succ]; rw [q1, Nat.add_assoc]
    · simp only [tlL]
      rw [List.getElem?_append_right (by rw [tl_length]; omega), tl_length]
      simpa using q3
mutual
theorem walk_t : ∀ (t : Tr) (o : Nat), Wk o t.tl (t.nodes o)
  | .mk h ps, o => by
    have h1 := walk_L ps o
    refine ⟨by rw [tl_length, nodes_length], fun k hd qs e => ?_⟩
    simp only [Tr.tl, Tr.nodes] at e ⊢
    by_cases hk : k < szL ps
    · rw [List.getElem?_append_left (by rw [tlL_length]; exact hk)] at e
      obtain ⟨is, e1, e2, e3⟩ := h1.at_ k hd qs e
      refine ⟨is, by rw [List.getElem?_append_left (by rw [nodesL_length]; exact hk)]; exact e1, e2, fun j p hp => ?_⟩
      obtain ⟨i, q1, q2, q3⟩ := e3 j p hp
      exact ⟨i, q1, q2, by rw [List.getElem?_append_left (by rw [tlL_length]; omega)]; exact q3⟩
    · rw [List.getElem?_append_right (by rw [tlL_length]; omega), tlL_length] at e
      have hk0 : k - szL ps = 0 := by
        have := (List.getElem?_eq_some_iff.mp e).1
        simp at this; omega
      rw [hk0] at e
      simp at e
      obtain ⟨rfl, rfl⟩ := e
      refine ⟨tops o ps, by rw [List.getElem?_append_right (by rw [nodesL_length]; omega), nodesL_length, hk0]; rfl, tops_length ps o, fun j p hp => ?_⟩
      obtain ⟨i, q1, q2, q3⟩ := tops_at ps o j p hp
      exact ⟨i, q1, by omega, by rw [List.getElem?_append_left (by rw [tlL_length]; exact q2)]; exact q3⟩
theorem walk_L : ∀ (a : List Tr) (o : Nat), Wk o (tlL a) (nodesL o a)
  | [], o => ⟨rfl, fun k h ps e => by simp [tlL] at e⟩
  | t :: r, o => by
    have h2 := walk_L r (o + t.sz)
    rw [← tl_length t] at h2
    simp only [tlL, nodesL]
    exact (walk_t t o).append (by rw [tl_length] at h2 ⊢; exact h2)
end
mutual
theorem tl_ok : ∀ (t : Tr), t.ok → ∀ s ∈ t.tl, s.ok
  | .mk h ps, hk, s, hs => by
    simp only [Tr.tl, List.mem_append, List.mem_singleton] at hs
    rcases hs with hs | hs
    · exact tlL_ok ps hk.2 s hs
    · subst hs; exact hk
theorem tlL_ok : ∀ (a : List Tr), okL a → ∀ s ∈ tlL a, s.ok
  | [], _, s, hs => by simp [tlL] at hs
  | t :: r, hk, s, hs => by
    simp only [tlL, List.mem_append] at hs
    rcases hs with hs | hs
    · exact tl_ok t hk.1 s hs
    · exact tlL_ok r hk.2 s hs
end
mutual
theorem tl_dp : ∀ (t : Tr), ∀ s ∈ t.tl, s.dp ≤ t.dp
  | .mk h ps, s, hs => by
    simp only [Tr.tl, List.mem_append, List.mem_singleton] at hs
    rcases hs with hs | hs
    · have := tlL_dp ps s hs
      simp only [Tr.dp]; omega
    · subst hs; omega
theorem tlL_dp : ∀ (a : List Tr), ∀ s ∈ tlL a, s.dp ≤ dpL a
  | [], s, hs => by simp [tlL] at hs
  | t :: r, s, hs => by
    simp only [tlL, List.mem_append] at hs
    simp only [dpL]
    rcases hs with hs | hs
    · have := tl_dp t s hs; split <;> omega
    · have := tlL_dp r s hs; split <;> omega
end
/-- what is told of the parts, by their places -/
theorem vals_at {L : List Tr} {ps : List Tr} {is : List Int} {k : Nat} (V : Tr → Int) (hl : is.length = ps.length) (h : ∀ (j : Nat) (p : Tr), ps[j]? = some p → ∃ i : Nat, is[j]? = some ((0 + i : Nat) : Int) ∧ i < k ∧ L[i]? = some p) :
    is.map (fun i => ((L.take k).map V).getD i.toNat 0) = ps.map V := by
  apply List.ext_getElem?
  intro j
  rw [List.getElem?_map, List.getElem?_map]
  cases hp : ps[j]? with
  | none =>
    have : is[j]? = none := List.getElem?_eq_none (by rw [hl]; exact List.getElem?_eq_none_iff.mp hp)
    rw [this]; rfl
  | some p =>
    obtain ⟨i, q1, q2, q3⟩ := h j p hp
    rw [q1, Option.map_some, Option.map_some, Nat.zero_add, Int.toNat_natCast, List.getD_eq_getElem?_getD, List.getElem?_map, List.getElem?_take_of_lt q2, q3]
    rfl
theorem mem_at {L : List Tr} {ps : List Tr} {is : List Int} {k : Nat} (hl : is.length = ps.length) (h : ∀ (j : Nat) (p : Tr), ps[j]? = some p → ∃ i : Nat, is[j]? = some ((0 + i : Nat) : Int) ∧ i < k ∧ L[i]? = some p) : ∀ i ∈ is, 0 ≤ i ∧ i < (k : Int) := fun i hi => by
  obtain ⟨j, hj, e⟩ := List.getElem_of_mem hi
  have hj' : j < ps.length := by rw [← hl]; exact hj
  obtain ⟨i', q1, q2, _⟩ := h j ps[j] (List.getElem?_eq_getElem hj')
  rw [List.getElem?_eq_getElem hj, e] at q1
  have := Option.some.inj q1
  omega
/-- the longest cleanup -/
def Nd.clean : Nd → Int
  | .job _ _ _ c _ => c
  | _ => 0
mutual
def Tr.cl : Tr → Int
  | .mk h ps => match h with
    | .job _ _ _ c _ => c
    | _ => clL ps
def clL : List Tr → Int
  | [] => 0
  | t :: r => if t.cl < clL r then clL r else t.cl
end
/-- the jobs' cleanups -/
def Nd.isJob : Nd → Bool
  | .job _ _ _ _ _ => true
  | _ => false
def Tr.hd : Tr → Nd
  | .mk h _ => h
end Pl
namespace Pl
open PySem PySem.Spec PyProof.Rows L2
/-- the turn at place k of a plan's nodes -/
theorem at_turn {t : Tr} (ht : t.ok) {k : Nat} {d : Fx.D} {r : List Fx.D} (e : (t.nodes 0).drop k = d :: r) : ∃ (h : Nd) (ps : List Tr) (is : List Int), d = h.node is ∧ h.ok is.length ∧ okL ps ∧ t.tl[k]? = some (.mk h ps) ∧ k < t.sz ∧ r = (t.nodes 0).drop (k + 1) ∧ is.length = ps.length ∧
    ∀ (j : Nat) (p : Tr), ps[j]? = some p → ∃ i : Nat, is[j]? = some ((0 + i : Nat) : Int) ∧ i < k ∧ t.tl[i]? = some p := by
  have hk : k < (t.nodes 0).length := by
    rcases Nat.lt_or_ge k (t.nodes 0).length with h | h
    · exact h
    · rw [List.drop_eq_nil_of_le h] at e; cases e
  rw [List.drop_eq_getElem_cons hk] at e
  have hk2 : k < t.tl.length := by rw [tl_length, ← nodes_length t 0]; exact hk
  have W := walk_t t 0
  cases hs : t.tl[k] with
  | mk h ps =>
    have e1 : t.tl[k]? = some (.mk h ps) := by rw [List.getElem?_eq_getElem hk2, hs]
    obtain ⟨is, q1, q2, q3⟩ := W.at_ k h ps e1
    rw [List.getElem?_eq_getElem hk] at q1
    have hok := tl_ok t ht (.mk h ps) (List.mem_of_getElem? e1)
    refine ⟨h, ps, is, ?_, by rw [q2]; exact hok.1, hok.2, e1, by rw [nodes_length] at hk; exact hk, ?_, q2, q3⟩
    · rw [← Option.some.inj q1]; exact (List.cons.inj e).1.symm
    · exact (List.cons.inj e).2.symm
theorem take_snoc {α β : Type} {L : List α} {k : Nat} {a : α} (f : α → β) (e : L[k]? = some a) : (L.take (k + 1)).map f = (L.take k).map f ++ [f a] := by
  rw [List.take_succ, e, List.map_append]; rfl
theorem dpL_snoc : ∀ (a : List Tr) (p : Tr), dpL (a ++ [p]) = if dpL a < p.dp then p.dp else dpL a
  | [], p => by
    have := dp_pos p
    have e : dpL [] = 0 := rfl
    show (if p.dp < dpL [] then dpL [] else p.dp) = if dpL [] < p.dp then p.dp else dpL []
    rw [if_neg (by omega), if_pos (by omega)]
  | t :: r, p => by
    simp only [List.cons_append, dpL, dpL_snoc r p]
    repeat' split
    all_goals omega
mutual
theorem cl_nn : ∀ t : Tr, t.ok → 0 ≤ t.cl ∧ t.cl ≤ 100
  | .mk h ps, hk => by
    have h2 := clL_nn ps hk.2
    cases h with
    | job d th v c f => exact ⟨hk.1.2.2.2.2.1, hk.1.2.2.2.2.2.1⟩
    | _ => exact h2
theorem clL_nn : ∀ a : List Tr, okL a → 0 ≤ clL a ∧ clL a ≤ 100
  | [], _ => by simp [clL]
  | t :: r, h => by
    have h1 := cl_nn t h.1
    have h2 := clL_nn r h.2
    simp only [clL]; split <;> omega
end
theorem clL_snoc : ∀ (a : List Tr) (p : Tr), okL a → p.ok → clL (a ++ [p]) = if clL a < p.cl then p.cl else clL a
  | [], p, _, hp => by
    have := cl_nn p hp
    have e : clL [] = 0 := rfl
    show (if p.cl < clL [] then clL [] else p.cl) = if clL [] < p.cl then p.cl else clL []
    by_cases h : clL [] < p.cl
    · rw [if_neg (by omega), if_pos h]
    · rw [if_neg (by omega), if_neg h]; omega
  | t :: r, p, h, hp => by
    have h1 := cl_nn t h.1
    simp only [List.cons_append, clL, clL_snoc r p h.2 hp]
    repeat' split
    all_goals omega
theorem runsL_snoc (a : List Tr) (p : Tr) : runsL (a ++ [p]) = runsL a + p.runs := by rw [runsL_append]; simp [runsL]
/-- the cleanups of the jobs among trees -/
def jobC (ts : List Tr) : List Int := (ts.filter fun t => t.hd.isJob).map fun t => t.hd.clean
theorem jobC_append (a b : List Tr) : jobC (a ++ b) = jobC a ++ jobC b := by simp [jobC]
theorem fold_max (l : List Int) : ∀ i : Int, l.foldl max i = Fx.maxI i l := by
  induction l with
  | nil => intro i; rfl
  | cons j r ih =>
    intro i
    rw [List.foldl_cons, ih, Fx.maxI]
    congr 1
    rw [Int.max_def]; split <;> split <;> omega
theorem maxI_append : ∀ (a b : List Int) (i : Int), Fx.maxI i (a ++ b) = Fx.maxI (Fx.maxI i a) b
  | [], _, _ => rfl
  | x :: r, b, i => by simp only [List.cons_append, Fx.maxI]; exact maxI_append r b _
mutual
theorem max_jobs : ∀ (t : Tr), t.ok → ∀ i : Int, 0 ≤ i → Fx.maxI i (jobC t.tl) = if i < t.cl then t.cl else i
  | .mk h ps, hk, i, hi => by
    simp only [Tr.tl]
    rw [jobC_append, maxI_append]
    have h2 := max_jobsL ps hk.2 i hi
    cases h with
    | job d th v c f =>
      have e : ps = [] := List.eq_nil_of_length_eq_zero hk.1.2.2.2.2.2.2.2
      subst e
      show Fx.maxI (Fx.maxI i (jobC [])) [c] = if i < c then c else i
      simp only [jobC, List.filter_nil, List.map_nil, Fx.maxI]
    | _ => rw [h2]; rfl
theorem max_jobsL : ∀ (a : List Tr), okL a → ∀ i : Int, 0 ≤ i → Fx.maxI i (jobC (tlL a)) = if i < clL a then clL a else i
  | [], _, i, hi => by
    rw [if_neg (show ¬ i < clL [] from by have : clL [] = 0 := rfl; omega)]; rfl
  | t :: r, h, i, hi => by
    have h1 := cl_nn t h.1
    have h2 := clL_nn r h.2
    simp only [tlL]
    rw [jobC_append, maxI_append, max_jobs t h.1 i hi, max_jobsL r h.2 _ (by split <;> omega)]
    simp only [clL]
    repeat' split
    all_goals omega
end
mutual
theorem jobs_some : ∀ (t : Tr), t.ok → jobC t.tl ≠ []
  | .mk h ps, hk => by
    simp only [Tr.tl]
    rw [jobC_append]
    have hps : ps ≠ [] → jobC (tlL ps) ≠ [] := jobs_someL ps hk.2
    have key : ps.length ≠ 0 → jobC (tlL ps) ++ jobC [Tr.mk h ps] ≠ [] := fun hn z => hps (fun e => hn (by rw [e]; rfl)) (List.append_eq_nil_iff.mp z).1
    cases h with
    | job d th v c f =>
      intro z
      have := (List.append_eq_nil_iff.mp z).2
      simp [jobC, Tr.hd, Nd.isJob] at this
    | all => exact key (by have := hk.1.1; omega)
    | race => exact key (by have := hk.1.1; omega)
    | any => exact key (by have := hk.1.1; omega)
    | pool n => exact key (by have := hk.1.2.2.1; omega)
    | timeout n => exact key (by have := hk.1.2.2; omega)
    | seq => exact key (by have := hk.1.1; omega)
    | orelse => exact key (by have h : ps.length = 2 := hk.1; omega)
    | retry r d => exact key (by have := hk.1.2.2.2.2; omega)
theorem jobs_someL : ∀ (a : List Tr), okL a → a ≠ [] → jobC (tlL a) ≠ []
  | [], _, h => absurd rfl h
  | t :: r, hk, _ => by
    simp only [tlL]
    rw [jobC_append]
    intro z
    exact jobs_some t hk.1 (List.append_eq_nil_iff.mp z).1
end
theorem runs_step {h : Nd} {ps : List Tr} (hj : h.isJob = false) : (Tr.mk h ps).runs = h.times * runsL ps := runs_of fun d th v c f e => by rw [e] at hj; cases hj
theorem cl_step {h : Nd} {ps : List Tr} (hj : h.isJob = false) : (Tr.mk h ps).cl = clL ps := by cases h <;> first | rfl | cases hj
end Pl
namespace Fx
open PySem PySem.Spec PyProof.Rows L2
def maxDI (i : Int) : List Int → Int
  | [] => i
  | x :: r => maxI x r
theorem o_maxDt {is : List Int} {i : Int} {k : D → Prop} : wo (opB2 .maxD (.lst (is.map .int)) (.int i)) k = k (.int (maxDI i is)) := by
  show wo ((intsD (is.map .int)).map fun is => match is with | [] => D.int i | x :: r => D.int (maxI x r)) k = _
  rw [intsD_map]
  cases is <;> rfl
/-- where each turn gives f's value if p holds -/
theorem l_filt {g : G} {env : En} {s : Sto} {t : T} {c : CO} {e : X} {Q : List D → Sto → Prop} (f : D → D) (p : D → Bool) {ds : List D} (hl : ds.length ≤ 16777216) (hs : ∀ d ∈ ds, ∀ {yes : D → Sto → Prop} {no : Sto → Prop}, (p d = true → yes (f d) s) → (p d = false → no s) → turnC g t c e env d s yes no) (h : Q ((ds.filter p).map f) s) : Wp (goes (stepF g t c e env) ds [] s) Q nE := by
  refine l_goes (fun r acc s' => s' = s ∧ ∃ q, ds = q ++ r ∧ acc = (q.filter p).map f) ?_ ?_ ds [] s ⟨rfl, [], rfl, rfl⟩
  · rintro d r acc s' ⟨rfl, q, e1, e2⟩
    refine hs d (by rw [e1]; simp) (fun hp => ⟨?_, rfl, q ++ [d], by rw [e1]; simp, by rw [e2]; simp [hp]⟩) fun hp => ⟨rfl, q ++ [d], by rw [e1]; simp, by rw [e2]; simp [hp]⟩
    rw [e2, List.length_map]
    have h1 := congrArg List.length e1
    have h2 := List.length_filter_le p q
    rw [List.length_append, List.length_cons] at h1
    omega
  · rintro acc s' ⟨rfl, q, e1, e2⟩
    rw [List.append_nil] at e1
    rw [e2, ← e1]; exact h
end Fx
namespace Pl
theorem maxDI_dp : ∀ ps : List Tr, Fx.maxDI 0 (ps.map Tr.dp) = dpL ps
  | [] => rfl
  | p :: r => max_dp p r
end Pl

set_option Elab.async false
set_option linter.all false
set_option maxRecDepth 100000
set_option maxHeartbeats 4000000
/-! Fx 25: tellings of classes: made, called, their fields. -/
namespace Fx
open PySem PySem.Spec PyProof.Rows L2
def wnon (d : D) (p : Prop) : Prop := match d with
  | .non => p
  | _ => False
theorem non_non {p : Prop} : wnon .non p = p := rfl
section
variable {g : G} {env : En} {s : Sto} {E : Ex → Sto → Prop}
theorem w_mk {c nd : Nat} {es : XS} {Q : D → Sto → Prop} : Wp (X.ev g (.mk c es nd) env s) Q E = Wp (XS.ev g es env s) (fun ds s1 => wo (g.init c) fun f => wdv (g.dv f nd) fun dd => wapp ds dd fun ds' => Wp (g.call f (.obj s1.length :: ds') (s1 ++ [.ins c []])) (fun v s2 => wnon v (Q (.obj s1.length) s2)) E) E := by
  show Wp ((XS.ev g es env >>= fun ds => M.get >>= fun s => M.put (s ++ [.ins c []]) >>= fun _ => M.opt (g.init c) >>= fun f => g.call f (.obj s.length :: (ds ++ g.dv f nd)) >>= fun d => match d with
      | .non => pure (.obj s.length)
      | _ => M.bad) s) Q E = _
  rw [wp_seq]
  congr 1
  funext ds s1
  rw [wp_seq, wp_get, wp_seq, wp_put, wp_seq, w_opt]
  congr 1
  funext f
  show Wp ((g.call f (.obj s1.length :: (ds ++ g.dv f nd)) >>= fun d => match d with
      | .non => pure (.obj s1.length)
      | _ => M.bad) (s1 ++ [.ins c []])) Q E = Wp (g.call f (.obj s1.length :: (ds ++ g.dv f nd)) (s1 ++ [.ins c []])) (fun v s2 => wnon v (Q (.obj s1.length) s2)) E
  rw [wp_seq]
  congr 1
  funext d s2
  cases d <;> rfl
theorem w_meth {nm : Str} {f : Nat} {o : X} {es : XS} {Q : D → Sto → Prop} : Wp (X.ev g (.meth nm f o es) env s) Q E = Wp (X.ev g o env s) (fun x s1 => wobj x fun n => wins s1[n]? fun c fs => wo (g.meth c nm) fun f' => fs.lookup nm = none ∧ Wp (XS.ev g es env s1) (fun ds s2 => Wp (g.call f' (.obj n :: ds) s2) Q E) E) E := by
  show Wp ((X.ev g o env >>= fun x => match x with
    | .obj n => M.get >>= fun s => match s[n]? with
      | some (.ins c fs) => M.opt (g.meth c nm) >>= fun f' => M.need (fs.lookup nm = none) >>= fun _ => XS.ev g es env >>= fun ds => g.call f' (x :: ds)
      | _ => M.bad
    | _ => M.bad) s) Q E = _
  rw [wp_seq]
  congr 1
  funext x s1
  cases x <;> try rfl
  rename_i n
  show Wp ((M.get >>= fun s => match s[n]? with
      | some (.ins c fs) => M.opt (g.meth c nm) >>= fun f' => M.need (fs.lookup nm = none) >>= fun _ => XS.ev g es env >>= fun ds => g.call f' (.obj n :: ds)
      | _ => M.bad) s1) Q E = wins s1[n]? fun c fs => wo (g.meth c nm) fun f' => fs.lookup nm = none ∧ Wp (XS.ev g es env s1) (fun ds s2 => Wp (g.call f' (.obj n :: ds) s2) Q E) E
  rw [wp_seq, wp_get]
  cases s1[n]? with
  | none => rfl
  | some ob =>
    cases ob <;> try rfl
    rename_i c fs
    show Wp ((M.opt (g.meth c nm) >>= fun f' => M.need (fs.lookup nm = none) >>= fun _ => XS.ev g es env >>= fun ds => g.call f' (.obj n :: ds)) s1) Q E = wo (g.meth c nm) fun f' => fs.lookup nm = none ∧ Wp (XS.ev g es env s1) (fun ds s2 => Wp (g.call f' (.obj n :: ds) s2) Q E) E
    rw [wp_seq, w_opt]
    congr 1
    funext f'
    rw [wp_seq]
    unfold M.need
    by_cases h : fs.lookup nm = none
    · rw [if_pos h]
      have e : Wp ((XS.ev g es env >>= fun ds => g.call f' (.obj n :: ds)) s1) Q E = Wp (XS.ev g es env s1) (fun ds s2 => Wp (g.call f' (.obj n :: ds) s2) Q E) E := wp_seq
      exact propext ⟨fun q => ⟨h, e ▸ q⟩, fun q => e.symm ▸ q.2⟩
    · rw [if_neg h]; exact propext ⟨fun q => q.elim, fun q => h q.1⟩
theorem gen_meth {T : G} {defs : List Def} {n : Nat} : (gen T defs n).meth = T.meth := by cases n <;> rfl
theorem gen_init {T : G} {defs : List Def} {n : Nat} : (gen T defs n).init = T.init := by cases n <;> rfl
theorem gen_attr {T : G} {defs : List Def} {n : Nat} : (gen T defs n).attr = T.attr := by cases n <;> rfl
theorem w_mkD {T : G} {defs : List Def} {n c nd : Nat} {es : XS} {Q : D → Sto → Prop} : Wp (X.ev (gen T defs n) (.mk c es nd) env s) Q E = Wp (XS.ev (gen T defs n) es env s) (fun ds s1 => wo (T.init c) fun f => wdv (T.dv f nd) fun dd => wapp ds dd fun ds' => Wp ((gen T defs n).call f (.obj s1.length :: ds') (s1 ++ [.ins c []])) (fun v s2 => wnon v (Q (.obj s1.length) s2)) E) E := by
  rw [w_mk, gen_init, gen_dv]
theorem w_methD {T : G} {defs : List Def} {n : Nat} {nm : Str} {f : Nat} {o : X} {es : XS} {Q : D → Sto → Prop} : Wp (X.ev (gen T defs n) (.meth nm f o es) env s) Q E = Wp (X.ev (gen T defs n) o env s) (fun x s1 => wobj x fun k => wins s1[k]? fun c fs => wo (T.meth c nm) fun f' => fs.lookup nm = none ∧ Wp (XS.ev (gen T defs n) es env s1) (fun ds s2 => Wp ((gen T defs n).call f' (.obj k :: ds) s2) Q E) E) E := by
  rw [w_meth, gen_meth]
theorem w_fldD {T : G} {defs : List Def} {n : Nat} {a : X} {f : Str} {Q : D → Sto → Prop} : Wp (X.ev (gen T defs n) (.fld a f) env s) Q E = Wp (X.ev (gen T defs n) a env s) (fun x s1 => wobj x fun k => wins s1[k]? fun c fs => T.attr c f = true ∧ wo (fs.lookup f) fun d => Q d s1) E := by
  rw [w_fld, gen_attr]
variable {NN : Fl → Sto → Prop} {EE : Ex → En → Sto → Prop}
theorem v_setfD {T : G} {defs : List Def} {n : Nat} {o e : X} {f : Str} : WpS (S.ev (gen T defs n) (.setf o f e) env s) NN EE = Wp (X.ev (gen T defs n) e env s) (fun v s1 => Wp (X.ev (gen T defs n) o env s1) (fun x s2 => wobj x fun k => wins s2[k]? fun c fs => (fs.length < 900 ∧ T.attr c f = true) ∧ wput f v fs fun fs' => wst s2 k (.ins c fs') fun s3 => NN (.nx env) s3) (fun x s1 => EE x env s1)) (fun x s1 => EE x env s1) := by
  rw [v_setf, gen_attr]
end
section
variable {s : Sto} {o o' : O}
theorem ins_A {k : Nat → List (Str × D) → Prop} : wins ((s ++ [o])[s.length]?) k = wins (some o) k := by
  rw [List.getElem?_append_right (Nat.le_refl _), Nat.sub_self]; rfl
theorem ins_k {c : Nat} {fs : List (Str × D)} {k : Nat → List (Str × D) → Prop} : wins (some (.ins c fs)) k = k c fs := rfl
theorem p_A {k : Sto → Prop} : wst (s ++ [o]) s.length o' k = k (s ++ [o']) := by
  unfold wst
  rw [List.set_append_right _ _ (Nat.le_refl _), Nat.sub_self]; rfl
theorem lst_A {k : List D → Prop} : wlst ((s ++ [o])[s.length]?) k = wlst (some o) k := by
  rw [List.getElem?_append_right (Nat.le_refl _), Nat.sub_self]; rfl
end
theorem ln_nil {f : Str} : (List.lookup f ([] : List (Str × D)) = none) = True := by simp
theorem ln_cons {f h : Str} {d : D} {r : List (Str × D)} (e : (f == h) = false) : (List.lookup f ((h, d) :: r) = none) = (List.lookup f r = none) := by
  rw [List.lookup, e]
section
variable {q : Bool → Prop}
theorem o_isBB {i j : Bool} : wo (opCmp .Is (.bl i) (.bl j)) q = q (decide (i = j)) := rfl
theorem o_notBB {i j : Bool} : wo (opCmp .IsNot (.bl i) (.bl j)) q = q (!decide (i = j)) := rfl
/-! what may be compared as data -/
theorem lay_str {x : Str} (h : ∀ c ∈ x.cps.toList, c < 16 ^ 8) (h2 : PyData.strOk x = true) : PyData.canLay0 (.str x) = true := h2
mutual
/-- its texts may be laid -/
def D.lay : D → Bool
  | .str x => PyData.strOk x
  | .tup ds => D.layA ds
  | .lst ds => D.layA ds
  | .obj _ => false
  | _ => true
def D.layA : List D → Bool
  | [] => true
  | d :: ds => d.lay && D.layA ds
end
mutual
theorem lay_py : ∀ d : D, d.lay = true → d.py.canLay0 = true ∧ d.flat = true
  | .non, _ => ⟨rfl, rfl⟩
  | .bl _, _ => ⟨rfl, rfl⟩
  | .int _, _ => ⟨rfl, rfl⟩
  | .str x, h => ⟨h, rfl⟩
  | .obj _, h => by cases h
  | .tup ds, h => lay_pyA ds h
  | .lst ds, h => lay_pyA ds h
theorem lay_pyA : ∀ ds : List D, D.layA ds = true → PyData.canLayAll0 (D.pyAll ds) = true ∧ D.flatAll ds = true
  | [], _ => ⟨rfl, rfl⟩
  | d :: ds, h => by
    have h' : d.lay = true ∧ D.layA ds = true := by simpa [D.layA] using h
    have h1 := lay_py d h'.1
    have h2 := lay_pyA ds h'.2
    simp only [D.pyAll, PyData.canLayAll0, D.flatAll, h1.1, h1.2, h2.1, h2.2, Bool.and_self, and_self]
end
theorem eqD_data {x y : D} (hx : x.lay = true) (hy : y.lay = true) (dx : x.py.depth ≤ 64) (dy : y.py.depth ≤ 64) (hs : scalD x y = none) : eqD x y = some (PyData.eqv x.py y.py) := by
  have h1 := lay_py x hx
  have h2 := lay_py y hy
  unfold eqD
  rw [hs]
  exact if_pos ⟨h1.2, h2.2, by unfold SeqAt.shaped; rw [h1.1, decide_eq_true dx]; rfl, by unfold SeqAt.shaped; rw [h2.1, decide_eq_true dy]; rfl⟩
theorem eqD_self {x : D} (hx : x.lay = true) (dx : x.py.depth ≤ 64) : eqD x x = some true := by
  cases hs : scalD x x with
  | some k =>
    have : k = true := by
      cases x <;> first
        | (have e : some true = some k := hs; cases e; rfl)
        | (have e : some (decide _) = some k := hs; cases e; exact decide_eq_true rfl)
        | (have e : (none : Option Bool) = some k := hs; cases e)
    subst this
    unfold eqD; rw [hs]
  | none =>
    rw [eqD_data hx hx dx dx hs, SeqAt.eqv_refl _ (lay_py x hx).1]
theorem o_eqR {x : D} (hx : x.lay = true) (dx : x.py.depth ≤ 64) : wo (opCmp .Eq x x) q = q true := by
  show wo (eqD x x) q = _
  rw [eqD_self hx dx]; rfl
theorem o_neR {x : D} (hx : x.lay = true) (dx : x.py.depth ≤ 64) : wo (opCmp .NotEq x x) q = q false := by
  show wo ((eqD x x).map (!·)) q = _
  rw [eqD_self hx dx]; rfl
theorem o_eqD {x y : D} (hx : x.lay = true) (hy : y.lay = true) (dx : x.py.depth ≤ 64) (dy : y.py.depth ≤ 64) (hs : scalD x y = none) : wo (opCmp .Eq x y) q = q (PyData.eqv x.py y.py) := by
  show wo (eqD x y) q = _
  rw [eqD_data hx hy dx dy hs]; rfl
theorem o_neD {x y : D} (hx : x.lay = true) (hy : y.lay = true) (dx : x.py.depth ≤ 64) (dy : y.py.depth ≤ 64) (hs : scalD x y = none) : wo (opCmp .NotEq x y) q = q (!PyData.eqv x.py y.py) := by
  show wo ((eqD x y).map (!·)) q = _
  rw [eqD_data hx hy dx dy hs]; rfl
end
end Fx

set_option Elab.async false
set_option linter.all false
set_option maxRecDepth 100000
set_option maxHeartbeats 4000000
/-! Fx 26: comprehensions over rows that are told by something else. -/
namespace Fx
open PySem PySem.Spec PyProof.Rows L2
section
variable {g : G} {env : En} {s : Sto} {α : Type}
theorem l_filtM {t : T} {c : CO} {e : X} {Q : List D → Sto → Prop} (gx : α → D) (f : α → D) (p : α → Bool) {xs : List α} (hl : xs.length ≤ 16777216)
    (hs : ∀ x ∈ xs, ∀ {yes : D → Sto → Prop} {no : Sto → Prop}, (p x = true → yes (f x) s) → (p x = false → no s) → turnC g t c e env (gx x) s yes no) (h : Q ((xs.filter p).map f) s) : Wp (goes (stepF g t c e env) (xs.map gx) [] s) Q nE := by
  refine l_goes (fun r acc s' => s' = s ∧ ∃ pre post, xs = pre ++ post ∧ r = post.map gx ∧ acc = (pre.filter p).map f) ?_ ?_ _ [] s ⟨rfl, [], xs, rfl, rfl, rfl⟩
  · rintro d r acc s' ⟨rfl, pre, post, e1, e2, e3⟩
    cases post with
    | nil => cases e2
    | cons x post =>
      obtain ⟨e4, e5⟩ := List.cons.inj e2
      subst e4 e5
      refine hs x (by rw [e1]; simp) (fun hp => ⟨?_, rfl, pre ++ [x], post, by rw [e1]; simp, rfl, by rw [e3]; simp [hp]⟩) fun hp => ⟨rfl, pre ++ [x], post, by rw [e1]; simp, rfl, by rw [e3]; simp [hp]⟩
      rw [e3, List.length_map]
      have h1 := congrArg List.length e1
      have h2 := List.length_filter_le p pre
      rw [List.length_append, List.length_cons] at h1
      omega
  · rintro acc s' ⟨rfl, pre, post, e1, e2, e3⟩
    cases post with
    | nil => rw [List.append_nil] at e1; rw [e3, ← e1]; exact h
    | cons _ _ => cases e2
theorem l_mapM {t : T} {e : X} {Q : List D → Sto → Prop} (gx : α → D) (f : α → D) {xs : List α} (hl : xs.length ≤ 16777216)
    (hs : ∀ x ∈ xs, ∀ {yes : D → Sto → Prop} {no : Sto → Prop}, yes (f x) s → turnC g t .none e env (gx x) s yes no) (h : Q (xs.map f) s) : Wp (goes (stepF g t .none e env) (xs.map gx) [] s) Q nE := by
  refine l_filtM gx f (fun _ => true) hl (fun x hx yes no h1 _ => hs x hx (h1 rfl)) ?_
  have : xs.filter (fun _ => true) = xs := List.filter_eq_self.mpr fun _ _ => rfl
  rw [this]; exact h
/-- the outer turn of a comprehension of two clauses -/
def turnL (g : G) (t : T) (c : CO) (t2 : T) (it2 : Fx.It) (env : En) (d : D) (s : Sto) (yes : List D → En → Sto → Prop) (no : Sto → Prop) : Prop :=
  wsl t fun l1 => wsl t2 fun l2 => wcatN l1 l2 fun l => wwipe env l fun e0 => wo (stT t d e0) fun env' => Wp (CO.ev g c env' s) (fun b s' => wif b (Wp (It.ev g it2 env' s') (fun ds2 s2 => yes ds2 env' s2) nE) (no s')) nE
/-- two clauses, the inner one the row's things as they are -/
theorem l_flatM {t : T} {it2 : Fx.It} {c : CO} {j : Nat} {Q : List D → Sto → Prop} (gx : α → D) (p : α → Bool) (dss : α → List D) {xs : List α} (hb : ∀ x ∈ xs, (dss x).length ≤ 100) (hl : xs.length ≤ 100000) (hj : j < env.length)
    (hs : ∀ x ∈ xs, ∀ {yes : List D → En → Sto → Prop} {no : Sto → Prop}, (p x = true → ∀ env' : En, env'.length = env.length → yes (dss x) env' s) → (p x = false → no s) → turnL g t c (.name j) it2 env (gx x) s yes no)
    (h : Q (((xs.filter p).map dss).flatten) s) : Wp (goesL (stepL g t c (.name j) it2 .none (.var j) env) (xs.map gx) [] s) Q nE := by
  have key : ∀ (xs : List α) (acc : List D), (∀ x ∈ xs, (dss x).length ≤ 100) → acc.length + 100 * xs.length ≤ 16777216 → (∀ x ∈ xs, ∀ {yes : List D → En → Sto → Prop} {no : Sto → Prop}, (p x = true → ∀ env' : En, env'.length = env.length → yes (dss x) env' s) → (p x = false → no s) → turnL g t c (.name j) it2 env (gx x) s yes no) → Q (acc ++ ((xs.filter p).map dss).flatten) s → Wp (goesL (stepL g t c (.name j) it2 .none (.var j) env) (xs.map gx) acc s) Q nE := by
    intro xs
    induction xs with
    | nil => intro acc _ _ _ h; rw [List.map_nil, h_nil]; simpa using h
    | cons x r ih =>
      intro acc hb hl hs h
      rw [List.map_cons, h_cons]
      rw [List.length_cons] at hl
      have hbx := hb x (by simp)
      refine hs x (by simp) (yes := fun ds2 env' s2 => Wp (goes (stepF g (.name j) .none (.var j) env') ds2 acc s2) (fun acc' s3 => Wp (goesL (stepL g t c (.name j) it2 .none (.var j) env) (r.map gx) acc' s3) Q nE) nE)
        (no := fun s' => Wp (goesL (stepL g t c (.name j) it2 .none (.var j) env) (r.map gx) acc s') Q nE) (fun hp env' he => ?_) (fun hp => ?_)
      · refine l_ext (by rw [he]; exact hj) (by omega) ?_
        refine ih _ (fun y hy => hb y (by simp [hy])) (by rw [List.length_append]; omega) (fun y hy => hs y (by simp [hy])) ?_
        rw [List.filter_cons, if_pos hp, List.map_cons, List.flatten_cons] at h
        rw [List.append_assoc]; exact h
      · refine ih _ (fun y hy => hb y (by simp [hy])) (by omega) (fun y hy => hs y (by simp [hy])) ?_
        rw [List.filter_cons, if_neg (by rw [hp]; exact Bool.false_ne_true)] at h
        exact h
  exact key xs [] hb (by rw [List.length_nil]; omega) hs (by simpa using h)
theorem b_anyB {bs : List Bool} {k : D → Prop} : wb1 .any (.lst (bs.map .bl)) s k = k (.bl (bs.any id)) := by
  have hb : ∀ bs : List Bool, blsD (bs.map .bl) = some bs := fun bs => by
    induction bs with
    | nil => rfl
    | cons b r ih => rw [List.map_cons, blsD, ih]; rfl
  show wo (match blsD (bs.map .bl) with
    | some bs => some (D.bl (bs.any id))
    | none => (intsD (bs.map D.bl)).bind fun is => if (is.all fun i => decide (-1000000000000 < i ∧ i < 1000000000000)) = true then some (.bl (is.any fun i => i != 0)) else none) k = _
  rw [hb]; rfl
theorem b_anyI {is : List Int} {k : D → Prop} (hn : is ≠ []) (h : ∀ i ∈ is, -1000000000000 < i ∧ i < 1000000000000) : wb1 .any (.lst (is.map .int)) s k = k (.bl (is.any fun i => i != 0)) := by
  have hb : blsD (is.map .int) = none := by
    cases is with
    | nil => exact absurd rfl hn
    | cons i r => rfl
  show wo (match blsD (is.map .int) with
    | some bs => some (D.bl (bs.any id))
    | none => (intsD (is.map D.int)).bind fun is => if (is.all fun i => decide (-1000000000000 < i ∧ i < 1000000000000)) = true then some (.bl (is.any fun i => i != 0)) else none) k = _
  rw [hb, intsD_map]
  have : (is.all fun i => decide (-1000000000000 < i ∧ i < 1000000000000)) = true := List.all_eq_true.mpr fun i hi => decide_eq_true (h i hi)
  show wo (if (is.all fun i => decide (-1000000000000 < i ∧ i < 1000000000000)) = true then some (D.bl (is.any fun i => i != 0)) else none) k = _
  rw [if_pos this]; rfl
theorem w_listF {a : L} {Q : List D → Sto → Prop} {E : Ex → Sto → Prop} : Wp (F.ev g (.list a) env s) Q E = Wp (L.ev g a env s) (fun x s1 => match x with
    | .lst ds => Q ds s1
    | .tup ds => Q ds s1
    | .obj n => wlst s1[n]? fun ds => Q ds s1
    | _ => False) E := by
  show Wp ((L.ev g a env >>= fun x => match x with
    | .lst ds => pure ds
    | .tup ds => pure ds
    | .obj n => M.get >>= fun s => match s[n]? with
      | some (O.lst ds) => pure ds
      | _ => M.bad
    | _ => M.bad) s) Q E = _
  rw [wp_seq]
  congr 1
  funext x s1
  cases x <;> try rfl
  rename_i n
  show Wp ((M.get >>= fun s => match s[n]? with
      | some (O.lst ds) => pure ds
      | _ => M.bad) s1) Q E = wlst s1[n]? fun ds => Q ds s1
  rw [wp_seq, wp_get]
  cases s1[n]? with
  | none => rfl
  | some o => cases o <;> rfl
end
/-- a suite's run, told so that nothing evaluates it -/
structure Run (g : G) (c : SS) (env : En) (s : Sto) (NN : Fl → Sto → Prop) (EE : Ex → En → Sto → Prop) : Prop where
  h : WpS (SS.ev g c env s) NN EE
section
variable {g : G} {env : En} {s : Sto} {NN : Fl → Sto → Prop} {EE : Ex → En → Sto → Prop}
theorem run_eq {c : SS} : WpS (SS.ev g c env s) NN EE = Run g c env s NN EE := propext ⟨fun h => ⟨h⟩, fun h => h.h⟩
theorem run_nil : Run g .nil env s NN EE = NN (.nx env) s := by rw [← run_eq]; rfl
theorem run_cons {a : S} {r : SS} : Run g (.cons a r) env s NN EE = WpS (S.ev g a env s) (nxt (fun e s1 => Run g r e s1 NN EE) NN) EE := by
  rw [← run_eq, v_cons]; simp only [run_eq]
theorem run_fin {i : Nat} {r : SS} : Run g (.fin i r) env s NN EE = wo (env.own i) fun ds => wset env i (.val (.lst ds)) fun e => Run g r e s NN EE := by
  rw [← run_eq, u_fin]; simp only [run_eq]
theorem run_finO {i : Nat} {r : SS} : Run g (.finO i r) env s NN EE = wo (env.own i) fun ds => wset env i (.val (.obj s.length)) fun e => Run g r e (s ++ [.lst ds]) NN EE := by
  rw [← run_eq, u_finO]; simp only [run_eq]
theorem r_cut {c r : SS} {a : S} (hc : ∀ {env : En} {s : Sto} {NN : Fl → Sto → Prop} {EE : Ex → En → Sto → Prop}, Run g c env s NN EE = WpS (S.ev g a env s) (nxt (fun e s1 => Run g r e s1 NN EE) NN) EE)
    (K : En → Sto → Prop) (h : WpS (S.ev g a env s) (nxt K NN) EE) (hk : ∀ e s1, K e s1 → Run g r e s1 NN EE) : Run g c env s NN EE := by
  rw [hc]
  refine WpS.imp (r := S.ev g a env s) h (fun f s1 q => ?_) fun _ _ _ q => q
  cases f with
  | nx e => exact hk e s1 q
  | bk e => exact q
  | ct e => exact q
  | rt v => exact q
/-- a for's turns: the body as a run -/
theorem r_for {t : T} {c : SS} (I : List D → En → Sto → Prop) (hs : ∀ d r env s, I (d :: r) env s → wo (stT t d env) fun e' => Run g c e' s (lpN (fun e s => I r e s) NN) EE) (hn : ∀ env s, I [] env s → NN (.nx env) s) (ds : List D) (env : En) (s : Sto) (h : I ds env s) : WpS (loopF (bodyF g t c) ds env s) NN EE :=
  l_for I (fun d r env s q => by
    have := hs d r env s q
    cases e : stT t d env with
    | none => rw [e] at this; exact this
    | some e' => rw [e] at this; exact (this : Run g c e' s _ EE).h) hn ds env s h
/-- .. over a row that is told by something else: what holds behind each beginning -/
theorem r_list {α : Type} {t : T} {c : SS} (gx : α → D) (xs : List α) (I : List α → En → Sto → Prop)
    (hs : ∀ pre x post env s, xs = pre ++ x :: post → I pre env s → wo (stT t (gx x) env) fun e' => Run g c e' s (lpN (fun e s => I (pre ++ [x]) e s) NN) EE) (hn : ∀ env s, I xs env s → NN (.nx env) s) (h : I [] env s) : WpS (loopF (bodyF g t c) (xs.map gx) env s) NN EE := by
  refine r_for (fun r env s => ∃ pre post, xs = pre ++ post ∧ r = post.map gx ∧ I pre env s) ?_ ?_ _ _ _ ⟨[], xs, rfl, rfl, h⟩
  · rintro d r env s ⟨pre, post, e1, e2, hi⟩
    cases post with
    | nil => cases e2
    | cons x post =>
      obtain ⟨e3, e4⟩ := List.cons.inj e2
      subst e3 e4
      have h0 := hs pre x post env s e1 hi
      cases e : stT t (gx x) env with
      | none => rw [e] at h0; exact h0
      | some e' =>
        rw [e] at h0
        refine ⟨WpS.imp (r := SS.ev g c e' s) (h0 : Run g c e' s _ EE).h (fun f s1 q => ?_) fun _ _ _ q => q⟩
        cases f with
        | nx e => exact ⟨pre ++ [x], post, by rw [e1]; simp, rfl, q⟩
        | ct e => exact ⟨pre ++ [x], post, by rw [e1]; simp, rfl, q⟩
        | bk e => exact q
        | rt v => exact q
  · rintro env s ⟨pre, post, e1, e2, hi⟩
    cases post with
    | cons _ _ => cases e2
    | nil => rw [List.append_nil] at e1; subst e1; exact hn _ _ hi
/-- a for over a list of the store -/
theorem r_listO {α : Type} {t : T} {c : SS} {n : Nat} {ds : List D} (gx : α → D) (xs : List α) (I : List α → En → Sto → Prop)
    (hs : ∀ pre x post env s, xs = pre ++ x :: post → I pre env s → wo (stT t (gx x) env) fun e' => Run g c e' s (lpN (fun e s => s[n]? = some (.lst ds) ∧ I (pre ++ [x]) e s) NN) EE) (hn : ∀ env s, I xs env s → NN (.nx env) s) (h : I [] env s) : WpS (loopF (bodyO g t c n ds) (xs.map gx) env s) NN EE := by
  have key : ∀ (post pre : List α) (env : En) (s : Sto), xs = pre ++ post → I pre env s → WpS (loopF (bodyO g t c n ds) (post.map gx) env s) NN EE := by
    intro post
    induction post with
    | nil => intro pre env s e hi; rw [List.append_nil] at e; subst e; exact hn _ _ hi
    | cons x post ih =>
      intro pre env s e hi
      have h0 := hs pre x post env s e hi
      show WpS (match stillS n ds (match stT t (gx x) env with
        | some e2 => SS.ev g c e2 s
        | none => .bad) with
        | .ok (.nx e') s' => loopF (bodyO g t c n ds) (post.map gx) e' s'
        | .ok (.ct e') s' => loopF (bodyO g t c n ds) (post.map gx) e' s'
        | .ok (.bk e') s' => .ok (.nx e') s'
        | .ok (.rt v) s' => .ok (.rt v) s'
        | .exc e e' s' => .exc e e' s'
        | .bad => .bad) NN EE
      cases es : stT t (gx x) env with
      | none => rw [es] at h0; exact h0.elim
      | some e2 =>
        rw [es] at h0
        have h1 := (h0 : Run g c e2 s _ EE).h
        simp only
        cases er : SS.ev g c e2 s with
        | bad => rw [er] at h1; exact h1.elim
        | exc _ _ _ => rw [er] at h1; exact h1
        | ok f s' =>
          rw [er] at h1
          cases f with
          | nx e3 =>
            have h2 : s'[n]? = some (.lst ds) ∧ I (pre ++ [x]) e3 s' := h1
            simp only [stillS, if_pos h2.1]
            exact ih (pre ++ [x]) e3 s' (by rw [e]; simp) h2.2
          | ct e3 =>
            have h2 : s'[n]? = some (.lst ds) ∧ I (pre ++ [x]) e3 s' := h1
            simp only [stillS, if_pos h2.1]
            exact ih (pre ++ [x]) e3 s' (by rw [e]; simp) h2.2
          | bk e3 => exact h1
          | rt v => exact h1
  exact key xs [] env s rfl h
end
end Fx

set_option Elab.async false
set_option linter.all false
set_option maxRecDepth 100000
set_option maxHeartbeats 4000000
namespace Fx
open PySem PySem.Spec PyProof.Rows L2
/-! texts cut at dots -/
def dots : List Nat → List (List Nat)
  | [] => [[]]
  | c :: r => if c = 46 then [] :: dots r else match dots r with
    | p :: q => (c :: p) :: q
    | [] => [[c]]
theorem dots_ne : ∀ l, dots l ≠ []
  | [] => by simp [dots]
  | c :: r => by
    unfold dots
    split
    · simp
    · split <;> simp
theorem dots_cons {c : Nat} {l : List Nat} (h : c ≠ 46) : ∃ p q, dots l = p :: q ∧ dots (c :: l) = (c :: p) :: q := by
  cases e : dots l with
  | nil => exact absurd e (dots_ne l)
  | cons p q => exact ⟨p, q, rfl, by rw [dots, if_neg h, e]⟩
theorem dots_dot {l : List Nat} : dots (46 :: l) = [] :: dots l := by rw [dots, if_pos rfl]
theorem pre_dot {c : Nat} {r : List Nat} : TL.pre [46] (c :: r) = decide (c = 46) := by
  show (List.take 1 (c :: r) == [46]) = _
  rw [List.take_succ_cons, List.take_zero]
  by_cases h : c = 46
  · subst h; rfl
  · rw [decide_eq_false h]
    exact beq_eq_false_iff_ne.mpr fun e => h (List.cons.inj e).1
theorem spl_dots : ∀ (l acc : List Nat), ∃ p q, dots l = p :: q ∧ TL.spl [46] 0 acc l = (acc ++ p) :: q
  | [], acc => ⟨[], [], rfl, by rw [TL.spl_nil, List.append_nil]⟩
  | c :: r, acc => by
    by_cases h : c = 46
    · subst h
      obtain ⟨p, q, e1, e2⟩ := spl_dots r []
      refine ⟨[], dots r, dots_dot, ?_⟩
      rw [TL.spl_hit (by rw [pre_dot]; rfl), List.append_nil]
      show acc :: TL.spl [46] 0 [] r = _
      rw [e2, e1]; rfl
    · obtain ⟨p, q, e1, e2⟩ := spl_dots r (acc ++ [c])
      obtain ⟨p', q', e3, e4⟩ := dots_cons (l := r) h
      rw [e1] at e3
      obtain ⟨e5, e6⟩ := List.cons.inj e3
      subst e5 e6
      refine ⟨c :: p, q, e4, ?_⟩
      rw [TL.spl_miss (by rw [pre_dot, decide_eq_false h]), e2, List.append_assoc]; rfl
theorem spl_dot (l : List Nat) : TL.spl [46] 0 [] l = dots l := by
  obtain ⟨p, q, e1, e2⟩ := spl_dots l []
  rw [e2, e1]; rfl
theorem dots_app : ∀ (a b : List Nat), dots (a ++ 46 :: b) = dots a ++ dots b
  | [], b => dots_dot
  | c :: a, b => by
    by_cases h : c = 46
    · subst h
      show dots (46 :: (a ++ 46 :: b)) = _
      rw [dots_dot, dots_dot, dots_app a b]; rfl
    · obtain ⟨p, q, e1, e2⟩ := dots_cons (l := a ++ 46 :: b) h
      obtain ⟨p', q', e3, e4⟩ := dots_cons (l := a) h
      show dots (c :: (a ++ 46 :: b)) = _
      rw [dots_app a b, e3] at e1
      obtain ⟨e5, e6⟩ := List.cons.inj e1
      subst e5 e6
      rw [e2, e4]; rfl
theorem dots_mem : ∀ {l : List Nat} {c : Nat}, c ∈ l → c ≠ 46 → ∃ p ∈ dots l, c ∈ p
  | [], _, h, _ => by simp at h
  | x :: l, c, h, hc => by
    by_cases hx : x = 46
    · subst hx
      rcases List.mem_cons.mp h with e | e
      · exact absurd e hc
      · obtain ⟨p, hp, h2⟩ := dots_mem e hc
        exact ⟨p, by rw [dots_dot]; exact List.mem_cons_of_mem _ hp, h2⟩
    · obtain ⟨p, q, e1, e2⟩ := dots_cons (l := l) hx
      rw [e2]
      rcases List.mem_cons.mp h with e | e
      · exact ⟨x :: p, List.mem_cons_self .., by rw [e]; exact List.mem_cons_self ..⟩
      · obtain ⟨p', hp, h2⟩ := dots_mem e hc
        rw [e1] at hp
        rcases List.mem_cons.mp hp with e' | e'
        · exact ⟨x :: p, List.mem_cons_self .., List.mem_cons_of_mem _ (by rw [← e']; exact h2)⟩
        · exact ⟨p', List.mem_cons_of_mem _ e', h2⟩
theorem dots_len : ∀ (l : List Nat), (dots l).length ≤ l.length + 1
  | [] => Nat.le_refl _
  | c :: l => by
    have ih := dots_len l
    by_cases h : c = 46
    · subst h; rw [dots_dot, List.length_cons, List.length_cons]; omega
    · obtain ⟨p, q, e1, e2⟩ := dots_cons (l := l) h
      rw [e1, List.length_cons] at ih
      rw [e2, List.length_cons, List.length_cons]; omega
theorem dots_in : ∀ (l : List Nat), ∀ p ∈ dots l, p.length ≤ l.length
  | [], p, h => by simp [dots] at h; subst h; simp
  | c :: l, p, hp => by
    have ih := dots_in l
    rw [List.length_cons]
    by_cases h : c = 46
    · subst h
      rw [dots_dot] at hp
      rcases List.mem_cons.mp hp with e | e
      · subst e; simp
      · have := ih p e; omega
    · obtain ⟨p', q, e1, e2⟩ := dots_cons (l := l) h
      rw [e2] at hp
      rw [e1] at ih
      rcases List.mem_cons.mp hp with e | e
      · subst e; rw [List.length_cons]; have := ih p' (List.mem_cons_self ..); omega
      · have := ih p (List.mem_cons_of_mem _ e); omega
theorem dots_join {ys : List (List Nat)} (hne : ys ≠ []) (h : ∀ p ∈ ys, 46 ∉ p) : dots (TL.joinL [46] ys) = ys := by
  rw [← spl_dot]; exact TL.spl_join hne h
theorem join_snoc : ∀ {ys : List (List Nat)} {p : List Nat}, ys ≠ [] → TL.joinL [46] (ys ++ [p]) = TL.joinL [46] ys ++ 46 :: p
  | [], _, h => absurd rfl h
  | [x], p, _ => rfl
  | x :: y :: r, p, _ => by
    show x ++ ([46] ++ TL.joinL [46] (y :: r ++ [p])) = (x ++ ([46] ++ TL.joinL [46] (y :: r))) ++ 46 :: p
    rw [join_snoc (ys := y :: r) (by simp)]; simp
theorem join_len : ∀ {ys : List (List Nat)} {k : Nat}, (∀ p ∈ ys, p.length ≤ k) → (TL.joinL [46] ys).length ≤ (k + 1) * ys.length
  | [], _, _ => Nat.le_refl _
  | [x], k, h => by have := h x (by simp); show x.length ≤ (k + 1) * 1; omega
  | x :: y :: r, k, h => by
    have h1 := h x (by simp)
    have h2 := join_len (ys := y :: r) fun p hp => h p (by simp [hp])
    show (x ++ ([46] ++ TL.joinL [46] (y :: r))).length ≤ _
    rw [List.length_append, List.length_append, List.length_cons (a := x), Nat.mul_add]
    simp only [List.length_singleton]
    omega
/-! at the values -/
def sD (p : List Nat) : D := .str (SX.S p)
section
variable {k : D → Prop}
theorem dot_S : (("." : Str)) = SX.S [46] := by decide +kernel
theorem m_split {l : List Nat} (h : l.length + 2 ≤ 16777216) : wo (opM1 .split (sD l) (.str ".")) k = k (.lst ((dots l).map sD)) := by
  have e : opM1 .split (sD l) (.str ".") = some (.lst ((dots l).map sD)) := by
    rw [dot_S]
    show (if ((SX.S [46]).length == 0) = false ∧ (SX.S l).length + 2 ≤ 16777216 then some (D.lst ((Txt.split (SX.S l) (SX.S [46])).map .str)) else none) = _
    rw [if_pos ⟨rfl, by rw [SX.S_len]; exact h⟩, SX.split_S (by simp) rfl, spl_dot, List.map_map]; rfl
  rw [e]; rfl
theorem strs_S : ∀ ys : List (List Nat), strsD (ys.map sD) = some (ys.map SX.S)
  | [] => rfl
  | y :: r => by
    show (strsD (r.map sD)).map (SX.S y :: ·) = _
    rw [strs_S r]; rfl
theorem m_join {ys : List (List Nat)} (h : (ys.map (·.length)).sum + ys.length ≤ 16777216) : wo (opM1 .join (.str ".") (.lst (ys.map sD))) k = k (sD (TL.joinL [46] ys)) := by
  have e : opM1 .join (.str ".") (.lst (ys.map sD)) = some (sD (TL.joinL [46] ys)) := by
    rw [dot_S]
    show ((strsD (ys.map sD)).bind fun ys => if (ys.map (·.length)).sum + ys.length * (SX.S [46]).length ≤ 16777216 then some (D.str (Txt.join (SX.S [46]) ys)) else none) = _
    rw [strs_S]
    show (if ((ys.map SX.S).map (·.length)).sum + (ys.map SX.S).length * (SX.S [46]).length ≤ 16777216 then some (D.str (Txt.join (SX.S [46]) (ys.map SX.S))) else none) = _
    rw [SX.lens, List.length_map, SX.S_len, if_pos (by simpa using h), SX.join_S]; rfl
  rw [e]; rfl
theorem num_S (n : Nat) : Str.ofString (toString ((n : Nat) : Int)) = SX.S (TL.numL n) := TL.ext_tl (TL.tl_num n)
theorem b_strN {n : Nat} {s : Sto} (h : n < 2 ^ 100) : wb1 .str (.int (n : Int)) s k = k (sD (TL.numL n)) := by
  have hl : ((n : Int).natAbs).log2 < 1920 := by
    rw [Int.natAbs_natCast]
    by_cases h0 : n = 0
    · subst h0; decide
    · exact Nat.lt_trans ((Nat.log2_lt h0).mpr h) (by decide)
  have e : opB1 .str (.int (n : Int)) = some (sD (TL.numL n)) := by
    show (if ((n : Int).natAbs).log2 < 1920 then some (D.str (Str.ofString (toString (n : Int)))) else none) = _
    rw [if_pos hl, num_S]; rfl
  show wo (opB1 .str (.int (n : Int))) k = _
  rw [e]; rfl
theorem b_intN {p : List Nat} {s : Sto} (hd : NumText.AllDigits p) (h0 : p ≠ []) (hl : p.length ≤ 640) : wb1 .int (sD p) s k = k (.int (NumText.digitsVal p : Nat)) := by
  have e : opB1 .int (sD p) = some (.int (NumText.digitsVal p : Nat)) := by
    show (match PySem.intText? (SX.S p) with
      | some n => if (SX.S p).length ≤ 640 then some (D.int n) else none
      | none => none) = _
    rw [intText_digits (x := SX.S p) hd h0 (by rw [SX.S_len]; omega)]
    show (if (SX.S p).length ≤ 640 then some (D.int _) else none) = _
    rw [SX.S_len, if_pos hl]
  show wo (opB1 .int (sD p)) k = _
  rw [e]; rfl
theorem o_addN {a b : List Nat} (h : a.length + b.length ≤ 16777216) : wo (opBin .Add (sD a) (sD b)) k = k (sD (a ++ b)) := by
  have e : opBin .Add (sD a) (sD b) = some (sD (a ++ b)) := by
    show (if (SX.S a).length + (SX.S b).length ≤ 16777216 then some (D.str (SX.S a ++ SX.S b)) else none) = _
    rw [SX.S_len, SX.S_len, if_pos h, SX.S_cat]; rfl
  rw [e]; rfl
theorem b_lenN {a : List Nat} {s : Sto} (h : a.length ≤ 16777216) : wb1 .len (sD a) s k = k (.int a.length) := by
  show wo (if (SX.S a).length ≤ 16777216 then some (D.int (SX.S a).length) else none) k = _
  rw [SX.S_len, if_pos h]; rfl
theorem strD_S (p : List Nat) : strD (SX.S p) = p.map fun c => sD [c] := rfl
theorem lt1 {a b : Nat} : ([a] : List Nat) < [b] ↔ a < b := by rw [List.cons_lt_cons_iff]; simp
theorem o_ltN {a b : Nat} {q : Bool → Prop} : wo (opCmp .Lt (sD [a]) (sD [b])) q = q (decide (a < b)) := by
  show q (decide ([a] < [b])) = _
  congr 1
  exact decide_eq_decide.mpr lt1
theorem o_leN {a b : Nat} {q : Bool → Prop} : wo (opCmp .LtE (sD [a]) (sD [b])) q = q (!decide (b < a)) := by
  show q (!decide ([b] < [a])) = _
  congr 2
  exact decide_eq_decide.mpr lt1
theorem o_eqN {a b : List Nat} {q : Bool → Prop} : wo (opCmp .Eq (sD a) (sD b)) q = q (decide (a = b)) := by
  show q (decide (SX.S a = SX.S b)) = _
  congr 1
  exact decide_eq_decide.mpr ⟨SX.S_inj, fun h => by rw [h]⟩
theorem o_neN {a b : List Nat} {q : Bool → Prop} : wo (opCmp .NotEq (sD a) (sD b)) q = q (!decide (a = b)) := by
  show q (!decide (SX.S a = SX.S b)) = _
  congr 2
  exact decide_eq_decide.mpr ⟨SX.S_inj, fun h => by rw [h]⟩
theorem o_ninN {c : Nat} {l : List Nat} {q : Bool → Prop} : wo (opCmp .NotIn (sD [c]) (sD l)) q = q (!decide (c ∈ l)) := rfl
theorem ix_N0 {c : Nat} {r : List Nat} {s : Sto} (h : (c :: r).length ≤ 16777216) : wix (sD (c :: r)) (.int 0) s k = k (sD [c]) := by
  show wo (if (SX.S (c :: r)).length ≤ 16777216 then (atI (SX.S (c :: r)).cps.toList 0).map fun c => D.str ⟨#[c]⟩ else none) k = _
  have e : atI (c :: r) 0 = some c := by
    unfold atI ixN
    rw [if_pos (by omega), if_pos (by rw [List.length_cons]; omega)]; rfl
  rw [SX.S_len, if_pos h, e]
  rfl
theorem o_addC {a b : List Nat} : wo (opBin .Add (sD a) (sD b)) k = (a.length + b.length ≤ 16777216 ∧ k (sD (a ++ b))) := by
  by_cases h : a.length + b.length ≤ 16777216
  · rw [o_addN h]; exact propext ⟨fun q => ⟨h, q⟩, fun q => q.2⟩
  · have e : opBin .Add (sD a) (sD b) = none := by
      show (if (SX.S a).length + (SX.S b).length ≤ 16777216 then some (D.str (SX.S a ++ SX.S b)) else none) = _
      rw [SX.S_len, SX.S_len, if_neg h]
    rw [e]; exact propext ⟨fun q => q.elim, fun q => absurd q.1 h⟩
theorem sl_to {z : List Nat} {i : Nat} (h : z.length ≤ 16777216) (hi : i ≤ z.length) : wo (slD (sD z) none (some (i : Int))) k = k (sD (z.take i)) := by
  have e : slD (sD z) none (some (i : Int)) = some (sD (z.take i)) := by
    show (if (SX.S z).length ≤ 16777216 then some (D.str (cutS (SX.S z) none (some (i : Int)))) else none) = _
    rw [SX.S_len, if_pos h]
    show some (D.str (SX.S ((z.drop (HT.sIx (SX.S z).length 0 none)).take (HT.sIx (SX.S z).length (SX.S z).length (some (i : Int)) - HT.sIx (SX.S z).length 0 none)))) = _
    rw [HT.sIx_none, HT.sIx_nat, SX.S_len, Nat.min_eq_left hi]; rfl
  rw [e]; rfl
theorem sl_from {z : List Nat} {i : Nat} (h : z.length ≤ 16777216) (hi : i ≤ z.length) : wo (slD (sD z) (some (i : Int)) none) k = k (sD (z.drop i)) := by
  have e : slD (sD z) (some (i : Int)) none = some (sD (z.drop i)) := by
    show (if (SX.S z).length ≤ 16777216 then some (D.str (cutS (SX.S z) (some (i : Int)) none)) else none) = _
    rw [SX.S_len, if_pos h]
    show some (D.str (SX.S ((z.drop (HT.sIx (SX.S z).length 0 (some (i : Int)))).take (HT.sIx (SX.S z).length (SX.S z).length none - HT.sIx (SX.S z).length 0 (some (i : Int)))))) = _
    rw [HT.sIx_none, HT.sIx_nat, SX.S_len, Nat.min_eq_left hi, List.take_of_length_le (by rw [List.length_drop]; omega)]; rfl
  rw [e]; rfl
end
/-! numbers -/
def isDig (c : Nat) : Bool := decide (48 ≤ c ∧ c ≤ 57)
theorem allDig {p : List Nat} : p.all isDig = true ↔ NumText.AllDigits p := by
  rw [List.all_eq_true]
  exact ⟨fun h c hc => of_decide_eq_true (h c hc), fun h c hc => decide_eq_true (h c hc)⟩
end Fx

set_option Elab.async false
set_option maxRecDepth 100000
set_option maxHeartbeats 4000000
namespace K42
open PySem PySem.Spec PyProof.Rows L2 Fx
def top (i : Nat) : Stmt := PySem.Challenge.pw_asforetold_k42_cut_on_schedule.main.body.getD i (.Pass ⟨0, 0, 0, 0⟩)
/-- _wall -/
def b0 : SS :=
      (.cons (.whl (.tru (.x (.lit (.bl true)))) (.cons .pass
      .nil))
      .nil)
def d0 : Def := ⟨"_wall", "_wall", top 0, ["k"], 1, b0⟩

/-- _is_block -/
def b1 : SS :=
      (.cons (.ite (.x (.cmp .NotEq (.x (.b1 .len (.x (.var 0)))) (.x (.con "BLOCK")))) (.cons (.ret (.lit (.bl false)))
      .nil) .nil)
      (.cons (.for (.name 1) (.seq (.x (.var 0))) (.cons (.ite (.not (.x (.chain .LtE .LtE (.lit (.int 0)) (.var 1) (.lit (.int 255))))) (.cons (.ret (.lit (.bl false)))
      .nil) .nil)
      .nil))
      (.cons (.ret (.lit (.bl true)))
      .nil)))
def d1 : Def := ⟨"_is_block", "_is_block", top 10, ["block", "byte"], 1, b1⟩

/-- _check_torn -/
def b2 : SS :=
      (.cons (.forO (.name 1) false (.var 0) (.cons (.ite (.not (.x (.chain .LtE .LtE (.lit (.int 0)) (.var 1) (.con "BLOCK")))) (.cons (.raise 1 (.cons (.lit (.str "torn")) .nil))
      .nil) .nil)
      .nil))
      .nil)
def d2 : Def := ⟨"_check_torn", "_check_torn", top 11, ["torn", "count"], 1, b2⟩

/-- _law_cell -/
def b3 : SS :=
      (.cons (.ite (.x (.cmp .Lt (.x (.var 1)) (.x (.b1 .len (.x (.var 0)))))) (.cons (.ret (.ix (.x (.var 0)) (.var 1)))
      .nil) .nil)
      (.cons (.ret (.lit (.int 0)))
      .nil))
def d3 : Def := ⟨"_law_cell", "_law_cell", top 14, ["_law_script", "_law_k"], 2, b3⟩

/-- _law_digits -/
def b4 : SS :=
      (.cons (.own 3 (.disp .nil))
      (.cons (.for (.name 4) (.rng2 (.var 1) (.var 2)) (.cons (.set (.name 5) (.call 3 (.cons (.var 0) (.cons (.var 4) .nil)) 0))
      (.cons (.ite (.x (.cmp .Lt (.x (.var 5)) (.x (.lit (.int 0))))) (.cons (.set (.name 5) (.bin .Sub (.lit (.int 1)) (.bin .Mult (.lit (.int 2)) (.var 5))))
      .nil) .nil)
      (.cons (.ite (.x (.cmp .GtE (.x (.var 5)) (.x (.lit (.int 1000000000000000000))))) (.cons (.for (.name 6) (.rng1 (.lit (.int 60))) (.cons (.ite (.x (.cmp .Gt (.x (.var 5)) (.x (.lit (.int 0))))) (.cons (.app 3 (.bin .Mod (.b1 .int (.x (.var 5))) (.lit (.int 1000))))
      (.cons (.set (.name 5) (.bin .FloorDiv (.var 5) (.lit (.int 1000))))
      .nil)) .nil)
      .nil))
      .nil) (.cons (.set (.name 7) (.bin .Mod (.b1 .int (.x (.bin .Add (.bin .Add (.bin .Mult (.var 5) (.lit (.int 40692))) (.bin .Mult (.var 4) (.lit (.int 52774)))) (.lit (.int 17))))) (.lit (.int 2147483399))))
      (.cons (.for (.name 6) (.rng1 (.lit (.int 12))) (.cons (.set (.name 7) (.bin .Mod (.b1 .int (.x (.bin .Add (.bin .Add (.bin .Mult (.var 7) (.lit (.int 40014))) (.bin .Mult (.lit (.int 5)) (.var 6))) (.lit (.int 3))))) (.lit (.int 2147483563))))
      (.cons (.app 3 (.bin .Mod (.b1 .int (.x (.bin .FloorDiv (.var 7) (.lit (.int 1009))))) (.lit (.int 1000))))
      .nil)))
      .nil)))
      .nil))))
      (.fin 3 (.cons (.ret (.var 3))
      .nil))))
def d4 : Def := ⟨"_law_digits", "_law_digits", top 15, ["_law_script", "_law_first", "_law_last", "_law_digits_here", "_law_k", "_law_cell_here", "_law_turn", "_law_seed"], 3, b4⟩

/-- _law_draw -/
def b5 : SS :=
      (.cons (.set (.name 2) (.ix (.x (.var 0)) (.lit (.int 1))))
      (.cons (.seti (.var 0) (.lit (.int 1)) (.bin .Add (.var 2) (.lit (.int 1))))
      (.cons (.ite (.x (.cmp .Lt (.x (.var 2)) (.x (.b1 .len (.x (.ix (.x (.var 0)) (.lit (.int 0)))))))) (.cons (.ret (.bin .Mod (.b1 .int (.x (.ix (.x (.ix (.x (.var 0)) (.lit (.int 0)))) (.var 2)))) (.var 1)))
      .nil) .nil)
      (.cons (.ret (.bin .Mod (.b1 .int (.x (.bin .Add (.bin .Mult (.var 2) (.lit (.int 7))) (.lit (.int 3))))) (.var 1)))
      .nil))))
def d5 : Def := ⟨"_law_draw", "_law_draw", top 16, ["_law_box", "_law_many", "_law_at"], 2, b5⟩

/-- _law_torn -/
def b6 : SS :=
      (.cons (.set (.name 2) (.call 5 (.cons (.var 0) (.cons (.lit (.int 4)) .nil)) 0))
      (.cons (.ite (.x (.cmp .Eq (.x (.var 2)) (.x (.lit (.int 0))))) (.cons (.ret (.fr (.disp .nil)))
      .nil) .nil)
      (.cons (.ite (.x (.cmp .Eq (.x (.var 2)) (.x (.lit (.int 1))))) (.cons (.ret (.fr (.rep (.disp (.cons (.lit (.int 32)) .nil)) (.var 1))))
      .nil) .nil)
      (.cons (.ite (.x (.cmp .Eq (.x (.var 2)) (.x (.lit (.int 2))))) (.cons (.ret (.fr (.comp (.name 3) (.rng1 (.var 1)) .none (.bin .Mult (.lit (.int 32)) (.call 5 (.cons (.var 0) (.cons (.lit (.int 2)) .nil)) 0)))))
      .nil) .nil)
      (.cons (.ret (.fr (.comp (.name 3) (.rng1 (.var 1)) .none (.call 5 (.cons (.var 0) (.cons (.lit (.int 33)) .nil)) 0))))
      .nil)))))
def d6 : Def := ⟨"_law_torn", "_law_torn", top 17, ["_law_box", "_law_many", "_law_kind", "_law_k"], 2, b6⟩

/-- _law_schedule -/
def b7 : SS :=
      (.cons (.try1 (.cons (.ret (.meth "schedule_cut" 22 (.var 0) (.cons (.var 1) (.cons (.var 2) .nil))))
      .nil) 1 (some 3) (.cons (.ret (.tup (.cons (.lit (.str "refused")) (.cons (.efld 3 "name") .nil))))
      .nil))
      .nil)
def d7 : Def := ⟨"_law_schedule", "_law_schedule", top 18, ["_law_disk", "_law_count", "_law_torn_here", "e"], 3, b7⟩

/-- _law_do_raw -/
def b8 : SS :=
      (.cons (.ite (.x (.cmp .Eq (.x (.var 1)) (.x (.bin .Sub (.lit (.int 0)) (.lit (.int 1)))))) (.cons (.ret (.meth "flush" 18 (.var 0) .nil))
      .nil) .nil)
      (.cons (.ret (.meth "write" 17 (.var 0) (.cons (.var 1) (.cons (.var 2) .nil))))
      .nil))
def d8 : Def := ⟨"_law_do_raw", "_law_do_raw", top 19, ["_law_disk", "_law_at", "_law_block"], 3, b8⟩

/-- _law_do -/
def b9 : SS :=
      (.cons (.try2 (.cons (.set (.name 4) (.call 8 (.cons (.var 0) (.cons (.var 1) (.cons (.var 2) .nil))) 0))
      .nil) 2 (some 3) (.cons (.ite (.and (.isE 3 0) (.one (.not (.isE 3 1)))) (.cons (.ret (.tup (.cons (.lit (.str "refused")) (.cons (.lit (.str "cut")) .nil))))
      .nil) .nil)
      (.cons (.ret (.tup (.cons (.lit (.str "refused")) (.cons (.lit (.str "other")) .nil))))
      .nil)) 1 (some 3) (.cons (.ret (.tup (.cons (.lit (.str "refused")) (.cons (.efld 3 "name") .nil))))
      .nil))
      (.cons (.ret (.var 4))
      .nil))
def d9 : Def := ⟨"_law_do", "_law_do", top 20, ["_law_disk", "_law_at", "_law_block", "e", "_law_told"], 3, b9⟩

/-- law -/
def b10 : SS :=
      (.cons (.set (.name 1) (.alloc (.disp (.cons (.call 4 (.cons (.var 0) (.cons (.lit (.int 0)) (.cons (.lit (.int 63)) .nil))) 0) (.cons (.lit (.int 0)) .nil)))))
      (.cons (.set (.name 2) (.bin .Add (.lit (.int 8)) (.call 5 (.cons (.var 1) (.cons (.lit (.int 4)) .nil)) 0)))
      (.cons (.set (.name 3) (.mk 3 (.cons (.var 2) .nil) 0))
      (.cons (.own 4 (.comp (.name 11) (.rng1 (.var 2)) .none (.fr (.rep (.disp (.cons (.lit (.int 0)) .nil)) (.lit (.int 32))))))
      (.finO 4 (.cons (.set (.name 5) (.alloc (.disp .nil)))
      (.cons (.set (.name 6) (.bin .Sub (.lit (.int 0)) (.lit (.int 1))))
      (.cons (.set (.name 7) (.fr (.disp .nil)))
      (.cons (.set (.name 8) (.lit (.int 0)))
      (.cons (.for (.name 9) (.rng1 (.lit (.int 40))) (.cons (.set (.name 10) (.call 5 (.cons (.var 1) (.cons (.lit (.int 10)) .nil)) 0))
      (.cons (.ite (.or (.x (.cmp .Eq (.x (.var 10)) (.x (.lit (.int 0))))) (.one (.x (.cmp .Eq (.x (.var 9)) (.x (.lit (.int 0))))))) (.cons (.set (.name 6) (.call 5 (.cons (.var 1) (.cons (.lit (.int 21)) .nil)) 0))
      (.cons (.set (.name 7) (.call 6 (.cons (.var 1) (.cons (.lit (.int 9)) .nil)) 0))
      (.cons (.set (.name 12) (.alloc (.list (.x (.var 7)))))
      (.cons (.ite (.x (.cmp .IsNot (.x (.call 7 (.cons (.var 3) (.cons (.var 6) (.cons (.var 12) .nil))) 0)) (.x (.lit .non)))) (.cons (.ret (.lit (.bl false)))
      .nil) .nil)
      (.cons (.oapp (.var 12) (.lit (.int 1)))
      (.cons (.ite (.x (.cmp .NotEq (.x (.call 7 (.cons (.var 3) (.cons (.ix (.x (.fr (.disp (.cons (.bin .Sub (.lit (.int 0)) (.lit (.int 1))) (.cons (.lit (.int 100001)) .nil))))) (.call 5 (.cons (.var 1) (.cons (.lit (.int 2)) .nil)) 0)) (.cons (.fr (.disp (.cons (.lit (.int 33)) .nil))) .nil))) 0)) (.x (.tup (.cons (.lit (.str "refused")) (.cons (.lit (.str "many")) .nil)))))) (.cons (.ret (.lit (.bl false)))
      .nil) .nil)
      (.cons (.ite (.x (.cmp .NotEq (.x (.call 7 (.cons (.var 3) (.cons (.lit (.int 3)) (.cons (.fr (.disp (.cons (.lit (.int 33)) .nil))) .nil))) 0)) (.x (.tup (.cons (.lit (.str "refused")) (.cons (.lit (.str "torn")) .nil)))))) (.cons (.ret (.lit (.bl false)))
      .nil) .nil)
      .nil))))))) (.cons (.ite (.and (.x (.cmp .Eq (.x (.var 10)) (.x (.lit (.int 1))))) (.one (.x (.cmp .Eq (.x (.call 5 (.cons (.var 1) (.cons (.lit (.int 4)) .nil)) 0)) (.x (.lit (.int 0))))))) (.cons (.expr (.meth "cut_power" 21 (.var 3) (.cons (.fr (.disp .nil)) .nil)))
      (.cons (.set (.name 5) (.alloc (.disp .nil)))
      (.cons (.set (.name 6) (.bin .Sub (.lit (.int 0)) (.lit (.int 1))))
      (.cons (.set (.name 8) (.bin .Add (.var 8) (.lit (.int 1))))
      .nil)))) (.cons (.ite (.x (.cmp .Eq (.x (.var 10)) (.x (.lit (.int 2))))) (.cons (.ite (.or (.x (.cmp .NotEq (.x (.call 9 (.cons (.var 3) (.cons (.var 2) (.cons (.fr (.rep (.disp (.cons (.lit (.int 0)) .nil)) (.lit (.int 32)))) .nil))) 0)) (.x (.tup (.cons (.lit (.str "refused")) (.cons (.lit (.str "at")) .nil)))))) (.one (.x (.cmp .NotEq (.x (.call 9 (.cons (.var 3) (.cons (.lit (.int 0)) (.cons (.fr (.rep (.disp (.cons (.lit (.int 0)) .nil)) (.lit (.int 31)))) .nil))) 0)) (.x (.tup (.cons (.lit (.str "refused")) (.cons (.lit (.str "block")) .nil)))))))) (.cons (.ret (.lit (.bl false)))
      .nil) .nil)
      .nil) (.cons (.set (.name 13) (.bin .Sub (.lit (.int 0)) (.lit (.int 1))))
      (.cons (.ite (.x (.cmp .Gt (.x (.var 10)) (.x (.lit (.int 4))))) (.cons (.set (.name 13) (.call 5 (.cons (.var 1) (.cons (.var 2) .nil)) 0))
      .nil) .nil)
      (.cons (.own 14 (.comp (.name 11) (.rng1 (.lit (.int 32))) .none (.bin .Add (.lit (.int 1)) (.call 5 (.cons (.var 1) (.cons (.lit (.int 255)) .nil)) 0))))
      (.cons (.set (.name 15) (.call 9 (.cons (.var 3) (.cons (.var 13) (.cons (.fr (.list (.own 14))) .nil))) 0))
      (.fin 14 (.cons (.ite (.x (.cmp .Eq (.x (.var 6)) (.x (.lit (.int 0))))) (.cons (.ite (.x (.cmp .NotEq (.x (.var 15)) (.x (.tup (.cons (.lit (.str "refused")) (.cons (.lit (.str "cut")) .nil)))))) (.cons (.ret (.lit (.bl false)))
      .nil) .nil)
      (.cons (.for (.name 11) (.rng1 (.b2 .min (.x (.b1 .len (.x (.var 7)))) (.b1 .len (.x (.var 5))))) (.cons (.set (.name 16) (.ix (.x (.ix (.x (.var 5)) (.var 11))) (.lit (.int 0))))
      (.cons (.seti (.var 4) (.var 16) (.fr (.cat (.x (.fr (.sl (.x (.ix (.x (.ix (.x (.var 5)) (.var 11))) (.lit (.int 1)))) .none (.some (.ix (.x (.var 7)) (.var 11)))))) (.x (.fr (.sl (.x (.ix (.x (.var 4)) (.var 16))) (.some (.ix (.x (.var 7)) (.var 11))) .none))))))
      .nil)))
      (.cons (.set (.name 5) (.alloc (.disp .nil)))
      (.cons (.set (.name 6) (.bin .Sub (.lit (.int 0)) (.lit (.int 1))))
      (.cons (.set (.name 8) (.bin .Add (.var 8) (.lit (.int 1))))
      .nil))))) (.cons (.ite (.x (.cmp .IsNot (.x (.var 15)) (.x (.lit .non)))) (.cons (.ret (.lit (.bl false)))
      .nil) .nil)
      (.cons (.ite (.x (.cmp .Gt (.x (.var 6)) (.x (.lit (.int 0))))) (.cons (.set (.name 6) (.bin .Sub (.var 6) (.lit (.int 1))))
      .nil) .nil)
      (.cons (.ite (.x (.cmp .Eq (.x (.var 13)) (.x (.bin .Sub (.lit (.int 0)) (.lit (.int 1)))))) (.cons (.forO (.name 17) false (.var 5) (.cons (.seti (.var 4) (.ix (.x (.var 17)) (.lit (.int 0))) (.ix (.x (.var 17)) (.lit (.int 1))))
      .nil))
      (.cons (.set (.name 5) (.alloc (.disp .nil)))
      .nil)) (.cons (.oapp (.var 5) (.fr (.disp (.cons (.var 13) (.cons (.var 14) .nil)))))
      .nil))
      .nil))))
      .nil)))))))
      .nil))
      .nil))
      (.cons (.ite (.or (.x (.cmp .NotEq (.x (.meth "pending_count" 19 (.var 3) .nil)) (.x (.b1 .len (.x (.var 5)))))) (.one (.x (.cmp .NotEq (.x (.meth "cut_count" 20 (.var 3) .nil)) (.x (.var 8)))))) (.cons (.ret (.lit (.bl false)))
      .nil) .nil)
      .nil))))
      (.cons (.expr (.meth "cut_power" 21 (.var 3) (.cons (.fr (.disp .nil)) .nil)))
      (.cons (.ret (.cmpo .Eq (.x (.fr (.comp (.name 13) (.rng1 (.var 2)) .none (.meth "read" 14 (.var 3) (.cons (.var 13) .nil))))) (.x (.var 4))))
      .nil))))))))))))
def d10 : Def := ⟨"law", "law", top 21, ["_law_script", "_law_box", "_law_size", "_law_disk", "_law_blocks", "_law_pending", "_law_left", "_law_torn_here", "_law_cuts", "_law_turn", "_law_kind", "_law_k", "_law_handed", "_law_at", "_law_block", "_law_actual", "_law_place", "_law_entry"], 1, b10⟩

/-- Disk.__init__ -/
def b11 : SS :=
      (.cons (.ite (.not (.x (.chain .LtE .LtE (.con "BLOCKS_LEAST") (.var 1) (.con "BLOCKS_MOST")))) (.cons (.raise 1 (.cons (.lit (.str "blocks")) .nil))
      .nil) .nil)
      (.cons (.setf (.var 0) "_blocks" (.alloc (.comp (.name 2) (.rng1 (.var 1)) .none (.fr (.rep (.disp (.cons (.lit (.int 0)) .nil)) (.con "BLOCK"))))))
      (.cons (.setf (.var 0) "_pending" (.alloc (.disp .nil)))
      (.cons (.setf (.var 0) "_cuts" (.lit (.int 0)))
      (.cons (.setf (.var 0) "_left" (.lit .non))
      (.cons (.setf (.var 0) "_torn" (.fr (.disp .nil)))
      .nil))))))
def d11 : Def := ⟨"__init__", "Disk.__init__", inClass (top 12) 0, ["self", "blocks", "_"], 2, b11⟩

/-- Disk.size -/
def b12 : SS :=
      (.cons (.expr (.call 0 (.cons (.lit (.int 0)) .nil) 0))
      .nil)
def d12 : Def := ⟨"size", "Disk.size", inClass (top 12) 1, ["self"], 1, b12⟩

/-- Disk._check_at -/
def b13 : SS :=
      (.cons (.ite (.not (.x (.chain .LtE .Lt (.lit (.int 0)) (.var 1) (.b1 .len (.x (.fld (.var 0) "_blocks")))))) (.cons (.raise 1 (.cons (.lit (.str "at")) .nil))
      .nil) .nil)
      .nil)
def d13 : Def := ⟨"_check_at", "Disk._check_at", inClass (top 12) 2, ["self", "at"], 2, b13⟩

/-- Disk.read -/
def b14 : SS :=
      (.cons (.expr (.meth "_check_at" 13 (.var 0) (.cons (.var 1) .nil)))
      (.cons (.set (.name 2) (.ix (.x (.fld (.var 0) "_blocks")) (.var 1)))
      (.cons (.forO (.tup (.cons (.name 3) (.cons (.name 4) .nil))) false (.fld (.var 0) "_pending") (.cons (.ite (.x (.cmp .Eq (.x (.var 3)) (.x (.var 1)))) (.cons (.set (.name 2) (.var 4))
      .nil) .nil)
      .nil))
      (.cons (.ret (.fr (.list (.x (.var 2)))))
      .nil))))
def d14 : Def := ⟨"read", "Disk.read", inClass (top 12) 3, ["self", "at", "found", "place", "block"], 2, b14⟩

/-- Disk._cut -/
def b15 : SS :=
      (.cons (.forO (.tup (.cons (.name 2) (.cons (.tup (.cons (.name 4) (.cons (.name 5) .nil))) .nil))) true (.fld (.var 0) "_pending") (.cons (.set (.name 3) (.ite (.x (.cmp .Lt (.x (.var 2)) (.x (.b1 .len (.x (.var 1)))))) (.ix (.x (.var 1)) (.var 2)) (.lit (.int 0))))
      (.cons (.seti (.fld (.var 0) "_blocks") (.var 4) (.fr (.cat (.x (.fr (.sl (.x (.var 5)) .none (.some (.var 3))))) (.x (.fr (.sl (.x (.ix (.x (.fld (.var 0) "_blocks")) (.var 4))) (.some (.var 3)) .none))))))
      .nil)))
      (.cons (.setf (.var 0) "_pending" (.alloc (.disp .nil)))
      (.cons (.setf (.var 0) "_cuts" (.bin .Add (.fld (.var 0) "_cuts") (.lit (.int 1))))
      (.cons (.setf (.var 0) "_left" (.lit .non))
      (.cons (.setf (.var 0) "_torn" (.fr (.disp .nil)))
      .nil)))))
def d15 : Def := ⟨"_cut", "Disk._cut", inClass (top 12) 4, ["self", "torn", "number", "count", "at", "block"], 2, b15⟩

/-- Disk._spend -/
def b16 : SS :=
      (.cons (.ite (.x (.cmp .Is (.x (.fld (.var 0) "_left")) (.x (.lit .non)))) (.cons .retN
      .nil) .nil)
      (.cons (.ite (.x (.cmp .Eq (.x (.fld (.var 0) "_left")) (.x (.lit (.int 0))))) (.cons (.expr (.meth "_cut" 15 (.var 0) (.cons (.fld (.var 0) "_torn") .nil)))
      (.cons (.raiseC 2)
      .nil)) .nil)
      (.cons (.setf (.var 0) "_left" (.bin .Sub (.fld (.var 0) "_left") (.lit (.int 1))))
      .nil)))
def d16 : Def := ⟨"_spend", "Disk._spend", inClass (top 12) 5, ["self"], 1, b16⟩

/-- Disk.write -/
def b17 : SS :=
      (.cons (.expr (.meth "_check_at" 13 (.var 0) (.cons (.var 1) .nil)))
      (.cons (.ite (.not (.tru (.x (.call 1 (.cons (.var 2) .nil) 0)))) (.cons (.raise 1 (.cons (.lit (.str "block")) .nil))
      .nil) .nil)
      (.cons (.expr (.meth "_spend" 16 (.var 0) .nil))
      (.cons (.oapp (.fld (.var 0) "_pending") (.tup (.cons (.var 1) (.cons (.fr (.list (.x (.var 2)))) .nil))))
      .nil))))
def d17 : Def := ⟨"write", "Disk.write", inClass (top 12) 6, ["self", "at", "block"], 3, b17⟩

/-- Disk.flush -/
def b18 : SS :=
      (.cons (.expr (.meth "_spend" 16 (.var 0) .nil))
      (.cons (.forO (.tup (.cons (.name 1) (.cons (.name 2) .nil))) false (.fld (.var 0) "_pending") (.cons (.seti (.fld (.var 0) "_blocks") (.var 1) (.var 2))
      .nil))
      (.cons (.setf (.var 0) "_pending" (.alloc (.disp .nil)))
      .nil)))
def d18 : Def := ⟨"flush", "Disk.flush", inClass (top 12) 7, ["self", "at", "block"], 1, b18⟩

/-- Disk.pending_count -/
def b19 : SS :=
      (.cons (.ret (.b1 .len (.x (.fld (.var 0) "_pending"))))
      .nil)
def d19 : Def := ⟨"pending_count", "Disk.pending_count", inClass (top 12) 8, ["self"], 1, b19⟩

/-- Disk.cut_count -/
def b20 : SS :=
      (.cons (.ret (.fld (.var 0) "_cuts"))
      .nil)
def d20 : Def := ⟨"cut_count", "Disk.cut_count", inClass (top 12) 9, ["self"], 1, b20⟩

/-- Disk.cut_power -/
def b21 : SS :=
      (.cons (.expr (.call 2 (.cons (.var 1) .nil) 0))
      (.cons (.expr (.meth "_cut" 15 (.var 0) (.cons (.fr (.list (.x (.var 1)))) .nil)))
      .nil))
def d21 : Def := ⟨"cut_power", "Disk.cut_power", inClass (top 12) 10, ["self", "torn"], 2, b21⟩

/-- Disk.schedule_cut -/
def b22 : SS :=
      (.cons (.ite (.not (.x (.chain .LtE .LtE (.lit (.int 0)) (.var 1) (.con "COUNT_MOST")))) (.cons (.raise 1 (.cons (.lit (.str "many")) .nil))
      .nil) .nil)
      (.cons (.expr (.call 2 (.cons (.var 2) .nil) 0))
      (.cons (.setf (.var 0) "_left" (.var 1))
      (.cons (.setf (.var 0) "_torn" (.fr (.list (.x (.var 2)))))
      .nil))))
def d22 : Def := ⟨"schedule_cut", "Disk.schedule_cut", inClass (top 12) 11, ["self", "many", "torn"], 3, b22⟩
def defs : List Def := [d0, d1, d2, d3, d4, d5, d6, d7, d8, d9, d10, d11, d12, d13, d14, d15, d16, d17, d18, d19, d20, d21, d22]
def fnL : List (Str × Nat) := [("_wall", 0), ("_is_block", 1), ("_check_torn", 2), ("_law_cell", 3), ("_law_digits", 4), ("_law_draw", 5), ("_law_torn", 6), ("_law_schedule", 7), ("_law_do_raw", 8), ("_law_do", 9), ("law", 10)]
def ndL : List Nat := [0, 0, 0, 0, 0, 0, 0, 0, 0, 0, 0, 0, 0, 0, 0, 0, 0, 0, 0, 0, 0, 0, 0]
def exL : List (Str × Nat) := [("ForetoldError", 0), ("OutOfRange", 1), ("PowerCut", 2)]
def rxL : List (Str × Nat) := [("OutOfRange", 1)]
def rzL : List (Str × Nat) := [("PowerCut", 2)]
def freeL : List Str := ["enumerate", "int", "isinstance", "len", "list", "min", "range"]
def xflL : List Str := ["name"]
def xfL : List (Nat × List Str) := [(1, ["name"])]
def subL : List ((Nat × Nat) × Bool) := [((1, 0), true), ((1, 1), true), ((1, 2), false), ((2, 0), true), ((2, 1), false), ((2, 2), true)]
def conL : List (Str × Fx.D) := [("BLOCK", .int 32), ("BLOCKS_LEAST", .int 8), ("BLOCKS_MOST", .int 400), ("COUNT_MOST", .int 100000)]
def dvL : List ((Nat × Nat) × List Fx.D) := []
def clL : List (Str × Nat) := [("Disk", 3)]
def cdL : List (Nat × Nat) := [(3, 0)]
def iniL : List (Nat × Nat) := [(3, 11)]
def methL : List ((Nat × Str) × Nat) := [((3, "size"), 12), ((3, "_check_at"), 13), ((3, "read"), 14), ((3, "_cut"), 15), ((3, "_spend"), 16), ((3, "write"), 17), ((3, "flush"), 18), ((3, "pending_count"), 19), ((3, "cut_count"), 20), ((3, "cut_power"), 21), ((3, "schedule_cut"), 22)]
def attrL : List (Nat × Str) := [(3, "_blocks"), (3, "_pending"), (3, "_cuts"), (3, "_left"), (3, "_torn")]
def fldL : List Str := ["_blocks", "_cuts", "_left", "_pending", "_torn"]
def mtL : List Str := ["_check_at", "_cut", "_spend", "cut_count", "cut_power", "flush", "pending_count", "read", "schedule_cut", "size", "write"]
def tb : Tb := ⟨(fnL.lookup ·), (fun n k => decide (k ≤ ndL.getD n 0)), (fun c k => decide (k ≤ (cdL.lookup c).getD 0)), (clL.lookup ·), (exL.lookup ·), (fun x => decide (x ∈ freeL)), (fun x => decide (x ∈ fldL)), (fun x => decide (x ∈ xflL)), (fun x => decide (x ∈ mtL)), (rzL.lookup ·), (rxL.lookup ·)⟩
noncomputable def T0 : G := { call := fun _ _ => M.bad, dv := fun n k => (dvL.lookup (n, k)).getD [], con := fun x => conL.lookup x, meth := fun c m => methL.lookup (c, m), init := fun c => iniL.lookup c, attr := fun c f => decide ((c, f) ∈ attrL), xfld := fun c => xfL.lookup c, sub := fun a b => subL.lookup (a, b), fuel := 0 }
theorem c0 : chkD tb d0 = true := by decide +kernel
theorem c1 : chkD tb d1 = true := by decide +kernel
theorem c2 : chkD tb d2 = true := by decide +kernel
theorem c3 : chkD tb d3 = true := by decide +kernel
theorem c4 : chkD tb d4 = true := by decide +kernel
theorem c5 : chkD tb d5 = true := by decide +kernel
theorem c6 : chkD tb d6 = true := by decide +kernel
theorem c7 : chkD tb d7 = true := by decide +kernel
theorem c8 : chkD tb d8 = true := by decide +kernel
theorem c9 : chkD tb d9 = true := by decide +kernel
theorem c10 : chkD tb d10 = true := by decide +kernel
theorem c11 : chkD tb d11 = true := by decide +kernel
theorem c12 : chkD tb d12 = true := by decide +kernel
theorem c13 : chkD tb d13 = true := by decide +kernel
theorem c14 : chkD tb d14 = true := by decide +kernel
theorem c15 : chkD tb d15 = true := by decide +kernel
theorem c16 : chkD tb d16 = true := by decide +kernel
theorem c17 : chkD tb d17 = true := by decide +kernel
theorem c18 : chkD tb d18 = true := by decide +kernel
theorem c19 : chkD tb d19 = true := by decide +kernel
theorem c20 : chkD tb d20 = true := by decide +kernel
theorem c21 : chkD tb d21 = true := by decide +kernel
theorem c22 : chkD tb d22 = true := by decide +kernel
theorem all_chk : ∀ d ∈ defs, chkD tb d = true := (fa_cons c0 (fa_cons c1 (fa_cons c2 (fa_cons c3 (fa_cons c4 (fa_cons c5 (fa_cons c6 (fa_cons c7 (fa_cons c8 (fa_cons c9 (fa_cons c10 (fa_cons c11 (fa_cons c12 (fa_cons c13 (fa_cons c14 (fa_cons c15 (fa_cons c16 (fa_cons c17 (fa_cons c18 (fa_cons c19 (fa_cons c20 (fa_cons c21 (fa_cons c22 fa_nil)))))))))))))))))))))))
end K42

set_option Elab.async false
set_option maxRecDepth 100000
set_option maxHeartbeats 4000000
namespace K42
open PySem PySem.Spec PyProof.Rows L2 Fx
theorem all_mk {P : Program} {w : World} {K : PySem.W.Frag} {h : Heap} {mg : Str → Option Value} {fa : Addr} (X : K.In h) (G : h.Ns mainGlobals mg) (hfa : mg "law" = some (.ref fa))
    {C3 : Addr} {f0 : Addr} {od0 an0 : Option Addr} {sl0 : Array (Option Value)} {oc0 kV0 dc0 pm0 cd0 ct0 : Value} {f1 : Addr} {od1 an1 : Option Addr} {sl1 : Array (Option Value)} {oc1 kV1 dc1 pm1 cd1 ct1 : Value} {f2 : Addr} {od2 an2 : Option Addr} {sl2 : Array (Option Value)} {oc2 kV2 dc2 pm2 cd2 ct2 : Value} {f3 : Addr} {od3 an3 : Option Addr} {sl3 : Array (Option Value)} {oc3 kV3 dc3 pm3 cd3 ct3 : Value} {f4 : Addr} {od4 an4 : Option Addr} {sl4 : Array (Option Value)} {oc4 kV4 dc4 pm4 cd4 ct4 : Value} {f5 : Addr} {od5 an5 : Option Addr} {sl5 : Array (Option Value)} {oc5 kV5 dc5 pm5 cd5 ct5 : Value} {f6 : Addr} {od6 an6 : Option Addr} {sl6 : Array (Option Value)} {oc6 kV6 dc6 pm6 cd6 ct6 : Value} {f7 : Addr} {od7 an7 : Option Addr} {sl7 : Array (Option Value)} {oc7 kV7 dc7 pm7 cd7 ct7 : Value} {f8 : Addr} {od8 an8 : Option Addr} {sl8 : Array (Option Value)} {oc8 kV8 dc8 pm8 cd8 ct8 : Value} {f9 : Addr} {od9 an9 : Option Addr} {sl9 : Array (Option Value)} {oc9 kV9 dc9 pm9 cd9 ct9 : Value} {f10 : Addr} {od10 an10 : Option Addr} {sl10 : Array (Option Value)} {oc10 kV10 dc10 pm10 cd10 ct10 : Value} {f11 : Addr} {od11 an11 : Option Addr} {sl11 : Array (Option Value)} {oc11 kV11 dc11 pm11 cd11 ct11 : Value} {f12 : Addr} {od12 an12 : Option Addr} {sl12 : Array (Option Value)} {oc12 kV12 dc12 pm12 cd12 ct12 : Value} {f13 : Addr} {od13 an13 : Option Addr} {sl13 : Array (Option Value)} {oc13 kV13 dc13 pm13 cd13 ct13 : Value} {f14 : Addr} {od14 an14 : Option Addr} {sl14 : Array (Option Value)} {oc14 kV14 dc14 pm14 cd14 ct14 : Value} {f15 : Addr} {od15 an15 : Option Addr} {sl15 : Array (Option Value)} {oc15 kV15 dc15 pm15 cd15 ct15 : Value} {f16 : Addr} {od16 an16 : Option Addr} {sl16 : Array (Option Value)} {oc16 kV16 dc16 pm16 cd16 ct16 : Value} {f17 : Addr} {od17 an17 : Option Addr} {sl17 : Array (Option Value)} {oc17 kV17 dc17 pm17 cd17 ct17 : Value} {f18 : Addr} {od18 an18 : Option Addr} {sl18 : Array (Option Value)} {oc18 kV18 dc18 pm18 cd18 ct18 : Value} {f19 : Addr} {od19 an19 : Option Addr} {sl19 : Array (Option Value)} {oc19 kV19 dc19 pm19 cd19 ct19 : Value} {f20 : Addr} {od20 an20 : Option Addr} {sl20 : Array (Option Value)} {oc20 kV20 dc20 pm20 cd20 ct20 : Value} {f21 : Addr} {od21 an21 : Option Addr} {sl21 : Array (Option Value)} {oc21 kV21 dc21 pm21 cd21 ct21 : Value} {f22 : Addr} {od22 an22 : Option Addr} {sl22 : Array (Option Value)} {oc22 kV22 dc22 pm22 cd22 ct22 : Value} {tk_BLOCK : Tok} {tk_BLOCKS_LEAST : Tok} {tk_BLOCKS_MOST : Tok} {tk_COUNT_MOST : Tok} {C0 : Addr} {C1 : Addr} {C2 : Addr} {nm1 qq1 : Str} {NN1 : Addr} {bs1 bm1 : List Value} {sn1 : List Str} {su1 : List Value} {ab1 : Bool} {co1 : Option Bool} {xdd1 : Option Addr} {q01 q11 q21 q31 q51 : Option Value} {fI1 : Addr} {iod1 ian1 : Option Addr} {isl1 : Array (Option Value)} {ioc1 ikV1 idc1 ipm1 icd1 ict1 : Value}
    (cg3 : PySem.W.nsIn K mainGlobals "Disk" = some (some (.ref C3)))
    (cp3 : PySem.W.plainGet K C3 Str.empty = true)
    (cd3_ : PySem.W.hasDictIn K C3 = true)
    (co3_ : PySem.W.plainOver K C3 = true)
    (cs3 : PySem.W.findIn K (.ref C3) "__setattr__" = some (some (.builtin "object.__setattr__")))
    (mk3 : PySem.W.makesIn K C3 = true)
    (ck3 : PySem.W.keepIn K (.ref C3) = true)
    (na3__blocks : PySem.W.findIn K (.ref C3) "_blocks" = some none)
    (na3__pending : PySem.W.findIn K (.ref C3) "_pending" = some none)
    (na3__cuts : PySem.W.findIn K (.ref C3) "_cuts" = some none)
    (na3__left : PySem.W.findIn K (.ref C3) "_left" = some none)
    (na3__torn : PySem.W.findIn K (.ref C3) "_torn" = some none)
    (a0 : PySem.W.nsIn K mainGlobals "_wall" = some (some (.ref f0)))
    (l0 : K.lookup f0 = some ⟨oc0, od0, .func (PySem.W.fnOf "_wall" "_wall" (defArgs (top 0)) (defBody (top 0)) (defScope (top 0)) .none kV0 dc0 pm0 an0 cd0 ct0), sl0⟩)
    (c0 : PySem.W.codeIn K cd0 "_wall" = true)
    (k0 : PySem.W.keepIn K (.ref f0) = true)
    (a1 : PySem.W.nsIn K mainGlobals "_is_block" = some (some (.ref f1)))
    (l1 : K.lookup f1 = some ⟨oc1, od1, .func (PySem.W.fnOf "_is_block" "_is_block" (defArgs (top 10)) (defBody (top 10)) (defScope (top 10)) .none kV1 dc1 pm1 an1 cd1 ct1), sl1⟩)
    (c1 : PySem.W.codeIn K cd1 "_is_block" = true)
    (k1 : PySem.W.keepIn K (.ref f1) = true)
    (a2 : PySem.W.nsIn K mainGlobals "_check_torn" = some (some (.ref f2)))
    (l2 : K.lookup f2 = some ⟨oc2, od2, .func (PySem.W.fnOf "_check_torn" "_check_torn" (defArgs (top 11)) (defBody (top 11)) (defScope (top 11)) .none kV2 dc2 pm2 an2 cd2 ct2), sl2⟩)
    (c2 : PySem.W.codeIn K cd2 "_check_torn" = true)
    (k2 : PySem.W.keepIn K (.ref f2) = true)
    (a3 : PySem.W.nsIn K mainGlobals "_law_cell" = some (some (.ref f3)))
    (l3 : K.lookup f3 = some ⟨oc3, od3, .func (PySem.W.fnOf "_law_cell" "_law_cell" (defArgs (top 14)) (defBody (top 14)) (defScope (top 14)) .none kV3 dc3 pm3 an3 cd3 ct3), sl3⟩)
    (c3 : PySem.W.codeIn K cd3 "_law_cell" = true)
    (k3 : PySem.W.keepIn K (.ref f3) = true)
    (a4 : PySem.W.nsIn K mainGlobals "_law_digits" = some (some (.ref f4)))
    (l4 : K.lookup f4 = some ⟨oc4, od4, .func (PySem.W.fnOf "_law_digits" "_law_digits" (defArgs (top 15)) (defBody (top 15)) (defScope (top 15)) .none kV4 dc4 pm4 an4 cd4 ct4), sl4⟩)
    (c4 : PySem.W.codeIn K cd4 "_law_digits" = true)
    (k4 : PySem.W.keepIn K (.ref f4) = true)
    (a5 : PySem.W.nsIn K mainGlobals "_law_draw" = some (some (.ref f5)))
    (l5 : K.lookup f5 = some ⟨oc5, od5, .func (PySem.W.fnOf "_law_draw" "_law_draw" (defArgs (top 16)) (defBody (top 16)) (defScope (top 16)) .none kV5 dc5 pm5 an5 cd5 ct5), sl5⟩)
    (c5 : PySem.W.codeIn K cd5 "_law_draw" = true)
    (k5 : PySem.W.keepIn K (.ref f5) = true)
    (a6 : PySem.W.nsIn K mainGlobals "_law_torn" = some (some (.ref f6)))
    (l6 : K.lookup f6 = some ⟨oc6, od6, .func (PySem.W.fnOf "_law_torn" "_law_torn" (defArgs (top 17)) (defBody (top 17)) (defScope (top 17)) .none kV6 dc6 pm6 an6 cd6 ct6), sl6⟩)
    (c6 : PySem.W.codeIn K cd6 "_law_torn" = true)
    (k6 : PySem.W.keepIn K (.ref f6) = true)
    (a7 : PySem.W.nsIn K mainGlobals "_law_schedule" = some (some (.ref f7)))
    (l7 : K.lookup f7 = some ⟨oc7, od7, .func (PySem.W.fnOf "_law_schedule" "_law_schedule" (defArgs (top 18)) (defBody (top 18)) (defScope (top 18)) .none kV7 dc7 pm7 an7 cd7 ct7), sl7⟩)
    (c7 : PySem.W.codeIn K cd7 "_law_schedule" = true)
    (k7 : PySem.W.keepIn K (.ref f7) = true)
    (a8 : PySem.W.nsIn K mainGlobals "_law_do_raw" = some (some (.ref f8)))
    (l8 : K.lookup f8 = some ⟨oc8, od8, .func (PySem.W.fnOf "_law_do_raw" "_law_do_raw" (defArgs (top 19)) (defBody (top 19)) (defScope (top 19)) .none kV8 dc8 pm8 an8 cd8 ct8), sl8⟩)
    (c8 : PySem.W.codeIn K cd8 "_law_do_raw" = true)
    (k8 : PySem.W.keepIn K (.ref f8) = true)
    (a9 : PySem.W.nsIn K mainGlobals "_law_do" = some (some (.ref f9)))
    (l9 : K.lookup f9 = some ⟨oc9, od9, .func (PySem.W.fnOf "_law_do" "_law_do" (defArgs (top 20)) (defBody (top 20)) (defScope (top 20)) .none kV9 dc9 pm9 an9 cd9 ct9), sl9⟩)
    (c9 : PySem.W.codeIn K cd9 "_law_do" = true)
    (k9 : PySem.W.keepIn K (.ref f9) = true)
    (a10 : PySem.W.nsIn K mainGlobals "law" = some (some (.ref f10)))
    (l10 : K.lookup f10 = some ⟨oc10, od10, .func (PySem.W.fnOf "law" "law" (defArgs (top 21)) (defBody (top 21)) (defScope (top 21)) .none kV10 dc10 pm10 an10 cd10 ct10), sl10⟩)
    (c10 : PySem.W.codeIn K cd10 "law" = true)
    (k10 : PySem.W.keepIn K (.ref f10) = true)
    (a11 : PySem.W.findIn K (.ref C3) "__init__" = some (some (.ref f11)))
    (i11 : PySem.W.isFn K (.ref f11) = true)
    (l11 : K.lookup f11 = some ⟨oc11, od11, .func (PySem.W.fnOf "__init__" "Disk.__init__" (defArgs (inClass (top 12) 0)) (defBody (inClass (top 12) 0)) (defScope (inClass (top 12) 0)) .none kV11 dc11 pm11 an11 cd11 ct11), sl11⟩)
    (c11 : PySem.W.codeIn K cd11 "Disk.__init__" = true)
    (k11 : PySem.W.keepIn K (.ref f11) = true)
    (a12 : PySem.W.findIn K (.ref C3) "size" = some (some (.ref f12)))
    (i12 : PySem.W.isFn K (.ref f12) = true)
    (l12 : K.lookup f12 = some ⟨oc12, od12, .func (PySem.W.fnOf "size" "Disk.size" (defArgs (inClass (top 12) 1)) (defBody (inClass (top 12) 1)) (defScope (inClass (top 12) 1)) .none kV12 dc12 pm12 an12 cd12 ct12), sl12⟩)
    (c12 : PySem.W.codeIn K cd12 "Disk.size" = true)
    (k12 : PySem.W.keepIn K (.ref f12) = true)
    (a13 : PySem.W.findIn K (.ref C3) "_check_at" = some (some (.ref f13)))
    (i13 : PySem.W.isFn K (.ref f13) = true)
    (l13 : K.lookup f13 = some ⟨oc13, od13, .func (PySem.W.fnOf "_check_at" "Disk._check_at" (defArgs (inClass (top 12) 2)) (defBody (inClass (top 12) 2)) (defScope (inClass (top 12) 2)) .none kV13 dc13 pm13 an13 cd13 ct13), sl13⟩)
    (c13 : PySem.W.codeIn K cd13 "Disk._check_at" = true)
    (k13 : PySem.W.keepIn K (.ref f13) = true)
    (a14 : PySem.W.findIn K (.ref C3) "read" = some (some (.ref f14)))
    (i14 : PySem.W.isFn K (.ref f14) = true)
    (l14 : K.lookup f14 = some ⟨oc14, od14, .func (PySem.W.fnOf "read" "Disk.read" (defArgs (inClass (top 12) 3)) (defBody (inClass (top 12) 3)) (defScope (inClass (top 12) 3)) .none kV14 dc14 pm14 an14 cd14 ct14), sl14⟩)
    (c14 : PySem.W.codeIn K cd14 "Disk.read" = true)
    (k14 : PySem.W.keepIn K (.ref f14) = true)
    (a15 : PySem.W.findIn K (.ref C3) "_cut" = some (some (.ref f15)))
    (i15 : PySem.W.isFn K (.ref f15) = true)
    (l15 : K.lookup f15 = some ⟨oc15, od15, .func (PySem.W.fnOf "_cut" "Disk._cut" (defArgs (inClass (top 12) 4)) (defBody (inClass (top 12) 4)) (defScope (inClass (top 12) 4)) .none kV15 dc15 pm15 an15 cd15 ct15), sl15⟩)
    (c15 : PySem.W.codeIn K cd15 "Disk._cut" = true)
    (k15 : PySem.W.keepIn K (.ref f15) = true)
    (a16 : PySem.W.findIn K (.ref C3) "_spend" = some (some (.ref f16)))
    (i16 : PySem.W.isFn K (.ref f16) = true)
    (l16 : K.lookup f16 = some ⟨oc16, od16, .func (PySem.W.fnOf "_spend" "Disk._spend" (defArgs (inClass (top 12) 5)) (defBody (inClass (top 12) 5)) (defScope (inClass (top 12) 5)) .none kV16 dc16 pm16 an16 cd16 ct16), sl16⟩)
    (c16 : PySem.W.codeIn K cd16 "Disk._spend" = true)
    (k16 : PySem.W.keepIn K (.ref f16) = true)
    (a17 : PySem.W.findIn K (.ref C3) "write" = some (some (.ref f17)))
    (i17 : PySem.W.isFn K (.ref f17) = true)
    (l17 : K.lookup f17 = some ⟨oc17, od17, .func (PySem.W.fnOf "write" "Disk.write" (defArgs (inClass (top 12) 6)) (defBody (inClass (top 12) 6)) (defScope (inClass (top 12) 6)) .none kV17 dc17 pm17 an17 cd17 ct17), sl17⟩)
    (c17 : PySem.W.codeIn K cd17 "Disk.write" = true)
    (k17 : PySem.W.keepIn K (.ref f17) = true)
    (a18 : PySem.W.findIn K (.ref C3) "flush" = some (some (.ref f18)))
    (i18 : PySem.W.isFn K (.ref f18) = true)
    (l18 : K.lookup f18 = some ⟨oc18, od18, .func (PySem.W.fnOf "flush" "Disk.flush" (defArgs (inClass (top 12) 7)) (defBody (inClass (top 12) 7)) (defScope (inClass (top 12) 7)) .none kV18 dc18 pm18 an18 cd18 ct18), sl18⟩)
    (c18 : PySem.W.codeIn K cd18 "Disk.flush" = true)
    (k18 : PySem.W.keepIn K (.ref f18) = true)
    (a19 : PySem.W.findIn K (.ref C3) "pending_count" = some (some (.ref f19)))
    (i19 : PySem.W.isFn K (.ref f19) = true)
    (l19 : K.lookup f19 = some ⟨oc19, od19, .func (PySem.W.fnOf "pending_count" "Disk.pending_count" (defArgs (inClass (top 12) 8)) (defBody (inClass (top 12) 8)) (defScope (inClass (top 12) 8)) .none kV19 dc19 pm19 an19 cd19 ct19), sl19⟩)
    (c19 : PySem.W.codeIn K cd19 "Disk.pending_count" = true)
    (k19 : PySem.W.keepIn K (.ref f19) = true)
    (a20 : PySem.W.findIn K (.ref C3) "cut_count" = some (some (.ref f20)))
    (i20 : PySem.W.isFn K (.ref f20) = true)
    (l20 : K.lookup f20 = some ⟨oc20, od20, .func (PySem.W.fnOf "cut_count" "Disk.cut_count" (defArgs (inClass (top 12) 9)) (defBody (inClass (top 12) 9)) (defScope (inClass (top 12) 9)) .none kV20 dc20 pm20 an20 cd20 ct20), sl20⟩)
    (c20 : PySem.W.codeIn K cd20 "Disk.cut_count" = true)
    (k20 : PySem.W.keepIn K (.ref f20) = true)
    (a21 : PySem.W.findIn K (.ref C3) "cut_power" = some (some (.ref f21)))
    (i21 : PySem.W.isFn K (.ref f21) = true)
    (l21 : K.lookup f21 = some ⟨oc21, od21, .func (PySem.W.fnOf "cut_power" "Disk.cut_power" (defArgs (inClass (top 12) 10)) (defBody (inClass (top 12) 10)) (defScope (inClass (top 12) 10)) .none kV21 dc21 pm21 an21 cd21 ct21), sl21⟩)
    (c21 : PySem.W.codeIn K cd21 "Disk.cut_power" = true)
    (k21 : PySem.W.keepIn K (.ref f21) = true)
    (a22 : PySem.W.findIn K (.ref C3) "schedule_cut" = some (some (.ref f22)))
    (i22 : PySem.W.isFn K (.ref f22) = true)
    (l22 : K.lookup f22 = some ⟨oc22, od22, .func (PySem.W.fnOf "schedule_cut" "Disk.schedule_cut" (defArgs (inClass (top 12) 11)) (defBody (inClass (top 12) 11)) (defScope (inClass (top 12) 11)) .none kV22 dc22 pm22 an22 cd22 ct22), sl22⟩)
    (c22 : PySem.W.codeIn K cd22 "Disk.schedule_cut" = true)
    (k22 : PySem.W.keepIn K (.ref f22) = true)
    (m_BLOCK : PySem.W.nsIn K mainGlobals "BLOCK" = some (some (.int 32 tk_BLOCK)))
    (m_BLOCKS_LEAST : PySem.W.nsIn K mainGlobals "BLOCKS_LEAST" = some (some (.int 8 tk_BLOCKS_LEAST)))
    (m_BLOCKS_MOST : PySem.W.nsIn K mainGlobals "BLOCKS_MOST" = some (some (.int 400 tk_BLOCKS_MOST)))
    (m_COUNT_MOST : PySem.W.nsIn K mainGlobals "COUNT_MOST" = some (some (.int 100000 tk_COUNT_MOST)))
    (hg0 : PySem.W.nsIn K mainGlobals "ForetoldError" = some (some (.ref C0)))
    (xb0 : PySem.W.subIn K (.ref C0) (.type "BaseException") = some true)
    (xd0 : PySem.W.hasDictIn K C0 = true)
    (xt0 : PySem.W.typeIn K (.ref C0) = some (.type "type"))
    (hg1 : PySem.W.nsIn K mainGlobals "OutOfRange" = some (some (.ref C1)))
    (xb1 : PySem.W.subIn K (.ref C1) (.type "BaseException") = some true)
    (xd1 : PySem.W.hasDictIn K C1 = true)
    (xt1 : PySem.W.typeIn K (.ref C1) = some (.type "type"))
    (hg2 : PySem.W.nsIn K mainGlobals "PowerCut" = some (some (.ref C2)))
    (xb2 : PySem.W.subIn K (.ref C2) (.type "BaseException") = some true)
    (xd2 : PySem.W.hasDictIn K C2 = true)
    (xt2 : PySem.W.typeIn K (.ref C2) = some (.type "type"))
    (xg1 : PySem.W.findIn K (.ref C1) "__getattribute__" = some (some (.builtin "BaseException.__getattribute__")))
    (xk1 : PySem.W.findIn K (.ref C1) "__getattr__" = some none)
    (xa1 : PySem.W.findIn K (.ref C1) "__class__" = some (some (.builtin "object.__class__")))
    (xm1 : PySem.W.mroIn K C1 (.type "object") = some true)
    (xs1 : PySem.W.subIn K (.ref C1) (.ref C1) = some true)
    (xf1_name : PySem.W.findIn K (.ref C1) "name" = some none)
    (xg2 : PySem.W.findIn K (.ref C2) "__getattribute__" = some (some (.builtin "BaseException.__getattribute__")))
    (xk2 : PySem.W.findIn K (.ref C2) "__getattr__" = some none)
    (xa2 : PySem.W.findIn K (.ref C2) "__class__" = some (some (.builtin "object.__class__")))
    (xm2 : PySem.W.mroIn K C2 (.type "object") = some true)
    (xs2 : PySem.W.subIn K (.ref C2) (.ref C2) = some true)
    (xf2_name : PySem.W.findIn K (.ref C2) "name" = some none)
    (xn : PySem.W.specialIn K (.builtin "object.__class__") "__get__" = some (some (.builtin "getset_descriptor.__get__")))
    (xh : PySem.W.takesIn K (.builtin "object.__class__") = some true)
    (sb1_0 : PySem.W.subIn K (.ref C1) (.ref C0) = some true)
    (sb1_1 : PySem.W.subIn K (.ref C1) (.ref C1) = some true)
    (sb1_2 : PySem.W.subIn K (.ref C1) (.ref C2) = some false)
    (sb2_0 : PySem.W.subIn K (.ref C2) (.ref C0) = some true)
    (sb2_1 : PySem.W.subIn K (.ref C2) (.ref C1) = some false)
    (sb2_2 : PySem.W.subIn K (.ref C2) (.ref C2) = some true)
    (xP2 : PySem.W.excIn K C2 [.type "ValueError", .type "Exception", .type "BaseException", .type "object"] "ValueError.__new__" = true)
    (xkz2 : PySem.W.keepIn K (.ref C2) = true)
    (xL1 : K.lookup C1 = some (excClassObj nm1 qq1 C1 NN1 bs1 bm1 true sn1 su1 ab1 co1 xdd1 q01 q11 q21 q31 q51 "ValueError.__new__"))
    (xv1 : PySem.HandSPX.refsVE bm1 = true)
    (xw1 : PySem.W.findIn K (.ref C1) "__setattr__" = some (some (.builtin "object.__setattr__")))
    (xkp1 : PySem.W.keepIn K (.ref C1) = true)
    (xi1 : PySem.W.findIn K (.ref C1) "__init__" = some (some (.ref fI1)))
    (xy1 : PySem.W.typeIn K (.ref fI1) = some (.type "function"))
    (xl1 : K.lookup fI1 = some ⟨ioc1, iod1, .func (PySem.W.fnOf "__init__" "OutOfRange.__init__" (defArgs (inClass (top 3) 0)) (defBody (inClass (top 3) 0)) (defScope (inClass (top 3) 0)) .none ikV1 idc1 ipm1 ian1 icd1 ict1), isl1⟩)
    (xc1 : PySem.W.codeIn K icd1 "OutOfRange.__init__" = true)
    (xq1 : PySem.W.keepIn K (.ref fI1) = true)
    (z_enumerate : PySem.W.nsIn K mainGlobals "enumerate" = some none)
    (z_int : PySem.W.nsIn K mainGlobals "int" = some none)
    (z_isinstance : PySem.W.nsIn K mainGlobals "isinstance" = some none)
    (z_len : PySem.W.nsIn K mainGlobals "len" = some none)
    (z_list : PySem.W.nsIn K mainGlobals "list" = some none)
    (z_min : PySem.W.nsIn K mainGlobals "min" = some none)
    (z_range : PySem.W.nsIn K mainGlobals "range" = some none)
    : ∃ (fd : FuncData) (cls : Nat → Option Addr) (clv : Nat → Value), (∀ (s : Shared) (u : Value), BindsTo s fd ⟨[u], []⟩ [("_law_script", u)]) ∧ DefAt K d10 fa fd ∧ ∀ base : Heap, K.In base → base.Ns mainGlobals mg → Stat tb T0 defs P w K mg base cls clv := by
  have e : f10 = fa := by
    have e := (PySem.W.mg_of X G a10).symm.trans hfa
    cases e
    rfl
  subst e
  have Z3 : Cls K C3 := ⟨cp3, cd3_, co3_, cs3⟩
  have F0 : L2.Fun K d0.name d0.qual d0.st f0 _ := fun_mk (st := top 0) l0 c0 k0
  have e0 : ∀ nd, tb.nd 0 nd = true → FnE K mg T0 defs "_wall" 0 nd := fun nd h => fnE0 (d := d0) rfl (PySem.W.mg_of X G a0) k0 F0 (F0.binds fun _ _ _ _ _ _ us hl => match us, hl with | [_], _ => rfl) rfl nd h
  have F1 : L2.Fun K d1.name d1.qual d1.st f1 _ := fun_mk (st := top 10) l1 c1 k1
  have e1 : ∀ nd, tb.nd 1 nd = true → FnE K mg T0 defs "_is_block" 1 nd := fun nd h => fnE0 (d := d1) rfl (PySem.W.mg_of X G a1) k1 F1 (F1.binds fun _ _ _ _ _ _ us hl => match us, hl with | [_], _ => rfl) rfl nd h
  have F2 : L2.Fun K d2.name d2.qual d2.st f2 _ := fun_mk (st := top 11) l2 c2 k2
  have e2 : ∀ nd, tb.nd 2 nd = true → FnE K mg T0 defs "_check_torn" 2 nd := fun nd h => fnE0 (d := d2) rfl (PySem.W.mg_of X G a2) k2 F2 (F2.binds fun _ _ _ _ _ _ us hl => match us, hl with | [_], _ => rfl) rfl nd h
  have F3 : L2.Fun K d3.name d3.qual d3.st f3 _ := fun_mk (st := top 14) l3 c3 k3
  have e3 : ∀ nd, tb.nd 3 nd = true → FnE K mg T0 defs "_law_cell" 3 nd := fun nd h => fnE0 (d := d3) rfl (PySem.W.mg_of X G a3) k3 F3 (F3.binds fun _ _ _ _ _ _ us hl => match us, hl with | [_, _], _ => rfl) rfl nd h
  have F4 : L2.Fun K d4.name d4.qual d4.st f4 _ := fun_mk (st := top 15) l4 c4 k4
  have e4 : ∀ nd, tb.nd 4 nd = true → FnE K mg T0 defs "_law_digits" 4 nd := fun nd h => fnE0 (d := d4) rfl (PySem.W.mg_of X G a4) k4 F4 (F4.binds fun _ _ _ _ _ _ us hl => match us, hl with | [_, _, _], _ => rfl) rfl nd h
  have F5 : L2.Fun K d5.name d5.qual d5.st f5 _ := fun_mk (st := top 16) l5 c5 k5
  have e5 : ∀ nd, tb.nd 5 nd = true → FnE K mg T0 defs "_law_draw" 5 nd := fun nd h => fnE0 (d := d5) rfl (PySem.W.mg_of X G a5) k5 F5 (F5.binds fun _ _ _ _ _ _ us hl => match us, hl with | [_, _], _ => rfl) rfl nd h
  have F6 : L2.Fun K d6.name d6.qual d6.st f6 _ := fun_mk (st := top 17) l6 c6 k6
  have e6 : ∀ nd, tb.nd 6 nd = true → FnE K mg T0 defs "_law_torn" 6 nd := fun nd h => fnE0 (d := d6) rfl (PySem.W.mg_of X G a6) k6 F6 (F6.binds fun _ _ _ _ _ _ us hl => match us, hl with | [_, _], _ => rfl) rfl nd h
  have F7 : L2.Fun K d7.name d7.qual d7.st f7 _ := fun_mk (st := top 18) l7 c7 k7
  have e7 : ∀ nd, tb.nd 7 nd = true → FnE K mg T0 defs "_law_schedule" 7 nd := fun nd h => fnE0 (d := d7) rfl (PySem.W.mg_of X G a7) k7 F7 (F7.binds fun _ _ _ _ _ _ us hl => match us, hl with | [_, _, _], _ => rfl) rfl nd h
  have F8 : L2.Fun K d8.name d8.qual d8.st f8 _ := fun_mk (st := top 19) l8 c8 k8
  have e8 : ∀ nd, tb.nd 8 nd = true → FnE K mg T0 defs "_law_do_raw" 8 nd := fun nd h => fnE0 (d := d8) rfl (PySem.W.mg_of X G a8) k8 F8 (F8.binds fun _ _ _ _ _ _ us hl => match us, hl with | [_, _, _], _ => rfl) rfl nd h
  have F9 : L2.Fun K d9.name d9.qual d9.st f9 _ := fun_mk (st := top 20) l9 c9 k9
  have e9 : ∀ nd, tb.nd 9 nd = true → FnE K mg T0 defs "_law_do" 9 nd := fun nd h => fnE0 (d := d9) rfl (PySem.W.mg_of X G a9) k9 F9 (F9.binds fun _ _ _ _ _ _ us hl => match us, hl with | [_, _, _], _ => rfl) rfl nd h
  have F10 : L2.Fun K d10.name d10.qual d10.st f10 _ := fun_mk (st := top 21) l10 c10 k10
  have e10 : ∀ nd, tb.nd 10 nd = true → FnE K mg T0 defs "law" 10 nd := fun nd h => fnE0 (d := d10) rfl (PySem.W.mg_of X G a10) k10 F10 (F10.binds fun _ _ _ _ _ _ us hl => match us, hl with | [_], _ => rfl) rfl nd h
  have F11 : L2.Fun K d11.name d11.qual d11.st f11 _ := fun_mk (st := inClass (top 12) 0) l11 c11 k11
  have e11 : ∀ nd, tb.cn 3 nd = true → ClE K mg T0 defs (fun n => ([(0, C0), (1, C1), (2, C2), (3, C3)] : List (Nat × Addr)).lookup n) "Disk" 3 nd := fun nd h => by
    have hn : nd ≤ 0 := of_decide_eq_true h
    have hz : nd = 0 := by omega
    subst hz
    exact ⟨11, d11, C3, f11, _, [], [], rfl, rfl, rfl, ⟨mk3, a11, i11, ck3⟩, defAt_of F11, PySem.W.mg_of X G cg3, F11.binds fun _ _ _ _ _ _ us hl => match us, hl with | [_, _], _ => rfl, .nil, fun P m H => rfl⟩
  have F12 : L2.Fun K d12.name d12.qual d12.st f12 _ := fun_mk (st := inClass (top 12) 1) l12 c12 k12
  have e12 : Cls K C3 ∧ ∃ d a fd, defs[12]? = some d ∧ Meth K C3 "size" a ∧ DefAt K d a fd ∧ Binds K fd d.ps [] := ⟨Z3, d12, f12, _, rfl, ⟨a12, i12, k12⟩, defAt_of F12, F12.binds fun _ _ _ _ _ _ us hl => match us, hl with | [_], _ => rfl⟩
  have F13 : L2.Fun K d13.name d13.qual d13.st f13 _ := fun_mk (st := inClass (top 12) 2) l13 c13 k13
  have e13 : Cls K C3 ∧ ∃ d a fd, defs[13]? = some d ∧ Meth K C3 "_check_at" a ∧ DefAt K d a fd ∧ Binds K fd d.ps [] := ⟨Z3, d13, f13, _, rfl, ⟨a13, i13, k13⟩, defAt_of F13, F13.binds fun _ _ _ _ _ _ us hl => match us, hl with | [_, _], _ => rfl⟩
  have F14 : L2.Fun K d14.name d14.qual d14.st f14 _ := fun_mk (st := inClass (top 12) 3) l14 c14 k14
  have e14 : Cls K C3 ∧ ∃ d a fd, defs[14]? = some d ∧ Meth K C3 "read" a ∧ DefAt K d a fd ∧ Binds K fd d.ps [] := ⟨Z3, d14, f14, _, rfl, ⟨a14, i14, k14⟩, defAt_of F14, F14.binds fun _ _ _ _ _ _ us hl => match us, hl with | [_, _], _ => rfl⟩
  have F15 : L2.Fun K d15.name d15.qual d15.st f15 _ := fun_mk (st := inClass (top 12) 4) l15 c15 k15
  have e15 : Cls K C3 ∧ ∃ d a fd, defs[15]? = some d ∧ Meth K C3 "_cut" a ∧ DefAt K d a fd ∧ Binds K fd d.ps [] := ⟨Z3, d15, f15, _, rfl, ⟨a15, i15, k15⟩, defAt_of F15, F15.binds fun _ _ _ _ _ _ us hl => match us, hl with | [_, _], _ => rfl⟩
  have F16 : L2.Fun K d16.name d16.qual d16.st f16 _ := fun_mk (st := inClass (top 12) 5) l16 c16 k16
  have e16 : Cls K C3 ∧ ∃ d a fd, defs[16]? = some d ∧ Meth K C3 "_spend" a ∧ DefAt K d a fd ∧ Binds K fd d.ps [] := ⟨Z3, d16, f16, _, rfl, ⟨a16, i16, k16⟩, defAt_of F16, F16.binds fun _ _ _ _ _ _ us hl => match us, hl with | [_], _ => rfl⟩
  have F17 : L2.Fun K d17.name d17.qual d17.st f17 _ := fun_mk (st := inClass (top 12) 6) l17 c17 k17
  have e17 : Cls K C3 ∧ ∃ d a fd, defs[17]? = some d ∧ Meth K C3 "write" a ∧ DefAt K d a fd ∧ Binds K fd d.ps [] := ⟨Z3, d17, f17, _, rfl, ⟨a17, i17, k17⟩, defAt_of F17, F17.binds fun _ _ _ _ _ _ us hl => match us, hl with | [_, _, _], _ => rfl⟩
  have F18 : L2.Fun K d18.name d18.qual d18.st f18 _ := fun_mk (st := inClass (top 12) 7) l18 c18 k18
  have e18 : Cls K C3 ∧ ∃ d a fd, defs[18]? = some d ∧ Meth K C3 "flush" a ∧ DefAt K d a fd ∧ Binds K fd d.ps [] := ⟨Z3, d18, f18, _, rfl, ⟨a18, i18, k18⟩, defAt_of F18, F18.binds fun _ _ _ _ _ _ us hl => match us, hl with | [_], _ => rfl⟩
  have F19 : L2.Fun K d19.name d19.qual d19.st f19 _ := fun_mk (st := inClass (top 12) 8) l19 c19 k19
  have e19 : Cls K C3 ∧ ∃ d a fd, defs[19]? = some d ∧ Meth K C3 "pending_count" a ∧ DefAt K d a fd ∧ Binds K fd d.ps [] := ⟨Z3, d19, f19, _, rfl, ⟨a19, i19, k19⟩, defAt_of F19, F19.binds fun _ _ _ _ _ _ us hl => match us, hl with | [_], _ => rfl⟩
  have F20 : L2.Fun K d20.name d20.qual d20.st f20 _ := fun_mk (st := inClass (top 12) 9) l20 c20 k20
  have e20 : Cls K C3 ∧ ∃ d a fd, defs[20]? = some d ∧ Meth K C3 "cut_count" a ∧ DefAt K d a fd ∧ Binds K fd d.ps [] := ⟨Z3, d20, f20, _, rfl, ⟨a20, i20, k20⟩, defAt_of F20, F20.binds fun _ _ _ _ _ _ us hl => match us, hl with | [_], _ => rfl⟩
  have F21 : L2.Fun K d21.name d21.qual d21.st f21 _ := fun_mk (st := inClass (top 12) 10) l21 c21 k21
  have e21 : Cls K C3 ∧ ∃ d a fd, defs[21]? = some d ∧ Meth K C3 "cut_power" a ∧ DefAt K d a fd ∧ Binds K fd d.ps [] := ⟨Z3, d21, f21, _, rfl, ⟨a21, i21, k21⟩, defAt_of F21, F21.binds fun _ _ _ _ _ _ us hl => match us, hl with | [_, _], _ => rfl⟩
  have F22 : L2.Fun K d22.name d22.qual d22.st f22 _ := fun_mk (st := inClass (top 12) 11) l22 c22 k22
  have e22 : Cls K C3 ∧ ∃ d a fd, defs[22]? = some d ∧ Meth K C3 "schedule_cut" a ∧ DefAt K d a fd ∧ Binds K fd d.ps [] := ⟨Z3, d22, f22, _, rfl, ⟨a22, i22, k22⟩, defAt_of F22, F22.binds fun _ _ _ _ _ _ us hl => match us, hl with | [_, _, _], _ => rfl⟩
  have I1 : L2.Fun K "__init__" "OutOfRange.__init__" (inClass (top 3) 0) fI1 _ := fun_mk (st := inClass (top 3) 0) xl1 xc1 xq1
  refine ⟨_, fun n => ([(0, C0), (1, C1), (2, C2), (3, C3)] : List (Nat × Addr)).lookup n, fun n => match ([(0, C0), (1, C1), (2, C2), (3, C3)] : List (Nat × Addr)).lookup n with | some C => .ref C | none => .none, fun s u => .of_eq rfl, defAt_of F10, fun base _ _ => ?_⟩
  have E1 : ExcC K C1 := ⟨xg1, xk1, xb1, xd1, xa1, xn, xh, xm1⟩
  have E2 : ExcC K C2 := ⟨xg2, xk2, xb2, xd2, xa2, xn, xh, xm2⟩
  have O1 : OexC K C1 := ⟨⟨_, _, _, _, _, _, _, _, _, _, _, _, _, _, _, xL1, xv1⟩, xw1, xb1, xt1, xkp1⟩
  refine { fn := fun x n nd h1 h2 => ((fa_cons e0 (fa_cons e1 (fa_cons e2 (fa_cons e3 (fa_cons e4 (fa_cons e5 (fa_cons e6 (fa_cons e7 (fa_cons e8 (fa_cons e9 (fa_cons e10 fa_nil))))))))))) : ∀ p ∈ fnL, ∀ nd, tb.nd p.2 nd = true → FnE K mg T0 defs p.1 p.2 nd) (x, n) (lookup_mem h1) nd h2
           cl := fun x c nd h1 h2 => ((fa_cons e11 fa_nil) : ∀ p ∈ clL, ∀ nd, tb.cn p.2 nd = true → ClE K mg T0 defs (fun n => ([(0, C0), (1, C1), (2, C2), (3, C3)] : List (Nat × Addr)).lookup n) p.1 p.2 nd) (x, c) (lookup_mem h1) nd h2
           con := fun x d h1 => ((fa_cons ⟨.int 32, _, PySem.W.mg_of X G m_BLOCK, ⟨_, rfl⟩, fun _ _ _ => rfl⟩ (fa_cons ⟨.int 8, _, PySem.W.mg_of X G m_BLOCKS_LEAST, ⟨_, rfl⟩, fun _ _ _ => rfl⟩ (fa_cons ⟨.int 400, _, PySem.W.mg_of X G m_BLOCKS_MOST, ⟨_, rfl⟩, fun _ _ _ => rfl⟩ (fa_cons ⟨.int 100000, _, PySem.W.mg_of X G m_COUNT_MOST, ⟨_, rfl⟩, fun _ _ _ => rfl⟩ fa_nil)))) : ∀ p ∈ conL, ∃ v u, mg p.1 = some u ∧ RelV v u ∧ ∀ P m H, Rel K P m H p.2 v) (x, d) (lookup_mem h1)
           free := fun x h1 => ((fa_cons (PySem.W.mg_none_of X G z_enumerate) (fa_cons (PySem.W.mg_none_of X G z_int) (fa_cons (PySem.W.mg_none_of X G z_isinstance) (fa_cons (PySem.W.mg_none_of X G z_len) (fa_cons (PySem.W.mg_none_of X G z_list) (fa_cons (PySem.W.mg_none_of X G z_min) (fa_cons (PySem.W.mg_none_of X G z_range) fa_nil))))))) : ∀ x ∈ freeL, mg x = none) x (of_decide_eq_true h1)
           fld := fun f _ c C hc ha => by
             obtain ⟨Cq, e1, e2⟩ := ((fa_cons ⟨C3, rfl, Z3, na3__blocks⟩ (fa_cons ⟨C3, rfl, Z3, na3__pending⟩ (fa_cons ⟨C3, rfl, Z3, na3__cuts⟩ (fa_cons ⟨C3, rfl, Z3, na3__left⟩ (fa_cons ⟨C3, rfl, Z3, na3__torn⟩ fa_nil))))) : ∀ p ∈ attrL, ∃ C, ([(0, C0), (1, C1), (2, C2), (3, C3)] : List (Nat × Addr)).lookup p.1 = some C ∧ Cls K C ∧ NoAttr K C p.2) (c, f) (of_decide_eq_true ha)
             have hc2 : ([(0, C0), (1, C1), (2, C2), (3, C3)] : List (Nat × Addr)).lookup c = some C := hc
             rw [hc2] at e1
             cases e1
             exact e2
           xfl := fun f h1 => xflE (K := K) (cls := fun n => ([(0, C0), (1, C1), (2, C2), (3, C3)] : List (Nat × Addr)).lookup n) (T := T0) (l := xfL) (fl := xflL) rfl ((fa_cons ⟨_, rfl, ⟨xg1, xk1, xb1, xd1⟩, (fa_cons xf1_name fa_nil)⟩ fa_nil)) f (of_decide_eq_true h1)
           mt := fun m _ c C n hc hn => by
             obtain ⟨Cq, e1, e2⟩ := ((fa_cons ⟨C3, rfl, e12⟩ (fa_cons ⟨C3, rfl, e13⟩ (fa_cons ⟨C3, rfl, e14⟩ (fa_cons ⟨C3, rfl, e15⟩ (fa_cons ⟨C3, rfl, e16⟩ (fa_cons ⟨C3, rfl, e17⟩ (fa_cons ⟨C3, rfl, e18⟩ (fa_cons ⟨C3, rfl, e19⟩ (fa_cons ⟨C3, rfl, e20⟩ (fa_cons ⟨C3, rfl, e21⟩ (fa_cons ⟨C3, rfl, e22⟩ fa_nil))))))))))) : ∀ p ∈ methL, ∃ C, ([(0, C0), (1, C1), (2, C2), (3, C3)] : List (Nat × Addr)).lookup p.1.1 = some C ∧ (Cls K C ∧ ∃ d a fd, defs[p.2]? = some d ∧ Meth K C p.1.2 a ∧ DefAt K d a fd ∧ Binds K fd d.ps [])) ((c, m), n) (lookup_mem (show methL.lookup (c, m) = some n from hn))
             have hc2 : ([(0, C0), (1, C1), (2, C2), (3, C3)] : List (Nat × Addr)).lookup c = some C := hc
             rw [hc2] at e1
             cases e1
             exact e2
           ex := fun x c h1 => ?ex
           sub := subE (K := K) (cls := fun n => ([(0, C0), (1, C1), (2, C2), (3, C3)] : List (Nat × Addr)).lookup n) (clv := fun n => match ([(0, C0), (1, C1), (2, C2), (3, C3)] : List (Nat × Addr)).lookup n with | some C => .ref C | none => .none) (T := T0) (l := subL) rfl ((fa_cons ⟨_, _, rfl, rfl, sub_of E1 xb0 xd0 xt0 sb1_0 xs1⟩ (fa_cons ⟨_, _, rfl, rfl, sub_of E1 xb1 xd1 xt1 sb1_1 xs1⟩ (fa_cons ⟨_, _, rfl, rfl, sub_of E1 xb2 xd2 xt2 sb1_2 xs1⟩ (fa_cons ⟨_, _, rfl, rfl, sub_of E2 xb0 xd0 xt0 sb2_0 xs2⟩ (fa_cons ⟨_, _, rfl, rfl, sub_of E2 xb1 xd1 xt1 sb2_1 xs2⟩ (fa_cons ⟨_, _, rfl, rfl, sub_of E2 xb2 xd2 xt2 sb2_2 xs2⟩ fa_nil)))))))
           b2 := fun k hk => ⟨fun x c h1 => ?rz, fun x c h1 => ?rx⟩ }
  case ex =>
    obtain ⟨C, q1, q2⟩ := ((fa_cons ⟨C0, PySem.W.mg_of X G hg0, rfl⟩ (fa_cons ⟨C1, PySem.W.mg_of X G hg1, rfl⟩ (fa_cons ⟨C2, PySem.W.mg_of X G hg2, rfl⟩ fa_nil))) : ∀ p ∈ exL, ∃ C, mg p.1 = some (.ref C) ∧ (match ([(0, C0), (1, C1), (2, C2), (3, C3)] : List (Nat × Addr)).lookup p.2 with | some C => Value.ref C | none => .none) = .ref C) (x, c) (lookup_mem h1)
    have q2' : (match ([(0, C0), (1, C1), (2, C2), (3, C3)] : List (Nat × Addr)).lookup c with | some C => Value.ref C | none => .none) = .ref C := q2
    rw [q2']
    exact ⟨.ref C, rfl, fun u r => r, .inl q1⟩
  case rz => exact ((fa_cons ⟨C2, _, _, _, _, rfl, PySem.F.excBase_ValueError, xP2, PySem.W.mg_of X G hg2, xkz2, xb2, xt2⟩ fa_nil) : ∀ p ∈ rzL, ∃ (C : Addr) (bmB : List Value) (BB newId initId : String), ([(0, C0), (1, C1), (2, C2), (3, C3)] : List (Nat × Addr)).lookup p.2 = some C ∧ ExcBaseFacts BB newId initId bmB ∧ PySem.W.excIn K C bmB newId = true ∧ mg p.1 = some (.ref C) ∧ PySem.W.keepIn K (.ref C) = true ∧ PySem.W.subIn K (.ref C) (.type "BaseException") = some true ∧ PySem.W.typeIn K (.ref C) = some (.type "type")) (x, c) (lookup_mem h1)
  case rx =>
    exact ((fa_cons ⟨C1, fI1, ["name"], _, ["self", "name"], rfl, rfl, by decide +kernel, by decide, O1, xi1, xy1, (ini_ok (N := ["self", "name"]) I1 ⟨rfl, rfl, rfl, by decide +kernel, rfl, by decide +kernel, by decide +kernel⟩ rfl (by simp) (by decide) (by decide +kernel) O1 (fa_cons xf1_name fa_nil) 0).mono hk, I1.binds fun _ _ _ _ _ _ us hl => match us, hl with | [_, _], _ => rfl, PySem.W.mg_of X G hg1⟩ fa_nil) : ∀ p ∈ rxL, ∃ (C fI : Addr) (fs : List Str) (fd : FuncData) (ps : List Str), ([(0, C0), (1, C1), (2, C2), (3, C3)] : List (Nat × Addr)).lookup p.2 = some C ∧ T0.xfld p.2 = some fs ∧ fs.Nodup ∧ fs.length ≤ 900 ∧ OexC K C ∧ PySem.W.findIn K (.ref C) "__init__" = some (some (.ref fI)) ∧ PySem.W.typeIn K (.ref fI) = some (.type "function") ∧ FnOk P w K mg base (L2.CX P w) k fI fd ps (spX C fs) ∧ Binds K fd ps [] ∧ mg p.1 = some (.ref C)) (x, c) (lookup_mem h1)
end K42

set_option Elab.async false
set_option maxRecDepth 100000
set_option maxHeartbeats 4000000
namespace K42
open PySem PySem.Spec PyProof.Rows L2 Fx
theorem f0 {n : Nat} {x0 : Fx.D} {s : Sto} {Q : Fx.D → Sto → Prop} {E : Ex → Sto → Prop} : Wp ((gen T0 defs (n + 1)).call 0 [x0] s) Q E = WpS (SS.ev (gen T0 defs n) (.cons (.whl (.tru (.x (.lit (.bl true)))) (.cons .pass
      .nil))
      .nil) [.val x0] s) (endN Q) (fun e _ s1 => E e s1) := w_def (d := d0) rfl rfl rfl
theorem z0 : T0.dv 0 0 = [] := rfl
def c0_1 : SS := .cons .pass .nil
theorem v0_1 {n : Nat} {env : En} {s : Sto} {NN : Fl → Sto → Prop} {EE : Ex → En → Sto → Prop} : Run (gen T0 defs n) c0_1 env s NN EE = WpS (S.ev (gen T0 defs n) .pass env s) (nxt (fun e s1 => NN (.nx e) s1) NN) EE := by rw [c0_1, run_cons]; simp only [run_nil]
theorem r0_1 {n : Nat} {env : En} {s : Sto} {NN : Fl → Sto → Prop} {EE : Ex → En → Sto → Prop} : WpS (SS.ev (gen T0 defs n) c0_1 env s) NN EE = Run (gen T0 defs n) c0_1 env s NN EE := run_eq
def c0_0 : SS := .cons (.whl (.tru (.x (.lit (.bl true)))) c0_1) .nil
theorem v0_0 {n : Nat} {env : En} {s : Sto} {NN : Fl → Sto → Prop} {EE : Ex → En → Sto → Prop} : Run (gen T0 defs n) c0_0 env s NN EE = WpS (S.ev (gen T0 defs n) (.whl (.tru (.x (.lit (.bl true)))) c0_1) env s) (nxt (fun e s1 => NN (.nx e) s1) NN) EE := by rw [c0_0, run_cons]; simp only [run_nil]
theorem r0_0 {n : Nat} {env : En} {s : Sto} {NN : Fl → Sto → Prop} {EE : Ex → En → Sto → Prop} : WpS (SS.ev (gen T0 defs n) c0_0 env s) NN EE = Run (gen T0 defs n) c0_0 env s NN EE := run_eq
theorem h0 {n : Nat} {x0 : Fx.D} {s : Sto} {Q : Fx.D → Sto → Prop} {E : Ex → Sto → Prop} : Wp ((gen T0 defs (n + 1)).call 0 [x0] s) Q E = Run (gen T0 defs n) c0_0 [.val x0] s (endN Q) (fun e _ s1 => E e s1) := (w_def (d := d0) rfl rfl rfl).trans run_eq
theorem f1 {n : Nat} {x0 : Fx.D} {s : Sto} {Q : Fx.D → Sto → Prop} {E : Ex → Sto → Prop} : Wp ((gen T0 defs (n + 1)).call 1 [x0] s) Q E = WpS (SS.ev (gen T0 defs n) (.cons (.ite (.x (.cmp .NotEq (.x (.b1 .len (.x (.var 0)))) (.x (.con "BLOCK")))) (.cons (.ret (.lit (.bl false)))
      .nil) .nil)
      (.cons (.for (.name 1) (.seq (.x (.var 0))) (.cons (.ite (.not (.x (.chain .LtE .LtE (.lit (.int 0)) (.var 1) (.lit (.int 255))))) (.cons (.ret (.lit (.bl false)))
      .nil) .nil)
      .nil))
      (.cons (.ret (.lit (.bl true)))
      .nil))) [.val x0, .no] s) (endN Q) (fun e _ s1 => E e s1) := w_def (d := d1) rfl rfl rfl
theorem z1 : T0.dv 1 0 = [] := rfl
def c1_1 : SS := .cons (.ret (.lit (.bl false))) .nil
theorem v1_1 {n : Nat} {env : En} {s : Sto} {NN : Fl → Sto → Prop} {EE : Ex → En → Sto → Prop} : Run (gen T0 defs n) c1_1 env s NN EE = WpS (S.ev (gen T0 defs n) (.ret (.lit (.bl false))) env s) (nxt (fun e s1 => NN (.nx e) s1) NN) EE := by rw [c1_1, run_cons]; simp only [run_nil]
theorem r1_1 {n : Nat} {env : En} {s : Sto} {NN : Fl → Sto → Prop} {EE : Ex → En → Sto → Prop} : WpS (SS.ev (gen T0 defs n) c1_1 env s) NN EE = Run (gen T0 defs n) c1_1 env s NN EE := run_eq
def c1_4 : SS := .cons (.ret (.lit (.bl false))) .nil
theorem v1_4 {n : Nat} {env : En} {s : Sto} {NN : Fl → Sto → Prop} {EE : Ex → En → Sto → Prop} : Run (gen T0 defs n) c1_4 env s NN EE = WpS (S.ev (gen T0 defs n) (.ret (.lit (.bl false))) env s) (nxt (fun e s1 => NN (.nx e) s1) NN) EE := by rw [c1_4, run_cons]; simp only [run_nil]
theorem r1_4 {n : Nat} {env : En} {s : Sto} {NN : Fl → Sto → Prop} {EE : Ex → En → Sto → Prop} : WpS (SS.ev (gen T0 defs n) c1_4 env s) NN EE = Run (gen T0 defs n) c1_4 env s NN EE := run_eq
def c1_3 : SS := .cons (.ite (.not (.x (.chain .LtE .LtE (.lit (.int 0)) (.var 1) (.lit (.int 255))))) c1_4 .nil) .nil
theorem v1_3 {n : Nat} {env : En} {s : Sto} {NN : Fl → Sto → Prop} {EE : Ex → En → Sto → Prop} : Run (gen T0 defs n) c1_3 env s NN EE = WpS (S.ev (gen T0 defs n) (.ite (.not (.x (.chain .LtE .LtE (.lit (.int 0)) (.var 1) (.lit (.int 255))))) c1_4 .nil) env s) (nxt (fun e s1 => NN (.nx e) s1) NN) EE := by rw [c1_3, run_cons]; simp only [run_nil]
theorem r1_3 {n : Nat} {env : En} {s : Sto} {NN : Fl → Sto → Prop} {EE : Ex → En → Sto → Prop} : WpS (SS.ev (gen T0 defs n) c1_3 env s) NN EE = Run (gen T0 defs n) c1_3 env s NN EE := run_eq
def c1_5 : SS := .cons (.ret (.lit (.bl true))) .nil
theorem v1_5 {n : Nat} {env : En} {s : Sto} {NN : Fl → Sto → Prop} {EE : Ex → En → Sto → Prop} : Run (gen T0 defs n) c1_5 env s NN EE = WpS (S.ev (gen T0 defs n) (.ret (.lit (.bl true))) env s) (nxt (fun e s1 => NN (.nx e) s1) NN) EE := by rw [c1_5, run_cons]; simp only [run_nil]
theorem r1_5 {n : Nat} {env : En} {s : Sto} {NN : Fl → Sto → Prop} {EE : Ex → En → Sto → Prop} : WpS (SS.ev (gen T0 defs n) c1_5 env s) NN EE = Run (gen T0 defs n) c1_5 env s NN EE := run_eq
def c1_2 : SS := .cons (.for (.name 1) (.seq (.x (.var 0))) c1_3) c1_5
theorem v1_2 {n : Nat} {env : En} {s : Sto} {NN : Fl → Sto → Prop} {EE : Ex → En → Sto → Prop} : Run (gen T0 defs n) c1_2 env s NN EE = WpS (S.ev (gen T0 defs n) (.for (.name 1) (.seq (.x (.var 0))) c1_3) env s) (nxt (fun e s1 => Run (gen T0 defs n) c1_5 e s1 NN EE) NN) EE := run_cons
theorem r1_2 {n : Nat} {env : En} {s : Sto} {NN : Fl → Sto → Prop} {EE : Ex → En → Sto → Prop} : WpS (SS.ev (gen T0 defs n) c1_2 env s) NN EE = Run (gen T0 defs n) c1_2 env s NN EE := run_eq
def c1_0 : SS := .cons (.ite (.x (.cmp .NotEq (.x (.b1 .len (.x (.var 0)))) (.x (.con "BLOCK")))) c1_1 .nil) c1_2
theorem v1_0 {n : Nat} {env : En} {s : Sto} {NN : Fl → Sto → Prop} {EE : Ex → En → Sto → Prop} : Run (gen T0 defs n) c1_0 env s NN EE = WpS (S.ev (gen T0 defs n) (.ite (.x (.cmp .NotEq (.x (.b1 .len (.x (.var 0)))) (.x (.con "BLOCK")))) c1_1 .nil) env s) (nxt (fun e s1 => Run (gen T0 defs n) c1_2 e s1 NN EE) NN) EE := run_cons
theorem r1_0 {n : Nat} {env : En} {s : Sto} {NN : Fl → Sto → Prop} {EE : Ex → En → Sto → Prop} : WpS (SS.ev (gen T0 defs n) c1_0 env s) NN EE = Run (gen T0 defs n) c1_0 env s NN EE := run_eq
theorem h1 {n : Nat} {x0 : Fx.D} {s : Sto} {Q : Fx.D → Sto → Prop} {E : Ex → Sto → Prop} : Wp ((gen T0 defs (n + 1)).call 1 [x0] s) Q E = Run (gen T0 defs n) c1_0 [.val x0, .no] s (endN Q) (fun e _ s1 => E e s1) := (w_def (d := d1) rfl rfl rfl).trans run_eq
theorem f2 {n : Nat} {x0 : Fx.D} {s : Sto} {Q : Fx.D → Sto → Prop} {E : Ex → Sto → Prop} : Wp ((gen T0 defs (n + 1)).call 2 [x0] s) Q E = WpS (SS.ev (gen T0 defs n) (.cons (.forO (.name 1) false (.var 0) (.cons (.ite (.not (.x (.chain .LtE .LtE (.lit (.int 0)) (.var 1) (.con "BLOCK")))) (.cons (.raise 1 (.cons (.lit (.str "torn")) .nil))
      .nil) .nil)
      .nil))
      .nil) [.val x0, .no] s) (endN Q) (fun e _ s1 => E e s1) := w_def (d := d2) rfl rfl rfl
theorem z2 : T0.dv 2 0 = [] := rfl
def c2_2 : SS := .cons (.raise 1 (.cons (.lit (.str "torn")) .nil)) .nil
theorem v2_2 {n : Nat} {env : En} {s : Sto} {NN : Fl → Sto → Prop} {EE : Ex → En → Sto → Prop} : Run (gen T0 defs n) c2_2 env s NN EE = WpS (S.ev (gen T0 defs n) (.raise 1 (.cons (.lit (.str "torn")) .nil)) env s) (nxt (fun e s1 => NN (.nx e) s1) NN) EE := by rw [c2_2, run_cons]; simp only [run_nil]
theorem r2_2 {n : Nat} {env : En} {s : Sto} {NN : Fl → Sto → Prop} {EE : Ex → En → Sto → Prop} : WpS (SS.ev (gen T0 defs n) c2_2 env s) NN EE = Run (gen T0 defs n) c2_2 env s NN EE := run_eq
def c2_1 : SS := .cons (.ite (.not (.x (.chain .LtE .LtE (.lit (.int 0)) (.var 1) (.con "BLOCK")))) c2_2 .nil) .nil
theorem v2_1 {n : Nat} {env : En} {s : Sto} {NN : Fl → Sto → Prop} {EE : Ex → En → Sto → Prop} : Run (gen T0 defs n) c2_1 env s NN EE = WpS (S.ev (gen T0 defs n) (.ite (.not (.x (.chain .LtE .LtE (.lit (.int 0)) (.var 1) (.con "BLOCK")))) c2_2 .nil) env s) (nxt (fun e s1 => NN (.nx e) s1) NN) EE := by rw [c2_1, run_cons]; simp only [run_nil]
theorem r2_1 {n : Nat} {env : En} {s : Sto} {NN : Fl → Sto → Prop} {EE : Ex → En → Sto → Prop} : WpS (SS.ev (gen T0 defs n) c2_1 env s) NN EE = Run (gen T0 defs n) c2_1 env s NN EE := run_eq
def c2_0 : SS := .cons (.forO (.name 1) false (.var 0) c2_1) .nil
theorem v2_0 {n : Nat} {env : En} {s : Sto} {NN : Fl → Sto → Prop} {EE : Ex → En → Sto → Prop} : Run (gen T0 defs n) c2_0 env s NN EE = WpS (S.ev (gen T0 defs n) (.forO (.name 1) false (.var 0) c2_1) env s) (nxt (fun e s1 => NN (.nx e) s1) NN) EE := by rw [c2_0, run_cons]; simp only [run_nil]
theorem r2_0 {n : Nat} {env : En} {s : Sto} {NN : Fl → Sto → Prop} {EE : Ex → En → Sto → Prop} : WpS (SS.ev (gen T0 defs n) c2_0 env s) NN EE = Run (gen T0 defs n) c2_0 env s NN EE := run_eq
theorem h2 {n : Nat} {x0 : Fx.D} {s : Sto} {Q : Fx.D → Sto → Prop} {E : Ex → Sto → Prop} : Wp ((gen T0 defs (n + 1)).call 2 [x0] s) Q E = Run (gen T0 defs n) c2_0 [.val x0, .no] s (endN Q) (fun e _ s1 => E e s1) := (w_def (d := d2) rfl rfl rfl).trans run_eq
theorem f3 {n : Nat} {x0 x1 : Fx.D} {s : Sto} {Q : Fx.D → Sto → Prop} {E : Ex → Sto → Prop} : Wp ((gen T0 defs (n + 1)).call 3 [x0, x1] s) Q E = WpS (SS.ev (gen T0 defs n) (.cons (.ite (.x (.cmp .Lt (.x (.var 1)) (.x (.b1 .len (.x (.var 0)))))) (.cons (.ret (.ix (.x (.var 0)) (.var 1)))
      .nil) .nil)
      (.cons (.ret (.lit (.int 0)))
      .nil)) [.val x0, .val x1] s) (endN Q) (fun e _ s1 => E e s1) := w_def (d := d3) rfl rfl rfl
theorem z3 : T0.dv 3 0 = [] := rfl
def c3_1 : SS := .cons (.ret (.ix (.x (.var 0)) (.var 1))) .nil
theorem v3_1 {n : Nat} {env : En} {s : Sto} {NN : Fl → Sto → Prop} {EE : Ex → En → Sto → Prop} : Run (gen T0 defs n) c3_1 env s NN EE = WpS (S.ev (gen T0 defs n) (.ret (.ix (.x (.var 0)) (.var 1))) env s) (nxt (fun e s1 => NN (.nx e) s1) NN) EE := by rw [c3_1, run_cons]; simp only [run_nil]
theorem r3_1 {n : Nat} {env : En} {s : Sto} {NN : Fl → Sto → Prop} {EE : Ex → En → Sto → Prop} : WpS (SS.ev (gen T0 defs n) c3_1 env s) NN EE = Run (gen T0 defs n) c3_1 env s NN EE := run_eq
def c3_2 : SS := .cons (.ret (.lit (.int 0))) .nil
theorem v3_2 {n : Nat} {env : En} {s : Sto} {NN : Fl → Sto → Prop} {EE : Ex → En → Sto → Prop} : Run (gen T0 defs n) c3_2 env s NN EE = WpS (S.ev (gen T0 defs n) (.ret (.lit (.int 0))) env s) (nxt (fun e s1 => NN (.nx e) s1) NN) EE := by rw [c3_2, run_cons]; simp only [run_nil]
theorem r3_2 {n : Nat} {env : En} {s : Sto} {NN : Fl → Sto → Prop} {EE : Ex → En → Sto → Prop} : WpS (SS.ev (gen T0 defs n) c3_2 env s) NN EE = Run (gen T0 defs n) c3_2 env s NN EE := run_eq
def c3_0 : SS := .cons (.ite (.x (.cmp .Lt (.x (.var 1)) (.x (.b1 .len (.x (.var 0)))))) c3_1 .nil) c3_2
theorem v3_0 {n : Nat} {env : En} {s : Sto} {NN : Fl → Sto → Prop} {EE : Ex → En → Sto → Prop} : Run (gen T0 defs n) c3_0 env s NN EE = WpS (S.ev (gen T0 defs n) (.ite (.x (.cmp .Lt (.x (.var 1)) (.x (.b1 .len (.x (.var 0)))))) c3_1 .nil) env s) (nxt (fun e s1 => Run (gen T0 defs n) c3_2 e s1 NN EE) NN) EE := run_cons
theorem r3_0 {n : Nat} {env : En} {s : Sto} {NN : Fl → Sto → Prop} {EE : Ex → En → Sto → Prop} : WpS (SS.ev (gen T0 defs n) c3_0 env s) NN EE = Run (gen T0 defs n) c3_0 env s NN EE := run_eq
theorem h3 {n : Nat} {x0 x1 : Fx.D} {s : Sto} {Q : Fx.D → Sto → Prop} {E : Ex → Sto → Prop} : Wp ((gen T0 defs (n + 1)).call 3 [x0, x1] s) Q E = Run (gen T0 defs n) c3_0 [.val x0, .val x1] s (endN Q) (fun e _ s1 => E e s1) := (w_def (d := d3) rfl rfl rfl).trans run_eq
theorem f4 {n : Nat} {x0 x1 x2 : Fx.D} {s : Sto} {Q : Fx.D → Sto → Prop} {E : Ex → Sto → Prop} : Wp ((gen T0 defs (n + 1)).call 4 [x0, x1, x2] s) Q E = WpS (SS.ev (gen T0 defs n) (.cons (.own 3 (.disp .nil))
      (.cons (.for (.name 4) (.rng2 (.var 1) (.var 2)) (.cons (.set (.name 5) (.call 3 (.cons (.var 0) (.cons (.var 4) .nil)) 0))
      (.cons (.ite (.x (.cmp .Lt (.x (.var 5)) (.x (.lit (.int 0))))) (.cons (.set (.name 5) (.bin .Sub (.lit (.int 1)) (.bin .Mult (.lit (.int 2)) (.var 5))))
      .nil) .nil)
      (.cons (.ite (.x (.cmp .GtE (.x (.var 5)) (.x (.lit (.int 1000000000000000000))))) (.cons (.for (.name 6) (.rng1 (.lit (.int 60))) (.cons (.ite (.x (.cmp .Gt (.x (.var 5)) (.x (.lit (.int 0))))) (.cons (.app 3 (.bin .Mod (.b1 .int (.x (.var 5))) (.lit (.int 1000))))
      (.cons (.set (.name 5) (.bin .FloorDiv (.var 5) (.lit (.int 1000))))
      .nil)) .nil)
      .nil))
      .nil) (.cons (.set (.name 7) (.bin .Mod (.b1 .int (.x (.bin .Add (.bin .Add (.bin .Mult (.var 5) (.lit (.int 40692))) (.bin .Mult (.var 4) (.lit (.int 52774)))) (.lit (.int 17))))) (.lit (.int 2147483399))))
      (.cons (.for (.name 6) (.rng1 (.lit (.int 12))) (.cons (.set (.name 7) (.bin .Mod (.b1 .int (.x (.bin .Add (.bin .Add (.bin .Mult (.var 7) (.lit (.int 40014))) (.bin .Mult (.lit (.int 5)) (.var 6))) (.lit (.int 3))))) (.lit (.int 2147483563))))
      (.cons (.app 3 (.bin .Mod (.b1 .int (.x (.bin .FloorDiv (.var 7) (.lit (.int 1009))))) (.lit (.int 1000))))
      .nil)))
      .nil)))
      .nil))))
      (.fin 3 (.cons (.ret (.var 3))
      .nil)))) [.val x0, .val x1, .val x2, .no, .no, .no, .no, .no] s) (endN Q) (fun e _ s1 => E e s1) := w_def (d := d4) rfl rfl rfl
theorem z4 : T0.dv 4 0 = [] := rfl
def c4_4 : SS := .cons (.set (.name 5) (.bin .Sub (.lit (.int 1)) (.bin .Mult (.lit (.int 2)) (.var 5)))) .nil
theorem v4_4 {n : Nat} {env : En} {s : Sto} {NN : Fl → Sto → Prop} {EE : Ex → En → Sto → Prop} : Run (gen T0 defs n) c4_4 env s NN EE = WpS (S.ev (gen T0 defs n) (.set (.name 5) (.bin .Sub (.lit (.int 1)) (.bin .Mult (.lit (.int 2)) (.var 5)))) env s) (nxt (fun e s1 => NN (.nx e) s1) NN) EE := by rw [c4_4, run_cons]; simp only [run_nil]
theorem r4_4 {n : Nat} {env : En} {s : Sto} {NN : Fl → Sto → Prop} {EE : Ex → En → Sto → Prop} : WpS (SS.ev (gen T0 defs n) c4_4 env s) NN EE = Run (gen T0 defs n) c4_4 env s NN EE := run_eq
def c4_9 : SS := .cons (.set (.name 5) (.bin .FloorDiv (.var 5) (.lit (.int 1000)))) .nil
theorem v4_9 {n : Nat} {env : En} {s : Sto} {NN : Fl → Sto → Prop} {EE : Ex → En → Sto → Prop} : Run (gen T0 defs n) c4_9 env s NN EE = WpS (S.ev (gen T0 defs n) (.set (.name 5) (.bin .FloorDiv (.var 5) (.lit (.int 1000)))) env s) (nxt (fun e s1 => NN (.nx e) s1) NN) EE := by rw [c4_9, run_cons]; simp only [run_nil]
theorem r4_9 {n : Nat} {env : En} {s : Sto} {NN : Fl → Sto → Prop} {EE : Ex → En → Sto → Prop} : WpS (SS.ev (gen T0 defs n) c4_9 env s) NN EE = Run (gen T0 defs n) c4_9 env s NN EE := run_eq
def c4_8 : SS := .cons (.app 3 (.bin .Mod (.b1 .int (.x (.var 5))) (.lit (.int 1000)))) c4_9
theorem v4_8 {n : Nat} {env : En} {s : Sto} {NN : Fl → Sto → Prop} {EE : Ex → En → Sto → Prop} : Run (gen T0 defs n) c4_8 env s NN EE = WpS (S.ev (gen T0 defs n) (.app 3 (.bin .Mod (.b1 .int (.x (.var 5))) (.lit (.int 1000)))) env s) (nxt (fun e s1 => Run (gen T0 defs n) c4_9 e s1 NN EE) NN) EE := run_cons
theorem r4_8 {n : Nat} {env : En} {s : Sto} {NN : Fl → Sto → Prop} {EE : Ex → En → Sto → Prop} : WpS (SS.ev (gen T0 defs n) c4_8 env s) NN EE = Run (gen T0 defs n) c4_8 env s NN EE := run_eq
def c4_7 : SS := .cons (.ite (.x (.cmp .Gt (.x (.var 5)) (.x (.lit (.int 0))))) c4_8 .nil) .nil
theorem v4_7 {n : Nat} {env : En} {s : Sto} {NN : Fl → Sto → Prop} {EE : Ex → En → Sto → Prop} : Run (gen T0 defs n) c4_7 env s NN EE = WpS (S.ev (gen T0 defs n) (.ite (.x (.cmp .Gt (.x (.var 5)) (.x (.lit (.int 0))))) c4_8 .nil) env s) (nxt (fun e s1 => NN (.nx e) s1) NN) EE := by rw [c4_7, run_cons]; simp only [run_nil]
theorem r4_7 {n : Nat} {env : En} {s : Sto} {NN : Fl → Sto → Prop} {EE : Ex → En → Sto → Prop} : WpS (SS.ev (gen T0 defs n) c4_7 env s) NN EE = Run (gen T0 defs n) c4_7 env s NN EE := run_eq
def c4_6 : SS := .cons (.for (.name 6) (.rng1 (.lit (.int 60))) c4_7) .nil
theorem v4_6 {n : Nat} {env : En} {s : Sto} {NN : Fl → Sto → Prop} {EE : Ex → En → Sto → Prop} : Run (gen T0 defs n) c4_6 env s NN EE = WpS (S.ev (gen T0 defs n) (.for (.name 6) (.rng1 (.lit (.int 60))) c4_7) env s) (nxt (fun e s1 => NN (.nx e) s1) NN) EE := by rw [c4_6, run_cons]; simp only [run_nil]
theorem r4_6 {n : Nat} {env : En} {s : Sto} {NN : Fl → Sto → Prop} {EE : Ex → En → Sto → Prop} : WpS (SS.ev (gen T0 defs n) c4_6 env s) NN EE = Run (gen T0 defs n) c4_6 env s NN EE := run_eq
def c4_13 : SS := .cons (.app 3 (.bin .Mod (.b1 .int (.x (.bin .FloorDiv (.var 7) (.lit (.int 1009))))) (.lit (.int 1000)))) .nil
theorem v4_13 {n : Nat} {env : En} {s : Sto} {NN : Fl → Sto → Prop} {EE : Ex → En → Sto → Prop} : Run (gen T0 defs n) c4_13 env s NN EE = WpS (S.ev (gen T0 defs n) (.app 3 (.bin .Mod (.b1 .int (.x (.bin .FloorDiv (.var 7) (.lit (.int 1009))))) (.lit (.int 1000)))) env s) (nxt (fun e s1 => NN (.nx e) s1) NN) EE := by rw [c4_13, run_cons]; simp only [run_nil]
theorem r4_13 {n : Nat} {env : En} {s : Sto} {NN : Fl → Sto → Prop} {EE : Ex → En → Sto → Prop} : WpS (SS.ev (gen T0 defs n) c4_13 env s) NN EE = Run (gen T0 defs n) c4_13 env s NN EE := run_eq
def c4_12 : SS := .cons (.set (.name 7) (.bin .Mod (.b1 .int (.x (.bin .Add (.bin .Add (.bin .Mult (.var 7) (.lit (.int 40014))) (.bin .Mult (.lit (.int 5)) (.var 6))) (.lit (.int 3))))) (.lit (.int 2147483563)))) c4_13
theorem v4_12 {n : Nat} {env : En} {s : Sto} {NN : Fl → Sto → Prop} {EE : Ex → En → Sto → Prop} : Run (gen T0 defs n) c4_12 env s NN EE = WpS (S.ev (gen T0 defs n) (.set (.name 7) (.bin .Mod (.b1 .int (.x (.bin .Add (.bin .Add (.bin .Mult (.var 7) (.lit (.int 40014))) (.bin .Mult (.lit (.int 5)) (.var 6))) (.lit (.int 3))))) (.lit (.int 2147483563)))) env s) (nxt (fun e s1 => Run (gen T0 defs n) c4_13 e s1 NN EE) NN) EE := run_cons
theorem r4_12 {n : Nat} {env : En} {s : Sto} {NN : Fl → Sto → Prop} {EE : Ex → En → Sto → Prop} : WpS (SS.ev (gen T0 defs n) c4_12 env s) NN EE = Run (gen T0 defs n) c4_12 env s NN EE := run_eq
def c4_11 : SS := .cons (.for (.name 6) (.rng1 (.lit (.int 12))) c4_12) .nil
theorem v4_11 {n : Nat} {env : En} {s : Sto} {NN : Fl → Sto → Prop} {EE : Ex → En → Sto → Prop} : Run (gen T0 defs n) c4_11 env s NN EE = WpS (S.ev (gen T0 defs n) (.for (.name 6) (.rng1 (.lit (.int 12))) c4_12) env s) (nxt (fun e s1 => NN (.nx e) s1) NN) EE := by rw [c4_11, run_cons]; simp only [run_nil]
theorem r4_11 {n : Nat} {env : En} {s : Sto} {NN : Fl → Sto → Prop} {EE : Ex → En → Sto → Prop} : WpS (SS.ev (gen T0 defs n) c4_11 env s) NN EE = Run (gen T0 defs n) c4_11 env s NN EE := run_eq
def c4_10 : SS := .cons (.set (.name 7) (.bin .Mod (.b1 .int (.x (.bin .Add (.bin .Add (.bin .Mult (.var 5) (.lit (.int 40692))) (.bin .Mult (.var 4) (.lit (.int 52774)))) (.lit (.int 17))))) (.lit (.int 2147483399)))) c4_11
theorem v4_10 {n : Nat} {env : En} {s : Sto} {NN : Fl → Sto → Prop} {EE : Ex → En → Sto → Prop} : Run (gen T0 defs n) c4_10 env s NN EE = WpS (S.ev (gen T0 defs n) (.set (.name 7) (.bin .Mod (.b1 .int (.x (.bin .Add (.bin .Add (.bin .Mult (.var 5) (.lit (.int 40692))) (.bin .Mult (.var 4) (.lit (.int 52774)))) (.lit (.int 17))))) (.lit (.int 2147483399)))) env s) (nxt (fun e s1 => Run (gen T0 defs n) c4_11 e s1 NN EE) NN) EE := run_cons
theorem r4_10 {n : Nat} {env : En} {s : Sto} {NN : Fl → Sto → Prop} {EE : Ex → En → Sto → Prop} : WpS (SS.ev (gen T0 defs n) c4_10 env s) NN EE = Run (gen T0 defs n) c4_10 env s NN EE := run_eq
def c4_5 : SS := .cons (.ite (.x (.cmp .GtE (.x (.var 5)) (.x (.lit (.int 1000000000000000000))))) c4_6 c4_10) .nil
theorem v4_5 {n : Nat} {env : En} {s : Sto} {NN : Fl → Sto → Prop} {EE : Ex → En → Sto → Prop} : Run (gen T0 defs n) c4_5 env s NN EE = WpS (S.ev (gen T0 defs n) (.ite (.x (.cmp .GtE (.x (.var 5)) (.x (.lit (.int 1000000000000000000))))) c4_6 c4_10) env s) (nxt (fun e s1 => NN (.nx e) s1) NN) EE := by rw [c4_5, run_cons]; simp only [run_nil]
theorem r4_5 {n : Nat} {env : En} {s : Sto} {NN : Fl → Sto → Prop} {EE : Ex → En → Sto → Prop} : WpS (SS.ev (gen T0 defs n) c4_5 env s) NN EE = Run (gen T0 defs n) c4_5 env s NN EE := run_eq
def c4_3 : SS := .cons (.ite (.x (.cmp .Lt (.x (.var 5)) (.x (.lit (.int 0))))) c4_4 .nil) c4_5
theorem v4_3 {n : Nat} {env : En} {s : Sto} {NN : Fl → Sto → Prop} {EE : Ex → En → Sto → Prop} : Run (gen T0 defs n) c4_3 env s NN EE = WpS (S.ev (gen T0 defs n) (.ite (.x (.cmp .Lt (.x (.var 5)) (.x (.lit (.int 0))))) c4_4 .nil) env s) (nxt (fun e s1 => Run (gen T0 defs n) c4_5 e s1 NN EE) NN) EE := run_cons
theorem r4_3 {n : Nat} {env : En} {s : Sto} {NN : Fl → Sto → Prop} {EE : Ex → En → Sto → Prop} : WpS (SS.ev (gen T0 defs n) c4_3 env s) NN EE = Run (gen T0 defs n) c4_3 env s NN EE := run_eq
def c4_2 : SS := .cons (.set (.name 5) (.call 3 (.cons (.var 0) (.cons (.var 4) .nil)) 0)) c4_3
theorem v4_2 {n : Nat} {env : En} {s : Sto} {NN : Fl → Sto → Prop} {EE : Ex → En → Sto → Prop} : Run (gen T0 defs n) c4_2 env s NN EE = WpS (S.ev (gen T0 defs n) (.set (.name 5) (.call 3 (.cons (.var 0) (.cons (.var 4) .nil)) 0)) env s) (nxt (fun e s1 => Run (gen T0 defs n) c4_3 e s1 NN EE) NN) EE := run_cons
theorem r4_2 {n : Nat} {env : En} {s : Sto} {NN : Fl → Sto → Prop} {EE : Ex → En → Sto → Prop} : WpS (SS.ev (gen T0 defs n) c4_2 env s) NN EE = Run (gen T0 defs n) c4_2 env s NN EE := run_eq
def c4_15 : SS := .cons (.ret (.var 3)) .nil
theorem v4_15 {n : Nat} {env : En} {s : Sto} {NN : Fl → Sto → Prop} {EE : Ex → En → Sto → Prop} : Run (gen T0 defs n) c4_15 env s NN EE = WpS (S.ev (gen T0 defs n) (.ret (.var 3)) env s) (nxt (fun e s1 => NN (.nx e) s1) NN) EE := by rw [c4_15, run_cons]; simp only [run_nil]
theorem r4_15 {n : Nat} {env : En} {s : Sto} {NN : Fl → Sto → Prop} {EE : Ex → En → Sto → Prop} : WpS (SS.ev (gen T0 defs n) c4_15 env s) NN EE = Run (gen T0 defs n) c4_15 env s NN EE := run_eq
def c4_14 : SS := .fin 3 c4_15
theorem v4_14 {n : Nat} {env : En} {s : Sto} {NN : Fl → Sto → Prop} {EE : Ex → En → Sto → Prop} : Run (gen T0 defs n) c4_14 env s NN EE = wo (env.own 3) fun ds => wset env 3 (.val (.lst ds)) fun e => Run (gen T0 defs n) c4_15 e s NN EE := run_fin
theorem r4_14 {n : Nat} {env : En} {s : Sto} {NN : Fl → Sto → Prop} {EE : Ex → En → Sto → Prop} : WpS (SS.ev (gen T0 defs n) c4_14 env s) NN EE = Run (gen T0 defs n) c4_14 env s NN EE := run_eq
def c4_1 : SS := .cons (.for (.name 4) (.rng2 (.var 1) (.var 2)) c4_2) c4_14
theorem v4_1 {n : Nat} {env : En} {s : Sto} {NN : Fl → Sto → Prop} {EE : Ex → En → Sto → Prop} : Run (gen T0 defs n) c4_1 env s NN EE = WpS (S.ev (gen T0 defs n) (.for (.name 4) (.rng2 (.var 1) (.var 2)) c4_2) env s) (nxt (fun e s1 => Run (gen T0 defs n) c4_14 e s1 NN EE) NN) EE := run_cons
theorem r4_1 {n : Nat} {env : En} {s : Sto} {NN : Fl → Sto → Prop} {EE : Ex → En → Sto → Prop} : WpS (SS.ev (gen T0 defs n) c4_1 env s) NN EE = Run (gen T0 defs n) c4_1 env s NN EE := run_eq
def c4_0 : SS := .cons (.own 3 (.disp .nil)) c4_1
theorem v4_0 {n : Nat} {env : En} {s : Sto} {NN : Fl → Sto → Prop} {EE : Ex → En → Sto → Prop} : Run (gen T0 defs n) c4_0 env s NN EE = WpS (S.ev (gen T0 defs n) (.own 3 (.disp .nil)) env s) (nxt (fun e s1 => Run (gen T0 defs n) c4_1 e s1 NN EE) NN) EE := run_cons
theorem r4_0 {n : Nat} {env : En} {s : Sto} {NN : Fl → Sto → Prop} {EE : Ex → En → Sto → Prop} : WpS (SS.ev (gen T0 defs n) c4_0 env s) NN EE = Run (gen T0 defs n) c4_0 env s NN EE := run_eq
theorem h4 {n : Nat} {x0 x1 x2 : Fx.D} {s : Sto} {Q : Fx.D → Sto → Prop} {E : Ex → Sto → Prop} : Wp ((gen T0 defs (n + 1)).call 4 [x0, x1, x2] s) Q E = Run (gen T0 defs n) c4_0 [.val x0, .val x1, .val x2, .no, .no, .no, .no, .no] s (endN Q) (fun e _ s1 => E e s1) := (w_def (d := d4) rfl rfl rfl).trans run_eq
theorem f5 {n : Nat} {x0 x1 : Fx.D} {s : Sto} {Q : Fx.D → Sto → Prop} {E : Ex → Sto → Prop} : Wp ((gen T0 defs (n + 1)).call 5 [x0, x1] s) Q E = WpS (SS.ev (gen T0 defs n) (.cons (.set (.name 2) (.ix (.x (.var 0)) (.lit (.int 1))))
      (.cons (.seti (.var 0) (.lit (.int 1)) (.bin .Add (.var 2) (.lit (.int 1))))
      (.cons (.ite (.x (.cmp .Lt (.x (.var 2)) (.x (.b1 .len (.x (.ix (.x (.var 0)) (.lit (.int 0)))))))) (.cons (.ret (.bin .Mod (.b1 .int (.x (.ix (.x (.ix (.x (.var 0)) (.lit (.int 0)))) (.var 2)))) (.var 1)))
      .nil) .nil)
      (.cons (.ret (.bin .Mod (.b1 .int (.x (.bin .Add (.bin .Mult (.var 2) (.lit (.int 7))) (.lit (.int 3))))) (.var 1)))
      .nil)))) [.val x0, .val x1, .no] s) (endN Q) (fun e _ s1 => E e s1) := w_def (d := d5) rfl rfl rfl
theorem z5 : T0.dv 5 0 = [] := rfl
def c5_3 : SS := .cons (.ret (.bin .Mod (.b1 .int (.x (.ix (.x (.ix (.x (.var 0)) (.lit (.int 0)))) (.var 2)))) (.var 1))) .nil
theorem v5_3 {n : Nat} {env : En} {s : Sto} {NN : Fl → Sto → Prop} {EE : Ex → En → Sto → Prop} : Run (gen T0 defs n) c5_3 env s NN EE = WpS (S.ev (gen T0 defs n) (.ret (.bin .Mod (.b1 .int (.x (.ix (.x (.ix (.x (.var 0)) (.lit (.int 0)))) (.var 2)))) (.var 1))) env s) (nxt (fun e s1 => NN (.nx e) s1) NN) EE := by rw [c5_3, run_cons]; simp only [run_nil]
theorem r5_3 {n : Nat} {env : En} {s : Sto} {NN : Fl → Sto → Prop} {EE : Ex → En → Sto → Prop} : WpS (SS.ev (gen T0 defs n) c5_3 env s) NN EE = Run (gen T0 defs n) c5_3 env s NN EE := run_eq
def c5_4 : SS := .cons (.ret (.bin .Mod (.b1 .int (.x (.bin .Add (.bin .Mult (.var 2) (.lit (.int 7))) (.lit (.int 3))))) (.var 1))) .nil
theorem v5_4 {n : Nat} {env : En} {s : Sto} {NN : Fl → Sto → Prop} {EE : Ex → En → Sto → Prop} : Run (gen T0 defs n) c5_4 env s NN EE = WpS (S.ev (gen T0 defs n) (.ret (.bin .Mod (.b1 .int (.x (.bin .Add (.bin .Mult (.var 2) (.lit (.int 7))) (.lit (.int 3))))) (.var 1))) env s) (nxt (fun e s1 => NN (.nx e) s1) NN) EE := by rw [c5_4, run_cons]; simp only [run_nil]
theorem r5_4 {n : Nat} {env : En} {s : Sto} {NN : Fl → Sto → Prop} {EE : Ex → En → Sto → Prop} : WpS (SS.ev (gen T0 defs n) c5_4 env s) NN EE = Run (gen T0 defs n) c5_4 env s NN EE := run_eq
def c5_2 : SS := .cons (.ite (.x (.cmp .Lt (.x (.var 2)) (.x (.b1 .len (.x (.ix (.x (.var 0)) (.lit (.int 0)))))))) c5_3 .nil) c5_4
theorem v5_2 {n : Nat} {env : En} {s : Sto} {NN : Fl → Sto → Prop} {EE : Ex → En → Sto → Prop} : Run (gen T0 defs n) c5_2 env s NN EE = WpS (S.ev (gen T0 defs n) (.ite (.x (.cmp .Lt (.x (.var 2)) (.x (.b1 .len (.x (.ix (.x (.var 0)) (.lit (.int 0)))))))) c5_3 .nil) env s) (nxt (fun e s1 => Run (gen T0 defs n) c5_4 e s1 NN EE) NN) EE := run_cons
theorem r5_2 {n : Nat} {env : En} {s : Sto} {NN : Fl → Sto → Prop} {EE : Ex → En → Sto → Prop} : WpS (SS.ev (gen T0 defs n) c5_2 env s) NN EE = Run (gen T0 defs n) c5_2 env s NN EE := run_eq
def c5_1 : SS := .cons (.seti (.var 0) (.lit (.int 1)) (.bin .Add (.var 2) (.lit (.int 1)))) c5_2
theorem v5_1 {n : Nat} {env : En} {s : Sto} {NN : Fl → Sto → Prop} {EE : Ex → En → Sto → Prop} : Run (gen T0 defs n) c5_1 env s NN EE = WpS (S.ev (gen T0 defs n) (.seti (.var 0) (.lit (.int 1)) (.bin .Add (.var 2) (.lit (.int 1)))) env s) (nxt (fun e s1 => Run (gen T0 defs n) c5_2 e s1 NN EE) NN) EE := run_cons
theorem r5_1 {n : Nat} {env : En} {s : Sto} {NN : Fl → Sto → Prop} {EE : Ex → En → Sto → Prop} : WpS (SS.ev (gen T0 defs n) c5_1 env s) NN EE = Run (gen T0 defs n) c5_1 env s NN EE := run_eq
def c5_0 : SS := .cons (.set (.name 2) (.ix (.x (.var 0)) (.lit (.int 1)))) c5_1
theorem v5_0 {n : Nat} {env : En} {s : Sto} {NN : Fl → Sto → Prop} {EE : Ex → En → Sto → Prop} : Run (gen T0 defs n) c5_0 env s NN EE = WpS (S.ev (gen T0 defs n) (.set (.name 2) (.ix (.x (.var 0)) (.lit (.int 1)))) env s) (nxt (fun e s1 => Run (gen T0 defs n) c5_1 e s1 NN EE) NN) EE := run_cons
theorem r5_0 {n : Nat} {env : En} {s : Sto} {NN : Fl → Sto → Prop} {EE : Ex → En → Sto → Prop} : WpS (SS.ev (gen T0 defs n) c5_0 env s) NN EE = Run (gen T0 defs n) c5_0 env s NN EE := run_eq
theorem h5 {n : Nat} {x0 x1 : Fx.D} {s : Sto} {Q : Fx.D → Sto → Prop} {E : Ex → Sto → Prop} : Wp ((gen T0 defs (n + 1)).call 5 [x0, x1] s) Q E = Run (gen T0 defs n) c5_0 [.val x0, .val x1, .no] s (endN Q) (fun e _ s1 => E e s1) := (w_def (d := d5) rfl rfl rfl).trans run_eq
theorem f6 {n : Nat} {x0 x1 : Fx.D} {s : Sto} {Q : Fx.D → Sto → Prop} {E : Ex → Sto → Prop} : Wp ((gen T0 defs (n + 1)).call 6 [x0, x1] s) Q E = WpS (SS.ev (gen T0 defs n) (.cons (.set (.name 2) (.call 5 (.cons (.var 0) (.cons (.lit (.int 4)) .nil)) 0))
      (.cons (.ite (.x (.cmp .Eq (.x (.var 2)) (.x (.lit (.int 0))))) (.cons (.ret (.fr (.disp .nil)))
      .nil) .nil)
      (.cons (.ite (.x (.cmp .Eq (.x (.var 2)) (.x (.lit (.int 1))))) (.cons (.ret (.fr (.rep (.disp (.cons (.lit (.int 32)) .nil)) (.var 1))))
      .nil) .nil)
      (.cons (.ite (.x (.cmp .Eq (.x (.var 2)) (.x (.lit (.int 2))))) (.cons (.ret (.fr (.comp (.name 3) (.rng1 (.var 1)) .none (.bin .Mult (.lit (.int 32)) (.call 5 (.cons (.var 0) (.cons (.lit (.int 2)) .nil)) 0)))))
      .nil) .nil)
      (.cons (.ret (.fr (.comp (.name 3) (.rng1 (.var 1)) .none (.call 5 (.cons (.var 0) (.cons (.lit (.int 33)) .nil)) 0))))
      .nil))))) [.val x0, .val x1, .no, .no] s) (endN Q) (fun e _ s1 => E e s1) := w_def (d := d6) rfl rfl rfl
theorem z6 : T0.dv 6 0 = [] := rfl
def c6_2 : SS := .cons (.ret (.fr (.disp .nil))) .nil
theorem v6_2 {n : Nat} {env : En} {s : Sto} {NN : Fl → Sto → Prop} {EE : Ex → En → Sto → Prop} : Run (gen T0 defs n) c6_2 env s NN EE = WpS (S.ev (gen T0 defs n) (.ret (.fr (.disp .nil))) env s) (nxt (fun e s1 => NN (.nx e) s1) NN) EE := by rw [c6_2, run_cons]; simp only [run_nil]
theorem r6_2 {n : Nat} {env : En} {s : Sto} {NN : Fl → Sto → Prop} {EE : Ex → En → Sto → Prop} : WpS (SS.ev (gen T0 defs n) c6_2 env s) NN EE = Run (gen T0 defs n) c6_2 env s NN EE := run_eq
def c6_4 : SS := .cons (.ret (.fr (.rep (.disp (.cons (.lit (.int 32)) .nil)) (.var 1)))) .nil
theorem v6_4 {n : Nat} {env : En} {s : Sto} {NN : Fl → Sto → Prop} {EE : Ex → En → Sto → Prop} : Run (gen T0 defs n) c6_4 env s NN EE = WpS (S.ev (gen T0 defs n) (.ret (.fr (.rep (.disp (.cons (.lit (.int 32)) .nil)) (.var 1)))) env s) (nxt (fun e s1 => NN (.nx e) s1) NN) EE := by rw [c6_4, run_cons]; simp only [run_nil]
theorem r6_4 {n : Nat} {env : En} {s : Sto} {NN : Fl → Sto → Prop} {EE : Ex → En → Sto → Prop} : WpS (SS.ev (gen T0 defs n) c6_4 env s) NN EE = Run (gen T0 defs n) c6_4 env s NN EE := run_eq
def c6_6 : SS := .cons (.ret (.fr (.comp (.name 3) (.rng1 (.var 1)) .none (.bin .Mult (.lit (.int 32)) (.call 5 (.cons (.var 0) (.cons (.lit (.int 2)) .nil)) 0))))) .nil
theorem v6_6 {n : Nat} {env : En} {s : Sto} {NN : Fl → Sto → Prop} {EE : Ex → En → Sto → Prop} : Run (gen T0 defs n) c6_6 env s NN EE = WpS (S.ev (gen T0 defs n) (.ret (.fr (.comp (.name 3) (.rng1 (.var 1)) .none (.bin .Mult (.lit (.int 32)) (.call 5 (.cons (.var 0) (.cons (.lit (.int 2)) .nil)) 0))))) env s) (nxt (fun e s1 => NN (.nx e) s1) NN) EE := by rw [c6_6, run_cons]; simp only [run_nil]
theorem r6_6 {n : Nat} {env : En} {s : Sto} {NN : Fl → Sto → Prop} {EE : Ex → En → Sto → Prop} : WpS (SS.ev (gen T0 defs n) c6_6 env s) NN EE = Run (gen T0 defs n) c6_6 env s NN EE := run_eq
def c6_7 : SS := .cons (.ret (.fr (.comp (.name 3) (.rng1 (.var 1)) .none (.call 5 (.cons (.var 0) (.cons (.lit (.int 33)) .nil)) 0)))) .nil
theorem v6_7 {n : Nat} {env : En} {s : Sto} {NN : Fl → Sto → Prop} {EE : Ex → En → Sto → Prop} : Run (gen T0 defs n) c6_7 env s NN EE = WpS (S.ev (gen T0 defs n) (.ret (.fr (.comp (.name 3) (.rng1 (.var 1)) .none (.call 5 (.cons (.var 0) (.cons (.lit (.int 33)) .nil)) 0)))) env s) (nxt (fun e s1 => NN (.nx e) s1) NN) EE := by rw [c6_7, run_cons]; simp only [run_nil]
theorem r6_7 {n : Nat} {env : En} {s : Sto} {NN : Fl → Sto → Prop} {EE : Ex → En → Sto → Prop} : WpS (SS.ev (gen T0 defs n) c6_7 env s) NN EE = Run (gen T0 defs n) c6_7 env s NN EE := run_eq
def c6_5 : SS := .cons (.ite (.x (.cmp .Eq (.x (.var 2)) (.x (.lit (.int 2))))) c6_6 .nil) c6_7
theorem v6_5 {n : Nat} {env : En} {s : Sto} {NN : Fl → Sto → Prop} {EE : Ex → En → Sto → Prop} : Run (gen T0 defs n) c6_5 env s NN EE = WpS (S.ev (gen T0 defs n) (.ite (.x (.cmp .Eq (.x (.var 2)) (.x (.lit (.int 2))))) c6_6 .nil) env s) (nxt (fun e s1 => Run (gen T0 defs n) c6_7 e s1 NN EE) NN) EE := run_cons
theorem r6_5 {n : Nat} {env : En} {s : Sto} {NN : Fl → Sto → Prop} {EE : Ex → En → Sto → Prop} : WpS (SS.ev (gen T0 defs n) c6_5 env s) NN EE = Run (gen T0 defs n) c6_5 env s NN EE := run_eq
def c6_3 : SS := .cons (.ite (.x (.cmp .Eq (.x (.var 2)) (.x (.lit (.int 1))))) c6_4 .nil) c6_5
theorem v6_3 {n : Nat} {env : En} {s : Sto} {NN : Fl → Sto → Prop} {EE : Ex → En → Sto → Prop} : Run (gen T0 defs n) c6_3 env s NN EE = WpS (S.ev (gen T0 defs n) (.ite (.x (.cmp .Eq (.x (.var 2)) (.x (.lit (.int 1))))) c6_4 .nil) env s) (nxt (fun e s1 => Run (gen T0 defs n) c6_5 e s1 NN EE) NN) EE := run_cons
theorem r6_3 {n : Nat} {env : En} {s : Sto} {NN : Fl → Sto → Prop} {EE : Ex → En → Sto → Prop} : WpS (SS.ev (gen T0 defs n) c6_3 env s) NN EE = Run (gen T0 defs n) c6_3 env s NN EE := run_eq
def c6_1 : SS := .cons (.ite (.x (.cmp .Eq (.x (.var 2)) (.x (.lit (.int 0))))) c6_2 .nil) c6_3
theorem v6_1 {n : Nat} {env : En} {s : Sto} {NN : Fl → Sto → Prop} {EE : Ex → En → Sto → Prop} : Run (gen T0 defs n) c6_1 env s NN EE = WpS (S.ev (gen T0 defs n) (.ite (.x (.cmp .Eq (.x (.var 2)) (.x (.lit (.int 0))))) c6_2 .nil) env s) (nxt (fun e s1 => Run (gen T0 defs n) c6_3 e s1 NN EE) NN) EE := run_cons
theorem r6_1 {n : Nat} {env : En} {s : Sto} {NN : Fl → Sto → Prop} {EE : Ex → En → Sto → Prop} : WpS (SS.ev (gen T0 defs n) c6_1 env s) NN EE = Run (gen T0 defs n) c6_1 env s NN EE := run_eq
def c6_0 : SS := .cons (.set (.name 2) (.call 5 (.cons (.var 0) (.cons (.lit (.int 4)) .nil)) 0)) c6_1
theorem v6_0 {n : Nat} {env : En} {s : Sto} {NN : Fl → Sto → Prop} {EE : Ex → En → Sto → Prop} : Run (gen T0 defs n) c6_0 env s NN EE = WpS (S.ev (gen T0 defs n) (.set (.name 2) (.call 5 (.cons (.var 0) (.cons (.lit (.int 4)) .nil)) 0)) env s) (nxt (fun e s1 => Run (gen T0 defs n) c6_1 e s1 NN EE) NN) EE := run_cons
theorem r6_0 {n : Nat} {env : En} {s : Sto} {NN : Fl → Sto → Prop} {EE : Ex → En → Sto → Prop} : WpS (SS.ev (gen T0 defs n) c6_0 env s) NN EE = Run (gen T0 defs n) c6_0 env s NN EE := run_eq
theorem h6 {n : Nat} {x0 x1 : Fx.D} {s : Sto} {Q : Fx.D → Sto → Prop} {E : Ex → Sto → Prop} : Wp ((gen T0 defs (n + 1)).call 6 [x0, x1] s) Q E = Run (gen T0 defs n) c6_0 [.val x0, .val x1, .no, .no] s (endN Q) (fun e _ s1 => E e s1) := (w_def (d := d6) rfl rfl rfl).trans run_eq
theorem f7 {n : Nat} {x0 x1 x2 : Fx.D} {s : Sto} {Q : Fx.D → Sto → Prop} {E : Ex → Sto → Prop} : Wp ((gen T0 defs (n + 1)).call 7 [x0, x1, x2] s) Q E = WpS (SS.ev (gen T0 defs n) (.cons (.try1 (.cons (.ret (.meth "schedule_cut" 22 (.var 0) (.cons (.var 1) (.cons (.var 2) .nil))))
      .nil) 1 (some 3) (.cons (.ret (.tup (.cons (.lit (.str "refused")) (.cons (.efld 3 "name") .nil))))
      .nil))
      .nil) [.val x0, .val x1, .val x2, .no] s) (endN Q) (fun e _ s1 => E e s1) := w_def (d := d7) rfl rfl rfl
theorem z7 : T0.dv 7 0 = [] := rfl
def c7_1 : SS := .cons (.ret (.meth "schedule_cut" 22 (.var 0) (.cons (.var 1) (.cons (.var 2) .nil)))) .nil
theorem v7_1 {n : Nat} {env : En} {s : Sto} {NN : Fl → Sto → Prop} {EE : Ex → En → Sto → Prop} : Run (gen T0 defs n) c7_1 env s NN EE = WpS (S.ev (gen T0 defs n) (.ret (.meth "schedule_cut" 22 (.var 0) (.cons (.var 1) (.cons (.var 2) .nil)))) env s) (nxt (fun e s1 => NN (.nx e) s1) NN) EE := by rw [c7_1, run_cons]; simp only [run_nil]
theorem r7_1 {n : Nat} {env : En} {s : Sto} {NN : Fl → Sto → Prop} {EE : Ex → En → Sto → Prop} : WpS (SS.ev (gen T0 defs n) c7_1 env s) NN EE = Run (gen T0 defs n) c7_1 env s NN EE := run_eq
def c7_2 : SS := .cons (.ret (.tup (.cons (.lit (.str "refused")) (.cons (.efld 3 "name") .nil)))) .nil
theorem v7_2 {n : Nat} {env : En} {s : Sto} {NN : Fl → Sto → Prop} {EE : Ex → En → Sto → Prop} : Run (gen T0 defs n) c7_2 env s NN EE = WpS (S.ev (gen T0 defs n) (.ret (.tup (.cons (.lit (.str "refused")) (.cons (.efld 3 "name") .nil)))) env s) (nxt (fun e s1 => NN (.nx e) s1) NN) EE := by rw [c7_2, run_cons]; simp only [run_nil]
theorem r7_2 {n : Nat} {env : En} {s : Sto} {NN : Fl → Sto → Prop} {EE : Ex → En → Sto → Prop} : WpS (SS.ev (gen T0 defs n) c7_2 env s) NN EE = Run (gen T0 defs n) c7_2 env s NN EE := run_eq
def c7_0 : SS := .cons (.try1 c7_1 1 (some 3) c7_2) .nil
theorem v7_0 {n : Nat} {env : En} {s : Sto} {NN : Fl → Sto → Prop} {EE : Ex → En → Sto → Prop} : Run (gen T0 defs n) c7_0 env s NN EE = WpS (S.ev (gen T0 defs n) (.try1 c7_1 1 (some 3) c7_2) env s) (nxt (fun e s1 => NN (.nx e) s1) NN) EE := by rw [c7_0, run_cons]; simp only [run_nil]
theorem r7_0 {n : Nat} {env : En} {s : Sto} {NN : Fl → Sto → Prop} {EE : Ex → En → Sto → Prop} : WpS (SS.ev (gen T0 defs n) c7_0 env s) NN EE = Run (gen T0 defs n) c7_0 env s NN EE := run_eq
theorem h7 {n : Nat} {x0 x1 x2 : Fx.D} {s : Sto} {Q : Fx.D → Sto → Prop} {E : Ex → Sto → Prop} : Wp ((gen T0 defs (n + 1)).call 7 [x0, x1, x2] s) Q E = Run (gen T0 defs n) c7_0 [.val x0, .val x1, .val x2, .no] s (endN Q) (fun e _ s1 => E e s1) := (w_def (d := d7) rfl rfl rfl).trans run_eq
theorem f8 {n : Nat} {x0 x1 x2 : Fx.D} {s : Sto} {Q : Fx.D → Sto → Prop} {E : Ex → Sto → Prop} : Wp ((gen T0 defs (n + 1)).call 8 [x0, x1, x2] s) Q E = WpS (SS.ev (gen T0 defs n) (.cons (.ite (.x (.cmp .Eq (.x (.var 1)) (.x (.bin .Sub (.lit (.int 0)) (.lit (.int 1)))))) (.cons (.ret (.meth "flush" 18 (.var 0) .nil))
      .nil) .nil)
      (.cons (.ret (.meth "write" 17 (.var 0) (.cons (.var 1) (.cons (.var 2) .nil))))
      .nil)) [.val x0, .val x1, .val x2] s) (endN Q) (fun e _ s1 => E e s1) := w_def (d := d8) rfl rfl rfl
theorem z8 : T0.dv 8 0 = [] := rfl
def c8_1 : SS := .cons (.ret (.meth "flush" 18 (.var 0) .nil)) .nil
theorem v8_1 {n : Nat} {env : En} {s : Sto} {NN : Fl → Sto → Prop} {EE : Ex → En → Sto → Prop} : Run (gen T0 defs n) c8_1 env s NN EE = WpS (S.ev (gen T0 defs n) (.ret (.meth "flush" 18 (.var 0) .nil)) env s) (nxt (fun e s1 => NN (.nx e) s1) NN) EE := by rw [c8_1, run_cons]; simp only [run_nil]
theorem r8_1 {n : Nat} {env : En} {s : Sto} {NN : Fl → Sto → Prop} {EE : Ex → En → Sto → Prop} : WpS (SS.ev (gen T0 defs n) c8_1 env s) NN EE = Run (gen T0 defs n) c8_1 env s NN EE := run_eq
def c8_2 : SS := .cons (.ret (.meth "write" 17 (.var 0) (.cons (.var 1) (.cons (.var 2) .nil)))) .nil
theorem v8_2 {n : Nat} {env : En} {s : Sto} {NN : Fl → Sto → Prop} {EE : Ex → En → Sto → Prop} : Run (gen T0 defs n) c8_2 env s NN EE = WpS (S.ev (gen T0 defs n) (.ret (.meth "write" 17 (.var 0) (.cons (.var 1) (.cons (.var 2) .nil)))) env s) (nxt (fun e s1 => NN (.nx e) s1) NN) EE := by rw [c8_2, run_cons]; simp only [run_nil]
theorem r8_2 {n : Nat} {env : En} {s : Sto} {NN : Fl → Sto → Prop} {EE : Ex → En → Sto → Prop} : WpS (SS.ev (gen T0 defs n) c8_2 env s) NN EE = Run (gen T0 defs n) c8_2 env s NN EE := run_eq
def c8_0 : SS := .cons (.ite (.x (.cmp .Eq (.x (.var 1)) (.x (.bin .Sub (.lit (.int 0)) (.lit (.int 1)))))) c8_1 .nil) c8_2
theorem v8_0 {n : Nat} {env : En} {s : Sto} {NN : Fl → Sto → Prop} {EE : Ex → En → Sto → Prop} : Run (gen T0 defs n) c8_0 env s NN EE = WpS (S.ev (gen T0 defs n) (.ite (.x (.cmp .Eq (.x (.var 1)) (.x (.bin .Sub (.lit (.int 0)) (.lit (.int 1)))))) c8_1 .nil) env s) (nxt (fun e s1 => Run (gen T0 defs n) c8_2 e s1 NN EE) NN) EE := run_cons
theorem r8_0 {n : Nat} {env : En} {s : Sto} {NN : Fl → Sto → Prop} {EE : Ex → En → Sto → Prop} : WpS (SS.ev (gen T0 defs n) c8_0 env s) NN EE = Run (gen T0 defs n) c8_0 env s NN EE := run_eq
theorem h8 {n : Nat} {x0 x1 x2 : Fx.D} {s : Sto} {Q : Fx.D → Sto → Prop} {E : Ex → Sto → Prop} : Wp ((gen T0 defs (n + 1)).call 8 [x0, x1, x2] s) Q E = Run (gen T0 defs n) c8_0 [.val x0, .val x1, .val x2] s (endN Q) (fun e _ s1 => E e s1) := (w_def (d := d8) rfl rfl rfl).trans run_eq
theorem f9 {n : Nat} {x0 x1 x2 : Fx.D} {s : Sto} {Q : Fx.D → Sto → Prop} {E : Ex → Sto → Prop} : Wp ((gen T0 defs (n + 1)).call 9 [x0, x1, x2] s) Q E = WpS (SS.ev (gen T0 defs n) (.cons (.try2 (.cons (.set (.name 4) (.call 8 (.cons (.var 0) (.cons (.var 1) (.cons (.var 2) .nil))) 0))
      .nil) 2 (some 3) (.cons (.ite (.and (.isE 3 0) (.one (.not (.isE 3 1)))) (.cons (.ret (.tup (.cons (.lit (.str "refused")) (.cons (.lit (.str "cut")) .nil))))
      .nil) .nil)
      (.cons (.ret (.tup (.cons (.lit (.str "refused")) (.cons (.lit (.str "other")) .nil))))
      .nil)) 1 (some 3) (.cons (.ret (.tup (.cons (.lit (.str "refused")) (.cons (.efld 3 "name") .nil))))
      .nil))
      (.cons (.ret (.var 4))
      .nil)) [.val x0, .val x1, .val x2, .no, .no] s) (endN Q) (fun e _ s1 => E e s1) := w_def (d := d9) rfl rfl rfl
theorem z9 : T0.dv 9 0 = [] := rfl
def c9_1 : SS := .cons (.set (.name 4) (.call 8 (.cons (.var 0) (.cons (.var 1) (.cons (.var 2) .nil))) 0)) .nil
theorem v9_1 {n : Nat} {env : En} {s : Sto} {NN : Fl → Sto → Prop} {EE : Ex → En → Sto → Prop} : Run (gen T0 defs n) c9_1 env s NN EE = WpS (S.ev (gen T0 defs n) (.set (.name 4) (.call 8 (.cons (.var 0) (.cons (.var 1) (.cons (.var 2) .nil))) 0)) env s) (nxt (fun e s1 => NN (.nx e) s1) NN) EE := by rw [c9_1, run_cons]; simp only [run_nil]
theorem r9_1 {n : Nat} {env : En} {s : Sto} {NN : Fl → Sto → Prop} {EE : Ex → En → Sto → Prop} : WpS (SS.ev (gen T0 defs n) c9_1 env s) NN EE = Run (gen T0 defs n) c9_1 env s NN EE := run_eq
def c9_3 : SS := .cons (.ret (.tup (.cons (.lit (.str "refused")) (.cons (.lit (.str "cut")) .nil)))) .nil
theorem v9_3 {n : Nat} {env : En} {s : Sto} {NN : Fl → Sto → Prop} {EE : Ex → En → Sto → Prop} : Run (gen T0 defs n) c9_3 env s NN EE = WpS (S.ev (gen T0 defs n) (.ret (.tup (.cons (.lit (.str "refused")) (.cons (.lit (.str "cut")) .nil)))) env s) (nxt (fun e s1 => NN (.nx e) s1) NN) EE := by rw [c9_3, run_cons]; simp only [run_nil]
theorem r9_3 {n : Nat} {env : En} {s : Sto} {NN : Fl → Sto → Prop} {EE : Ex → En → Sto → Prop} : WpS (SS.ev (gen T0 defs n) c9_3 env s) NN EE = Run (gen T0 defs n) c9_3 env s NN EE := run_eq
def c9_4 : SS := .cons (.ret (.tup (.cons (.lit (.str "refused")) (.cons (.lit (.str "other")) .nil)))) .nil
theorem v9_4 {n : Nat} {env : En} {s : Sto} {NN : Fl → Sto → Prop} {EE : Ex → En → Sto → Prop} : Run (gen T0 defs n) c9_4 env s NN EE = WpS (S.ev (gen T0 defs n) (.ret (.tup (.cons (.lit (.str "refused")) (.cons (.lit (.str "other")) .nil)))) env s) (nxt (fun e s1 => NN (.nx e) s1) NN) EE := by rw [c9_4, run_cons]; simp only [run_nil]
theorem r9_4 {n : Nat} {env : En} {s : Sto} {NN : Fl → Sto → Prop} {EE : Ex → En → Sto → Prop} : WpS (SS.ev (gen T0 defs n) c9_4 env s) NN EE = Run (gen T0 defs n) c9_4 env s NN EE := run_eq
def c9_2 : SS := .cons (.ite (.and (.isE 3 0) (.one (.not (.isE 3 1)))) c9_3 .nil) c9_4
theorem v9_2 {n : Nat} {env : En} {s : Sto} {NN : Fl → Sto → Prop} {EE : Ex → En → Sto → Prop} : Run (gen T0 defs n) c9_2 env s NN EE = WpS (S.ev (gen T0 defs n) (.ite (.and (.isE 3 0) (.one (.not (.isE 3 1)))) c9_3 .nil) env s) (nxt (fun e s1 => Run (gen T0 defs n) c9_4 e s1 NN EE) NN) EE := run_cons
theorem r9_2 {n : Nat} {env : En} {s : Sto} {NN : Fl → Sto → Prop} {EE : Ex → En → Sto → Prop} : WpS (SS.ev (gen T0 defs n) c9_2 env s) NN EE = Run (gen T0 defs n) c9_2 env s NN EE := run_eq
def c9_5 : SS := .cons (.ret (.tup (.cons (.lit (.str "refused")) (.cons (.efld 3 "name") .nil)))) .nil
theorem v9_5 {n : Nat} {env : En} {s : Sto} {NN : Fl → Sto → Prop} {EE : Ex → En → Sto → Prop} : Run (gen T0 defs n) c9_5 env s NN EE = WpS (S.ev (gen T0 defs n) (.ret (.tup (.cons (.lit (.str "refused")) (.cons (.efld 3 "name") .nil)))) env s) (nxt (fun e s1 => NN (.nx e) s1) NN) EE := by rw [c9_5, run_cons]; simp only [run_nil]
theorem r9_5 {n : Nat} {env : En} {s : Sto} {NN : Fl → Sto → Prop} {EE : Ex → En → Sto → Prop} : WpS (SS.ev (gen T0 defs n) c9_5 env s) NN EE = Run (gen T0 defs n) c9_5 env s NN EE := run_eq
def c9_6 : SS := .cons (.ret (.var 4)) .nil
theorem v9_6 {n : Nat} {env : En} {s : Sto} {NN : Fl → Sto → Prop} {EE : Ex → En → Sto → Prop} : Run (gen T0 defs n) c9_6 env s NN EE = WpS (S.ev (gen T0 defs n) (.ret (.var 4)) env s) (nxt (fun e s1 => NN (.nx e) s1) NN) EE := by rw [c9_6, run_cons]; simp only [run_nil]
theorem r9_6 {n : Nat} {env : En} {s : Sto} {NN : Fl → Sto → Prop} {EE : Ex → En → Sto → Prop} : WpS (SS.ev (gen T0 defs n) c9_6 env s) NN EE = Run (gen T0 defs n) c9_6 env s NN EE := run_eq
def c9_0 : SS := .cons (.try2 c9_1 2 (some 3) c9_2 1 (some 3) c9_5) c9_6
theorem v9_0 {n : Nat} {env : En} {s : Sto} {NN : Fl → Sto → Prop} {EE : Ex → En → Sto → Prop} : Run (gen T0 defs n) c9_0 env s NN EE = WpS (S.ev (gen T0 defs n) (.try2 c9_1 2 (some 3) c9_2 1 (some 3) c9_5) env s) (nxt (fun e s1 => Run (gen T0 defs n) c9_6 e s1 NN EE) NN) EE := run_cons
theorem r9_0 {n : Nat} {env : En} {s : Sto} {NN : Fl → Sto → Prop} {EE : Ex → En → Sto → Prop} : WpS (SS.ev (gen T0 defs n) c9_0 env s) NN EE = Run (gen T0 defs n) c9_0 env s NN EE := run_eq
theorem h9 {n : Nat} {x0 x1 x2 : Fx.D} {s : Sto} {Q : Fx.D → Sto → Prop} {E : Ex → Sto → Prop} : Wp ((gen T0 defs (n + 1)).call 9 [x0, x1, x2] s) Q E = Run (gen T0 defs n) c9_0 [.val x0, .val x1, .val x2, .no, .no] s (endN Q) (fun e _ s1 => E e s1) := (w_def (d := d9) rfl rfl rfl).trans run_eq
theorem f10 {n : Nat} {x0 : Fx.D} {s : Sto} {Q : Fx.D → Sto → Prop} {E : Ex → Sto → Prop} : Wp ((gen T0 defs (n + 1)).call 10 [x0] s) Q E = WpS (SS.ev (gen T0 defs n) (.cons (.set (.name 1) (.alloc (.disp (.cons (.call 4 (.cons (.var 0) (.cons (.lit (.int 0)) (.cons (.lit (.int 63)) .nil))) 0) (.cons (.lit (.int 0)) .nil)))))
      (.cons (.set (.name 2) (.bin .Add (.lit (.int 8)) (.call 5 (.cons (.var 1) (.cons (.lit (.int 4)) .nil)) 0)))
      (.cons (.set (.name 3) (.mk 3 (.cons (.var 2) .nil) 0))
      (.cons (.own 4 (.comp (.name 11) (.rng1 (.var 2)) .none (.fr (.rep (.disp (.cons (.lit (.int 0)) .nil)) (.lit (.int 32))))))
      (.finO 4 (.cons (.set (.name 5) (.alloc (.disp .nil)))
      (.cons (.set (.name 6) (.bin .Sub (.lit (.int 0)) (.lit (.int 1))))
      (.cons (.set (.name 7) (.fr (.disp .nil)))
      (.cons (.set (.name 8) (.lit (.int 0)))
      (.cons (.for (.name 9) (.rng1 (.lit (.int 40))) (.cons (.set (.name 10) (.call 5 (.cons (.var 1) (.cons (.lit (.int 10)) .nil)) 0))
      (.cons (.ite (.or (.x (.cmp .Eq (.x (.var 10)) (.x (.lit (.int 0))))) (.one (.x (.cmp .Eq (.x (.var 9)) (.x (.lit (.int 0))))))) (.cons (.set (.name 6) (.call 5 (.cons (.var 1) (.cons (.lit (.int 21)) .nil)) 0))
      (.cons (.set (.name 7) (.call 6 (.cons (.var 1) (.cons (.lit (.int 9)) .nil)) 0))
      (.cons (.set (.name 12) (.alloc (.list (.x (.var 7)))))
      (.cons (.ite (.x (.cmp .IsNot (.x (.call 7 (.cons (.var 3) (.cons (.var 6) (.cons (.var 12) .nil))) 0)) (.x (.lit .non)))) (.cons (.ret (.lit (.bl false)))
      .nil) .nil)
      (.cons (.oapp (.var 12) (.lit (.int 1)))
      (.cons (.ite (.x (.cmp .NotEq (.x (.call 7 (.cons (.var 3) (.cons (.ix (.x (.fr (.disp (.cons (.bin .Sub (.lit (.int 0)) (.lit (.int 1))) (.cons (.lit (.int 100001)) .nil))))) (.call 5 (.cons (.var 1) (.cons (.lit (.int 2)) .nil)) 0)) (.cons (.fr (.disp (.cons (.lit (.int 33)) .nil))) .nil))) 0)) (.x (.tup (.cons (.lit (.str "refused")) (.cons (.lit (.str "many")) .nil)))))) (.cons (.ret (.lit (.bl false)))
      .nil) .nil)
      (.cons (.ite (.x (.cmp .NotEq (.x (.call 7 (.cons (.var 3) (.cons (.lit (.int 3)) (.cons (.fr (.disp (.cons (.lit (.int 33)) .nil))) .nil))) 0)) (.x (.tup (.cons (.lit (.str "refused")) (.cons (.lit (.str "torn")) .nil)))))) (.cons (.ret (.lit (.bl false)))
      .nil) .nil)
      .nil))))))) (.cons (.ite (.and (.x (.cmp .Eq (.x (.var 10)) (.x (.lit (.int 1))))) (.one (.x (.cmp .Eq (.x (.call 5 (.cons (.var 1) (.cons (.lit (.int 4)) .nil)) 0)) (.x (.lit (.int 0))))))) (.cons (.expr (.meth "cut_power" 21 (.var 3) (.cons (.fr (.disp .nil)) .nil)))
      (.cons (.set (.name 5) (.alloc (.disp .nil)))
      (.cons (.set (.name 6) (.bin .Sub (.lit (.int 0)) (.lit (.int 1))))
      (.cons (.set (.name 8) (.bin .Add (.var 8) (.lit (.int 1))))
      .nil)))) (.cons (.ite (.x (.cmp .Eq (.x (.var 10)) (.x (.lit (.int 2))))) (.cons (.ite (.or (.x (.cmp .NotEq (.x (.call 9 (.cons (.var 3) (.cons (.var 2) (.cons (.fr (.rep (.disp (.cons (.lit (.int 0)) .nil)) (.lit (.int 32)))) .nil))) 0)) (.x (.tup (.cons (.lit (.str "refused")) (.cons (.lit (.str "at")) .nil)))))) (.one (.x (.cmp .NotEq (.x (.call 9 (.cons (.var 3) (.cons (.lit (.int 0)) (.cons (.fr (.rep (.disp (.cons (.lit (.int 0)) .nil)) (.lit (.int 31)))) .nil))) 0)) (.x (.tup (.cons (.lit (.str "refused")) (.cons (.lit (.str "block")) .nil)))))))) (.cons (.ret (.lit (.bl false)))
      .nil) .nil)
      .nil) (.cons (.set (.name 13) (.bin .Sub (.lit (.int 0)) (.lit (.int 1))))
      (.cons (.ite (.x (.cmp .Gt (.x (.var 10)) (.x (.lit (.int 4))))) (.cons (.set (.name 13) (.call 5 (.cons (.var 1) (.cons (.var 2) .nil)) 0))
      .nil) .nil)
      (.cons (.own 14 (.comp (.name 11) (.rng1 (.lit (.int 32))) .none (.bin .Add (.lit (.int 1)) (.call 5 (.cons (.var 1) (.cons (.lit (.int 255)) .nil)) 0))))
      (.cons (.set (.name 15) (.call 9 (.cons (.var 3) (.cons (.var 13) (.cons (.fr (.list (.own 14))) .nil))) 0))
      (.fin 14 (.cons (.ite (.x (.cmp .Eq (.x (.var 6)) (.x (.lit (.int 0))))) (.cons (.ite (.x (.cmp .NotEq (.x (.var 15)) (.x (.tup (.cons (.lit (.str "refused")) (.cons (.lit (.str "cut")) .nil)))))) (.cons (.ret (.lit (.bl false)))
      .nil) .nil)
      (.cons (.for (.name 11) (.rng1 (.b2 .min (.x (.b1 .len (.x (.var 7)))) (.b1 .len (.x (.var 5))))) (.cons (.set (.name 16) (.ix (.x (.ix (.x (.var 5)) (.var 11))) (.lit (.int 0))))
      (.cons (.seti (.var 4) (.var 16) (.fr (.cat (.x (.fr (.sl (.x (.ix (.x (.ix (.x (.var 5)) (.var 11))) (.lit (.int 1)))) .none (.some (.ix (.x (.var 7)) (.var 11)))))) (.x (.fr (.sl (.x (.ix (.x (.var 4)) (.var 16))) (.some (.ix (.x (.var 7)) (.var 11))) .none))))))
      .nil)))
      (.cons (.set (.name 5) (.alloc (.disp .nil)))
      (.cons (.set (.name 6) (.bin .Sub (.lit (.int 0)) (.lit (.int 1))))
      (.cons (.set (.name 8) (.bin .Add (.var 8) (.lit (.int 1))))
      .nil))))) (.cons (.ite (.x (.cmp .IsNot (.x (.var 15)) (.x (.lit .non)))) (.cons (.ret (.lit (.bl false)))
      .nil) .nil)
      (.cons (.ite (.x (.cmp .Gt (.x (.var 6)) (.x (.lit (.int 0))))) (.cons (.set (.name 6) (.bin .Sub (.var 6) (.lit (.int 1))))
      .nil) .nil)
      (.cons (.ite (.x (.cmp .Eq (.x (.var 13)) (.x (.bin .Sub (.lit (.int 0)) (.lit (.int 1)))))) (.cons (.forO (.name 17) false (.var 5) (.cons (.seti (.var 4) (.ix (.x (.var 17)) (.lit (.int 0))) (.ix (.x (.var 17)) (.lit (.int 1))))
      .nil))
      (.cons (.set (.name 5) (.alloc (.disp .nil)))
      .nil)) (.cons (.oapp (.var 5) (.fr (.disp (.cons (.var 13) (.cons (.var 14) .nil)))))
      .nil))
      .nil))))
      .nil)))))))
      .nil))
      .nil))
      (.cons (.ite (.or (.x (.cmp .NotEq (.x (.meth "pending_count" 19 (.var 3) .nil)) (.x (.b1 .len (.x (.var 5)))))) (.one (.x (.cmp .NotEq (.x (.meth "cut_count" 20 (.var 3) .nil)) (.x (.var 8)))))) (.cons (.ret (.lit (.bl false)))
      .nil) .nil)
      .nil))))
      (.cons (.expr (.meth "cut_power" 21 (.var 3) (.cons (.fr (.disp .nil)) .nil)))
      (.cons (.ret (.cmpo .Eq (.x (.fr (.comp (.name 13) (.rng1 (.var 2)) .none (.meth "read" 14 (.var 3) (.cons (.var 13) .nil))))) (.x (.var 4))))
      .nil)))))))))))) [.val x0, .no, .no, .no, .no, .no, .no, .no, .no, .no, .no, .no, .no, .no, .no, .no, .no, .no] s) (endN Q) (fun e _ s1 => E e s1) := w_def (d := d10) rfl rfl rfl
theorem z10 : T0.dv 10 0 = [] := rfl
def c10_16 : SS := .cons (.ret (.lit (.bl false))) .nil
theorem v10_16 {n : Nat} {env : En} {s : Sto} {NN : Fl → Sto → Prop} {EE : Ex → En → Sto → Prop} : Run (gen T0 defs n) c10_16 env s NN EE = WpS (S.ev (gen T0 defs n) (.ret (.lit (.bl false))) env s) (nxt (fun e s1 => NN (.nx e) s1) NN) EE := by rw [c10_16, run_cons]; simp only [run_nil]
theorem r10_16 {n : Nat} {env : En} {s : Sto} {NN : Fl → Sto → Prop} {EE : Ex → En → Sto → Prop} : WpS (SS.ev (gen T0 defs n) c10_16 env s) NN EE = Run (gen T0 defs n) c10_16 env s NN EE := run_eq
def c10_19 : SS := .cons (.ret (.lit (.bl false))) .nil
theorem v10_19 {n : Nat} {env : En} {s : Sto} {NN : Fl → Sto → Prop} {EE : Ex → En → Sto → Prop} : Run (gen T0 defs n) c10_19 env s NN EE = WpS (S.ev (gen T0 defs n) (.ret (.lit (.bl false))) env s) (nxt (fun e s1 => NN (.nx e) s1) NN) EE := by rw [c10_19, run_cons]; simp only [run_nil]
theorem r10_19 {n : Nat} {env : En} {s : Sto} {NN : Fl → Sto → Prop} {EE : Ex → En → Sto → Prop} : WpS (SS.ev (gen T0 defs n) c10_19 env s) NN EE = Run (gen T0 defs n) c10_19 env s NN EE := run_eq
def c10_21 : SS := .cons (.ret (.lit (.bl false))) .nil
theorem v10_21 {n : Nat} {env : En} {s : Sto} {NN : Fl → Sto → Prop} {EE : Ex → En → Sto → Prop} : Run (gen T0 defs n) c10_21 env s NN EE = WpS (S.ev (gen T0 defs n) (.ret (.lit (.bl false))) env s) (nxt (fun e s1 => NN (.nx e) s1) NN) EE := by rw [c10_21, run_cons]; simp only [run_nil]
theorem r10_21 {n : Nat} {env : En} {s : Sto} {NN : Fl → Sto → Prop} {EE : Ex → En → Sto → Prop} : WpS (SS.ev (gen T0 defs n) c10_21 env s) NN EE = Run (gen T0 defs n) c10_21 env s NN EE := run_eq
def c10_20 : SS := .cons (.ite (.x (.cmp .NotEq (.x (.call 7 (.cons (.var 3) (.cons (.lit (.int 3)) (.cons (.fr (.disp (.cons (.lit (.int 33)) .nil))) .nil))) 0)) (.x (.tup (.cons (.lit (.str "refused")) (.cons (.lit (.str "torn")) .nil)))))) c10_21 .nil) .nil
theorem v10_20 {n : Nat} {env : En} {s : Sto} {NN : Fl → Sto → Prop} {EE : Ex → En → Sto → Prop} : Run (gen T0 defs n) c10_20 env s NN EE = WpS (S.ev (gen T0 defs n) (.ite (.x (.cmp .NotEq (.x (.call 7 (.cons (.var 3) (.cons (.lit (.int 3)) (.cons (.fr (.disp (.cons (.lit (.int 33)) .nil))) .nil))) 0)) (.x (.tup (.cons (.lit (.str "refused")) (.cons (.lit (.str "torn")) .nil)))))) c10_21 .nil) env s) (nxt (fun e s1 => NN (.nx e) s1) NN) EE := by rw [c10_20, run_cons]; simp only [run_nil]
theorem r10_20 {n : Nat} {env : En} {s : Sto} {NN : Fl → Sto → Prop} {EE : Ex → En → Sto → Prop} : WpS (SS.ev (gen T0 defs n) c10_20 env s) NN EE = Run (gen T0 defs n) c10_20 env s NN EE := run_eq
def c10_18 : SS := .cons (.ite (.x (.cmp .NotEq (.x (.call 7 (.cons (.var 3) (.cons (.ix (.x (.fr (.disp (.cons (.bin .Sub (.lit (.int 0)) (.lit (.int 1))) (.cons (.lit (.int 100001)) .nil))))) (.call 5 (.cons (.var 1) (.cons (.lit (.int 2)) .nil)) 0)) (.cons (.fr (.disp (.cons (.lit (.int 33)) .nil))) .nil))) 0)) (.x (.tup (.cons (.lit (.str "refused")) (.cons (.lit (.str "many")) .nil)))))) c10_19 .nil) c10_20
theorem v10_18 {n : Nat} {env : En} {s : Sto} {NN : Fl → Sto → Prop} {EE : Ex → En → Sto → Prop} : Run (gen T0 defs n) c10_18 env s NN EE = WpS (S.ev (gen T0 defs n) (.ite (.x (.cmp .NotEq (.x (.call 7 (.cons (.var 3) (.cons (.ix (.x (.fr (.disp (.cons (.bin .Sub (.lit (.int 0)) (.lit (.int 1))) (.cons (.lit (.int 100001)) .nil))))) (.call 5 (.cons (.var 1) (.cons (.lit (.int 2)) .nil)) 0)) (.cons (.fr (.disp (.cons (.lit (.int 33)) .nil))) .nil))) 0)) (.x (.tup (.cons (.lit (.str "refused")) (.cons (.lit (.str "many")) .nil)))))) c10_19 .nil) env s) (nxt (fun e s1 => Run (gen T0 defs n) c10_20 e s1 NN EE) NN) EE := run_cons
theorem r10_18 {n : Nat} {env : En} {s : Sto} {NN : Fl → Sto → Prop} {EE : Ex → En → Sto → Prop} : WpS (SS.ev (gen T0 defs n) c10_18 env s) NN EE = Run (gen T0 defs n) c10_18 env s NN EE := run_eq
def c10_17 : SS := .cons (.oapp (.var 12) (.lit (.int 1))) c10_18
theorem v10_17 {n : Nat} {env : En} {s : Sto} {NN : Fl → Sto → Prop} {EE : Ex → En → Sto → Prop} : Run (gen T0 defs n) c10_17 env s NN EE = WpS (S.ev (gen T0 defs n) (.oapp (.var 12) (.lit (.int 1))) env s) (nxt (fun e s1 => Run (gen T0 defs n) c10_18 e s1 NN EE) NN) EE := run_cons
theorem r10_17 {n : Nat} {env : En} {s : Sto} {NN : Fl → Sto → Prop} {EE : Ex → En → Sto → Prop} : WpS (SS.ev (gen T0 defs n) c10_17 env s) NN EE = Run (gen T0 defs n) c10_17 env s NN EE := run_eq
def c10_15 : SS := .cons (.ite (.x (.cmp .IsNot (.x (.call 7 (.cons (.var 3) (.cons (.var 6) (.cons (.var 12) .nil))) 0)) (.x (.lit .non)))) c10_16 .nil) c10_17
theorem v10_15 {n : Nat} {env : En} {s : Sto} {NN : Fl → Sto → Prop} {EE : Ex → En → Sto → Prop} : Run (gen T0 defs n) c10_15 env s NN EE = WpS (S.ev (gen T0 defs n) (.ite (.x (.cmp .IsNot (.x (.call 7 (.cons (.var 3) (.cons (.var 6) (.cons (.var 12) .nil))) 0)) (.x (.lit .non)))) c10_16 .nil) env s) (nxt (fun e s1 => Run (gen T0 defs n) c10_17 e s1 NN EE) NN) EE := run_cons
theorem r10_15 {n : Nat} {env : En} {s : Sto} {NN : Fl → Sto → Prop} {EE : Ex → En → Sto → Prop} : WpS (SS.ev (gen T0 defs n) c10_15 env s) NN EE = Run (gen T0 defs n) c10_15 env s NN EE := run_eq
def c10_14 : SS := .cons (.set (.name 12) (.alloc (.list (.x (.var 7))))) c10_15
theorem v10_14 {n : Nat} {env : En} {s : Sto} {NN : Fl → Sto → Prop} {EE : Ex → En → Sto → Prop} : Run (gen T0 defs n) c10_14 env s NN EE = WpS (S.ev (gen T0 defs n) (.set (.name 12) (.alloc (.list (.x (.var 7))))) env s) (nxt (fun e s1 => Run (gen T0 defs n) c10_15 e s1 NN EE) NN) EE := run_cons
theorem r10_14 {n : Nat} {env : En} {s : Sto} {NN : Fl → Sto → Prop} {EE : Ex → En → Sto → Prop} : WpS (SS.ev (gen T0 defs n) c10_14 env s) NN EE = Run (gen T0 defs n) c10_14 env s NN EE := run_eq
def c10_13 : SS := .cons (.set (.name 7) (.call 6 (.cons (.var 1) (.cons (.lit (.int 9)) .nil)) 0)) c10_14
theorem v10_13 {n : Nat} {env : En} {s : Sto} {NN : Fl → Sto → Prop} {EE : Ex → En → Sto → Prop} : Run (gen T0 defs n) c10_13 env s NN EE = WpS (S.ev (gen T0 defs n) (.set (.name 7) (.call 6 (.cons (.var 1) (.cons (.lit (.int 9)) .nil)) 0)) env s) (nxt (fun e s1 => Run (gen T0 defs n) c10_14 e s1 NN EE) NN) EE := run_cons
theorem r10_13 {n : Nat} {env : En} {s : Sto} {NN : Fl → Sto → Prop} {EE : Ex → En → Sto → Prop} : WpS (SS.ev (gen T0 defs n) c10_13 env s) NN EE = Run (gen T0 defs n) c10_13 env s NN EE := run_eq
def c10_12 : SS := .cons (.set (.name 6) (.call 5 (.cons (.var 1) (.cons (.lit (.int 21)) .nil)) 0)) c10_13
theorem v10_12 {n : Nat} {env : En} {s : Sto} {NN : Fl → Sto → Prop} {EE : Ex → En → Sto → Prop} : Run (gen T0 defs n) c10_12 env s NN EE = WpS (S.ev (gen T0 defs n) (.set (.name 6) (.call 5 (.cons (.var 1) (.cons (.lit (.int 21)) .nil)) 0)) env s) (nxt (fun e s1 => Run (gen T0 defs n) c10_13 e s1 NN EE) NN) EE := run_cons
theorem r10_12 {n : Nat} {env : En} {s : Sto} {NN : Fl → Sto → Prop} {EE : Ex → En → Sto → Prop} : WpS (SS.ev (gen T0 defs n) c10_12 env s) NN EE = Run (gen T0 defs n) c10_12 env s NN EE := run_eq
def c10_26 : SS := .cons (.set (.name 8) (.bin .Add (.var 8) (.lit (.int 1)))) .nil
theorem v10_26 {n : Nat} {env : En} {s : Sto} {NN : Fl → Sto → Prop} {EE : Ex → En → Sto → Prop} : Run (gen T0 defs n) c10_26 env s NN EE = WpS (S.ev (gen T0 defs n) (.set (.name 8) (.bin .Add (.var 8) (.lit (.int 1)))) env s) (nxt (fun e s1 => NN (.nx e) s1) NN) EE := by rw [c10_26, run_cons]; simp only [run_nil]
theorem r10_26 {n : Nat} {env : En} {s : Sto} {NN : Fl → Sto → Prop} {EE : Ex → En → Sto → Prop} : WpS (SS.ev (gen T0 defs n) c10_26 env s) NN EE = Run (gen T0 defs n) c10_26 env s NN EE := run_eq
def c10_25 : SS := .cons (.set (.name 6) (.bin .Sub (.lit (.int 0)) (.lit (.int 1)))) c10_26
theorem v10_25 {n : Nat} {env : En} {s : Sto} {NN : Fl → Sto → Prop} {EE : Ex → En → Sto → Prop} : Run (gen T0 defs n) c10_25 env s NN EE = WpS (S.ev (gen T0 defs n) (.set (.name 6) (.bin .Sub (.lit (.int 0)) (.lit (.int 1)))) env s) (nxt (fun e s1 => Run (gen T0 defs n) c10_26 e s1 NN EE) NN) EE := run_cons
theorem r10_25 {n : Nat} {env : En} {s : Sto} {NN : Fl → Sto → Prop} {EE : Ex → En → Sto → Prop} : WpS (SS.ev (gen T0 defs n) c10_25 env s) NN EE = Run (gen T0 defs n) c10_25 env s NN EE := run_eq
def c10_24 : SS := .cons (.set (.name 5) (.alloc (.disp .nil))) c10_25
theorem v10_24 {n : Nat} {env : En} {s : Sto} {NN : Fl → Sto → Prop} {EE : Ex → En → Sto → Prop} : Run (gen T0 defs n) c10_24 env s NN EE = WpS (S.ev (gen T0 defs n) (.set (.name 5) (.alloc (.disp .nil))) env s) (nxt (fun e s1 => Run (gen T0 defs n) c10_25 e s1 NN EE) NN) EE := run_cons
theorem r10_24 {n : Nat} {env : En} {s : Sto} {NN : Fl → Sto → Prop} {EE : Ex → En → Sto → Prop} : WpS (SS.ev (gen T0 defs n) c10_24 env s) NN EE = Run (gen T0 defs n) c10_24 env s NN EE := run_eq
def c10_23 : SS := .cons (.expr (.meth "cut_power" 21 (.var 3) (.cons (.fr (.disp .nil)) .nil))) c10_24
theorem v10_23 {n : Nat} {env : En} {s : Sto} {NN : Fl → Sto → Prop} {EE : Ex → En → Sto → Prop} : Run (gen T0 defs n) c10_23 env s NN EE = WpS (S.ev (gen T0 defs n) (.expr (.meth "cut_power" 21 (.var 3) (.cons (.fr (.disp .nil)) .nil))) env s) (nxt (fun e s1 => Run (gen T0 defs n) c10_24 e s1 NN EE) NN) EE := run_cons
theorem r10_23 {n : Nat} {env : En} {s : Sto} {NN : Fl → Sto → Prop} {EE : Ex → En → Sto → Prop} : WpS (SS.ev (gen T0 defs n) c10_23 env s) NN EE = Run (gen T0 defs n) c10_23 env s NN EE := run_eq
def c10_29 : SS := .cons (.ret (.lit (.bl false))) .nil
theorem v10_29 {n : Nat} {env : En} {s : Sto} {NN : Fl → Sto → Prop} {EE : Ex → En → Sto → Prop} : Run (gen T0 defs n) c10_29 env s NN EE = WpS (S.ev (gen T0 defs n) (.ret (.lit (.bl false))) env s) (nxt (fun e s1 => NN (.nx e) s1) NN) EE := by rw [c10_29, run_cons]; simp only [run_nil]
theorem r10_29 {n : Nat} {env : En} {s : Sto} {NN : Fl → Sto → Prop} {EE : Ex → En → Sto → Prop} : WpS (SS.ev (gen T0 defs n) c10_29 env s) NN EE = Run (gen T0 defs n) c10_29 env s NN EE := run_eq
def c10_28 : SS := .cons (.ite (.or (.x (.cmp .NotEq (.x (.call 9 (.cons (.var 3) (.cons (.var 2) (.cons (.fr (.rep (.disp (.cons (.lit (.int 0)) .nil)) (.lit (.int 32)))) .nil))) 0)) (.x (.tup (.cons (.lit (.str "refused")) (.cons (.lit (.str "at")) .nil)))))) (.one (.x (.cmp .NotEq (.x (.call 9 (.cons (.var 3) (.cons (.lit (.int 0)) (.cons (.fr (.rep (.disp (.cons (.lit (.int 0)) .nil)) (.lit (.int 31)))) .nil))) 0)) (.x (.tup (.cons (.lit (.str "refused")) (.cons (.lit (.str "block")) .nil)))))))) c10_29 .nil) .nil
theorem v10_28 {n : Nat} {env : En} {s : Sto} {NN : Fl → Sto → Prop} {EE : Ex → En → Sto → Prop} : Run (gen T0 defs n) c10_28 env s NN EE = WpS (S.ev (gen T0 defs n) (.ite (.or (.x (.cmp .NotEq (.x (.call 9 (.cons (.var 3) (.cons (.var 2) (.cons (.fr (.rep (.disp (.cons (.lit (.int 0)) .nil)) (.lit (.int 32)))) .nil))) 0)) (.x (.tup (.cons (.lit (.str "refused")) (.cons (.lit (.str "at")) .nil)))))) (.one (.x (.cmp .NotEq (.x (.call 9 (.cons (.var 3) (.cons (.lit (.int 0)) (.cons (.fr (.rep (.disp (.cons (.lit (.int 0)) .nil)) (.lit (.int 31)))) .nil))) 0)) (.x (.tup (.cons (.lit (.str "refused")) (.cons (.lit (.str "block")) .nil)))))))) c10_29 .nil) env s) (nxt (fun e s1 => NN (.nx e) s1) NN) EE := by rw [c10_28, run_cons]; simp only [run_nil]
theorem r10_28 {n : Nat} {env : En} {s : Sto} {NN : Fl → Sto → Prop} {EE : Ex → En → Sto → Prop} : WpS (SS.ev (gen T0 defs n) c10_28 env s) NN EE = Run (gen T0 defs n) c10_28 env s NN EE := run_eq
def c10_32 : SS := .cons (.set (.name 13) (.call 5 (.cons (.var 1) (.cons (.var 2) .nil)) 0)) .nil
theorem v10_32 {n : Nat} {env : En} {s : Sto} {NN : Fl → Sto → Prop} {EE : Ex → En → Sto → Prop} : Run (gen T0 defs n) c10_32 env s NN EE = WpS (S.ev (gen T0 defs n) (.set (.name 13) (.call 5 (.cons (.var 1) (.cons (.var 2) .nil)) 0)) env s) (nxt (fun e s1 => NN (.nx e) s1) NN) EE := by rw [c10_32, run_cons]; simp only [run_nil]
theorem r10_32 {n : Nat} {env : En} {s : Sto} {NN : Fl → Sto → Prop} {EE : Ex → En → Sto → Prop} : WpS (SS.ev (gen T0 defs n) c10_32 env s) NN EE = Run (gen T0 defs n) c10_32 env s NN EE := run_eq
def c10_38 : SS := .cons (.ret (.lit (.bl false))) .nil
theorem v10_38 {n : Nat} {env : En} {s : Sto} {NN : Fl → Sto → Prop} {EE : Ex → En → Sto → Prop} : Run (gen T0 defs n) c10_38 env s NN EE = WpS (S.ev (gen T0 defs n) (.ret (.lit (.bl false))) env s) (nxt (fun e s1 => NN (.nx e) s1) NN) EE := by rw [c10_38, run_cons]; simp only [run_nil]
theorem r10_38 {n : Nat} {env : En} {s : Sto} {NN : Fl → Sto → Prop} {EE : Ex → En → Sto → Prop} : WpS (SS.ev (gen T0 defs n) c10_38 env s) NN EE = Run (gen T0 defs n) c10_38 env s NN EE := run_eq
def c10_41 : SS := .cons (.seti (.var 4) (.var 16) (.fr (.cat (.x (.fr (.sl (.x (.ix (.x (.ix (.x (.var 5)) (.var 11))) (.lit (.int 1)))) .none (.some (.ix (.x (.var 7)) (.var 11)))))) (.x (.fr (.sl (.x (.ix (.x (.var 4)) (.var 16))) (.some (.ix (.x (.var 7)) (.var 11))) .none)))))) .nil
theorem v10_41 {n : Nat} {env : En} {s : Sto} {NN : Fl → Sto → Prop} {EE : Ex → En → Sto → Prop} : Run (gen T0 defs n) c10_41 env s NN EE = WpS (S.ev (gen T0 defs n) (.seti (.var 4) (.var 16) (.fr (.cat (.x (.fr (.sl (.x (.ix (.x (.ix (.x (.var 5)) (.var 11))) (.lit (.int 1)))) .none (.some (.ix (.x (.var 7)) (.var 11)))))) (.x (.fr (.sl (.x (.ix (.x (.var 4)) (.var 16))) (.some (.ix (.x (.var 7)) (.var 11))) .none)))))) env s) (nxt (fun e s1 => NN (.nx e) s1) NN) EE := by rw [c10_41, run_cons]; simp only [run_nil]
theorem r10_41 {n : Nat} {env : En} {s : Sto} {NN : Fl → Sto → Prop} {EE : Ex → En → Sto → Prop} : WpS (SS.ev (gen T0 defs n) c10_41 env s) NN EE = Run (gen T0 defs n) c10_41 env s NN EE := run_eq
def c10_40 : SS := .cons (.set (.name 16) (.ix (.x (.ix (.x (.var 5)) (.var 11))) (.lit (.int 0)))) c10_41
theorem v10_40 {n : Nat} {env : En} {s : Sto} {NN : Fl → Sto → Prop} {EE : Ex → En → Sto → Prop} : Run (gen T0 defs n) c10_40 env s NN EE = WpS (S.ev (gen T0 defs n) (.set (.name 16) (.ix (.x (.ix (.x (.var 5)) (.var 11))) (.lit (.int 0)))) env s) (nxt (fun e s1 => Run (gen T0 defs n) c10_41 e s1 NN EE) NN) EE := run_cons
theorem r10_40 {n : Nat} {env : En} {s : Sto} {NN : Fl → Sto → Prop} {EE : Ex → En → Sto → Prop} : WpS (SS.ev (gen T0 defs n) c10_40 env s) NN EE = Run (gen T0 defs n) c10_40 env s NN EE := run_eq
def c10_44 : SS := .cons (.set (.name 8) (.bin .Add (.var 8) (.lit (.int 1)))) .nil
theorem v10_44 {n : Nat} {env : En} {s : Sto} {NN : Fl → Sto → Prop} {EE : Ex → En → Sto → Prop} : Run (gen T0 defs n) c10_44 env s NN EE = WpS (S.ev (gen T0 defs n) (.set (.name 8) (.bin .Add (.var 8) (.lit (.int 1)))) env s) (nxt (fun e s1 => NN (.nx e) s1) NN) EE := by rw [c10_44, run_cons]; simp only [run_nil]
theorem r10_44 {n : Nat} {env : En} {s : Sto} {NN : Fl → Sto → Prop} {EE : Ex → En → Sto → Prop} : WpS (SS.ev (gen T0 defs n) c10_44 env s) NN EE = Run (gen T0 defs n) c10_44 env s NN EE := run_eq
def c10_43 : SS := .cons (.set (.name 6) (.bin .Sub (.lit (.int 0)) (.lit (.int 1)))) c10_44
theorem v10_43 {n : Nat} {env : En} {s : Sto} {NN : Fl → Sto → Prop} {EE : Ex → En → Sto → Prop} : Run (gen T0 defs n) c10_43 env s NN EE = WpS (S.ev (gen T0 defs n) (.set (.name 6) (.bin .Sub (.lit (.int 0)) (.lit (.int 1)))) env s) (nxt (fun e s1 => Run (gen T0 defs n) c10_44 e s1 NN EE) NN) EE := run_cons
theorem r10_43 {n : Nat} {env : En} {s : Sto} {NN : Fl → Sto → Prop} {EE : Ex → En → Sto → Prop} : WpS (SS.ev (gen T0 defs n) c10_43 env s) NN EE = Run (gen T0 defs n) c10_43 env s NN EE := run_eq
def c10_42 : SS := .cons (.set (.name 5) (.alloc (.disp .nil))) c10_43
theorem v10_42 {n : Nat} {env : En} {s : Sto} {NN : Fl → Sto → Prop} {EE : Ex → En → Sto → Prop} : Run (gen T0 defs n) c10_42 env s NN EE = WpS (S.ev (gen T0 defs n) (.set (.name 5) (.alloc (.disp .nil))) env s) (nxt (fun e s1 => Run (gen T0 defs n) c10_43 e s1 NN EE) NN) EE := run_cons
theorem r10_42 {n : Nat} {env : En} {s : Sto} {NN : Fl → Sto → Prop} {EE : Ex → En → Sto → Prop} : WpS (SS.ev (gen T0 defs n) c10_42 env s) NN EE = Run (gen T0 defs n) c10_42 env s NN EE := run_eq
def c10_39 : SS := .cons (.for (.name 11) (.rng1 (.b2 .min (.x (.b1 .len (.x (.var 7)))) (.b1 .len (.x (.var 5))))) c10_40) c10_42
theorem v10_39 {n : Nat} {env : En} {s : Sto} {NN : Fl → Sto → Prop} {EE : Ex → En → Sto → Prop} : Run (gen T0 defs n) c10_39 env s NN EE = WpS (S.ev (gen T0 defs n) (.for (.name 11) (.rng1 (.b2 .min (.x (.b1 .len (.x (.var 7)))) (.b1 .len (.x (.var 5))))) c10_40) env s) (nxt (fun e s1 => Run (gen T0 defs n) c10_42 e s1 NN EE) NN) EE := run_cons
theorem r10_39 {n : Nat} {env : En} {s : Sto} {NN : Fl → Sto → Prop} {EE : Ex → En → Sto → Prop} : WpS (SS.ev (gen T0 defs n) c10_39 env s) NN EE = Run (gen T0 defs n) c10_39 env s NN EE := run_eq
def c10_37 : SS := .cons (.ite (.x (.cmp .NotEq (.x (.var 15)) (.x (.tup (.cons (.lit (.str "refused")) (.cons (.lit (.str "cut")) .nil)))))) c10_38 .nil) c10_39
theorem v10_37 {n : Nat} {env : En} {s : Sto} {NN : Fl → Sto → Prop} {EE : Ex → En → Sto → Prop} : Run (gen T0 defs n) c10_37 env s NN EE = WpS (S.ev (gen T0 defs n) (.ite (.x (.cmp .NotEq (.x (.var 15)) (.x (.tup (.cons (.lit (.str "refused")) (.cons (.lit (.str "cut")) .nil)))))) c10_38 .nil) env s) (nxt (fun e s1 => Run (gen T0 defs n) c10_39 e s1 NN EE) NN) EE := run_cons
theorem r10_37 {n : Nat} {env : En} {s : Sto} {NN : Fl → Sto → Prop} {EE : Ex → En → Sto → Prop} : WpS (SS.ev (gen T0 defs n) c10_37 env s) NN EE = Run (gen T0 defs n) c10_37 env s NN EE := run_eq
def c10_46 : SS := .cons (.ret (.lit (.bl false))) .nil
theorem v10_46 {n : Nat} {env : En} {s : Sto} {NN : Fl → Sto → Prop} {EE : Ex → En → Sto → Prop} : Run (gen T0 defs n) c10_46 env s NN EE = WpS (S.ev (gen T0 defs n) (.ret (.lit (.bl false))) env s) (nxt (fun e s1 => NN (.nx e) s1) NN) EE := by rw [c10_46, run_cons]; simp only [run_nil]
theorem r10_46 {n : Nat} {env : En} {s : Sto} {NN : Fl → Sto → Prop} {EE : Ex → En → Sto → Prop} : WpS (SS.ev (gen T0 defs n) c10_46 env s) NN EE = Run (gen T0 defs n) c10_46 env s NN EE := run_eq
def c10_48 : SS := .cons (.set (.name 6) (.bin .Sub (.var 6) (.lit (.int 1)))) .nil
theorem v10_48 {n : Nat} {env : En} {s : Sto} {NN : Fl → Sto → Prop} {EE : Ex → En → Sto → Prop} : Run (gen T0 defs n) c10_48 env s NN EE = WpS (S.ev (gen T0 defs n) (.set (.name 6) (.bin .Sub (.var 6) (.lit (.int 1)))) env s) (nxt (fun e s1 => NN (.nx e) s1) NN) EE := by rw [c10_48, run_cons]; simp only [run_nil]
theorem r10_48 {n : Nat} {env : En} {s : Sto} {NN : Fl → Sto → Prop} {EE : Ex → En → Sto → Prop} : WpS (SS.ev (gen T0 defs n) c10_48 env s) NN EE = Run (gen T0 defs n) c10_48 env s NN EE := run_eq
def c10_51 : SS := .cons (.seti (.var 4) (.ix (.x (.var 17)) (.lit (.int 0))) (.ix (.x (.var 17)) (.lit (.int 1)))) .nil
theorem v10_51 {n : Nat} {env : En} {s : Sto} {NN : Fl → Sto → Prop} {EE : Ex → En → Sto → Prop} : Run (gen T0 defs n) c10_51 env s NN EE = WpS (S.ev (gen T0 defs n) (.seti (.var 4) (.ix (.x (.var 17)) (.lit (.int 0))) (.ix (.x (.var 17)) (.lit (.int 1)))) env s) (nxt (fun e s1 => NN (.nx e) s1) NN) EE := by rw [c10_51, run_cons]; simp only [run_nil]
theorem r10_51 {n : Nat} {env : En} {s : Sto} {NN : Fl → Sto → Prop} {EE : Ex → En → Sto → Prop} : WpS (SS.ev (gen T0 defs n) c10_51 env s) NN EE = Run (gen T0 defs n) c10_51 env s NN EE := run_eq
def c10_52 : SS := .cons (.set (.name 5) (.alloc (.disp .nil))) .nil
theorem v10_52 {n : Nat} {env : En} {s : Sto} {NN : Fl → Sto → Prop} {EE : Ex → En → Sto → Prop} : Run (gen T0 defs n) c10_52 env s NN EE = WpS (S.ev (gen T0 defs n) (.set (.name 5) (.alloc (.disp .nil))) env s) (nxt (fun e s1 => NN (.nx e) s1) NN) EE := by rw [c10_52, run_cons]; simp only [run_nil]
theorem r10_52 {n : Nat} {env : En} {s : Sto} {NN : Fl → Sto → Prop} {EE : Ex → En → Sto → Prop} : WpS (SS.ev (gen T0 defs n) c10_52 env s) NN EE = Run (gen T0 defs n) c10_52 env s NN EE := run_eq
def c10_50 : SS := .cons (.forO (.name 17) false (.var 5) c10_51) c10_52
theorem v10_50 {n : Nat} {env : En} {s : Sto} {NN : Fl → Sto → Prop} {EE : Ex → En → Sto → Prop} : Run (gen T0 defs n) c10_50 env s NN EE = WpS (S.ev (gen T0 defs n) (.forO (.name 17) false (.var 5) c10_51) env s) (nxt (fun e s1 => Run (gen T0 defs n) c10_52 e s1 NN EE) NN) EE := run_cons
theorem r10_50 {n : Nat} {env : En} {s : Sto} {NN : Fl → Sto → Prop} {EE : Ex → En → Sto → Prop} : WpS (SS.ev (gen T0 defs n) c10_50 env s) NN EE = Run (gen T0 defs n) c10_50 env s NN EE := run_eq
def c10_53 : SS := .cons (.oapp (.var 5) (.fr (.disp (.cons (.var 13) (.cons (.var 14) .nil))))) .nil
theorem v10_53 {n : Nat} {env : En} {s : Sto} {NN : Fl → Sto → Prop} {EE : Ex → En → Sto → Prop} : Run (gen T0 defs n) c10_53 env s NN EE = WpS (S.ev (gen T0 defs n) (.oapp (.var 5) (.fr (.disp (.cons (.var 13) (.cons (.var 14) .nil))))) env s) (nxt (fun e s1 => NN (.nx e) s1) NN) EE := by rw [c10_53, run_cons]; simp only [run_nil]
theorem r10_53 {n : Nat} {env : En} {s : Sto} {NN : Fl → Sto → Prop} {EE : Ex → En → Sto → Prop} : WpS (SS.ev (gen T0 defs n) c10_53 env s) NN EE = Run (gen T0 defs n) c10_53 env s NN EE := run_eq
def c10_49 : SS := .cons (.ite (.x (.cmp .Eq (.x (.var 13)) (.x (.bin .Sub (.lit (.int 0)) (.lit (.int 1)))))) c10_50 c10_53) .nil
theorem v10_49 {n : Nat} {env : En} {s : Sto} {NN : Fl → Sto → Prop} {EE : Ex → En → Sto → Prop} : Run (gen T0 defs n) c10_49 env s NN EE = WpS (S.ev (gen T0 defs n) (.ite (.x (.cmp .Eq (.x (.var 13)) (.x (.bin .Sub (.lit (.int 0)) (.lit (.int 1)))))) c10_50 c10_53) env s) (nxt (fun e s1 => NN (.nx e) s1) NN) EE := by rw [c10_49, run_cons]; simp only [run_nil]
theorem r10_49 {n : Nat} {env : En} {s : Sto} {NN : Fl → Sto → Prop} {EE : Ex → En → Sto → Prop} : WpS (SS.ev (gen T0 defs n) c10_49 env s) NN EE = Run (gen T0 defs n) c10_49 env s NN EE := run_eq
def c10_47 : SS := .cons (.ite (.x (.cmp .Gt (.x (.var 6)) (.x (.lit (.int 0))))) c10_48 .nil) c10_49
theorem v10_47 {n : Nat} {env : En} {s : Sto} {NN : Fl → Sto → Prop} {EE : Ex → En → Sto → Prop} : Run (gen T0 defs n) c10_47 env s NN EE = WpS (S.ev (gen T0 defs n) (.ite (.x (.cmp .Gt (.x (.var 6)) (.x (.lit (.int 0))))) c10_48 .nil) env s) (nxt (fun e s1 => Run (gen T0 defs n) c10_49 e s1 NN EE) NN) EE := run_cons
theorem r10_47 {n : Nat} {env : En} {s : Sto} {NN : Fl → Sto → Prop} {EE : Ex → En → Sto → Prop} : WpS (SS.ev (gen T0 defs n) c10_47 env s) NN EE = Run (gen T0 defs n) c10_47 env s NN EE := run_eq
def c10_45 : SS := .cons (.ite (.x (.cmp .IsNot (.x (.var 15)) (.x (.lit .non)))) c10_46 .nil) c10_47
theorem v10_45 {n : Nat} {env : En} {s : Sto} {NN : Fl → Sto → Prop} {EE : Ex → En → Sto → Prop} : Run (gen T0 defs n) c10_45 env s NN EE = WpS (S.ev (gen T0 defs n) (.ite (.x (.cmp .IsNot (.x (.var 15)) (.x (.lit .non)))) c10_46 .nil) env s) (nxt (fun e s1 => Run (gen T0 defs n) c10_47 e s1 NN EE) NN) EE := run_cons
theorem r10_45 {n : Nat} {env : En} {s : Sto} {NN : Fl → Sto → Prop} {EE : Ex → En → Sto → Prop} : WpS (SS.ev (gen T0 defs n) c10_45 env s) NN EE = Run (gen T0 defs n) c10_45 env s NN EE := run_eq
def c10_36 : SS := .cons (.ite (.x (.cmp .Eq (.x (.var 6)) (.x (.lit (.int 0))))) c10_37 c10_45) .nil
theorem v10_36 {n : Nat} {env : En} {s : Sto} {NN : Fl → Sto → Prop} {EE : Ex → En → Sto → Prop} : Run (gen T0 defs n) c10_36 env s NN EE = WpS (S.ev (gen T0 defs n) (.ite (.x (.cmp .Eq (.x (.var 6)) (.x (.lit (.int 0))))) c10_37 c10_45) env s) (nxt (fun e s1 => NN (.nx e) s1) NN) EE := by rw [c10_36, run_cons]; simp only [run_nil]
theorem r10_36 {n : Nat} {env : En} {s : Sto} {NN : Fl → Sto → Prop} {EE : Ex → En → Sto → Prop} : WpS (SS.ev (gen T0 defs n) c10_36 env s) NN EE = Run (gen T0 defs n) c10_36 env s NN EE := run_eq
def c10_35 : SS := .fin 14 c10_36
theorem v10_35 {n : Nat} {env : En} {s : Sto} {NN : Fl → Sto → Prop} {EE : Ex → En → Sto → Prop} : Run (gen T0 defs n) c10_35 env s NN EE = wo (env.own 14) fun ds => wset env 14 (.val (.lst ds)) fun e => Run (gen T0 defs n) c10_36 e s NN EE := run_fin
theorem r10_35 {n : Nat} {env : En} {s : Sto} {NN : Fl → Sto → Prop} {EE : Ex → En → Sto → Prop} : WpS (SS.ev (gen T0 defs n) c10_35 env s) NN EE = Run (gen T0 defs n) c10_35 env s NN EE := run_eq
def c10_34 : SS := .cons (.set (.name 15) (.call 9 (.cons (.var 3) (.cons (.var 13) (.cons (.fr (.list (.own 14))) .nil))) 0)) c10_35
theorem v10_34 {n : Nat} {env : En} {s : Sto} {NN : Fl → Sto → Prop} {EE : Ex → En → Sto → Prop} : Run (gen T0 defs n) c10_34 env s NN EE = WpS (S.ev (gen T0 defs n) (.set (.name 15) (.call 9 (.cons (.var 3) (.cons (.var 13) (.cons (.fr (.list (.own 14))) .nil))) 0)) env s) (nxt (fun e s1 => Run (gen T0 defs n) c10_35 e s1 NN EE) NN) EE := run_cons
theorem r10_34 {n : Nat} {env : En} {s : Sto} {NN : Fl → Sto → Prop} {EE : Ex → En → Sto → Prop} : WpS (SS.ev (gen T0 defs n) c10_34 env s) NN EE = Run (gen T0 defs n) c10_34 env s NN EE := run_eq
def c10_33 : SS := .cons (.own 14 (.comp (.name 11) (.rng1 (.lit (.int 32))) .none (.bin .Add (.lit (.int 1)) (.call 5 (.cons (.var 1) (.cons (.lit (.int 255)) .nil)) 0)))) c10_34
theorem v10_33 {n : Nat} {env : En} {s : Sto} {NN : Fl → Sto → Prop} {EE : Ex → En → Sto → Prop} : Run (gen T0 defs n) c10_33 env s NN EE = WpS (S.ev (gen T0 defs n) (.own 14 (.comp (.name 11) (.rng1 (.lit (.int 32))) .none (.bin .Add (.lit (.int 1)) (.call 5 (.cons (.var 1) (.cons (.lit (.int 255)) .nil)) 0)))) env s) (nxt (fun e s1 => Run (gen T0 defs n) c10_34 e s1 NN EE) NN) EE := run_cons
theorem r10_33 {n : Nat} {env : En} {s : Sto} {NN : Fl → Sto → Prop} {EE : Ex → En → Sto → Prop} : WpS (SS.ev (gen T0 defs n) c10_33 env s) NN EE = Run (gen T0 defs n) c10_33 env s NN EE := run_eq
def c10_31 : SS := .cons (.ite (.x (.cmp .Gt (.x (.var 10)) (.x (.lit (.int 4))))) c10_32 .nil) c10_33
theorem v10_31 {n : Nat} {env : En} {s : Sto} {NN : Fl → Sto → Prop} {EE : Ex → En → Sto → Prop} : Run (gen T0 defs n) c10_31 env s NN EE = WpS (S.ev (gen T0 defs n) (.ite (.x (.cmp .Gt (.x (.var 10)) (.x (.lit (.int 4))))) c10_32 .nil) env s) (nxt (fun e s1 => Run (gen T0 defs n) c10_33 e s1 NN EE) NN) EE := run_cons
theorem r10_31 {n : Nat} {env : En} {s : Sto} {NN : Fl → Sto → Prop} {EE : Ex → En → Sto → Prop} : WpS (SS.ev (gen T0 defs n) c10_31 env s) NN EE = Run (gen T0 defs n) c10_31 env s NN EE := run_eq
def c10_30 : SS := .cons (.set (.name 13) (.bin .Sub (.lit (.int 0)) (.lit (.int 1)))) c10_31
theorem v10_30 {n : Nat} {env : En} {s : Sto} {NN : Fl → Sto → Prop} {EE : Ex → En → Sto → Prop} : Run (gen T0 defs n) c10_30 env s NN EE = WpS (S.ev (gen T0 defs n) (.set (.name 13) (.bin .Sub (.lit (.int 0)) (.lit (.int 1)))) env s) (nxt (fun e s1 => Run (gen T0 defs n) c10_31 e s1 NN EE) NN) EE := run_cons
theorem r10_30 {n : Nat} {env : En} {s : Sto} {NN : Fl → Sto → Prop} {EE : Ex → En → Sto → Prop} : WpS (SS.ev (gen T0 defs n) c10_30 env s) NN EE = Run (gen T0 defs n) c10_30 env s NN EE := run_eq
def c10_27 : SS := .cons (.ite (.x (.cmp .Eq (.x (.var 10)) (.x (.lit (.int 2))))) c10_28 c10_30) .nil
theorem v10_27 {n : Nat} {env : En} {s : Sto} {NN : Fl → Sto → Prop} {EE : Ex → En → Sto → Prop} : Run (gen T0 defs n) c10_27 env s NN EE = WpS (S.ev (gen T0 defs n) (.ite (.x (.cmp .Eq (.x (.var 10)) (.x (.lit (.int 2))))) c10_28 c10_30) env s) (nxt (fun e s1 => NN (.nx e) s1) NN) EE := by rw [c10_27, run_cons]; simp only [run_nil]
theorem r10_27 {n : Nat} {env : En} {s : Sto} {NN : Fl → Sto → Prop} {EE : Ex → En → Sto → Prop} : WpS (SS.ev (gen T0 defs n) c10_27 env s) NN EE = Run (gen T0 defs n) c10_27 env s NN EE := run_eq
def c10_22 : SS := .cons (.ite (.and (.x (.cmp .Eq (.x (.var 10)) (.x (.lit (.int 1))))) (.one (.x (.cmp .Eq (.x (.call 5 (.cons (.var 1) (.cons (.lit (.int 4)) .nil)) 0)) (.x (.lit (.int 0))))))) c10_23 c10_27) .nil
theorem v10_22 {n : Nat} {env : En} {s : Sto} {NN : Fl → Sto → Prop} {EE : Ex → En → Sto → Prop} : Run (gen T0 defs n) c10_22 env s NN EE = WpS (S.ev (gen T0 defs n) (.ite (.and (.x (.cmp .Eq (.x (.var 10)) (.x (.lit (.int 1))))) (.one (.x (.cmp .Eq (.x (.call 5 (.cons (.var 1) (.cons (.lit (.int 4)) .nil)) 0)) (.x (.lit (.int 0))))))) c10_23 c10_27) env s) (nxt (fun e s1 => NN (.nx e) s1) NN) EE := by rw [c10_22, run_cons]; simp only [run_nil]
theorem r10_22 {n : Nat} {env : En} {s : Sto} {NN : Fl → Sto → Prop} {EE : Ex → En → Sto → Prop} : WpS (SS.ev (gen T0 defs n) c10_22 env s) NN EE = Run (gen T0 defs n) c10_22 env s NN EE := run_eq
def c10_55 : SS := .cons (.ret (.lit (.bl false))) .nil
theorem v10_55 {n : Nat} {env : En} {s : Sto} {NN : Fl → Sto → Prop} {EE : Ex → En → Sto → Prop} : Run (gen T0 defs n) c10_55 env s NN EE = WpS (S.ev (gen T0 defs n) (.ret (.lit (.bl false))) env s) (nxt (fun e s1 => NN (.nx e) s1) NN) EE := by rw [c10_55, run_cons]; simp only [run_nil]
theorem r10_55 {n : Nat} {env : En} {s : Sto} {NN : Fl → Sto → Prop} {EE : Ex → En → Sto → Prop} : WpS (SS.ev (gen T0 defs n) c10_55 env s) NN EE = Run (gen T0 defs n) c10_55 env s NN EE := run_eq
def c10_54 : SS := .cons (.ite (.or (.x (.cmp .NotEq (.x (.meth "pending_count" 19 (.var 3) .nil)) (.x (.b1 .len (.x (.var 5)))))) (.one (.x (.cmp .NotEq (.x (.meth "cut_count" 20 (.var 3) .nil)) (.x (.var 8)))))) c10_55 .nil) .nil
theorem v10_54 {n : Nat} {env : En} {s : Sto} {NN : Fl → Sto → Prop} {EE : Ex → En → Sto → Prop} : Run (gen T0 defs n) c10_54 env s NN EE = WpS (S.ev (gen T0 defs n) (.ite (.or (.x (.cmp .NotEq (.x (.meth "pending_count" 19 (.var 3) .nil)) (.x (.b1 .len (.x (.var 5)))))) (.one (.x (.cmp .NotEq (.x (.meth "cut_count" 20 (.var 3) .nil)) (.x (.var 8)))))) c10_55 .nil) env s) (nxt (fun e s1 => NN (.nx e) s1) NN) EE := by rw [c10_54, run_cons]; simp only [run_nil]
theorem r10_54 {n : Nat} {env : En} {s : Sto} {NN : Fl → Sto → Prop} {EE : Ex → En → Sto → Prop} : WpS (SS.ev (gen T0 defs n) c10_54 env s) NN EE = Run (gen T0 defs n) c10_54 env s NN EE := run_eq
def c10_11 : SS := .cons (.ite (.or (.x (.cmp .Eq (.x (.var 10)) (.x (.lit (.int 0))))) (.one (.x (.cmp .Eq (.x (.var 9)) (.x (.lit (.int 0))))))) c10_12 c10_22) c10_54
theorem v10_11 {n : Nat} {env : En} {s : Sto} {NN : Fl → Sto → Prop} {EE : Ex → En → Sto → Prop} : Run (gen T0 defs n) c10_11 env s NN EE = WpS (S.ev (gen T0 defs n) (.ite (.or (.x (.cmp .Eq (.x (.var 10)) (.x (.lit (.int 0))))) (.one (.x (.cmp .Eq (.x (.var 9)) (.x (.lit (.int 0))))))) c10_12 c10_22) env s) (nxt (fun e s1 => Run (gen T0 defs n) c10_54 e s1 NN EE) NN) EE := run_cons
theorem r10_11 {n : Nat} {env : En} {s : Sto} {NN : Fl → Sto → Prop} {EE : Ex → En → Sto → Prop} : WpS (SS.ev (gen T0 defs n) c10_11 env s) NN EE = Run (gen T0 defs n) c10_11 env s NN EE := run_eq
def c10_10 : SS := .cons (.set (.name 10) (.call 5 (.cons (.var 1) (.cons (.lit (.int 10)) .nil)) 0)) c10_11
theorem v10_10 {n : Nat} {env : En} {s : Sto} {NN : Fl → Sto → Prop} {EE : Ex → En → Sto → Prop} : Run (gen T0 defs n) c10_10 env s NN EE = WpS (S.ev (gen T0 defs n) (.set (.name 10) (.call 5 (.cons (.var 1) (.cons (.lit (.int 10)) .nil)) 0)) env s) (nxt (fun e s1 => Run (gen T0 defs n) c10_11 e s1 NN EE) NN) EE := run_cons
theorem r10_10 {n : Nat} {env : En} {s : Sto} {NN : Fl → Sto → Prop} {EE : Ex → En → Sto → Prop} : WpS (SS.ev (gen T0 defs n) c10_10 env s) NN EE = Run (gen T0 defs n) c10_10 env s NN EE := run_eq
def c10_57 : SS := .cons (.ret (.cmpo .Eq (.x (.fr (.comp (.name 13) (.rng1 (.var 2)) .none (.meth "read" 14 (.var 3) (.cons (.var 13) .nil))))) (.x (.var 4)))) .nil
theorem v10_57 {n : Nat} {env : En} {s : Sto} {NN : Fl → Sto → Prop} {EE : Ex → En → Sto → Prop} : Run (gen T0 defs n) c10_57 env s NN EE = WpS (S.ev (gen T0 defs n) (.ret (.cmpo .Eq (.x (.fr (.comp (.name 13) (.rng1 (.var 2)) .none (.meth "read" 14 (.var 3) (.cons (.var 13) .nil))))) (.x (.var 4)))) env s) (nxt (fun e s1 => NN (.nx e) s1) NN) EE := by rw [c10_57, run_cons]; simp only [run_nil]
theorem r10_57 {n : Nat} {env : En} {s : Sto} {NN : Fl → Sto → Prop} {EE : Ex → En → Sto → Prop} : WpS (SS.ev (gen T0 defs n) c10_57 env s) NN EE = Run (gen T0 defs n) c10_57 env s NN EE := run_eq
def c10_56 : SS := .cons (.expr (.meth "cut_power" 21 (.var 3) (.cons (.fr (.disp .nil)) .nil))) c10_57
theorem v10_56 {n : Nat} {env : En} {s : Sto} {NN : Fl → Sto → Prop} {EE : Ex → En → Sto → Prop} : Run (gen T0 defs n) c10_56 env s NN EE = WpS (S.ev (gen T0 defs n) (.expr (.meth "cut_power" 21 (.var 3) (.cons (.fr (.disp .nil)) .nil))) env s) (nxt (fun e s1 => Run (gen T0 defs n) c10_57 e s1 NN EE) NN) EE := run_cons
theorem r10_56 {n : Nat} {env : En} {s : Sto} {NN : Fl → Sto → Prop} {EE : Ex → En → Sto → Prop} : WpS (SS.ev (gen T0 defs n) c10_56 env s) NN EE = Run (gen T0 defs n) c10_56 env s NN EE := run_eq
def c10_9 : SS := .cons (.for (.name 9) (.rng1 (.lit (.int 40))) c10_10) c10_56
theorem v10_9 {n : Nat} {env : En} {s : Sto} {NN : Fl → Sto → Prop} {EE : Ex → En → Sto → Prop} : Run (gen T0 defs n) c10_9 env s NN EE = WpS (S.ev (gen T0 defs n) (.for (.name 9) (.rng1 (.lit (.int 40))) c10_10) env s) (nxt (fun e s1 => Run (gen T0 defs n) c10_56 e s1 NN EE) NN) EE := run_cons
theorem r10_9 {n : Nat} {env : En} {s : Sto} {NN : Fl → Sto → Prop} {EE : Ex → En → Sto → Prop} : WpS (SS.ev (gen T0 defs n) c10_9 env s) NN EE = Run (gen T0 defs n) c10_9 env s NN EE := run_eq
def c10_8 : SS := .cons (.set (.name 8) (.lit (.int 0))) c10_9
theorem v10_8 {n : Nat} {env : En} {s : Sto} {NN : Fl → Sto → Prop} {EE : Ex → En → Sto → Prop} : Run (gen T0 defs n) c10_8 env s NN EE = WpS (S.ev (gen T0 defs n) (.set (.name 8) (.lit (.int 0))) env s) (nxt (fun e s1 => Run (gen T0 defs n) c10_9 e s1 NN EE) NN) EE := run_cons
theorem r10_8 {n : Nat} {env : En} {s : Sto} {NN : Fl → Sto → Prop} {EE : Ex → En → Sto → Prop} : WpS (SS.ev (gen T0 defs n) c10_8 env s) NN EE = Run (gen T0 defs n) c10_8 env s NN EE := run_eq
def c10_7 : SS := .cons (.set (.name 7) (.fr (.disp .nil))) c10_8
theorem v10_7 {n : Nat} {env : En} {s : Sto} {NN : Fl → Sto → Prop} {EE : Ex → En → Sto → Prop} : Run (gen T0 defs n) c10_7 env s NN EE = WpS (S.ev (gen T0 defs n) (.set (.name 7) (.fr (.disp .nil))) env s) (nxt (fun e s1 => Run (gen T0 defs n) c10_8 e s1 NN EE) NN) EE := run_cons
theorem r10_7 {n : Nat} {env : En} {s : Sto} {NN : Fl → Sto → Prop} {EE : Ex → En → Sto → Prop} : WpS (SS.ev (gen T0 defs n) c10_7 env s) NN EE = Run (gen T0 defs n) c10_7 env s NN EE := run_eq
def c10_6 : SS := .cons (.set (.name 6) (.bin .Sub (.lit (.int 0)) (.lit (.int 1)))) c10_7
theorem v10_6 {n : Nat} {env : En} {s : Sto} {NN : Fl → Sto → Prop} {EE : Ex → En → Sto → Prop} : Run (gen T0 defs n) c10_6 env s NN EE = WpS (S.ev (gen T0 defs n) (.set (.name 6) (.bin .Sub (.lit (.int 0)) (.lit (.int 1)))) env s) (nxt (fun e s1 => Run (gen T0 defs n) c10_7 e s1 NN EE) NN) EE := run_cons
theorem r10_6 {n : Nat} {env : En} {s : Sto} {NN : Fl → Sto → Prop} {EE : Ex → En → Sto → Prop} : WpS (SS.ev (gen T0 defs n) c10_6 env s) NN EE = Run (gen T0 defs n) c10_6 env s NN EE := run_eq
def c10_5 : SS := .cons (.set (.name 5) (.alloc (.disp .nil))) c10_6
theorem v10_5 {n : Nat} {env : En} {s : Sto} {NN : Fl → Sto → Prop} {EE : Ex → En → Sto → Prop} : Run (gen T0 defs n) c10_5 env s NN EE = WpS (S.ev (gen T0 defs n) (.set (.name 5) (.alloc (.disp .nil))) env s) (nxt (fun e s1 => Run (gen T0 defs n) c10_6 e s1 NN EE) NN) EE := run_cons
theorem r10_5 {n : Nat} {env : En} {s : Sto} {NN : Fl → Sto → Prop} {EE : Ex → En → Sto → Prop} : WpS (SS.ev (gen T0 defs n) c10_5 env s) NN EE = Run (gen T0 defs n) c10_5 env s NN EE := run_eq
def c10_4 : SS := .finO 4 c10_5
theorem v10_4 {n : Nat} {env : En} {s : Sto} {NN : Fl → Sto → Prop} {EE : Ex → En → Sto → Prop} : Run (gen T0 defs n) c10_4 env s NN EE = wo (env.own 4) fun ds => wset env 4 (.val (.obj s.length)) fun e => Run (gen T0 defs n) c10_5 e (s ++ [.lst ds]) NN EE := run_finO
theorem r10_4 {n : Nat} {env : En} {s : Sto} {NN : Fl → Sto → Prop} {EE : Ex → En → Sto → Prop} : WpS (SS.ev (gen T0 defs n) c10_4 env s) NN EE = Run (gen T0 defs n) c10_4 env s NN EE := run_eq
def c10_3 : SS := .cons (.own 4 (.comp (.name 11) (.rng1 (.var 2)) .none (.fr (.rep (.disp (.cons (.lit (.int 0)) .nil)) (.lit (.int 32)))))) c10_4
theorem v10_3 {n : Nat} {env : En} {s : Sto} {NN : Fl → Sto → Prop} {EE : Ex → En → Sto → Prop} : Run (gen T0 defs n) c10_3 env s NN EE = WpS (S.ev (gen T0 defs n) (.own 4 (.comp (.name 11) (.rng1 (.var 2)) .none (.fr (.rep (.disp (.cons (.lit (.int 0)) .nil)) (.lit (.int 32)))))) env s) (nxt (fun e s1 => Run (gen T0 defs n) c10_4 e s1 NN EE) NN) EE := run_cons
theorem r10_3 {n : Nat} {env : En} {s : Sto} {NN : Fl → Sto → Prop} {EE : Ex → En → Sto → Prop} : WpS (SS.ev (gen T0 defs n) c10_3 env s) NN EE = Run (gen T0 defs n) c10_3 env s NN EE := run_eq
def c10_2 : SS := .cons (.set (.name 3) (.mk 3 (.cons (.var 2) .nil) 0)) c10_3
theorem v10_2 {n : Nat} {env : En} {s : Sto} {NN : Fl → Sto → Prop} {EE : Ex → En → Sto → Prop} : Run (gen T0 defs n) c10_2 env s NN EE = WpS (S.ev (gen T0 defs n) (.set (.name 3) (.mk 3 (.cons (.var 2) .nil) 0)) env s) (nxt (fun e s1 => Run (gen T0 defs n) c10_3 e s1 NN EE) NN) EE := run_cons
theorem r10_2 {n : Nat} {env : En} {s : Sto} {NN : Fl → Sto → Prop} {EE : Ex → En → Sto → Prop} : WpS (SS.ev (gen T0 defs n) c10_2 env s) NN EE = Run (gen T0 defs n) c10_2 env s NN EE := run_eq
def c10_1 : SS := .cons (.set (.name 2) (.bin .Add (.lit (.int 8)) (.call 5 (.cons (.var 1) (.cons (.lit (.int 4)) .nil)) 0))) c10_2
theorem v10_1 {n : Nat} {env : En} {s : Sto} {NN : Fl → Sto → Prop} {EE : Ex → En → Sto → Prop} : Run (gen T0 defs n) c10_1 env s NN EE = WpS (S.ev (gen T0 defs n) (.set (.name 2) (.bin .Add (.lit (.int 8)) (.call 5 (.cons (.var 1) (.cons (.lit (.int 4)) .nil)) 0))) env s) (nxt (fun e s1 => Run (gen T0 defs n) c10_2 e s1 NN EE) NN) EE := run_cons
theorem r10_1 {n : Nat} {env : En} {s : Sto} {NN : Fl → Sto → Prop} {EE : Ex → En → Sto → Prop} : WpS (SS.ev (gen T0 defs n) c10_1 env s) NN EE = Run (gen T0 defs n) c10_1 env s NN EE := run_eq
def c10_0 : SS := .cons (.set (.name 1) (.alloc (.disp (.cons (.call 4 (.cons (.var 0) (.cons (.lit (.int 0)) (.cons (.lit (.int 63)) .nil))) 0) (.cons (.lit (.int 0)) .nil))))) c10_1
theorem v10_0 {n : Nat} {env : En} {s : Sto} {NN : Fl → Sto → Prop} {EE : Ex → En → Sto → Prop} : Run (gen T0 defs n) c10_0 env s NN EE = WpS (S.ev (gen T0 defs n) (.set (.name 1) (.alloc (.disp (.cons (.call 4 (.cons (.var 0) (.cons (.lit (.int 0)) (.cons (.lit (.int 63)) .nil))) 0) (.cons (.lit (.int 0)) .nil))))) env s) (nxt (fun e s1 => Run (gen T0 defs n) c10_1 e s1 NN EE) NN) EE := run_cons
theorem r10_0 {n : Nat} {env : En} {s : Sto} {NN : Fl → Sto → Prop} {EE : Ex → En → Sto → Prop} : WpS (SS.ev (gen T0 defs n) c10_0 env s) NN EE = Run (gen T0 defs n) c10_0 env s NN EE := run_eq
theorem h10 {n : Nat} {x0 : Fx.D} {s : Sto} {Q : Fx.D → Sto → Prop} {E : Ex → Sto → Prop} : Wp ((gen T0 defs (n + 1)).call 10 [x0] s) Q E = Run (gen T0 defs n) c10_0 [.val x0, .no, .no, .no, .no, .no, .no, .no, .no, .no, .no, .no, .no, .no, .no, .no, .no, .no] s (endN Q) (fun e _ s1 => E e s1) := (w_def (d := d10) rfl rfl rfl).trans run_eq
theorem f11 {n : Nat} {x0 x1 : Fx.D} {s : Sto} {Q : Fx.D → Sto → Prop} {E : Ex → Sto → Prop} : Wp ((gen T0 defs (n + 1)).call 11 [x0, x1] s) Q E = WpS (SS.ev (gen T0 defs n) (.cons (.ite (.not (.x (.chain .LtE .LtE (.con "BLOCKS_LEAST") (.var 1) (.con "BLOCKS_MOST")))) (.cons (.raise 1 (.cons (.lit (.str "blocks")) .nil))
      .nil) .nil)
      (.cons (.setf (.var 0) "_blocks" (.alloc (.comp (.name 2) (.rng1 (.var 1)) .none (.fr (.rep (.disp (.cons (.lit (.int 0)) .nil)) (.con "BLOCK"))))))
      (.cons (.setf (.var 0) "_pending" (.alloc (.disp .nil)))
      (.cons (.setf (.var 0) "_cuts" (.lit (.int 0)))
      (.cons (.setf (.var 0) "_left" (.lit .non))
      (.cons (.setf (.var 0) "_torn" (.fr (.disp .nil)))
      .nil)))))) [.val x0, .val x1, .no] s) (endN Q) (fun e _ s1 => E e s1) := w_def (d := d11) rfl rfl rfl
theorem z11 : T0.dv 11 0 = [] := rfl
def c11_1 : SS := .cons (.raise 1 (.cons (.lit (.str "blocks")) .nil)) .nil
theorem v11_1 {n : Nat} {env : En} {s : Sto} {NN : Fl → Sto → Prop} {EE : Ex → En → Sto → Prop} : Run (gen T0 defs n) c11_1 env s NN EE = WpS (S.ev (gen T0 defs n) (.raise 1 (.cons (.lit (.str "blocks")) .nil)) env s) (nxt (fun e s1 => NN (.nx e) s1) NN) EE := by rw [c11_1, run_cons]; simp only [run_nil]
theorem r11_1 {n : Nat} {env : En} {s : Sto} {NN : Fl → Sto → Prop} {EE : Ex → En → Sto → Prop} : WpS (SS.ev (gen T0 defs n) c11_1 env s) NN EE = Run (gen T0 defs n) c11_1 env s NN EE := run_eq
def c11_6 : SS := .cons (.setf (.var 0) "_torn" (.fr (.disp .nil))) .nil
theorem v11_6 {n : Nat} {env : En} {s : Sto} {NN : Fl → Sto → Prop} {EE : Ex → En → Sto → Prop} : Run (gen T0 defs n) c11_6 env s NN EE = WpS (S.ev (gen T0 defs n) (.setf (.var 0) "_torn" (.fr (.disp .nil))) env s) (nxt (fun e s1 => NN (.nx e) s1) NN) EE := by rw [c11_6, run_cons]; simp only [run_nil]
theorem r11_6 {n : Nat} {env : En} {s : Sto} {NN : Fl → Sto → Prop} {EE : Ex → En → Sto → Prop} : WpS (SS.ev (gen T0 defs n) c11_6 env s) NN EE = Run (gen T0 defs n) c11_6 env s NN EE := run_eq
def c11_5 : SS := .cons (.setf (.var 0) "_left" (.lit .non)) c11_6
theorem v11_5 {n : Nat} {env : En} {s : Sto} {NN : Fl → Sto → Prop} {EE : Ex → En → Sto → Prop} : Run (gen T0 defs n) c11_5 env s NN EE = WpS (S.ev (gen T0 defs n) (.setf (.var 0) "_left" (.lit .non)) env s) (nxt (fun e s1 => Run (gen T0 defs n) c11_6 e s1 NN EE) NN) EE := run_cons
theorem r11_5 {n : Nat} {env : En} {s : Sto} {NN : Fl → Sto → Prop} {EE : Ex → En → Sto → Prop} : WpS (SS.ev (gen T0 defs n) c11_5 env s) NN EE = Run (gen T0 defs n) c11_5 env s NN EE := run_eq
def c11_4 : SS := .cons (.setf (.var 0) "_cuts" (.lit (.int 0))) c11_5
theorem v11_4 {n : Nat} {env : En} {s : Sto} {NN : Fl → Sto → Prop} {EE : Ex → En → Sto → Prop} : Run (gen T0 defs n) c11_4 env s NN EE = WpS (S.ev (gen T0 defs n) (.setf (.var 0) "_cuts" (.lit (.int 0))) env s) (nxt (fun e s1 => Run (gen T0 defs n) c11_5 e s1 NN EE) NN) EE := run_cons
theorem r11_4 {n : Nat} {env : En} {s : Sto} {NN : Fl → Sto → Prop} {EE : Ex → En → Sto → Prop} : WpS (SS.ev (gen T0 defs n) c11_4 env s) NN EE = Run (gen T0 defs n) c11_4 env s NN EE := run_eq
def c11_3 : SS := .cons (.setf (.var 0) "_pending" (.alloc (.disp .nil))) c11_4
theorem v11_3 {n : Nat} {env : En} {s : Sto} {NN : Fl → Sto → Prop} {EE : Ex → En → Sto → Prop} : Run (gen T0 defs n) c11_3 env s NN EE = WpS (S.ev (gen T0 defs n) (.setf (.var 0) "_pending" (.alloc (.disp .nil))) env s) (nxt (fun e s1 => Run (gen T0 defs n) c11_4 e s1 NN EE) NN) EE := run_cons
theorem r11_3 {n : Nat} {env : En} {s : Sto} {NN : Fl → Sto → Prop} {EE : Ex → En → Sto → Prop} : WpS (SS.ev (gen T0 defs n) c11_3 env s) NN EE = Run (gen T0 defs n) c11_3 env s NN EE := run_eq
def c11_2 : SS := .cons (.setf (.var 0) "_blocks" (.alloc (.comp (.name 2) (.rng1 (.var 1)) .none (.fr (.rep (.disp (.cons (.lit (.int 0)) .nil)) (.con "BLOCK")))))) c11_3
theorem v11_2 {n : Nat} {env : En} {s : Sto} {NN : Fl → Sto → Prop} {EE : Ex → En → Sto → Prop} : Run (gen T0 defs n) c11_2 env s NN EE = WpS (S.ev (gen T0 defs n) (.setf (.var 0) "_blocks" (.alloc (.comp (.name 2) (.rng1 (.var 1)) .none (.fr (.rep (.disp (.cons (.lit (.int 0)) .nil)) (.con "BLOCK")))))) env s) (nxt (fun e s1 => Run (gen T0 defs n) c11_3 e s1 NN EE) NN) EE := run_cons
theorem r11_2 {n : Nat} {env : En} {s : Sto} {NN : Fl → Sto → Prop} {EE : Ex → En → Sto → Prop} : WpS (SS.ev (gen T0 defs n) c11_2 env s) NN EE = Run (gen T0 defs n) c11_2 env s NN EE := run_eq
def c11_0 : SS := .cons (.ite (.not (.x (.chain .LtE .LtE (.con "BLOCKS_LEAST") (.var 1) (.con "BLOCKS_MOST")))) c11_1 .nil) c11_2
theorem v11_0 {n : Nat} {env : En} {s : Sto} {NN : Fl → Sto → Prop} {EE : Ex → En → Sto → Prop} : Run (gen T0 defs n) c11_0 env s NN EE = WpS (S.ev (gen T0 defs n) (.ite (.not (.x (.chain .LtE .LtE (.con "BLOCKS_LEAST") (.var 1) (.con "BLOCKS_MOST")))) c11_1 .nil) env s) (nxt (fun e s1 => Run (gen T0 defs n) c11_2 e s1 NN EE) NN) EE := run_cons
theorem r11_0 {n : Nat} {env : En} {s : Sto} {NN : Fl → Sto → Prop} {EE : Ex → En → Sto → Prop} : WpS (SS.ev (gen T0 defs n) c11_0 env s) NN EE = Run (gen T0 defs n) c11_0 env s NN EE := run_eq
theorem h11 {n : Nat} {x0 x1 : Fx.D} {s : Sto} {Q : Fx.D → Sto → Prop} {E : Ex → Sto → Prop} : Wp ((gen T0 defs (n + 1)).call 11 [x0, x1] s) Q E = Run (gen T0 defs n) c11_0 [.val x0, .val x1, .no] s (endN Q) (fun e _ s1 => E e s1) := (w_def (d := d11) rfl rfl rfl).trans run_eq
theorem f12 {n : Nat} {x0 : Fx.D} {s : Sto} {Q : Fx.D → Sto → Prop} {E : Ex → Sto → Prop} : Wp ((gen T0 defs (n + 1)).call 12 [x0] s) Q E = WpS (SS.ev (gen T0 defs n) (.cons (.expr (.call 0 (.cons (.lit (.int 0)) .nil) 0))
      .nil) [.val x0] s) (endN Q) (fun e _ s1 => E e s1) := w_def (d := d12) rfl rfl rfl
theorem z12 : T0.dv 12 0 = [] := rfl
def c12_0 : SS := .cons (.expr (.call 0 (.cons (.lit (.int 0)) .nil) 0)) .nil
theorem v12_0 {n : Nat} {env : En} {s : Sto} {NN : Fl → Sto → Prop} {EE : Ex → En → Sto → Prop} : Run (gen T0 defs n) c12_0 env s NN EE = WpS (S.ev (gen T0 defs n) (.expr (.call 0 (.cons (.lit (.int 0)) .nil) 0)) env s) (nxt (fun e s1 => NN (.nx e) s1) NN) EE := by rw [c12_0, run_cons]; simp only [run_nil]
theorem r12_0 {n : Nat} {env : En} {s : Sto} {NN : Fl → Sto → Prop} {EE : Ex → En → Sto → Prop} : WpS (SS.ev (gen T0 defs n) c12_0 env s) NN EE = Run (gen T0 defs n) c12_0 env s NN EE := run_eq
theorem h12 {n : Nat} {x0 : Fx.D} {s : Sto} {Q : Fx.D → Sto → Prop} {E : Ex → Sto → Prop} : Wp ((gen T0 defs (n + 1)).call 12 [x0] s) Q E = Run (gen T0 defs n) c12_0 [.val x0] s (endN Q) (fun e _ s1 => E e s1) := (w_def (d := d12) rfl rfl rfl).trans run_eq
theorem f13 {n : Nat} {x0 x1 : Fx.D} {s : Sto} {Q : Fx.D → Sto → Prop} {E : Ex → Sto → Prop} : Wp ((gen T0 defs (n + 1)).call 13 [x0, x1] s) Q E = WpS (SS.ev (gen T0 defs n) (.cons (.ite (.not (.x (.chain .LtE .Lt (.lit (.int 0)) (.var 1) (.b1 .len (.x (.fld (.var 0) "_blocks")))))) (.cons (.raise 1 (.cons (.lit (.str "at")) .nil))
      .nil) .nil)
      .nil) [.val x0, .val x1] s) (endN Q) (fun e _ s1 => E e s1) := w_def (d := d13) rfl rfl rfl
theorem z13 : T0.dv 13 0 = [] := rfl
def c13_1 : SS := .cons (.raise 1 (.cons (.lit (.str "at")) .nil)) .nil
theorem v13_1 {n : Nat} {env : En} {s : Sto} {NN : Fl → Sto → Prop} {EE : Ex → En → Sto → Prop} : Run (gen T0 defs n) c13_1 env s NN EE = WpS (S.ev (gen T0 defs n) (.raise 1 (.cons (.lit (.str "at")) .nil)) env s) (nxt (fun e s1 => NN (.nx e) s1) NN) EE := by rw [c13_1, run_cons]; simp only [run_nil]
theorem r13_1 {n : Nat} {env : En} {s : Sto} {NN : Fl → Sto → Prop} {EE : Ex → En → Sto → Prop} : WpS (SS.ev (gen T0 defs n) c13_1 env s) NN EE = Run (gen T0 defs n) c13_1 env s NN EE := run_eq
def c13_0 : SS := .cons (.ite (.not (.x (.chain .LtE .Lt (.lit (.int 0)) (.var 1) (.b1 .len (.x (.fld (.var 0) "_blocks")))))) c13_1 .nil) .nil
theorem v13_0 {n : Nat} {env : En} {s : Sto} {NN : Fl → Sto → Prop} {EE : Ex → En → Sto → Prop} : Run (gen T0 defs n) c13_0 env s NN EE = WpS (S.ev (gen T0 defs n) (.ite (.not (.x (.chain .LtE .Lt (.lit (.int 0)) (.var 1) (.b1 .len (.x (.fld (.var 0) "_blocks")))))) c13_1 .nil) env s) (nxt (fun e s1 => NN (.nx e) s1) NN) EE := by rw [c13_0, run_cons]; simp only [run_nil]
theorem r13_0 {n : Nat} {env : En} {s : Sto} {NN : Fl → Sto → Prop} {EE : Ex → En → Sto → Prop} : WpS (SS.ev (gen T0 defs n) c13_0 env s) NN EE = Run (gen T0 defs n) c13_0 env s NN EE := run_eq
theorem h13 {n : Nat} {x0 x1 : Fx.D} {s : Sto} {Q : Fx.D → Sto → Prop} {E : Ex → Sto → Prop} : Wp ((gen T0 defs (n + 1)).call 13 [x0, x1] s) Q E = Run (gen T0 defs n) c13_0 [.val x0, .val x1] s (endN Q) (fun e _ s1 => E e s1) := (w_def (d := d13) rfl rfl rfl).trans run_eq
theorem f14 {n : Nat} {x0 x1 : Fx.D} {s : Sto} {Q : Fx.D → Sto → Prop} {E : Ex → Sto → Prop} : Wp ((gen T0 defs (n + 1)).call 14 [x0, x1] s) Q E = WpS (SS.ev (gen T0 defs n) (.cons (.expr (.meth "_check_at" 13 (.var 0) (.cons (.var 1) .nil)))
      (.cons (.set (.name 2) (.ix (.x (.fld (.var 0) "_blocks")) (.var 1)))
      (.cons (.forO (.tup (.cons (.name 3) (.cons (.name 4) .nil))) false (.fld (.var 0) "_pending") (.cons (.ite (.x (.cmp .Eq (.x (.var 3)) (.x (.var 1)))) (.cons (.set (.name 2) (.var 4))
      .nil) .nil)
      .nil))
      (.cons (.ret (.fr (.list (.x (.var 2)))))
      .nil)))) [.val x0, .val x1, .no, .no, .no] s) (endN Q) (fun e _ s1 => E e s1) := w_def (d := d14) rfl rfl rfl
theorem z14 : T0.dv 14 0 = [] := rfl
def c14_4 : SS := .cons (.set (.name 2) (.var 4)) .nil
theorem v14_4 {n : Nat} {env : En} {s : Sto} {NN : Fl → Sto → Prop} {EE : Ex → En → Sto → Prop} : Run (gen T0 defs n) c14_4 env s NN EE = WpS (S.ev (gen T0 defs n) (.set (.name 2) (.var 4)) env s) (nxt (fun e s1 => NN (.nx e) s1) NN) EE := by rw [c14_4, run_cons]; simp only [run_nil]
theorem r14_4 {n : Nat} {env : En} {s : Sto} {NN : Fl → Sto → Prop} {EE : Ex → En → Sto → Prop} : WpS (SS.ev (gen T0 defs n) c14_4 env s) NN EE = Run (gen T0 defs n) c14_4 env s NN EE := run_eq
def c14_3 : SS := .cons (.ite (.x (.cmp .Eq (.x (.var 3)) (.x (.var 1)))) c14_4 .nil) .nil
theorem v14_3 {n : Nat} {env : En} {s : Sto} {NN : Fl → Sto → Prop} {EE : Ex → En → Sto → Prop} : Run (gen T0 defs n) c14_3 env s NN EE = WpS (S.ev (gen T0 defs n) (.ite (.x (.cmp .Eq (.x (.var 3)) (.x (.var 1)))) c14_4 .nil) env s) (nxt (fun e s1 => NN (.nx e) s1) NN) EE := by rw [c14_3, run_cons]; simp only [run_nil]
theorem r14_3 {n : Nat} {env : En} {s : Sto} {NN : Fl → Sto → Prop} {EE : Ex → En → Sto → Prop} : WpS (SS.ev (gen T0 defs n) c14_3 env s) NN EE = Run (gen T0 defs n) c14_3 env s NN EE := run_eq
def c14_5 : SS := .cons (.ret (.fr (.list (.x (.var 2))))) .nil
theorem v14_5 {n : Nat} {env : En} {s : Sto} {NN : Fl → Sto → Prop} {EE : Ex → En → Sto → Prop} : Run (gen T0 defs n) c14_5 env s NN EE = WpS (S.ev (gen T0 defs n) (.ret (.fr (.list (.x (.var 2))))) env s) (nxt (fun e s1 => NN (.nx e) s1) NN) EE := by rw [c14_5, run_cons]; simp only [run_nil]
theorem r14_5 {n : Nat} {env : En} {s : Sto} {NN : Fl → Sto → Prop} {EE : Ex → En → Sto → Prop} : WpS (SS.ev (gen T0 defs n) c14_5 env s) NN EE = Run (gen T0 defs n) c14_5 env s NN EE := run_eq
def c14_2 : SS := .cons (.forO (.tup (.cons (.name 3) (.cons (.name 4) .nil))) false (.fld (.var 0) "_pending") c14_3) c14_5
theorem v14_2 {n : Nat} {env : En} {s : Sto} {NN : Fl → Sto → Prop} {EE : Ex → En → Sto → Prop} : Run (gen T0 defs n) c14_2 env s NN EE = WpS (S.ev (gen T0 defs n) (.forO (.tup (.cons (.name 3) (.cons (.name 4) .nil))) false (.fld (.var 0) "_pending") c14_3) env s) (nxt (fun e s1 => Run (gen T0 defs n) c14_5 e s1 NN EE) NN) EE := run_cons
theorem r14_2 {n : Nat} {env : En} {s : Sto} {NN : Fl → Sto → Prop} {EE : Ex → En → Sto → Prop} : WpS (SS.ev (gen T0 defs n) c14_2 env s) NN EE = Run (gen T0 defs n) c14_2 env s NN EE := run_eq
def c14_1 : SS := .cons (.set (.name 2) (.ix (.x (.fld (.var 0) "_blocks")) (.var 1))) c14_2
theorem v14_1 {n : Nat} {env : En} {s : Sto} {NN : Fl → Sto → Prop} {EE : Ex → En → Sto → Prop} : Run (gen T0 defs n) c14_1 env s NN EE = WpS (S.ev (gen T0 defs n) (.set (.name 2) (.ix (.x (.fld (.var 0) "_blocks")) (.var 1))) env s) (nxt (fun e s1 => Run (gen T0 defs n) c14_2 e s1 NN EE) NN) EE := run_cons
theorem r14_1 {n : Nat} {env : En} {s : Sto} {NN : Fl → Sto → Prop} {EE : Ex → En → Sto → Prop} : WpS (SS.ev (gen T0 defs n) c14_1 env s) NN EE = Run (gen T0 defs n) c14_1 env s NN EE := run_eq
def c14_0 : SS := .cons (.expr (.meth "_check_at" 13 (.var 0) (.cons (.var 1) .nil))) c14_1
theorem v14_0 {n : Nat} {env : En} {s : Sto} {NN : Fl → Sto → Prop} {EE : Ex → En → Sto → Prop} : Run (gen T0 defs n) c14_0 env s NN EE = WpS (S.ev (gen T0 defs n) (.expr (.meth "_check_at" 13 (.var 0) (.cons (.var 1) .nil))) env s) (nxt (fun e s1 => Run (gen T0 defs n) c14_1 e s1 NN EE) NN) EE := run_cons
theorem r14_0 {n : Nat} {env : En} {s : Sto} {NN : Fl → Sto → Prop} {EE : Ex → En → Sto → Prop} : WpS (SS.ev (gen T0 defs n) c14_0 env s) NN EE = Run (gen T0 defs n) c14_0 env s NN EE := run_eq
theorem h14 {n : Nat} {x0 x1 : Fx.D} {s : Sto} {Q : Fx.D → Sto → Prop} {E : Ex → Sto → Prop} : Wp ((gen T0 defs (n + 1)).call 14 [x0, x1] s) Q E = Run (gen T0 defs n) c14_0 [.val x0, .val x1, .no, .no, .no] s (endN Q) (fun e _ s1 => E e s1) := (w_def (d := d14) rfl rfl rfl).trans run_eq
theorem f15 {n : Nat} {x0 x1 : Fx.D} {s : Sto} {Q : Fx.D → Sto → Prop} {E : Ex → Sto → Prop} : Wp ((gen T0 defs (n + 1)).call 15 [x0, x1] s) Q E = WpS (SS.ev (gen T0 defs n) (.cons (.forO (.tup (.cons (.name 2) (.cons (.tup (.cons (.name 4) (.cons (.name 5) .nil))) .nil))) true (.fld (.var 0) "_pending") (.cons (.set (.name 3) (.ite (.x (.cmp .Lt (.x (.var 2)) (.x (.b1 .len (.x (.var 1)))))) (.ix (.x (.var 1)) (.var 2)) (.lit (.int 0))))
      (.cons (.seti (.fld (.var 0) "_blocks") (.var 4) (.fr (.cat (.x (.fr (.sl (.x (.var 5)) .none (.some (.var 3))))) (.x (.fr (.sl (.x (.ix (.x (.fld (.var 0) "_blocks")) (.var 4))) (.some (.var 3)) .none))))))
      .nil)))
      (.cons (.setf (.var 0) "_pending" (.alloc (.disp .nil)))
      (.cons (.setf (.var 0) "_cuts" (.bin .Add (.fld (.var 0) "_cuts") (.lit (.int 1))))
      (.cons (.setf (.var 0) "_left" (.lit .non))
      (.cons (.setf (.var 0) "_torn" (.fr (.disp .nil)))
      .nil))))) [.val x0, .val x1, .no, .no, .no, .no] s) (endN Q) (fun e _ s1 => E e s1) := w_def (d := d15) rfl rfl rfl
theorem z15 : T0.dv 15 0 = [] := rfl
def c15_2 : SS := .cons (.seti (.fld (.var 0) "_blocks") (.var 4) (.fr (.cat (.x (.fr (.sl (.x (.var 5)) .none (.some (.var 3))))) (.x (.fr (.sl (.x (.ix (.x (.fld (.var 0) "_blocks")) (.var 4))) (.some (.var 3)) .none)))))) .nil
theorem v15_2 {n : Nat} {env : En} {s : Sto} {NN : Fl → Sto → Prop} {EE : Ex → En → Sto → Prop} : Run (gen T0 defs n) c15_2 env s NN EE = WpS (S.ev (gen T0 defs n) (.seti (.fld (.var 0) "_blocks") (.var 4) (.fr (.cat (.x (.fr (.sl (.x (.var 5)) .none (.some (.var 3))))) (.x (.fr (.sl (.x (.ix (.x (.fld (.var 0) "_blocks")) (.var 4))) (.some (.var 3)) .none)))))) env s) (nxt (fun e s1 => NN (.nx e) s1) NN) EE := by rw [c15_2, run_cons]; simp only [run_nil]
theorem r15_2 {n : Nat} {env : En} {s : Sto} {NN : Fl → Sto → Prop} {EE : Ex → En → Sto → Prop} : WpS (SS.ev (gen T0 defs n) c15_2 env s) NN EE = Run (gen T0 defs n) c15_2 env s NN EE := run_eq
def c15_1 : SS := .cons (.set (.name 3) (.ite (.x (.cmp .Lt (.x (.var 2)) (.x (.b1 .len (.x (.var 1)))))) (.ix (.x (.var 1)) (.var 2)) (.lit (.int 0)))) c15_2
theorem v15_1 {n : Nat} {env : En} {s : Sto} {NN : Fl → Sto → Prop} {EE : Ex → En → Sto → Prop} : Run (gen T0 defs n) c15_1 env s NN EE = WpS (S.ev (gen T0 defs n) (.set (.name 3) (.ite (.x (.cmp .Lt (.x (.var 2)) (.x (.b1 .len (.x (.var 1)))))) (.ix (.x (.var 1)) (.var 2)) (.lit (.int 0)))) env s) (nxt (fun e s1 => Run (gen T0 defs n) c15_2 e s1 NN EE) NN) EE := run_cons
theorem r15_1 {n : Nat} {env : En} {s : Sto} {NN : Fl → Sto → Prop} {EE : Ex → En → Sto → Prop} : WpS (SS.ev (gen T0 defs n) c15_1 env s) NN EE = Run (gen T0 defs n) c15_1 env s NN EE := run_eq
def c15_6 : SS := .cons (.setf (.var 0) "_torn" (.fr (.disp .nil))) .nil
theorem v15_6 {n : Nat} {env : En} {s : Sto} {NN : Fl → Sto → Prop} {EE : Ex → En → Sto → Prop} : Run (gen T0 defs n) c15_6 env s NN EE = WpS (S.ev (gen T0 defs n) (.setf (.var 0) "_torn" (.fr (.disp .nil))) env s) (nxt (fun e s1 => NN (.nx e) s1) NN) EE := by rw [c15_6, run_cons]; simp only [run_nil]
theorem r15_6 {n : Nat} {env : En} {s : Sto} {NN : Fl → Sto → Prop} {EE : Ex → En → Sto → Prop} : WpS (SS.ev (gen T0 defs n) c15_6 env s) NN EE = Run (gen T0 defs n) c15_6 env s NN EE := run_eq
def c15_5 : SS := .cons (.setf (.var 0) "_left" (.lit .non)) c15_6
theorem v15_5 {n : Nat} {env : En} {s : Sto} {NN : Fl → Sto → Prop} {EE : Ex → En → Sto → Prop} : Run (gen T0 defs n) c15_5 env s NN EE = WpS (S.ev (gen T0 defs n) (.setf (.var 0) "_left" (.lit .non)) env s) (nxt (fun e s1 => Run (gen T0 defs n) c15_6 e s1 NN EE) NN) EE := run_cons
theorem r15_5 {n : Nat} {env : En} {s : Sto} {NN : Fl → Sto → Prop} {EE : Ex → En → Sto → Prop} : WpS (SS.ev (gen T0 defs n) c15_5 env s) NN EE = Run (gen T0 defs n) c15_5 env s NN EE := run_eq
def c15_4 : SS := .cons (.setf (.var 0) "_cuts" (.bin .Add (.fld (.var 0) "_cuts") (.lit (.int 1)))) c15_5
theorem v15_4 {n : Nat} {env : En} {s : Sto} {NN : Fl → Sto → Prop} {EE : Ex → En → Sto → Prop} : Run (gen T0 defs n) c15_4 env s NN EE = WpS (S.ev (gen T0 defs n) (.setf (.var 0) "_cuts" (.bin .Add (.fld (.var 0) "_cuts") (.lit (.int 1)))) env s) (nxt (fun e s1 => Run (gen T0 defs n) c15_5 e s1 NN EE) NN) EE := run_cons
theorem r15_4 {n : Nat} {env : En} {s : Sto} {NN : Fl → Sto → Prop} {EE : Ex → En → Sto → Prop} : WpS (SS.ev (gen T0 defs n) c15_4 env s) NN EE = Run (gen T0 defs n) c15_4 env s NN EE := run_eq
def c15_3 : SS := .cons (.setf (.var 0) "_pending" (.alloc (.disp .nil))) c15_4
theorem v15_3 {n : Nat} {env : En} {s : Sto} {NN : Fl → Sto → Prop} {EE : Ex → En → Sto → Prop} : Run (gen T0 defs n) c15_3 env s NN EE = WpS (S.ev (gen T0 defs n) (.setf (.var 0) "_pending" (.alloc (.disp .nil))) env s) (nxt (fun e s1 => Run (gen T0 defs n) c15_4 e s1 NN EE) NN) EE := run_cons
theorem r15_3 {n : Nat} {env : En} {s : Sto} {NN : Fl → Sto → Prop} {EE : Ex → En → Sto → Prop} : WpS (SS.ev (gen T0 defs n) c15_3 env s) NN EE = Run (gen T0 defs n) c15_3 env s NN EE := run_eq
def c15_0 : SS := .cons (.forO (.tup (.cons (.name 2) (.cons (.tup (.cons (.name 4) (.cons (.name 5) .nil))) .nil))) true (.fld (.var 0) "_pending") c15_1) c15_3
theorem v15_0 {n : Nat} {env : En} {s : Sto} {NN : Fl → Sto → Prop} {EE : Ex → En → Sto → Prop} : Run (gen T0 defs n) c15_0 env s NN EE = WpS (S.ev (gen T0 defs n) (.forO (.tup (.cons (.name 2) (.cons (.tup (.cons (.name 4) (.cons (.name 5) .nil))) .nil))) true (.fld (.var 0) "_pending") c15_1) env s) (nxt (fun e s1 => Run (gen T0 defs n) c15_3 e s1 NN EE) NN) EE := run_cons
theorem r15_0 {n : Nat} {env : En} {s : Sto} {NN : Fl → Sto → Prop} {EE : Ex → En → Sto → Prop} : WpS (SS.ev (gen T0 defs n) c15_0 env s) NN EE = Run (gen T0 defs n) c15_0 env s NN EE := run_eq
theorem h15 {n : Nat} {x0 x1 : Fx.D} {s : Sto} {Q : Fx.D → Sto → Prop} {E : Ex → Sto → Prop} : Wp ((gen T0 defs (n + 1)).call 15 [x0, x1] s) Q E = Run (gen T0 defs n) c15_0 [.val x0, .val x1, .no, .no, .no, .no] s (endN Q) (fun e _ s1 => E e s1) := (w_def (d := d15) rfl rfl rfl).trans run_eq
theorem f16 {n : Nat} {x0 : Fx.D} {s : Sto} {Q : Fx.D → Sto → Prop} {E : Ex → Sto → Prop} : Wp ((gen T0 defs (n + 1)).call 16 [x0] s) Q E = WpS (SS.ev (gen T0 defs n) (.cons (.ite (.x (.cmp .Is (.x (.fld (.var 0) "_left")) (.x (.lit .non)))) (.cons .retN
      .nil) .nil)
      (.cons (.ite (.x (.cmp .Eq (.x (.fld (.var 0) "_left")) (.x (.lit (.int 0))))) (.cons (.expr (.meth "_cut" 15 (.var 0) (.cons (.fld (.var 0) "_torn") .nil)))
      (.cons (.raiseC 2)
      .nil)) .nil)
      (.cons (.setf (.var 0) "_left" (.bin .Sub (.fld (.var 0) "_left") (.lit (.int 1))))
      .nil))) [.val x0] s) (endN Q) (fun e _ s1 => E e s1) := w_def (d := d16) rfl rfl rfl
theorem z16 : T0.dv 16 0 = [] := rfl
def c16_1 : SS := .cons .retN .nil
theorem v16_1 {n : Nat} {env : En} {s : Sto} {NN : Fl → Sto → Prop} {EE : Ex → En → Sto → Prop} : Run (gen T0 defs n) c16_1 env s NN EE = WpS (S.ev (gen T0 defs n) .retN env s) (nxt (fun e s1 => NN (.nx e) s1) NN) EE := by rw [c16_1, run_cons]; simp only [run_nil]
theorem r16_1 {n : Nat} {env : En} {s : Sto} {NN : Fl → Sto → Prop} {EE : Ex → En → Sto → Prop} : WpS (SS.ev (gen T0 defs n) c16_1 env s) NN EE = Run (gen T0 defs n) c16_1 env s NN EE := run_eq
def c16_4 : SS := .cons (.raiseC 2) .nil
theorem v16_4 {n : Nat} {env : En} {s : Sto} {NN : Fl → Sto → Prop} {EE : Ex → En → Sto → Prop} : Run (gen T0 defs n) c16_4 env s NN EE = WpS (S.ev (gen T0 defs n) (.raiseC 2) env s) (nxt (fun e s1 => NN (.nx e) s1) NN) EE := by rw [c16_4, run_cons]; simp only [run_nil]
theorem r16_4 {n : Nat} {env : En} {s : Sto} {NN : Fl → Sto → Prop} {EE : Ex → En → Sto → Prop} : WpS (SS.ev (gen T0 defs n) c16_4 env s) NN EE = Run (gen T0 defs n) c16_4 env s NN EE := run_eq
def c16_3 : SS := .cons (.expr (.meth "_cut" 15 (.var 0) (.cons (.fld (.var 0) "_torn") .nil))) c16_4
theorem v16_3 {n : Nat} {env : En} {s : Sto} {NN : Fl → Sto → Prop} {EE : Ex → En → Sto → Prop} : Run (gen T0 defs n) c16_3 env s NN EE = WpS (S.ev (gen T0 defs n) (.expr (.meth "_cut" 15 (.var 0) (.cons (.fld (.var 0) "_torn") .nil))) env s) (nxt (fun e s1 => Run (gen T0 defs n) c16_4 e s1 NN EE) NN) EE := run_cons
theorem r16_3 {n : Nat} {env : En} {s : Sto} {NN : Fl → Sto → Prop} {EE : Ex → En → Sto → Prop} : WpS (SS.ev (gen T0 defs n) c16_3 env s) NN EE = Run (gen T0 defs n) c16_3 env s NN EE := run_eq
def c16_5 : SS := .cons (.setf (.var 0) "_left" (.bin .Sub (.fld (.var 0) "_left") (.lit (.int 1)))) .nil
theorem v16_5 {n : Nat} {env : En} {s : Sto} {NN : Fl → Sto → Prop} {EE : Ex → En → Sto → Prop} : Run (gen T0 defs n) c16_5 env s NN EE = WpS (S.ev (gen T0 defs n) (.setf (.var 0) "_left" (.bin .Sub (.fld (.var 0) "_left") (.lit (.int 1)))) env s) (nxt (fun e s1 => NN (.nx e) s1) NN) EE := by rw [c16_5, run_cons]; simp only [run_nil]
theorem r16_5 {n : Nat} {env : En} {s : Sto} {NN : Fl → Sto → Prop} {EE : Ex → En → Sto → Prop} : WpS (SS.ev (gen T0 defs n) c16_5 env s) NN EE = Run (gen T0 defs n) c16_5 env s NN EE := run_eq
def c16_2 : SS := .cons (.ite (.x (.cmp .Eq (.x (.fld (.var 0) "_left")) (.x (.lit (.int 0))))) c16_3 .nil) c16_5
theorem v16_2 {n : Nat} {env : En} {s : Sto} {NN : Fl → Sto → Prop} {EE : Ex → En → Sto → Prop} : Run (gen T0 defs n) c16_2 env s NN EE = WpS (S.ev (gen T0 defs n) (.ite (.x (.cmp .Eq (.x (.fld (.var 0) "_left")) (.x (.lit (.int 0))))) c16_3 .nil) env s) (nxt (fun e s1 => Run (gen T0 defs n) c16_5 e s1 NN EE) NN) EE := run_cons
theorem r16_2 {n : Nat} {env : En} {s : Sto} {NN : Fl → Sto → Prop} {EE : Ex → En → Sto → Prop} : WpS (SS.ev (gen T0 defs n) c16_2 env s) NN EE = Run (gen T0 defs n) c16_2 env s NN EE := run_eq
def c16_0 : SS := .cons (.ite (.x (.cmp .Is (.x (.fld (.var 0) "_left")) (.x (.lit .non)))) c16_1 .nil) c16_2
theorem v16_0 {n : Nat} {env : En} {s : Sto} {NN : Fl → Sto → Prop} {EE : Ex → En → Sto → Prop} : Run (gen T0 defs n) c16_0 env s NN EE = WpS (S.ev (gen T0 defs n) (.ite (.x (.cmp .Is (.x (.fld (.var 0) "_left")) (.x (.lit .non)))) c16_1 .nil) env s) (nxt (fun e s1 => Run (gen T0 defs n) c16_2 e s1 NN EE) NN) EE := run_cons
theorem r16_0 {n : Nat} {env : En} {s : Sto} {NN : Fl → Sto → Prop} {EE : Ex → En → Sto → Prop} : WpS (SS.ev (gen T0 defs n) c16_0 env s) NN EE = Run (gen T0 defs n) c16_0 env s NN EE := run_eq
theorem h16 {n : Nat} {x0 : Fx.D} {s : Sto} {Q : Fx.D → Sto → Prop} {E : Ex → Sto → Prop} : Wp ((gen T0 defs (n + 1)).call 16 [x0] s) Q E = Run (gen T0 defs n) c16_0 [.val x0] s (endN Q) (fun e _ s1 => E e s1) := (w_def (d := d16) rfl rfl rfl).trans run_eq
theorem f17 {n : Nat} {x0 x1 x2 : Fx.D} {s : Sto} {Q : Fx.D → Sto → Prop} {E : Ex → Sto → Prop} : Wp ((gen T0 defs (n + 1)).call 17 [x0, x1, x2] s) Q E = WpS (SS.ev (gen T0 defs n) (.cons (.expr (.meth "_check_at" 13 (.var 0) (.cons (.var 1) .nil)))
      (.cons (.ite (.not (.tru (.x (.call 1 (.cons (.var 2) .nil) 0)))) (.cons (.raise 1 (.cons (.lit (.str "block")) .nil))
      .nil) .nil)
      (.cons (.expr (.meth "_spend" 16 (.var 0) .nil))
      (.cons (.oapp (.fld (.var 0) "_pending") (.tup (.cons (.var 1) (.cons (.fr (.list (.x (.var 2)))) .nil))))
      .nil)))) [.val x0, .val x1, .val x2] s) (endN Q) (fun e _ s1 => E e s1) := w_def (d := d17) rfl rfl rfl
theorem z17 : T0.dv 17 0 = [] := rfl
def c17_2 : SS := .cons (.raise 1 (.cons (.lit (.str "block")) .nil)) .nil
theorem v17_2 {n : Nat} {env : En} {s : Sto} {NN : Fl → Sto → Prop} {EE : Ex → En → Sto → Prop} : Run (gen T0 defs n) c17_2 env s NN EE = WpS (S.ev (gen T0 defs n) (.raise 1 (.cons (.lit (.str "block")) .nil)) env s) (nxt (fun e s1 => NN (.nx e) s1) NN) EE := by rw [c17_2, run_cons]; simp only [run_nil]
theorem r17_2 {n : Nat} {env : En} {s : Sto} {NN : Fl → Sto → Prop} {EE : Ex → En → Sto → Prop} : WpS (SS.ev (gen T0 defs n) c17_2 env s) NN EE = Run (gen T0 defs n) c17_2 env s NN EE := run_eq
def c17_4 : SS := .cons (.oapp (.fld (.var 0) "_pending") (.tup (.cons (.var 1) (.cons (.fr (.list (.x (.var 2)))) .nil)))) .nil
theorem v17_4 {n : Nat} {env : En} {s : Sto} {NN : Fl → Sto → Prop} {EE : Ex → En → Sto → Prop} : Run (gen T0 defs n) c17_4 env s NN EE = WpS (S.ev (gen T0 defs n) (.oapp (.fld (.var 0) "_pending") (.tup (.cons (.var 1) (.cons (.fr (.list (.x (.var 2)))) .nil)))) env s) (nxt (fun e s1 => NN (.nx e) s1) NN) EE := by rw [c17_4, run_cons]; simp only [run_nil]
theorem r17_4 {n : Nat} {env : En} {s : Sto} {NN : Fl → Sto → Prop} {EE : Ex → En → Sto → Prop} : WpS (SS.ev (gen T0 defs n) c17_4 env s) NN EE = Run (gen T0 defs n) c17_4 env s NN EE := run_eq
def c17_3 : SS := .cons (.expr (.meth "_spend" 16 (.var 0) .nil)) c17_4
theorem v17_3 {n : Nat} {env : En} {s : Sto} {NN : Fl → Sto → Prop} {EE : Ex → En → Sto → Prop} : Run (gen T0 defs n) c17_3 env s NN EE = WpS (S.ev (gen T0 defs n) (.expr (.meth "_spend" 16 (.var 0) .nil)) env s) (nxt (fun e s1 => Run (gen T0 defs n) c17_4 e s1 NN EE) NN) EE := run_cons
theorem r17_3 {n : Nat} {env : En} {s : Sto} {NN : Fl → Sto → Prop} {EE : Ex → En → Sto → Prop} : WpS (SS.ev (gen T0 defs n) c17_3 env s) NN EE = Run (gen T0 defs n) c17_3 env s NN EE := run_eq
def c17_1 : SS := .cons (.ite (.not (.tru (.x (.call 1 (.cons (.var 2) .nil) 0)))) c17_2 .nil) c17_3
theorem v17_1 {n : Nat} {env : En} {s : Sto} {NN : Fl → Sto → Prop} {EE : Ex → En → Sto → Prop} : Run (gen T0 defs n) c17_1 env s NN EE = WpS (S.ev (gen T0 defs n) (.ite (.not (.tru (.x (.call 1 (.cons (.var 2) .nil) 0)))) c17_2 .nil) env s) (nxt (fun e s1 => Run (gen T0 defs n) c17_3 e s1 NN EE) NN) EE := run_cons
theorem r17_1 {n : Nat} {env : En} {s : Sto} {NN : Fl → Sto → Prop} {EE : Ex → En → Sto → Prop} : WpS (SS.ev (gen T0 defs n) c17_1 env s) NN EE = Run (gen T0 defs n) c17_1 env s NN EE := run_eq
def c17_0 : SS := .cons (.expr (.meth "_check_at" 13 (.var 0) (.cons (.var 1) .nil))) c17_1
theorem v17_0 {n : Nat} {env : En} {s : Sto} {NN : Fl → Sto → Prop} {EE : Ex → En → Sto → Prop} : Run (gen T0 defs n) c17_0 env s NN EE = WpS (S.ev (gen T0 defs n) (.expr (.meth "_check_at" 13 (.var 0) (.cons (.var 1) .nil))) env s) (nxt (fun e s1 => Run (gen T0 defs n) c17_1 e s1 NN EE) NN) EE := run_cons
theorem r17_0 {n : Nat} {env : En} {s : Sto} {NN : Fl → Sto → Prop} {EE : Ex → En → Sto → Prop} : WpS (SS.ev (gen T0 defs n) c17_0 env s) NN EE = Run (gen T0 defs n) c17_0 env s NN EE := run_eq
theorem h17 {n : Nat} {x0 x1 x2 : Fx.D} {s : Sto} {Q : Fx.D → Sto → Prop} {E : Ex → Sto → Prop} : Wp ((gen T0 defs (n + 1)).call 17 [x0, x1, x2] s) Q E = Run (gen T0 defs n) c17_0 [.val x0, .val x1, .val x2] s (endN Q) (fun e _ s1 => E e s1) := (w_def (d := d17) rfl rfl rfl).trans run_eq
theorem f18 {n : Nat} {x0 : Fx.D} {s : Sto} {Q : Fx.D → Sto → Prop} {E : Ex → Sto → Prop} : Wp ((gen T0 defs (n + 1)).call 18 [x0] s) Q E = WpS (SS.ev (gen T0 defs n) (.cons (.expr (.meth "_spend" 16 (.var 0) .nil))
      (.cons (.forO (.tup (.cons (.name 1) (.cons (.name 2) .nil))) false (.fld (.var 0) "_pending") (.cons (.seti (.fld (.var 0) "_blocks") (.var 1) (.var 2))
      .nil))
      (.cons (.setf (.var 0) "_pending" (.alloc (.disp .nil)))
      .nil))) [.val x0, .no, .no] s) (endN Q) (fun e _ s1 => E e s1) := w_def (d := d18) rfl rfl rfl
theorem z18 : T0.dv 18 0 = [] := rfl
def c18_2 : SS := .cons (.seti (.fld (.var 0) "_blocks") (.var 1) (.var 2)) .nil
theorem v18_2 {n : Nat} {env : En} {s : Sto} {NN : Fl → Sto → Prop} {EE : Ex → En → Sto → Prop} : Run (gen T0 defs n) c18_2 env s NN EE = WpS (S.ev (gen T0 defs n) (.seti (.fld (.var 0) "_blocks") (.var 1) (.var 2)) env s) (nxt (fun e s1 => NN (.nx e) s1) NN) EE := by rw [c18_2, run_cons]; simp only [run_nil]
theorem r18_2 {n : Nat} {env : En} {s : Sto} {NN : Fl → Sto → Prop} {EE : Ex → En → Sto → Prop} : WpS (SS.ev (gen T0 defs n) c18_2 env s) NN EE = Run (gen T0 defs n) c18_2 env s NN EE := run_eq
def c18_3 : SS := .cons (.setf (.var 0) "_pending" (.alloc (.disp .nil))) .nil
theorem v18_3 {n : Nat} {env : En} {s : Sto} {NN : Fl → Sto → Prop} {EE : Ex → En → Sto → Prop} : Run (gen T0 defs n) c18_3 env s NN EE = WpS (S.ev (gen T0 defs n) (.setf (.var 0) "_pending" (.alloc (.disp .nil))) env s) (nxt (fun e s1 => NN (.nx e) s1) NN) EE := by rw [c18_3, run_cons]; simp only [run_nil]
theorem r18_3 {n : Nat} {env : En} {s : Sto} {NN : Fl → Sto → Prop} {EE : Ex → En → Sto → Prop} : WpS (SS.ev (gen T0 defs n) c18_3 env s) NN EE = Run (gen T0 defs n) c18_3 env s NN EE := run_eq
def c18_1 : SS := .cons (.forO (.tup (.cons (.name 1) (.cons (.name 2) .nil))) false (.fld (.var 0) "_pending") c18_2) c18_3
theorem v18_1 {n : Nat} {env : En} {s : Sto} {NN : Fl → Sto → Prop} {EE : Ex → En → Sto → Prop} : Run (gen T0 defs n) c18_1 env s NN EE = WpS (S.ev (gen T0 defs n) (.forO (.tup (.cons (.name 1) (.cons (.name 2) .nil))) false (.fld (.var 0) "_pending") c18_2) env s) (nxt (fun e s1 => Run (gen T0 defs n) c18_3 e s1 NN EE) NN) EE := run_cons
theorem r18_1 {n : Nat} {env : En} {s : Sto} {NN : Fl → Sto → Prop} {EE : Ex → En → Sto → Prop} : WpS (SS.ev (gen T0 defs n) c18_1 env s) NN EE = Run (gen T0 defs n) c18_1 env s NN EE := run_eq
def c18_0 : SS := .cons (.expr (.meth "_spend" 16 (.var 0) .nil)) c18_1
theorem v18_0 {n : Nat} {env : En} {s : Sto} {NN : Fl → Sto → Prop} {EE : Ex → En → Sto → Prop} : Run (gen T0 defs n) c18_0 env s NN EE = WpS (S.ev (gen T0 defs n) (.expr (.meth "_spend" 16 (.var 0) .nil)) env s) (nxt (fun e s1 => Run (gen T0 defs n) c18_1 e s1 NN EE) NN) EE := run_cons
theorem r18_0 {n : Nat} {env : En} {s : Sto} {NN : Fl → Sto → Prop} {EE : Ex → En → Sto → Prop} : WpS (SS.ev (gen T0 defs n) c18_0 env s) NN EE = Run (gen T0 defs n) c18_0 env s NN EE := run_eq
theorem h18 {n : Nat} {x0 : Fx.D} {s : Sto} {Q : Fx.D → Sto → Prop} {E : Ex → Sto → Prop} : Wp ((gen T0 defs (n + 1)).call 18 [x0] s) Q E = Run (gen T0 defs n) c18_0 [.val x0, .no, .no] s (endN Q) (fun e _ s1 => E e s1) := (w_def (d := d18) rfl rfl rfl).trans run_eq
theorem f19 {n : Nat} {x0 : Fx.D} {s : Sto} {Q : Fx.D → Sto → Prop} {E : Ex → Sto → Prop} : Wp ((gen T0 defs (n + 1)).call 19 [x0] s) Q E = WpS (SS.ev (gen T0 defs n) (.cons (.ret (.b1 .len (.x (.fld (.var 0) "_pending"))))
      .nil) [.val x0] s) (endN Q) (fun e _ s1 => E e s1) := w_def (d := d19) rfl rfl rfl
theorem z19 : T0.dv 19 0 = [] := rfl
def c19_0 : SS := .cons (.ret (.b1 .len (.x (.fld (.var 0) "_pending")))) .nil
theorem v19_0 {n : Nat} {env : En} {s : Sto} {NN : Fl → Sto → Prop} {EE : Ex → En → Sto → Prop} : Run (gen T0 defs n) c19_0 env s NN EE = WpS (S.ev (gen T0 defs n) (.ret (.b1 .len (.x (.fld (.var 0) "_pending")))) env s) (nxt (fun e s1 => NN (.nx e) s1) NN) EE := by rw [c19_0, run_cons]; simp only [run_nil]
theorem r19_0 {n : Nat} {env : En} {s : Sto} {NN : Fl → Sto → Prop} {EE : Ex → En → Sto → Prop} : WpS (SS.ev (gen T0 defs n) c19_0 env s) NN EE = Run (gen T0 defs n) c19_0 env s NN EE := run_eq
theorem h19 {n : Nat} {x0 : Fx.D} {s : Sto} {Q : Fx.D → Sto → Prop} {E : Ex → Sto → Prop} : Wp ((gen T0 defs (n + 1)).call 19 [x0] s) Q E = Run (gen T0 defs n) c19_0 [.val x0] s (endN Q) (fun e _ s1 => E e s1) := (w_def (d := d19) rfl rfl rfl).trans run_eq
theorem f20 {n : Nat} {x0 : Fx.D} {s : Sto} {Q : Fx.D → Sto → Prop} {E : Ex → Sto → Prop} : Wp ((gen T0 defs (n + 1)).call 20 [x0] s) Q E = WpS (SS.ev (gen T0 defs n) (.cons (.ret (.fld (.var 0) "_cuts"))
      .nil) [.val x0] s) (endN Q) (fun e _ s1 => E e s1) := w_def (d := d20) rfl rfl rfl
theorem z20 : T0.dv 20 0 = [] := rfl
def c20_0 : SS := .cons (.ret (.fld (.var 0) "_cuts")) .nil
theorem v20_0 {n : Nat} {env : En} {s : Sto} {NN : Fl → Sto → Prop} {EE : Ex → En → Sto → Prop} : Run (gen T0 defs n) c20_0 env s NN EE = WpS (S.ev (gen T0 defs n) (.ret (.fld (.var 0) "_cuts")) env s) (nxt (fun e s1 => NN (.nx e) s1) NN) EE := by rw [c20_0, run_cons]; simp only [run_nil]
theorem r20_0 {n : Nat} {env : En} {s : Sto} {NN : Fl → Sto → Prop} {EE : Ex → En → Sto → Prop} : WpS (SS.ev (gen T0 defs n) c20_0 env s) NN EE = Run (gen T0 defs n) c20_0 env s NN EE := run_eq
theorem h20 {n : Nat} {x0 : Fx.D} {s : Sto} {Q : Fx.D → Sto → Prop} {E : Ex → Sto → Prop} : Wp ((gen T0 defs (n + 1)).call 20 [x0] s) Q E = Run (gen T0 defs n) c20_0 [.val x0] s (endN Q) (fun e _ s1 => E e s1) := (w_def (d := d20) rfl rfl rfl).trans run_eq
theorem f21 {n : Nat} {x0 x1 : Fx.D} {s : Sto} {Q : Fx.D → Sto → Prop} {E : Ex → Sto → Prop} : Wp ((gen T0 defs (n + 1)).call 21 [x0, x1] s) Q E = WpS (SS.ev (gen T0 defs n) (.cons (.expr (.call 2 (.cons (.var 1) .nil) 0))
      (.cons (.expr (.meth "_cut" 15 (.var 0) (.cons (.fr (.list (.x (.var 1)))) .nil)))
      .nil)) [.val x0, .val x1] s) (endN Q) (fun e _ s1 => E e s1) := w_def (d := d21) rfl rfl rfl
theorem z21 : T0.dv 21 0 = [] := rfl
def c21_1 : SS := .cons (.expr (.meth "_cut" 15 (.var 0) (.cons (.fr (.list (.x (.var 1)))) .nil))) .nil
theorem v21_1 {n : Nat} {env : En} {s : Sto} {NN : Fl → Sto → Prop} {EE : Ex → En → Sto → Prop} : Run (gen T0 defs n) c21_1 env s NN EE = WpS (S.ev (gen T0 defs n) (.expr (.meth "_cut" 15 (.var 0) (.cons (.fr (.list (.x (.var 1)))) .nil))) env s) (nxt (fun e s1 => NN (.nx e) s1) NN) EE := by rw [c21_1, run_cons]; simp only [run_nil]
theorem r21_1 {n : Nat} {env : En} {s : Sto} {NN : Fl → Sto → Prop} {EE : Ex → En → Sto → Prop} : WpS (SS.ev (gen T0 defs n) c21_1 env s) NN EE = Run (gen T0 defs n) c21_1 env s NN EE := run_eq
def c21_0 : SS := .cons (.expr (.call 2 (.cons (.var 1) .nil) 0)) c21_1
theorem v21_0 {n : Nat} {env : En} {s : Sto} {NN : Fl → Sto → Prop} {EE : Ex → En → Sto → Prop} : Run (gen T0 defs n) c21_0 env s NN EE = WpS (S.ev (gen T0 defs n) (.expr (.call 2 (.cons (.var 1) .nil) 0)) env s) (nxt (fun e s1 => Run (gen T0 defs n) c21_1 e s1 NN EE) NN) EE := run_cons
theorem r21_0 {n : Nat} {env : En} {s : Sto} {NN : Fl → Sto → Prop} {EE : Ex → En → Sto → Prop} : WpS (SS.ev (gen T0 defs n) c21_0 env s) NN EE = Run (gen T0 defs n) c21_0 env s NN EE := run_eq
theorem h21 {n : Nat} {x0 x1 : Fx.D} {s : Sto} {Q : Fx.D → Sto → Prop} {E : Ex → Sto → Prop} : Wp ((gen T0 defs (n + 1)).call 21 [x0, x1] s) Q E = Run (gen T0 defs n) c21_0 [.val x0, .val x1] s (endN Q) (fun e _ s1 => E e s1) := (w_def (d := d21) rfl rfl rfl).trans run_eq
theorem f22 {n : Nat} {x0 x1 x2 : Fx.D} {s : Sto} {Q : Fx.D → Sto → Prop} {E : Ex → Sto → Prop} : Wp ((gen T0 defs (n + 1)).call 22 [x0, x1, x2] s) Q E = WpS (SS.ev (gen T0 defs n) (.cons (.ite (.not (.x (.chain .LtE .LtE (.lit (.int 0)) (.var 1) (.con "COUNT_MOST")))) (.cons (.raise 1 (.cons (.lit (.str "many")) .nil))
      .nil) .nil)
      (.cons (.expr (.call 2 (.cons (.var 2) .nil) 0))
      (.cons (.setf (.var 0) "_left" (.var 1))
      (.cons (.setf (.var 0) "_torn" (.fr (.list (.x (.var 2)))))
      .nil)))) [.val x0, .val x1, .val x2] s) (endN Q) (fun e _ s1 => E e s1) := w_def (d := d22) rfl rfl rfl
theorem z22 : T0.dv 22 0 = [] := rfl
def c22_1 : SS := .cons (.raise 1 (.cons (.lit (.str "many")) .nil)) .nil
theorem v22_1 {n : Nat} {env : En} {s : Sto} {NN : Fl → Sto → Prop} {EE : Ex → En → Sto → Prop} : Run (gen T0 defs n) c22_1 env s NN EE = WpS (S.ev (gen T0 defs n) (.raise 1 (.cons (.lit (.str "many")) .nil)) env s) (nxt (fun e s1 => NN (.nx e) s1) NN) EE := by rw [c22_1, run_cons]; simp only [run_nil]
theorem r22_1 {n : Nat} {env : En} {s : Sto} {NN : Fl → Sto → Prop} {EE : Ex → En → Sto → Prop} : WpS (SS.ev (gen T0 defs n) c22_1 env s) NN EE = Run (gen T0 defs n) c22_1 env s NN EE := run_eq
def c22_4 : SS := .cons (.setf (.var 0) "_torn" (.fr (.list (.x (.var 2))))) .nil
theorem v22_4 {n : Nat} {env : En} {s : Sto} {NN : Fl → Sto → Prop} {EE : Ex → En → Sto → Prop} : Run (gen T0 defs n) c22_4 env s NN EE = WpS (S.ev (gen T0 defs n) (.setf (.var 0) "_torn" (.fr (.list (.x (.var 2))))) env s) (nxt (fun e s1 => NN (.nx e) s1) NN) EE := by rw [c22_4, run_cons]; simp only [run_nil]
theorem r22_4 {n : Nat} {env : En} {s : Sto} {NN : Fl → Sto → Prop} {EE : Ex → En → Sto → Prop} : WpS (SS.ev (gen T0 defs n) c22_4 env s) NN EE = Run (gen T0 defs n) c22_4 env s NN EE := run_eq
def c22_3 : SS := .cons (.setf (.var 0) "_left" (.var 1)) c22_4
theorem v22_3 {n : Nat} {env : En} {s : Sto} {NN : Fl → Sto → Prop} {EE : Ex → En → Sto → Prop} : Run (gen T0 defs n) c22_3 env s NN EE = WpS (S.ev (gen T0 defs n) (.setf (.var 0) "_left" (.var 1)) env s) (nxt (fun e s1 => Run (gen T0 defs n) c22_4 e s1 NN EE) NN) EE := run_cons
theorem r22_3 {n : Nat} {env : En} {s : Sto} {NN : Fl → Sto → Prop} {EE : Ex → En → Sto → Prop} : WpS (SS.ev (gen T0 defs n) c22_3 env s) NN EE = Run (gen T0 defs n) c22_3 env s NN EE := run_eq
def c22_2 : SS := .cons (.expr (.call 2 (.cons (.var 2) .nil) 0)) c22_3
theorem v22_2 {n : Nat} {env : En} {s : Sto} {NN : Fl → Sto → Prop} {EE : Ex → En → Sto → Prop} : Run (gen T0 defs n) c22_2 env s NN EE = WpS (S.ev (gen T0 defs n) (.expr (.call 2 (.cons (.var 2) .nil) 0)) env s) (nxt (fun e s1 => Run (gen T0 defs n) c22_3 e s1 NN EE) NN) EE := run_cons
theorem r22_2 {n : Nat} {env : En} {s : Sto} {NN : Fl → Sto → Prop} {EE : Ex → En → Sto → Prop} : WpS (SS.ev (gen T0 defs n) c22_2 env s) NN EE = Run (gen T0 defs n) c22_2 env s NN EE := run_eq
def c22_0 : SS := .cons (.ite (.not (.x (.chain .LtE .LtE (.lit (.int 0)) (.var 1) (.con "COUNT_MOST")))) c22_1 .nil) c22_2
theorem v22_0 {n : Nat} {env : En} {s : Sto} {NN : Fl → Sto → Prop} {EE : Ex → En → Sto → Prop} : Run (gen T0 defs n) c22_0 env s NN EE = WpS (S.ev (gen T0 defs n) (.ite (.not (.x (.chain .LtE .LtE (.lit (.int 0)) (.var 1) (.con "COUNT_MOST")))) c22_1 .nil) env s) (nxt (fun e s1 => Run (gen T0 defs n) c22_2 e s1 NN EE) NN) EE := run_cons
theorem r22_0 {n : Nat} {env : En} {s : Sto} {NN : Fl → Sto → Prop} {EE : Ex → En → Sto → Prop} : WpS (SS.ev (gen T0 defs n) c22_0 env s) NN EE = Run (gen T0 defs n) c22_0 env s NN EE := run_eq
theorem h22 {n : Nat} {x0 x1 x2 : Fx.D} {s : Sto} {Q : Fx.D → Sto → Prop} {E : Ex → Sto → Prop} : Wp ((gen T0 defs (n + 1)).call 22 [x0, x1, x2] s) Q E = Run (gen T0 defs n) c22_0 [.val x0, .val x1, .val x2] s (endN Q) (fun e _ s1 => E e s1) := (w_def (d := d22) rfl rfl rfl).trans run_eq
theorem k_BLOCK {n : Nat} {k : Fx.D → Prop} : wo ((gen T0 defs n).con "BLOCK") k = k (.int 32) := by cases n <;> rfl
theorem k_BLOCKS_LEAST {n : Nat} {k : Fx.D → Prop} : wo ((gen T0 defs n).con "BLOCKS_LEAST") k = k (.int 8) := by cases n <;> rfl
theorem k_BLOCKS_MOST {n : Nat} {k : Fx.D → Prop} : wo ((gen T0 defs n).con "BLOCKS_MOST") k = k (.int 400) := by cases n <;> rfl
theorem k_COUNT_MOST {n : Nat} {k : Fx.D → Prop} : wo ((gen T0 defs n).con "COUNT_MOST") k = k (.int 100000) := by cases n <;> rfl
theorem s1_0 {n : Nat} {k : Bool → Prop} : wo ((gen T0 defs n).sub 1 0) k = k true := by cases n <;> rfl
theorem s1_1 {n : Nat} {k : Bool → Prop} : wo ((gen T0 defs n).sub 1 1) k = k true := by cases n <;> rfl
theorem s1_2 {n : Nat} {k : Bool → Prop} : wo ((gen T0 defs n).sub 1 2) k = k false := by cases n <;> rfl
theorem s2_0 {n : Nat} {k : Bool → Prop} : wo ((gen T0 defs n).sub 2 0) k = k true := by cases n <;> rfl
theorem s2_1 {n : Nat} {k : Bool → Prop} : wo ((gen T0 defs n).sub 2 1) k = k false := by cases n <;> rfl
theorem s2_2 {n : Nat} {k : Bool → Prop} : wo ((gen T0 defs n).sub 2 2) k = k true := by cases n <;> rfl
theorem x1 {n : Nat} {k : List Str → Prop} : wo ((gen T0 defs n).xfld 1) k = k ["name"] := by cases n <;> rfl
theorem ti3 {k : Nat → Prop} : wo (T0.init 3) k = k 11 := rfl
theorem tm3_size {k : Nat → Prop} : wo (T0.meth 3 "size") k = k 12 := rfl
theorem tm3__check_at {k : Nat → Prop} : wo (T0.meth 3 "_check_at") k = k 13 := rfl
theorem tm3_read {k : Nat → Prop} : wo (T0.meth 3 "read") k = k 14 := rfl
theorem tm3__cut {k : Nat → Prop} : wo (T0.meth 3 "_cut") k = k 15 := rfl
theorem tm3__spend {k : Nat → Prop} : wo (T0.meth 3 "_spend") k = k 16 := rfl
theorem tm3_write {k : Nat → Prop} : wo (T0.meth 3 "write") k = k 17 := rfl
theorem tm3_flush {k : Nat → Prop} : wo (T0.meth 3 "flush") k = k 18 := rfl
theorem tm3_pending_count {k : Nat → Prop} : wo (T0.meth 3 "pending_count") k = k 19 := rfl
theorem tm3_cut_count {k : Nat → Prop} : wo (T0.meth 3 "cut_count") k = k 20 := rfl
theorem tm3_cut_power {k : Nat → Prop} : wo (T0.meth 3 "cut_power") k = k 21 := rfl
theorem tm3_schedule_cut {k : Nat → Prop} : wo (T0.meth 3 "schedule_cut") k = k 22 := rfl
theorem ta3__blocks : (T0.attr 3 "_blocks" = true) = True := eq_true (show decide ((3, ("_blocks" : Str)) ∈ attrL) = true from by decide +kernel)
theorem ta3__pending : (T0.attr 3 "_pending" = true) = True := eq_true (show decide ((3, ("_pending" : Str)) ∈ attrL) = true from by decide +kernel)
theorem ta3__cuts : (T0.attr 3 "_cuts" = true) = True := eq_true (show decide ((3, ("_cuts" : Str)) ∈ attrL) = true from by decide +kernel)
theorem ta3__left : (T0.attr 3 "_left" = true) = True := eq_true (show decide ((3, ("_left" : Str)) ∈ attrL) = true from by decide +kernel)
theorem ta3__torn : (T0.attr 3 "_torn" = true) = True := eq_true (show decide ((3, ("_torn" : Str)) ∈ attrL) = true from by decide +kernel)
end K42

set_option linter.all false
set_option maxRecDepth 100000
set_option maxHeartbeats 4000000
--MAC
local macro_rules
  | `(tactic| exists $ts,*) => do
    let a := ts.getElems
    let r := a.extract 1 a.size
    let c := (r.findIdx? fun t => t.raw.isOfKind `Lean.Parser.Term.hole).getD r.size
    let d := (r.extract 0 c).push (← `(Fx.wo_some))
    let u := (r.extract (c + 1) r.size).push (← `(true_and))
    match a[0]!.raw.isNatLit? with
    | some 0 => `(tactic| simp -implicitDefEqProofs (disch := decide +kernel) only [$[↓$d:term],*, $[$u:term],*, ↓Fx.i_cno, ↓Fx.i_cyes, ↓Fx.b_int_no, ↓Fx.b_int_yes, ↓Fx.o_modD, ↓Fx.o_divD, ↓Fx.o_mulR, ↓Fx.o_mulL, ↓Fx.i_t, ↓Fx.i_f, ↓Fx.wo_some, ↓Fx.wo_none, ↓Fx.wobj_obj, ↓Fx.wint_int, ↓Fx.wbl_bl, ↓Fx.wstr_str, ↓Fx.wlst_lst, ↓Fx.wif_true, ↓Fx.wif_false, ↓Fx.w_ok, ↓Fx.w_lit, ↓Fx.w_var, ↓Fx.w_con, ↓Fx.w_bin, ↓Fx.w_neg, ↓Fx.w_cmp, ↓Fx.w_chain, ↓Fx.w_ofC, ↓Fx.w_ite, ↓Fx.w_tup, ↓Fx.w_fr, ↓Fx.w_alloc, ↓Fx.w_ix, ↓Fx.w_b1, ↓Fx.w_cmpo, ↓Fx.w_b1o, ↓Fx.de_i, ↓Fx.de_b, ↓Fx.de_n, ↓Fx.de_s, ↓Fx.de_t, ↓Fx.de_l, ↓Fx.w_b2, ↓Fx.w_lx, ↓Fx.w_lown, ↓Fx.w_nil, ↓Fx.w_cons, ↓Fx.w_cx, ↓Fx.w_tru, ↓Fx.w_not, ↓Fx.w_and, ↓Fx.w_or, ↓Fx.w_one, ↓Fx.w_disp, ↓Fx.w_iseq, ↓Fx.w_rng1, ↓Fx.v_nil, ↓Fx.nxt_nx, ↓Fx.nxt_rt, ↓Fx.nxt_bk, ↓Fx.nxt_ct, ↓Fx.v_cons, ↓Fx.wlo_obj, ↓Fx.wlo_lst, ↓Fx.wen_t, ↓Fx.wen_f, ↓Fx.v_forO, ↓Fx.v_set, ↓Fx.v_expr, ↓Fx.v_ret, ↓Fx.v_retN, ↓Fx.v_pass, ↓Fx.v_brk, ↓Fx.v_cnt, ↓Fx.v_ite, ↓Fx.o_val0, ↓Fx.o_valS, ↓Fx.o_own0, ↓Fx.o_ownS, ↓Fx.o_exc0, ↓Fx.o_excS, ↓Fx.o_add, ↓Fx.o_sub, ↓Fx.o_adds, ↓Fx.o_addt, ↓Fx.o_eqI, ↓Fx.o_eqS, ↓Fx.o_eqB, ↓Fx.o_neI, ↓Fx.o_neS, ↓Fx.o_ltI, ↓Fx.o_gtI, ↓Fx.o_leI, ↓Fx.o_geI, ↓Fx.o_isN, ↓Fx.o_isI, ↓Fx.o_isB, ↓Fx.o_isS, ↓Fx.o_isT, ↓Fx.o_isL, ↓Fx.o_isO, ↓Fx.o_notN, ↓Fx.o_notI, ↓Fx.o_notB, ↓Fx.o_notS, ↓Fx.o_notT, ↓Fx.o_notL, ↓Fx.o_notO, ↓Fx.o_trN, ↓Fx.o_trB, ↓Fx.o_trI, ↓Fx.o_trT, ↓Fx.o_trL, ↓Fx.a_0, ↓Fx.a_1, ↓Fx.a_2, ↓Fx.x_tup, ↓Fx.x_lst, ↓Fx.x_obj, ↓Fx.st_S, ↓Fx.st_0, ↓Fx.b_lenO, ↓Fx.b_lenT, ↓Fx.b_lenL, ↓Fx.b_intI, ↓Fx.i_not, ↓Fx.e_0, ↓Fx.e_S, ↓Fx.t_name, ↓Fx.t_tup, ↓Fx.t_nil, ↓Fx.t_cons, ↓Fx.u_own, ↓Fx.u_app, ↓Fx.u_fin, ↓Fx.q_0, ↓Fx.q_1, ↓Fx.q_2, ↓Fx.p_0, ↓Fx.p_S, ↓Fx.u_seti, ↓Fx.lp_nx, ↓Fx.lp_ct, ↓Fx.lp_bk, ↓Fx.lp_rt, ↓Fx.l_nil, ↓Fx.l_cons, ↓Fx.w_call0, ↓Fx.endN_rt, ↓Fx.endN_nx, ↓Fx.sufE_rt, ↓Fx.b_reprK, ↓Fx.o_leT, ↓Fx.o_ltT, ↓Fx.o_eqT, ↓Fx.o_minT, ↓Fx.w_rng2, ↓Fx.ap_nil, ↓Fx.ap_cons, ↓Fx.dv_nil, ↓Fx.o_wkT, ↓Fx.o_wkL, ↓Fx.ex_mk, ↓Fx.zp_nil, ↓Fx.zp_cons, ↓Fx.lk_hit, ↓Fx.lk_miss, ↓Fx.su_0, ↓Fx.su_S, ↓Fx.un_nil, ↓Fx.un_val, ↓Fx.un_own, ↓Fx.un_no, ↓Fx.un_exc, ↓Fx.as_some, ↓Fx.as_none, ↓Fx.go_some, ↓Fx.go_none, ↓Fx.se_nx, ↓Fx.se_bk, ↓Fx.se_ct, ↓Fx.y_isE, ↓Fx.y_efld, ↓Fx.y_raise, ↓Fx.y_try1, ↓Fx.y_try2, ↓Fx.w_comp, ↓Fx.w_comp2, ↓Fx.cn_nil, ↓Fx.cn_cons, ↓Fx.sl_name, ↓Fx.sl_tup, ↓Fx.sl_nil, ↓Fx.sl_cons, ↓Fx.wi_nil, ↓Fx.wi_cons, ↓Fx.c_none, ↓Fx.c_some, ↓Fx.w_onone, ↓Fx.w_osome, ↓Fx.w_sl, ↓Fx.wls_lst, ↓Fx.wlsO_lst, ↓Fx.wlsO_obj, ↓Fx.w_slF, ↓Fx.w_cat, ↓Fx.w_rep, ↓Fx.w_isT, ↓Fx.ty_0, ↓Fx.ty_1, ↓Fx.ty_i, ↓Fx.ty_s, ↓Fx.ty_0s, ↓Fx.ty_0n, ↓Fx.ty_1n, ↓Fx.w_rng3, ↓Fx.w_rngC, ↓Fx.w_enum, ↓Fx.w_m1, ↓Fx.ins_S, ↓Fx.ins_0, ↓Fx.v_oapp, ↓Fx.pu_nil, ↓Fx.pu_hit, ↓Fx.pu_miss, ↓Fx.at_last, ↓Fx.o_mulS, ↓Fx.o_and8, ↓Fx.o_minI, ↓Fx.o_maxI, ↓Fx.b_tupL, ↓Fx.b_tupT, ↓Fx.b_lenS, ↓Fx.o_slT, ↓Fx.o_slS, ↓Fx.o_neB, ↓Fx.o_eqIN, ↓Fx.o_eqNI, ↓Fx.o_neNI, ↓Fx.o_neIN, ↓Fx.i_seq, ↓Fx.i_ieq, ↓Fx.a_m1, ↓Fx.a_m1b, ↓Fx.a_m2, ↓Fx.a_3, ↓Fx.a_4, ↓Fx.a_5, ↓Fx.in_yes, ↓Fx.in_no, ↓Fx.nin_yes, ↓Fx.nin_no, ↓Fx.Sz, ↓Fx.SzA, ↓Fx.Sz, ↓Fx.non_non, ↓Fx.w_mkD, ↓Fx.w_methD, ↓Fx.w_fldD, ↓Fx.v_setfD, ↓Fx.ins_A, ↓Fx.ins_k, ↓Fx.p_A, ↓Fx.lst_A, ↓Fx.ln_nil, ↓Fx.ln_cons, ↓Fx.o_isBB, ↓Fx.o_notBB, ↓Fx.w_listF, ↓Fx.w_callD, List.length_cons, List.length_nil, Nat.zero_add, Nat.reduceAdd, Nat.reduceLeDiff, Nat.reduceLT, true_and, Int.reduceAdd])
    | some 1 => `(tactic| simp -implicitDefEqProofs (disch := decide +kernel) only [$[↓$d:term],*, $[$u:term],*, ↓Fx.b_intB, ↓Fx.o_mod, ↓Fx.o_div, ↓Fx.o_mul, ↓Fx.wo_some, ↓Fx.wo_none, ↓Fx.wobj_obj, ↓Fx.wint_int, ↓Fx.wbl_bl, ↓Fx.wstr_str, ↓Fx.wlst_lst, ↓Fx.wif_true, ↓Fx.wif_false, ↓Fx.w_ok, ↓Fx.w_lit, ↓Fx.w_var, ↓Fx.w_con, ↓Fx.w_bin, ↓Fx.w_neg, ↓Fx.w_cmp, ↓Fx.w_chain, ↓Fx.w_ofC, ↓Fx.w_ite, ↓Fx.w_tup, ↓Fx.w_fr, ↓Fx.w_alloc, ↓Fx.w_ix, ↓Fx.w_b1, ↓Fx.w_cmpo, ↓Fx.w_b1o, ↓Fx.de_i, ↓Fx.de_b, ↓Fx.de_n, ↓Fx.de_s, ↓Fx.de_t, ↓Fx.de_l, ↓Fx.w_b2, ↓Fx.w_lx, ↓Fx.w_lown, ↓Fx.w_nil, ↓Fx.w_cons, ↓Fx.w_cx, ↓Fx.w_tru, ↓Fx.w_not, ↓Fx.w_and, ↓Fx.w_or, ↓Fx.w_one, ↓Fx.w_disp, ↓Fx.w_iseq, ↓Fx.w_rng1, ↓Fx.v_nil, ↓Fx.nxt_nx, ↓Fx.nxt_rt, ↓Fx.nxt_bk, ↓Fx.nxt_ct, ↓Fx.v_cons, ↓Fx.wlo_obj, ↓Fx.wlo_lst, ↓Fx.wen_t, ↓Fx.wen_f, ↓Fx.v_forO, ↓Fx.v_set, ↓Fx.v_expr, ↓Fx.v_ret, ↓Fx.v_retN, ↓Fx.v_pass, ↓Fx.v_brk, ↓Fx.v_cnt, ↓Fx.v_ite, ↓Fx.o_val0, ↓Fx.o_valS, ↓Fx.o_own0, ↓Fx.o_ownS, ↓Fx.o_exc0, ↓Fx.o_excS, ↓Fx.o_add, ↓Fx.o_sub, ↓Fx.o_adds, ↓Fx.o_addt, ↓Fx.o_eqI, ↓Fx.o_eqS, ↓Fx.o_eqB, ↓Fx.o_neI, ↓Fx.o_neS, ↓Fx.o_ltI, ↓Fx.o_gtI, ↓Fx.o_leI, ↓Fx.o_geI, ↓Fx.o_isN, ↓Fx.o_isI, ↓Fx.o_isB, ↓Fx.o_isS, ↓Fx.o_isT, ↓Fx.o_isL, ↓Fx.o_isO, ↓Fx.o_notN, ↓Fx.o_notI, ↓Fx.o_notB, ↓Fx.o_notS, ↓Fx.o_notT, ↓Fx.o_notL, ↓Fx.o_notO, ↓Fx.o_trN, ↓Fx.o_trB, ↓Fx.o_trI, ↓Fx.o_trT, ↓Fx.o_trL, ↓Fx.a_0, ↓Fx.a_1, ↓Fx.a_2, ↓Fx.x_tup, ↓Fx.x_lst, ↓Fx.x_obj, ↓Fx.st_S, ↓Fx.st_0, ↓Fx.b_lenO, ↓Fx.b_lenT, ↓Fx.b_lenL, ↓Fx.b_intI, ↓Fx.i_not, ↓Fx.e_0, ↓Fx.e_S, ↓Fx.t_name, ↓Fx.t_tup, ↓Fx.t_nil, ↓Fx.t_cons, ↓Fx.u_own, ↓Fx.u_app, ↓Fx.u_fin, ↓Fx.q_0, ↓Fx.q_1, ↓Fx.q_2, ↓Fx.p_0, ↓Fx.p_S, ↓Fx.u_seti, ↓Fx.lp_nx, ↓Fx.lp_ct, ↓Fx.lp_bk, ↓Fx.lp_rt, ↓Fx.l_nil, ↓Fx.l_cons, ↓Fx.w_call0, ↓Fx.endN_rt, ↓Fx.endN_nx, ↓Fx.sufE_rt, ↓Fx.b_reprK, ↓Fx.o_leT, ↓Fx.o_ltT, ↓Fx.o_eqT, ↓Fx.o_minT, ↓Fx.w_rng2, ↓Fx.ap_nil, ↓Fx.ap_cons, ↓Fx.dv_nil, ↓Fx.o_wkT, ↓Fx.o_wkL, ↓Fx.ex_mk, ↓Fx.zp_nil, ↓Fx.zp_cons, ↓Fx.lk_hit, ↓Fx.lk_miss, ↓Fx.su_0, ↓Fx.su_S, ↓Fx.un_nil, ↓Fx.un_val, ↓Fx.un_own, ↓Fx.un_no, ↓Fx.un_exc, ↓Fx.as_some, ↓Fx.as_none, ↓Fx.go_some, ↓Fx.go_none, ↓Fx.se_nx, ↓Fx.se_bk, ↓Fx.se_ct, ↓Fx.y_isE, ↓Fx.y_efld, ↓Fx.y_raise, ↓Fx.y_try1, ↓Fx.y_try2, ↓Fx.w_comp, ↓Fx.w_comp2, ↓Fx.cn_nil, ↓Fx.cn_cons, ↓Fx.sl_name, ↓Fx.sl_tup, ↓Fx.sl_nil, ↓Fx.sl_cons, ↓Fx.wi_nil, ↓Fx.wi_cons, ↓Fx.c_none, ↓Fx.c_some, ↓Fx.w_onone, ↓Fx.w_osome, ↓Fx.w_sl, ↓Fx.wls_lst, ↓Fx.wlsO_lst, ↓Fx.wlsO_obj, ↓Fx.w_slF, ↓Fx.w_cat, ↓Fx.w_rep, ↓Fx.w_isT, ↓Fx.ty_0, ↓Fx.ty_1, ↓Fx.ty_i, ↓Fx.ty_s, ↓Fx.ty_0s, ↓Fx.ty_0n, ↓Fx.ty_1n, ↓Fx.w_rng3, ↓Fx.w_rngC, ↓Fx.w_enum, ↓Fx.w_m1, ↓Fx.ins_S, ↓Fx.ins_0, ↓Fx.v_oapp, ↓Fx.pu_nil, ↓Fx.pu_hit, ↓Fx.pu_miss, ↓Fx.at_last, ↓Fx.o_mulS, ↓Fx.o_and8, ↓Fx.o_minI, ↓Fx.o_maxI, ↓Fx.b_tupL, ↓Fx.b_tupT, ↓Fx.b_lenS, ↓Fx.o_slT, ↓Fx.o_slS, ↓Fx.o_neB, ↓Fx.o_eqIN, ↓Fx.o_eqNI, ↓Fx.o_neNI, ↓Fx.o_neIN, ↓Fx.i_seq, ↓Fx.i_ieq, ↓Fx.a_m1, ↓Fx.a_m1b, ↓Fx.a_m2, ↓Fx.a_3, ↓Fx.a_4, ↓Fx.a_5, ↓Fx.in_yes, ↓Fx.in_no, ↓Fx.nin_yes, ↓Fx.nin_no, ↓Fx.Sz, ↓Fx.SzA, ↓Fx.Sz, ↓Fx.non_non, ↓Fx.w_mkD, ↓Fx.w_methD, ↓Fx.w_fldD, ↓Fx.v_setfD, ↓Fx.ins_A, ↓Fx.ins_k, ↓Fx.p_A, ↓Fx.lst_A, ↓Fx.ln_nil, ↓Fx.ln_cons, ↓Fx.o_isBB, ↓Fx.o_notBB, ↓Fx.w_listF, ↓Fx.w_callD, List.length_cons, List.length_nil, Nat.zero_add, Nat.reduceAdd, Nat.reduceLeDiff, Nat.reduceLT, true_and])
    | some 2 => `(tactic| simp -implicitDefEqProofs (disch := decide +kernel) only [$[↓$d:term],*, $[$u:term],*, ↓Fx.b_intB, ↓Fx.o_mod, ↓Fx.o_div, ↓Fx.o_mul, ↓Fx.i_dec, ↓Fx.wo_some, ↓Fx.wo_none, ↓Fx.wobj_obj, ↓Fx.wint_int, ↓Fx.wbl_bl, ↓Fx.wstr_str, ↓Fx.wlst_lst, ↓Fx.wif_true, ↓Fx.wif_false, ↓Fx.w_ok, ↓Fx.w_lit, ↓Fx.w_var, ↓Fx.w_con, ↓Fx.w_bin, ↓Fx.w_neg, ↓Fx.w_cmp, ↓Fx.w_chain, ↓Fx.w_ofC, ↓Fx.w_ite, ↓Fx.w_tup, ↓Fx.w_fr, ↓Fx.w_alloc, ↓Fx.w_ix, ↓Fx.w_b1, ↓Fx.w_cmpo, ↓Fx.w_b1o, ↓Fx.de_i, ↓Fx.de_b, ↓Fx.de_n, ↓Fx.de_s, ↓Fx.de_t, ↓Fx.de_l, ↓Fx.w_b2, ↓Fx.w_lx, ↓Fx.w_lown, ↓Fx.w_nil, ↓Fx.w_cons, ↓Fx.w_cx, ↓Fx.w_tru, ↓Fx.w_not, ↓Fx.w_and, ↓Fx.w_or, ↓Fx.w_one, ↓Fx.w_disp, ↓Fx.w_iseq, ↓Fx.w_rng1, ↓Fx.v_nil, ↓Fx.nxt_nx, ↓Fx.nxt_rt, ↓Fx.nxt_bk, ↓Fx.nxt_ct, ↓Fx.v_cons, ↓Fx.wlo_obj, ↓Fx.wlo_lst, ↓Fx.wen_t, ↓Fx.wen_f, ↓Fx.v_forO, ↓Fx.v_set, ↓Fx.v_expr, ↓Fx.v_ret, ↓Fx.v_retN, ↓Fx.v_pass, ↓Fx.v_brk, ↓Fx.v_cnt, ↓Fx.v_ite, ↓Fx.o_val0, ↓Fx.o_valS, ↓Fx.o_own0, ↓Fx.o_ownS, ↓Fx.o_exc0, ↓Fx.o_excS, ↓Fx.o_add, ↓Fx.o_sub, ↓Fx.o_adds, ↓Fx.o_addt, ↓Fx.o_eqI, ↓Fx.o_eqS, ↓Fx.o_eqB, ↓Fx.o_neI, ↓Fx.o_neS, ↓Fx.o_ltI, ↓Fx.o_gtI, ↓Fx.o_leI, ↓Fx.o_geI, ↓Fx.o_isN, ↓Fx.o_isI, ↓Fx.o_isB, ↓Fx.o_isS, ↓Fx.o_isT, ↓Fx.o_isL, ↓Fx.o_isO, ↓Fx.o_notN, ↓Fx.o_notI, ↓Fx.o_notB, ↓Fx.o_notS, ↓Fx.o_notT, ↓Fx.o_notL, ↓Fx.o_notO, ↓Fx.o_trN, ↓Fx.o_trB, ↓Fx.o_trI, ↓Fx.o_trT, ↓Fx.o_trL, ↓Fx.a_0, ↓Fx.a_1, ↓Fx.a_2, ↓Fx.x_tup, ↓Fx.x_lst, ↓Fx.x_obj, ↓Fx.st_S, ↓Fx.st_0, ↓Fx.b_lenO, ↓Fx.b_lenT, ↓Fx.b_lenL, ↓Fx.b_intI, ↓Fx.i_not, ↓Fx.e_0, ↓Fx.e_S, ↓Fx.t_name, ↓Fx.t_tup, ↓Fx.t_nil, ↓Fx.t_cons, ↓Fx.u_own, ↓Fx.u_app, ↓Fx.u_fin, ↓Fx.q_0, ↓Fx.q_1, ↓Fx.q_2, ↓Fx.p_0, ↓Fx.p_S, ↓Fx.u_seti, ↓Fx.lp_nx, ↓Fx.lp_ct, ↓Fx.lp_bk, ↓Fx.lp_rt, ↓Fx.l_nil, ↓Fx.l_cons, ↓Fx.w_call0, ↓Fx.endN_rt, ↓Fx.endN_nx, ↓Fx.sufE_rt, ↓Fx.b_reprK, ↓Fx.o_leT, ↓Fx.o_ltT, ↓Fx.o_eqT, ↓Fx.o_minT, ↓Fx.w_rng2, ↓Fx.ap_nil, ↓Fx.ap_cons, ↓Fx.dv_nil, ↓Fx.o_wkT, ↓Fx.o_wkL, ↓Fx.ex_mk, ↓Fx.zp_nil, ↓Fx.zp_cons, ↓Fx.lk_hit, ↓Fx.lk_miss, ↓Fx.su_0, ↓Fx.su_S, ↓Fx.un_nil, ↓Fx.un_val, ↓Fx.un_own, ↓Fx.un_no, ↓Fx.un_exc, ↓Fx.as_some, ↓Fx.as_none, ↓Fx.go_some, ↓Fx.go_none, ↓Fx.se_nx, ↓Fx.se_bk, ↓Fx.se_ct, ↓Fx.y_isE, ↓Fx.y_efld, ↓Fx.y_raise, ↓Fx.y_try1, ↓Fx.y_try2, ↓Fx.w_comp, ↓Fx.w_comp2, ↓Fx.cn_nil, ↓Fx.cn_cons, ↓Fx.sl_name, ↓Fx.sl_tup, ↓Fx.sl_nil, ↓Fx.sl_cons, ↓Fx.wi_nil, ↓Fx.wi_cons, ↓Fx.c_none, ↓Fx.c_some, ↓Fx.w_onone, ↓Fx.w_osome, ↓Fx.w_sl, ↓Fx.wls_lst, ↓Fx.wlsO_lst, ↓Fx.wlsO_obj, ↓Fx.w_slF, ↓Fx.w_cat, ↓Fx.w_rep, ↓Fx.w_isT, ↓Fx.ty_0, ↓Fx.ty_1, ↓Fx.ty_i, ↓Fx.ty_s, ↓Fx.ty_0s, ↓Fx.ty_0n, ↓Fx.ty_1n, ↓Fx.w_rng3, ↓Fx.w_rngC, ↓Fx.w_enum, ↓Fx.w_m1, ↓Fx.ins_S, ↓Fx.ins_0, ↓Fx.v_oapp, ↓Fx.pu_nil, ↓Fx.pu_hit, ↓Fx.pu_miss, ↓Fx.at_last, ↓Fx.o_mulS, ↓Fx.o_and8, ↓Fx.o_minI, ↓Fx.o_maxI, ↓Fx.b_tupL, ↓Fx.b_tupT, ↓Fx.b_lenS, ↓Fx.o_slT, ↓Fx.o_slS, ↓Fx.o_neB, ↓Fx.o_eqIN, ↓Fx.o_eqNI, ↓Fx.o_neNI, ↓Fx.o_neIN, ↓Fx.i_seq, ↓Fx.i_ieq, ↓Fx.a_m1, ↓Fx.a_m1b, ↓Fx.a_m2, ↓Fx.a_3, ↓Fx.a_4, ↓Fx.a_5, ↓Fx.in_yes, ↓Fx.in_no, ↓Fx.nin_yes, ↓Fx.nin_no, ↓Fx.Sz, ↓Fx.SzA, ↓Fx.Sz, ↓Fx.non_non, ↓Fx.w_mkD, ↓Fx.w_methD, ↓Fx.w_fldD, ↓Fx.v_setfD, ↓Fx.ins_A, ↓Fx.ins_k, ↓Fx.p_A, ↓Fx.lst_A, ↓Fx.ln_nil, ↓Fx.ln_cons, ↓Fx.o_isBB, ↓Fx.o_notBB, ↓Fx.w_listF, ↓Fx.w_callD, List.length_cons, List.length_nil, Nat.zero_add, Nat.reduceAdd, Nat.reduceLeDiff, Nat.reduceLT, true_and])
    | some 3 => `(tactic| simp -implicitDefEqProofs only [$[↓$d:term],*, $[$u:term],*, ↓Fx.b_intB, ↓Fx.o_mod, ↓Fx.o_div, ↓Fx.o_mul, ↓Fx.wo_some, ↓Fx.wo_none, ↓Fx.wobj_obj, ↓Fx.wint_int, ↓Fx.wbl_bl, ↓Fx.wstr_str, ↓Fx.wlst_lst, ↓Fx.wif_true, ↓Fx.wif_false, ↓Fx.w_ok, ↓Fx.w_lit, ↓Fx.w_var, ↓Fx.w_con, ↓Fx.w_bin, ↓Fx.w_neg, ↓Fx.w_cmp, ↓Fx.w_chain, ↓Fx.w_ofC, ↓Fx.w_ite, ↓Fx.w_tup, ↓Fx.w_fr, ↓Fx.w_alloc, ↓Fx.w_ix, ↓Fx.w_b1, ↓Fx.w_cmpo, ↓Fx.w_b1o, ↓Fx.de_i, ↓Fx.de_b, ↓Fx.de_n, ↓Fx.de_s, ↓Fx.de_t, ↓Fx.de_l, ↓Fx.w_b2, ↓Fx.w_lx, ↓Fx.w_lown, ↓Fx.w_nil, ↓Fx.w_cons, ↓Fx.w_cx, ↓Fx.w_tru, ↓Fx.w_not, ↓Fx.w_and, ↓Fx.w_or, ↓Fx.w_one, ↓Fx.w_disp, ↓Fx.w_iseq, ↓Fx.w_rng1, ↓Fx.v_nil, ↓Fx.nxt_nx, ↓Fx.nxt_rt, ↓Fx.nxt_bk, ↓Fx.nxt_ct, ↓Fx.v_cons, ↓Fx.wlo_obj, ↓Fx.wlo_lst, ↓Fx.wen_t, ↓Fx.wen_f, ↓Fx.v_forO, ↓Fx.v_set, ↓Fx.v_expr, ↓Fx.v_ret, ↓Fx.v_retN, ↓Fx.v_pass, ↓Fx.v_brk, ↓Fx.v_cnt, ↓Fx.v_ite, ↓Fx.o_val0, ↓Fx.o_valS, ↓Fx.o_own0, ↓Fx.o_ownS, ↓Fx.o_exc0, ↓Fx.o_excS, ↓Fx.o_add, ↓Fx.o_sub, ↓Fx.o_adds, ↓Fx.o_addt, ↓Fx.o_eqI, ↓Fx.o_eqS, ↓Fx.o_eqB, ↓Fx.o_neI, ↓Fx.o_neS, ↓Fx.o_ltI, ↓Fx.o_gtI, ↓Fx.o_leI, ↓Fx.o_geI, ↓Fx.o_isN, ↓Fx.o_isI, ↓Fx.o_isB, ↓Fx.o_isS, ↓Fx.o_isT, ↓Fx.o_isL, ↓Fx.o_isO, ↓Fx.o_notN, ↓Fx.o_notI, ↓Fx.o_notB, ↓Fx.o_notS, ↓Fx.o_notT, ↓Fx.o_notL, ↓Fx.o_notO, ↓Fx.o_trN, ↓Fx.o_trB, ↓Fx.o_trI, ↓Fx.o_trT, ↓Fx.o_trL, ↓Fx.a_0, ↓Fx.a_1, ↓Fx.a_2, ↓Fx.x_tup, ↓Fx.x_lst, ↓Fx.x_obj, ↓Fx.st_S, ↓Fx.st_0, ↓Fx.b_lenO, ↓Fx.b_lenT, ↓Fx.b_lenL, ↓Fx.b_intI, ↓Fx.i_not, ↓Fx.e_0, ↓Fx.e_S, ↓Fx.t_name, ↓Fx.t_tup, ↓Fx.t_nil, ↓Fx.t_cons, ↓Fx.u_own, ↓Fx.u_app, ↓Fx.u_fin, ↓Fx.q_0, ↓Fx.q_1, ↓Fx.q_2, ↓Fx.p_0, ↓Fx.p_S, ↓Fx.u_seti, ↓Fx.lp_nx, ↓Fx.lp_ct, ↓Fx.lp_bk, ↓Fx.lp_rt, ↓Fx.l_nil, ↓Fx.l_cons, ↓Fx.w_call0, ↓Fx.endN_rt, ↓Fx.endN_nx, ↓Fx.sufE_rt, ↓Fx.b_reprK, ↓Fx.o_leT, ↓Fx.o_ltT, ↓Fx.o_eqT, ↓Fx.o_minT, ↓Fx.w_rng2, ↓Fx.ap_nil, ↓Fx.ap_cons, ↓Fx.dv_nil, ↓Fx.o_wkT, ↓Fx.o_wkL, ↓Fx.ex_mk, ↓Fx.zp_nil, ↓Fx.zp_cons, ↓Fx.lk_hit, ↓Fx.lk_miss, ↓Fx.su_0, ↓Fx.su_S, ↓Fx.un_nil, ↓Fx.un_val, ↓Fx.un_own, ↓Fx.un_no, ↓Fx.un_exc, ↓Fx.as_some, ↓Fx.as_none, ↓Fx.go_some, ↓Fx.go_none, ↓Fx.se_nx, ↓Fx.se_bk, ↓Fx.se_ct, ↓Fx.y_isE, ↓Fx.y_efld, ↓Fx.y_raise, ↓Fx.y_try1, ↓Fx.y_try2, ↓Fx.w_comp, ↓Fx.w_comp2, ↓Fx.cn_nil, ↓Fx.cn_cons, ↓Fx.sl_name, ↓Fx.sl_tup, ↓Fx.sl_nil, ↓Fx.sl_cons, ↓Fx.wi_nil, ↓Fx.wi_cons, ↓Fx.c_none, ↓Fx.c_some, ↓Fx.w_onone, ↓Fx.w_osome, ↓Fx.w_sl, ↓Fx.wls_lst, ↓Fx.wlsO_lst, ↓Fx.wlsO_obj, ↓Fx.w_slF, ↓Fx.w_cat, ↓Fx.w_rep, ↓Fx.w_isT, ↓Fx.ty_0, ↓Fx.ty_1, ↓Fx.ty_i, ↓Fx.ty_s, ↓Fx.ty_0s, ↓Fx.ty_0n, ↓Fx.ty_1n, ↓Fx.w_rng3, ↓Fx.w_rngC, ↓Fx.w_enum, ↓Fx.w_m1, ↓Fx.ins_S, ↓Fx.ins_0, ↓Fx.v_oapp, ↓Fx.pu_nil, ↓Fx.pu_hit, ↓Fx.pu_miss, ↓Fx.at_last, ↓Fx.o_mulS, ↓Fx.o_and8, ↓Fx.o_minI, ↓Fx.o_maxI, ↓Fx.b_tupL, ↓Fx.b_tupT, ↓Fx.b_lenS, ↓Fx.o_slT, ↓Fx.o_slS, ↓Fx.o_neB, ↓Fx.o_eqIN, ↓Fx.o_eqNI, ↓Fx.o_neNI, ↓Fx.o_neIN, ↓Fx.i_seq, ↓Fx.i_ieq, ↓Fx.a_m1, ↓Fx.a_m1b, ↓Fx.a_m2, ↓Fx.a_3, ↓Fx.a_4, ↓Fx.a_5, ↓Fx.in_yes, ↓Fx.in_no, ↓Fx.nin_yes, ↓Fx.nin_no, ↓Fx.Sz, ↓Fx.SzA, ↓Fx.Sz, ↓Fx.non_non, ↓Fx.w_mkD, ↓Fx.w_methD, ↓Fx.w_fldD, ↓Fx.v_setfD, ↓Fx.ins_A, ↓Fx.ins_k, ↓Fx.p_A, ↓Fx.lst_A, ↓Fx.ln_nil, ↓Fx.ln_cons, ↓Fx.o_isBB, ↓Fx.o_notBB, ↓Fx.w_listF, ↓Fx.w_callD, List.length_cons, List.length_nil, Nat.zero_add, Nat.reduceAdd, Nat.reduceLeDiff, Nat.reduceLT, true_and])
    | _ => `(tactic| simp -implicitDefEqProofs only [$[↓$d:term],*, $[$u:term],*, ↓Fx.b_intB, ↓Fx.o_mod, ↓Fx.o_div, ↓Fx.o_mul, ↓Fx.i_dec, ↓Fx.wo_some, ↓Fx.wo_none, ↓Fx.wobj_obj, ↓Fx.wint_int, ↓Fx.wbl_bl, ↓Fx.wstr_str, ↓Fx.wlst_lst, ↓Fx.wif_true, ↓Fx.wif_false, ↓Fx.w_ok, ↓Fx.w_lit, ↓Fx.w_var, ↓Fx.w_con, ↓Fx.w_bin, ↓Fx.w_neg, ↓Fx.w_cmp, ↓Fx.w_chain, ↓Fx.w_ofC, ↓Fx.w_ite, ↓Fx.w_tup, ↓Fx.w_fr, ↓Fx.w_alloc, ↓Fx.w_ix, ↓Fx.w_b1, ↓Fx.w_cmpo, ↓Fx.w_b1o, ↓Fx.de_i, ↓Fx.de_b, ↓Fx.de_n, ↓Fx.de_s, ↓Fx.de_t, ↓Fx.de_l, ↓Fx.w_b2, ↓Fx.w_lx, ↓Fx.w_lown, ↓Fx.w_nil, ↓Fx.w_cons, ↓Fx.w_cx, ↓Fx.w_tru, ↓Fx.w_not, ↓Fx.w_and, ↓Fx.w_or, ↓Fx.w_one, ↓Fx.w_disp, ↓Fx.w_iseq, ↓Fx.w_rng1, ↓Fx.v_nil, ↓Fx.nxt_nx, ↓Fx.nxt_rt, ↓Fx.nxt_bk, ↓Fx.nxt_ct, ↓Fx.v_cons, ↓Fx.wlo_obj, ↓Fx.wlo_lst, ↓Fx.wen_t, ↓Fx.wen_f, ↓Fx.v_forO, ↓Fx.v_set, ↓Fx.v_expr, ↓Fx.v_ret, ↓Fx.v_retN, ↓Fx.v_pass, ↓Fx.v_brk, ↓Fx.v_cnt, ↓Fx.v_ite, ↓Fx.o_val0, ↓Fx.o_valS, ↓Fx.o_own0, ↓Fx.o_ownS, ↓Fx.o_exc0, ↓Fx.o_excS, ↓Fx.o_add, ↓Fx.o_sub, ↓Fx.o_adds, ↓Fx.o_addt, ↓Fx.o_eqI, ↓Fx.o_eqS, ↓Fx.o_eqB, ↓Fx.o_neI, ↓Fx.o_neS, ↓Fx.o_ltI, ↓Fx.o_gtI, ↓Fx.o_leI, ↓Fx.o_geI, ↓Fx.o_isN, ↓Fx.o_isI, ↓Fx.o_isB, ↓Fx.o_isS, ↓Fx.o_isT, ↓Fx.o_isL, ↓Fx.o_isO, ↓Fx.o_notN, ↓Fx.o_notI, ↓Fx.o_notB, ↓Fx.o_notS, ↓Fx.o_notT, ↓Fx.o_notL, ↓Fx.o_notO, ↓Fx.o_trN, ↓Fx.o_trB, ↓Fx.o_trI, ↓Fx.o_trT, ↓Fx.o_trL, ↓Fx.a_0, ↓Fx.a_1, ↓Fx.a_2, ↓Fx.x_tup, ↓Fx.x_lst, ↓Fx.x_obj, ↓Fx.st_S, ↓Fx.st_0, ↓Fx.b_lenO, ↓Fx.b_lenT, ↓Fx.b_lenL, ↓Fx.b_intI, ↓Fx.i_not, ↓Fx.e_0, ↓Fx.e_S, ↓Fx.t_name, ↓Fx.t_tup, ↓Fx.t_nil, ↓Fx.t_cons, ↓Fx.u_own, ↓Fx.u_app, ↓Fx.u_fin, ↓Fx.q_0, ↓Fx.q_1, ↓Fx.q_2, ↓Fx.p_0, ↓Fx.p_S, ↓Fx.u_seti, ↓Fx.lp_nx, ↓Fx.lp_ct, ↓Fx.lp_bk, ↓Fx.lp_rt, ↓Fx.l_nil, ↓Fx.l_cons, ↓Fx.w_call0, ↓Fx.endN_rt, ↓Fx.endN_nx, ↓Fx.sufE_rt, ↓Fx.b_reprK, ↓Fx.o_leT, ↓Fx.o_ltT, ↓Fx.o_eqT, ↓Fx.o_minT, ↓Fx.w_rng2, ↓Fx.ap_nil, ↓Fx.ap_cons, ↓Fx.dv_nil, ↓Fx.o_wkT, ↓Fx.o_wkL, ↓Fx.ex_mk, ↓Fx.zp_nil, ↓Fx.zp_cons, ↓Fx.lk_hit, ↓Fx.lk_miss, ↓Fx.su_0, ↓Fx.su_S, ↓Fx.un_nil, ↓Fx.un_val, ↓Fx.un_own, ↓Fx.un_no, ↓Fx.un_exc, ↓Fx.as_some, ↓Fx.as_none, ↓Fx.go_some, ↓Fx.go_none, ↓Fx.se_nx, ↓Fx.se_bk, ↓Fx.se_ct, ↓Fx.y_isE, ↓Fx.y_efld, ↓Fx.y_raise, ↓Fx.y_try1, ↓Fx.y_try2, ↓Fx.w_comp, ↓Fx.w_comp2, ↓Fx.cn_nil, ↓Fx.cn_cons, ↓Fx.sl_name, ↓Fx.sl_tup, ↓Fx.sl_nil, ↓Fx.sl_cons, ↓Fx.wi_nil, ↓Fx.wi_cons, ↓Fx.c_none, ↓Fx.c_some, ↓Fx.w_onone, ↓Fx.w_osome, ↓Fx.w_sl, ↓Fx.wls_lst, ↓Fx.wlsO_lst, ↓Fx.wlsO_obj, ↓Fx.w_slF, ↓Fx.w_cat, ↓Fx.w_rep, ↓Fx.w_isT, ↓Fx.ty_0, ↓Fx.ty_1, ↓Fx.ty_i, ↓Fx.ty_s, ↓Fx.ty_0s, ↓Fx.ty_0n, ↓Fx.ty_1n, ↓Fx.w_rng3, ↓Fx.w_rngC, ↓Fx.w_enum, ↓Fx.w_m1, ↓Fx.ins_S, ↓Fx.ins_0, ↓Fx.v_oapp, ↓Fx.pu_nil, ↓Fx.pu_hit, ↓Fx.pu_miss, ↓Fx.at_last, ↓Fx.o_mulS, ↓Fx.o_and8, ↓Fx.o_minI, ↓Fx.o_maxI, ↓Fx.b_tupL, ↓Fx.b_tupT, ↓Fx.b_lenS, ↓Fx.o_slT, ↓Fx.o_slS, ↓Fx.o_neB, ↓Fx.o_eqIN, ↓Fx.o_eqNI, ↓Fx.o_neNI, ↓Fx.o_neIN, ↓Fx.i_seq, ↓Fx.i_ieq, ↓Fx.a_m1, ↓Fx.a_m1b, ↓Fx.a_m2, ↓Fx.a_3, ↓Fx.a_4, ↓Fx.a_5, ↓Fx.in_yes, ↓Fx.in_no, ↓Fx.nin_yes, ↓Fx.nin_no, ↓Fx.Sz, ↓Fx.SzA, ↓Fx.Sz, ↓Fx.non_non, ↓Fx.w_mkD, ↓Fx.w_methD, ↓Fx.w_fldD, ↓Fx.v_setfD, ↓Fx.ins_A, ↓Fx.ins_k, ↓Fx.p_A, ↓Fx.lst_A, ↓Fx.ln_nil, ↓Fx.ln_cons, ↓Fx.o_isBB, ↓Fx.o_notBB, ↓Fx.w_listF, ↓Fx.w_callD, List.length_cons, List.length_nil, Nat.zero_add, Nat.reduceAdd, Nat.reduceLeDiff, Nat.reduceLT, true_and])
--END
namespace K42
open PySem PySem.Spec PyProof.Rows L2 Fx
/-- the box: the digits, the place -/
def bx (is : List Int) (a : Nat) (rs : Sto := []) : Sto := .lst [.lst (is.map .int), .int a] :: rs
def dr (is : List Int) (a : Nat) (m : Int) : Int := if a < is.length then is.getD a 0 % m else ((a : Int) * 7 + 3) % m
theorem draw {n : Nat} {is : List Int} {a : Nat} {rs : Sto} {m : Int} (hm : 0 < m) {Q : Fx.D → Sto → Prop} {E : Ex → Sto → Prop} : Wp ((gen T0 defs (n + 1)).call 5 [.obj 0, .int m] (bx is a rs)) Q E = Q (.int (dr is a m)) (bx is (a + 1) rs) := by
  apply wp_okI
  apply wp_okE
  unfold bx
  exists 4, f5, z5
  refine ⟨fun h => ?_, fun h => ?_⟩
  · rw [List.length_map] at h
    have h' : a < is.length := by omega
    rw [Fx.a_get (d := .int (is.getD a 0)) (by omega) (by rw [Int.toNat_natCast, List.getElem?_map, List.getD_eq_getElem?_getD, List.getElem?_eq_getElem h']; rfl)]
    exists 4
    exact ⟨hm, by rw [dr, if_pos h'], by rw [Int.natCast_add]; rfl⟩
  · rw [List.length_map] at h
    have h' : ¬ a < is.length := by omega
    exact ⟨.inr ⟨by decide, by decide⟩, hm, by rw [dr, if_neg h'], by rw [Int.natCast_add]; rfl⟩
theorem dr_nn {is : List Int} {a : Nat} {m : Int} (hm : 0 < m) : 0 ≤ dr is a m := by
  unfold dr; split <;> exact Int.emod_nonneg _ (by omega)
theorem dr_lt {is : List Int} {a : Nat} {m : Int} (hm : 0 < m) : dr is a m < m := by
  unfold dr; split <;> exact Int.emod_lt_of_pos _ hm
end K42

set_option linter.all false
set_option maxRecDepth 100000
set_option maxHeartbeats 4000000
namespace K42
open PySem PySem.Spec PyProof.Rows L2 Fx
section
variable {n : Nat} {s : Sto} {Q : Fx.D → Sto → Prop} {E : Ex → Sto → Prop} {a b c d k : Int}
theorem cellE {is : List Int} {j : Nat} : Wp ((gen T0 defs (n + 1)).call 3 [.lst (is.map .int), .int j] s) Q E = Q (.int (is.getD j 0)) s := by
  exists 4, f3
  rw [List.length_map]
  by_cases h : j < is.length
  · have e : ((is.map Fx.D.int)[(j : Int).toNat]?) = some (.int (is.getD j 0)) := by
      rw [Int.toNat_natCast, List.getElem?_map, List.getD_eq_getElem?_getD, List.getElem?_eq_getElem h]; rfl
    rw [Fx.a_get (by omega) e]
    have h' : (j : Int) < (is.length : Int) := by omega
    simp only [h', true_implies, not_true_eq_false, false_implies, and_true]
  · have h' : ¬ (j : Int) < (is.length : Int) := by omega
    have e : is.getD j 0 = 0 := by rw [List.getD_eq_getElem?_getD, List.getElem?_eq_none (by omega)]; rfl
    rw [e]
    simp only [h', false_implies, true_and, not_false_eq_true, true_implies]
end
section
variable {n : Nat} {s : Sto} {NN : Fl → Sto → Prop} {EE : Ex → En → Sto → Prop}
theorem loopA {x y z u : Fx.D} {c : Int} {s6 s7 : Sl} {acc : List Int} (h : acc.length + 60 ≤ 16000) (hN : ∀ (acc' : List Int) (c' : Int) (s6' : Sl), acc'.length ≤ acc.length + 60 → NN (.nx [.val x, .val y, .val z, .own (acc'.map .int), .val u, .val (.int c'), s6', s7]) s) :
    WpS (S.ev (gen T0 defs n) (.for (.name 6) (.rng1 (.lit (.int 60))) (.cons (.ite (.x (.cmp .Gt (.x (.var 5)) (.x (.lit (.int 0))))) (.cons (.app 3 (.bin .Mod (.b1 .int (.x (.var 5))) (.lit (.int 1000))))
      (.cons (.set (.name 5) (.bin .FloorDiv (.var 5) (.lit (.int 1000))))
      .nil)) .nil)
      .nil)) [.val x, .val y, .val z, .own (acc.map .int), .val u, .val (.int c), s6, s7] s) NN EE := by
  rw [v_for]
  exists 4
  refine ⟨by decide, ?_⟩
  refine l_for (fun r env s' => s' = s ∧ (∀ d ∈ r, ∃ k : Int, d = .int k) ∧ ∃ (acc' : List Int) (c' : Int) (s6' : Sl), env = [.val x, .val y, .val z, .own (acc'.map .int), .val u, .val (.int c'), s6', s7] ∧ acc'.length + r.length ≤ acc.length + 60) ?_ ?_ _ _ _ ⟨rfl, rng_int, acc, c, s6, rfl, by rw [rng_len]; exact Nat.add_le_add_left (by decide) _⟩
  · rintro d r env s' ⟨e1, hd, acc', c', s6', e2, hl⟩
    subst e1 e2
    obtain ⟨k, e3⟩ := hd d (List.mem_cons_self ..)
    subst e3
    rw [List.length_cons] at hl
    exists 4
    refine ⟨fun h0 => ⟨by decide, ?_, by decide, fun d h => hd d (List.mem_cons_of_mem _ h), acc' ++ [c' % 1000], c' / 1000, _, by rw [List.map_append]; rfl, ?_⟩, fun h0 => ⟨fun d h => hd d (List.mem_cons_of_mem _ h), acc', c', _, rfl, by omega⟩⟩
    · rw [List.length_map]; omega
    · rw [List.length_append, List.length_singleton]; omega
  · rintro env s' ⟨e1, _, acc', c', s6', e2, hl⟩
    subst e1 e2
    exact hN acc' c' s6' (by simpa using hl)
theorem loopB {x y z u v : Fx.D} {c : Int} {s6 : Sl} {acc : List Int} (h : acc.length + 60 ≤ 16000) (hN : ∀ (acc' : List Int) (c' : Int) (s6' : Sl), acc'.length ≤ acc.length + 60 → NN (.nx [.val x, .val y, .val z, .own (acc'.map .int), .val u, .val v, s6', .val (.int c')]) s) :
    WpS (S.ev (gen T0 defs n) (.for (.name 6) (.rng1 (.lit (.int 12))) (.cons (.set (.name 7) (.bin .Mod (.b1 .int (.x (.bin .Add (.bin .Add (.bin .Mult (.var 7) (.lit (.int 40014))) (.bin .Mult (.lit (.int 5)) (.var 6))) (.lit (.int 3))))) (.lit (.int 2147483563))))
      (.cons (.app 3 (.bin .Mod (.b1 .int (.x (.bin .FloorDiv (.var 7) (.lit (.int 1009))))) (.lit (.int 1000))))
      .nil))) [.val x, .val y, .val z, .own (acc.map .int), .val u, .val v, s6, .val (.int c)] s) NN EE := by
  rw [v_for]
  exists 4
  refine ⟨by decide, ?_⟩
  refine l_for (fun r env s' => s' = s ∧ (∀ d ∈ r, ∃ k : Int, d = .int k) ∧ ∃ (acc' : List Int) (c' : Int) (s6' : Sl), env = [.val x, .val y, .val z, .own (acc'.map .int), .val u, .val v, s6', .val (.int c')] ∧ acc'.length + r.length ≤ acc.length + 60) ?_ ?_ _ _ _ ⟨rfl, rng_int, acc, c, s6, rfl, by rw [rng_len]; exact Nat.add_le_add_left (by decide) _⟩
  · rintro d r env s' ⟨e1, hd, acc', c', s6', e2, hl⟩
    subst e1 e2
    obtain ⟨k, e3⟩ := hd d (List.mem_cons_self ..)
    subst e3
    rw [List.length_cons] at hl
    exists 4
    refine ⟨.inr ⟨by decide, by decide⟩, .inl ⟨by decide, by decide⟩, by decide, by decide, by decide, ?_, fun d h => hd d (List.mem_cons_of_mem _ h), acc' ++ [_], _, _, by rw [List.map_append]; rfl, ?_⟩
    · rw [List.length_map]; omega
    · rw [List.length_append, List.length_singleton]; omega
  · rintro env s' ⟨e1, _, acc', c', s6', e2, hl⟩
    subst e1 e2
    exact hN acc' c' s6' (by simpa using hl)
end
theorem wp_okX {α β : Type} {r : R α} {f : β → α} {s : Sto} (h : Wp r (fun b t => t = s ∧ ∃ i, b = f i) (fun _ _ => False)) : ∃ i, r = .ok (f i) s := by
  cases r with
  | ok b t => rcases h with ⟨h1, i, h2⟩; exact ⟨i, by rw [h1, h2]⟩
  | exc _ _ => exact absurd h id
  | bad => exact absurd h id
theorem rng_nat {n : Nat} : ∀ d ∈ rangeI 0 n, ∃ k : Nat, d = .int k := fun d h => by
  unfold rangeI at h
  obtain ⟨k, _, e⟩ := List.mem_map.mp h
  exact ⟨k, by rw [← e, Int.zero_add]⟩
theorem digits {n : Nat} {s : Sto} {ns : List Int} : ∃ is : List Int, (gen T0 defs (n + 2)).call 4 [.lst (ns.map .int), .int 0, .int 63] s = .ok (.lst (is.map .int)) s := by
  apply wp_okX (f := fun is : List Int => Fx.D.lst (is.map .int))
  exists 4, f4
  rw [v_for]
  exists 4
  refine ⟨by decide, ?_⟩
  refine l_for (fun r env s' => s' = s ∧ (∀ d ∈ r, ∃ k : Nat, d = .int k) ∧ ∃ (acc : List Int) (s4 s5 s6 s7 : Sl), env = [.val (.lst (ns.map .int)), .val (.int 0), .val (.int 63), .own (acc.map .int), s4, s5, s6, s7] ∧ acc.length + 60 * r.length ≤ 60 * 63) ?_ ?_ _ _ _ ⟨rfl, rng_nat, [], .no, .no, .no, .no, rfl, by rw [rng_len]; decide⟩
  · rintro d r env s' ⟨e1, hd, acc, s4, s5, s6, s7, e2, hl⟩
    subst e1 e2
    obtain ⟨k, e3⟩ := hd d (List.mem_cons_self ..)
    subst e3
    rw [List.length_cons] at hl
    have hd' : ∀ d ∈ r, ∃ k : Nat, d = .int k := fun d h => hd d (List.mem_cons_of_mem _ h)
    exists 4, cellE, z3
    refine ⟨fun h0 => ⟨.inl ⟨by decide, by decide⟩, fun h1 => ⟨.inr ⟨by decide, by decide⟩, .inr ⟨by decide, by decide⟩, by decide, ?_⟩, fun h1 => ?_⟩, fun h0 => ⟨fun h1 => ⟨.inr ⟨by decide, by decide⟩, .inr ⟨by decide, by decide⟩, by decide, ?_⟩, fun h1 => ?_⟩⟩
    · refine loopB (by omega) fun acc' c' s6' h => ?_
      exists 4
      exact ⟨hd', acc', _, _, _, _, rfl, by omega⟩
    · refine loopA (by omega) fun acc' c' s6' h => ?_
      exists 4
      exact ⟨hd', acc', _, _, _, _, rfl, by omega⟩
    · refine loopB (by omega) fun acc' c' s6' h => ?_
      exists 4
      exact ⟨hd', acc', _, _, _, _, rfl, by omega⟩
    · refine loopA (by omega) fun acc' c' s6' h => ?_
      exists 4
      exact ⟨hd', acc', _, _, _, _, rfl, by omega⟩
  · rintro env s' ⟨e1, _, acc, s4, s5, s6, s7, e2, hl⟩
    subst e1 e2
    exists 4
    exact ⟨acc, rfl⟩
end K42

set_option linter.all false
set_option maxRecDepth 100000
set_option maxHeartbeats 4000000
namespace K42
open PySem PySem.Spec PyProof.Rows L2 Fx
theorem drp {is : List Int} {a : Nat} {m : Int} (hm : 0 < m) : 0 ≤ dr is a m ∧ dr is a m < m := ⟨dr_nn hm, dr_lt hm⟩
theorem drN {is : List Int} {a : Nat} {m : Int} (hm : 0 < m) : ∃ k : Nat, dr is a m = (k : Int) ∧ (k : Int) < m := by
  have b := drp (is := is) (a := a) hm
  obtain ⟨k, hk⟩ := Int.eq_ofNat_of_zero_le b.1
  exact ⟨k, hk, by omega⟩
theorem pickN {is : List Int} {a : Nat} {ds : List Fx.D} {m : Int} {k : Fx.D → Prop} (hm : m = ds.length) (h0 : 0 < m) (hk : ∀ d ∈ ds, k d) : wo (atI ds (dr is a m)) k := pickD (dr_nn h0) (by rw [← hm]; exact dr_lt h0) hk
def nD (k : Nat) : Fx.D := .int (k : Int)
def lD (r : List Nat) : Fx.D := .lst (r.map nD)
theorem range_split {m x : Nat} {pre post : List Nat} (h : List.range m = pre ++ x :: post) : pre = List.range x ∧ x < m := by
  have h1 := congrArg List.length h
  rw [List.length_range, List.length_append, List.length_cons] at h1
  have hx : x = pre.length := by
    have h2 := congrArg (fun l => l[pre.length]?) h
    simp only [List.getElem?_append_right (Nat.le_refl _), Nat.sub_self] at h2
    rw [List.getElem?_range (by omega)] at h2
    exact (Option.some.inj h2).symm
  refine ⟨?_, by omega⟩
  have h3 := congrArg (List.take pre.length) h
  rw [List.take_left, List.take_range, Nat.min_eq_left (by omega)] at h3
  rw [hx]; exact h3.symm
theorem rangeI0 (m : Nat) : Fx.rangeI 0 m = (List.range m).map fun k : Nat => Fx.D.int (k : Int) := by
  unfold Fx.rangeI
  exact List.map_congr_left fun k _ => by rw [Int.zero_add]
theorem flR (q x : Nat) : (List.replicate q [Fx.D.int (x : Int)]).flatten = (List.replicate q x).map nD := by
  induction q with
  | zero => rfl
  | succ q ih => rw [List.replicate_succ, List.flatten_cons, ih]; rfl
theorem cut_to (L : List Nat) (j : Nat) : Fx.cutD (L.map nD) none (some (j : Int)) = (L.take j).map nD := by
  unfold Fx.cutD
  rw [HT.sIx_none, HT.sIx_nat, List.length_map, List.drop_zero, Nat.sub_zero]
  rw [← List.map_take]
  congr 1
  by_cases h : j ≤ L.length
  · rw [Nat.min_eq_left h]
  · rw [Nat.min_eq_right (by omega), List.take_of_length_le (Nat.le_refl _), List.take_of_length_le (by omega)]
theorem cut_from (L : List Nat) (j : Nat) : Fx.cutD (L.map nD) (some (j : Int)) none = (L.drop j).map nD := by
  unfold Fx.cutD
  rw [HT.sIx_none, HT.sIx_nat, List.length_map]
  rw [← List.map_drop, List.take_of_length_le (by rw [List.length_map, List.length_drop]; omega)]
  congr 1
  by_cases h : j ≤ L.length
  · rw [Nat.min_eq_left h]
  · rw [Nat.min_eq_right (by omega), List.drop_eq_nil_of_le (Nat.le_refl _), List.drop_eq_nil_of_le (by omega)]
theorem at_N {L : List Fx.D} {j : Nat} {d : Fx.D} (h : L[j]? = some d) {k : Fx.D → Prop} : wo (atI L (j : Int)) k = k d := a_get (by omega) (by rw [Int.toNat_natCast]; exact h)
/-! the disk, as it lies in the store -/
abbrev Blocks := List (List Nat)
abbrev Pend := List (Nat × List Nat)
def dO (bi pi : Nat) (c : Int) (lf tn : Fx.D) : O := .ins 3 [("_blocks", .obj bi), ("_pending", .obj pi), ("_cuts", .int c), ("_left", lf), ("_torn", tn)]
/-- a pending write, on the disk; in the law -/
def pD (p : Nat × List Nat) : Fx.D := .tup [nD p.1, lD p.2]
def eD (p : Nat × List Nat) : Fx.D := .lst [nD p.1, lD p.2]
structure Dsk (s : Sto) (d bi pi : Nat) (B : Blocks) (Pn : Pend) (c : Int) (lf tn : Fx.D) : Prop where
  o : s[d]? = some (dO bi pi c lf tn)
  b : s[bi]? = some (.lst (B.map lD))
  p : s[pi]? = some (.lst (Pn.map pD))
  n1 : d ≠ bi
  n2 : d ≠ pi
  n3 : bi ≠ pi
theorem w_o {s : Sto} {d bi pi : Nat} {c : Int} {lf tn : Fx.D} {k : Nat → List (Str × Fx.D) → Prop} (h : s[d]? = some (dO bi pi c lf tn)) : wins (s[d]?) k = k 3 [("_blocks", .obj bi), ("_pending", .obj pi), ("_cuts", .int c), ("_left", lf), ("_torn", tn)] := by rw [h]; rfl
theorem w_l {s : Sto} {i : Nat} {ds : List Fx.D} {k : List Fx.D → Prop} (h : s[i]? = some (.lst ds)) : wlst (s[i]?) k = k ds := by rw [h]; rfl
/-- all else stands -/
def Off (D : List Nat) (s s' : Sto) : Prop := s.length ≤ s'.length ∧ ∀ j o, s[j]? = some o → j ∉ D → s'[j]? = some o
theorem Off.refl {D : List Nat} {s : Sto} : Off D s s := ⟨Nat.le_refl _, fun _ _ h _ => h⟩
theorem Off.trans {D : List Nat} {s s' s2 : Sto} (h : Off D s s') (g : Off D s' s2) : Off D s s2 := ⟨Nat.le_trans h.1 g.1, fun j o e n => g.2 j o (h.2 j o e n) n⟩
theorem Off.set {D : List Nat} {s : Sto} {i : Nat} {o : O} (h : i ∈ D) : Off D s (s.set i o) := ⟨by rw [List.length_set]; exact Nat.le_refl _, fun j u e n => by
  rw [List.getElem?_set_ne (fun z : i = j => n (by rw [← z]; exact h))]; exact e⟩
theorem Off.app {D : List Nat} {s : Sto} {o : O} : Off D s (s ++ [o]) := ⟨by rw [List.length_append]; omega, fun j u e n => by
  rw [List.getElem?_append_left (List.getElem?_eq_some_iff.mp e).1]; exact e⟩
theorem Off.more {D D' : List Nat} {s s' : Sto} (h : Off D s s') (k : ∀ i ∈ D, i ∈ D') : Off D' s s' := ⟨h.1, fun j o e n => h.2 j o e fun z => n (k j z)⟩
theorem lt_of {s : Sto} {i : Nat} {o : O} (h : s[i]? = some o) : i < s.length := (List.getElem?_eq_some_iff.mp h).1
theorem get_app {s : Sto} {o : O} : (s ++ [o])[s.length]? = some o := by rw [List.getElem?_append_right (Nat.le_refl _), Nat.sub_self]; rfl
theorem get_set {s : Sto} {i : Nat} {o : O} (h : i < s.length) : (s.set i o)[i]? = some o := List.getElem?_set_self h
/-- what is done to the disk -/
def flushB (B : Blocks) (Pn : Pend) : Blocks := Pn.foldl (fun B p => B.set p.1 p.2) B
def findB (B : Blocks) (Pn : Pend) (at_ : Nat) : List Nat := Pn.foldl (fun f p => if p.1 = at_ then p.2 else f) (B.getD at_ [])
def tearB (t : List Nat) (Pn : Pend) (B : Blocks) (i : Nat) : Blocks :=
  let p := Pn.getD i (0, [])
  B.set p.1 (p.2.take (t.getD i 0) ++ (B.getD p.1 []).drop (t.getD i 0))
def cutB (t : List Nat) (Pn : Pend) (B : Blocks) (k : Nat) : Blocks := (List.range k).foldl (tearB t Pn) B
theorem tearB_len {t : List Nat} {Pn : Pend} {B : Blocks} {i : Nat} : (tearB t Pn B i).length = B.length := List.length_set
theorem fold_len {t : List Nat} {Pn : Pend} : ∀ (l : List Nat) (B : Blocks), (l.foldl (tearB t Pn) B).length = B.length
  | [], _ => rfl
  | i :: l, B => by rw [List.foldl_cons, fold_len l, tearB_len]
theorem flush_len : ∀ (Pn : Pend) (B : Blocks), (flushB B Pn).length = B.length
  | [], _ => rfl
  | p :: l, B => by
    show (flushB (B.set p.1 p.2) l).length = _
    rw [flush_len l, List.length_set]
theorem cutB_succ {t : List Nat} {Pn : Pend} {B : Blocks} {k : Nat} : cutB t Pn B (k + 1) = tearB t Pn (cutB t Pn B k) k := by
  unfold cutB
  rw [List.range_succ, List.foldl_append]; rfl
theorem tear_off {t : List Nat} {Pn : Pend} {B : Blocks} {i : Nat} (h : t.length ≤ i) : tearB t Pn B i = B := by
  unfold tearB
  have e : t.getD i 0 = 0 := by rw [List.getD_eq_getElem?_getD, List.getElem?_eq_none h]; rfl
  simp only [e, List.take_zero, List.drop_zero, List.nil_append]
  by_cases hb : (Pn.getD i (0, [])).1 < B.length
  · refine List.ext_getElem? fun j => ?_
    by_cases hj : (Pn.getD i (0, [])).1 = j
    · subst hj
      rw [List.getElem?_set_self hb, List.getD_eq_getElem?_getD (l := B), List.getElem?_eq_getElem hb]; rfl
    · rw [List.getElem?_set_ne hj]
  · rw [List.set_eq_of_length_le (by omega)]
theorem cutB_min {t : List Nat} {Pn : Pend} {B : Blocks} : ∀ (k : Nat), cutB t Pn B k = cutB t Pn B (min t.length k)
  | 0 => by rw [Nat.min_zero]
  | k + 1 => by
    rw [cutB_succ]
    by_cases h : t.length ≤ k
    · rw [tear_off h, cutB_min k, Nat.min_eq_left h, Nat.min_eq_left (by omega)]
    · rw [Nat.min_eq_right (by omega : k + 1 ≤ t.length), cutB_succ]
/-! good states -/
structure Ok (B : Blocks) (Pn : Pend) : Prop where
  b : ∀ r ∈ B, r.length = 32
  p : ∀ q ∈ Pn, q.1 < B.length ∧ q.2.length = 32
  m : B.length ≤ 400
theorem getD_len {B : Blocks} (h : ∀ r ∈ B, r.length = 32) {i : Nat} (hi : i < B.length) : (B.getD i []).length = 32 := by
  rw [List.getD_eq_getElem?_getD, List.getElem?_eq_getElem hi]; exact h _ (List.getElem_mem hi)
theorem set_ok {B : Blocks} (h : ∀ r ∈ B, r.length = 32) {i : Nat} {r : List Nat} (hr : r.length = 32) : ∀ r' ∈ B.set i r, r'.length = 32 := fun r' hm => by
  rcases List.mem_or_eq_of_mem_set hm with q | q
  · exact h _ q
  · rw [q]; exact hr
theorem flush_ok : ∀ (Pn : Pend) (B : Blocks), (∀ r ∈ B, r.length = 32) → (∀ q ∈ Pn, q.2.length = 32) → ∀ r ∈ flushB B Pn, r.length = 32
  | [], _, h, _ => h
  | p :: l, B, h, g => flush_ok l (B.set p.1 p.2) (set_ok h (g p (by simp))) fun q hq => g q (by simp [hq])
theorem tear_ok {t : List Nat} {Pn : Pend} {B : Blocks} {i : Nat} (h : ∀ r ∈ B, r.length = 32) (hp : ∀ q ∈ Pn, q.1 < B.length ∧ q.2.length = 32) (hi : i < Pn.length) (ht : ∀ x ∈ t, x ≤ 32) : ∀ r ∈ tearB t Pn B i, r.length = 32 := by
  have hq := hp (Pn.getD i (0, [])) (by rw [List.getD_eq_getElem?_getD, List.getElem?_eq_getElem hi]; exact List.getElem_mem hi)
  have h0 : t.getD i 0 ≤ 32 := by
    rw [List.getD_eq_getElem?_getD]
    cases e : t[i]? with
    | none => exact Nat.zero_le _
    | some c => exact ht c (List.mem_of_getElem? e)
  refine set_ok h ?_
  rw [List.length_append, List.length_take, List.length_drop, hq.2, getD_len h hq.1]
  omega
theorem cut_ok {t : List Nat} {Pn : Pend} {B : Blocks} (h : ∀ r ∈ B, r.length = 32) (hp : ∀ q ∈ Pn, q.1 < B.length ∧ q.2.length = 32) (ht : ∀ x ∈ t, x ≤ 32) : ∀ k, k ≤ Pn.length → ∀ r ∈ cutB t Pn B k, r.length = 32
  | 0, _ => h
  | k + 1, hk => by
    rw [cutB_succ]
    refine tear_ok (cut_ok h hp ht k (by omega)) (fun q hq => ?_) (by omega) ht
    have := hp q hq
    unfold cutB
    rw [fold_len]; exact this
end K42

set_option linter.all false
set_option maxRecDepth 100000
set_option maxHeartbeats 4000000
namespace K42
open PySem PySem.Spec PyProof.Rows L2 Fx
theorem wp_exI {α : Type} {r : R α} {e : Ex} {s : Sto} (h : r = .exc e s) {Q : α → Sto → Prop} {E : Ex → Sto → Prop} : Wp r Q E = E e s := by rw [h]; rfl
theorem wp_exE {α : Type} {r : R α} {e : Ex} {s : Sto} (h : Wp r (fun _ _ => False) (fun f u => u = s ∧ f = e)) : r = .exc e s := by
  cases r with
  | ok _ _ => exact absurd h id
  | exc f u => obtain ⟨h1, h2⟩ := h; rw [h1, h2]
  | bad => exact absurd h id
def exR (x : Str) : Ex := ⟨1, [("name", .str x)]⟩
/-- a list of ints, as a value or as an object -/
structure RdI (d : Fx.D) (s : Sto) (is : List Int) : Prop where
  len : ∀ {k : Fx.D → Prop}, wb1 .len d s k = k (.int is.length)
  li : ∀ {Q : List Fx.D → Sto → Prop}, (Q (is.map .int) s) → Wp (Fx.F.ev (gen T0 defs 0) (.list (.x (.lit d))) [] s) Q nE
  fo : d = .lst (is.map .int) ∨ ∃ n, d = .obj n ∧ s[n]? = some (.lst (is.map .int))
theorem rdI_v {s : Sto} {is : List Int} : RdI (.lst (is.map .int)) s is := by
  refine ⟨fun {k} => ?_, fun {Q} h => h, .inl rfl⟩
  show k (.int ((is.map Fx.D.int).length : Nat)) = _
  rw [List.length_map]
theorem rdI_o {s : Sto} {n : Nat} {is : List Int} (h : s[n]? = some (.lst (is.map .int))) : RdI (.obj n) s is := by
  refine ⟨fun {k} => ?_, fun {Q} q => ?_, .inr ⟨n, rfl, h⟩⟩
  · show (wlst s[n]? fun ds => k (.int ds.length)) = _
    rw [h]
    show k (.int ((is.map Fx.D.int).length : Nat)) = _
    rw [List.length_map]
  · rw [w_listF]
    show (wlst s[n]? fun ds => Q ds s)
    rw [h]; exact q
section
variable {n : Nat} {s : Sto} {d bi pi : Nat} {B : Blocks} {Pn : Pend} {c : Int} {lf tn : Fx.D}
def okBlk (is : List Int) : Bool := decide (is.length = 32) && is.all fun i => decide (0 ≤ i ∧ i ≤ 255)
theorem isBlockE {is : List Int} : (gen T0 defs (n + 1)).call 1 [.lst (is.map .int)] s = .ok (.bl (okBlk is)) s := by
  apply wp_okE
  rw [h1]
  have hlen : ∀ {k : Fx.D → Prop}, wb1 .len (.lst (is.map .int)) s k = k (.int is.length) := fun {k} => (rdI_v (s := s) (is := is)).len
  by_cases h32 : (is.length : Int) = 32
  · refine Fx.r_cut v1_0 (fun e u => u = s ∧ e = [.val (.lst (is.map .int)), .no]) ?_ ?_
    · exists 1, v1_1, r1_1, hlen, k_BLOCK, Fx.i_pos h32
    rintro e u ⟨e1, e2⟩
    subst e1 e2
    have hsp : okBlk is = is.all fun i => decide (0 ≤ i ∧ i ≤ 255) := by unfold okBlk; rw [decide_eq_true (by omega), Bool.true_and]
    rw [hsp]
    have turn : ∀ {NN : Fl → Sto → Prop} {EE : Ex → En → Sto → Prop} {bd : Fx.D} {c : Int} {s1 : Sl}, (0 ≤ c ∧ c ≤ 255 → NN (.nx [.val bd, .val (.int c)]) u) → (¬ (0 ≤ c ∧ c ≤ 255) → NN (.rt (.bl false)) u) → Run (gen T0 defs n) c1_3 [.val bd, .val (.int c)] u NN EE := by
      intro NN EE bd c s1 hy hn
      exists 2, v1_4, r1_4, v1_3, r1_3
      exact ⟨fun q => hn (by omega), fun q => ⟨fun q2 => hn (by omega), fun q2 => hy (by omega)⟩⟩
    have hbad : ∀ {pre post : List Int} {x : Int}, is = pre ++ x :: post → ¬ (0 ≤ x ∧ x ≤ 255) → Fx.D.bl false = .bl (is.all fun i => decide (0 ≤ i ∧ i ≤ 255)) := fun {pre post x} e h => by
      rw [e, List.all_append, List.all_cons, decide_eq_false h]; simp
    have hgood : ∀ {pre : List Int} {x : Int}, (pre.all fun i => decide (0 ≤ i ∧ i ≤ 255)) = true → (0 ≤ x ∧ x ≤ 255) → ((pre ++ [x]).all fun i => decide (0 ≤ i ∧ i ≤ 255)) = true := fun {pre x} h g => by
      rw [List.all_append, h, List.all_cons, decide_eq_true g]; rfl
    refine Fx.r_cut v1_2 (fun e u' => u' = u ∧ (is.all fun i => decide (0 ≤ i ∧ i ≤ 255)) = true) ?_ ?_
    · rw [v_for]
      exists 1
      refine r_list Fx.D.int is (fun pre env s' => s' = u ∧ (pre.all fun i => decide (0 ≤ i ∧ i ≤ 255)) = true ∧ ∃ s1 : Sl, env = [.val (.lst (is.map .int)), s1]) ?_ ?_ ⟨rfl, rfl, _, rfl⟩
      · rintro pre x post env s' e0 ⟨e1, hp, s1, e2⟩
        subst e1 e2
        simp -implicitDefEqProofs (disch := decide +kernel) only [↓Fx.t_name, ↓Fx.e_S, ↓Fx.e_0]
        exact turn (s1 := s1) (fun g => ⟨rfl, hgood hp g, _, rfl⟩) fun g => ⟨hbad e0 g, rfl⟩
      · rintro env s' ⟨e1, hp, _⟩
        exact ⟨e1, hp⟩
    rintro e u' ⟨e1, e2⟩
    subst e1
    rw [e2]
    exists 0, v1_5, r1_5
  · have hsp : okBlk is = false := by unfold okBlk; rw [decide_eq_false (by omega)]; rfl
    rw [hsp]
    refine Fx.r_cut v1_0 (fun e u => False) ?_ fun _ _ h => h.elim
    exists 1, v1_1, r1_1, hlen, k_BLOCK, Fx.i_neg h32
theorem checkAtE (h : Dsk s d bi pi B Pn c lf tn) {i : Int} (h0 : 0 ≤ i) (h1 : i < B.length) : (gen T0 defs (n + 1)).call 13 [.obj d, .int i] s = .ok .non s := by
  apply wp_okE
  have hl : ((B.map lD).length : Int) = B.length := by rw [List.length_map]
  exists 2, f13, ti3, tm3_size, tm3__check_at, tm3_read, tm3__cut, tm3__spend, tm3_write, tm3_flush, tm3_pending_count, tm3_cut_count, tm3_cut_power, tm3_schedule_cut, ta3__blocks, ta3__pending, ta3__cuts, ta3__left, ta3__torn, w_o h.o, w_l h.b
  exact ⟨fun q => absurd h0 (by omega), fun q => ⟨fun q2 => trivial, fun q2 => absurd q2 (by rw [hl]; omega)⟩⟩
theorem checkAtX (h : Dsk s d bi pi B Pn c lf tn) {i : Int} (h0 : i < 0 ∨ (B.length : Int) ≤ i) : (gen T0 defs (n + 1)).call 13 [.obj d, .int i] s = .exc (exR "at") s := by
  apply wp_exE
  have hl : ((B.map lD).length : Int) = B.length := by rw [List.length_map]
  exists 2, f13, ti3, tm3_size, tm3__check_at, tm3_read, tm3__cut, tm3__spend, tm3_write, tm3_flush, tm3_pending_count, tm3_cut_count, tm3_cut_power, tm3_schedule_cut, ta3__blocks, ta3__pending, ta3__cuts, ta3__left, ta3__torn, w_o h.o, w_l h.b, x1
  exact ⟨fun q => rfl, fun q => ⟨fun q2 => absurd q2 (by rw [hl]; omega), fun q2 => rfl⟩⟩
/-- a spent call of the schedule -/
def Dec (lf lf' : Fx.D) : Prop := (lf = .non ∧ lf' = .non) ∨ ∃ l : Int, 0 < l ∧ lf = .int l ∧ lf' = .int (l - 1)
theorem set_same {s : Sto} {i : Nat} {o : O} (h : s[i]? = some o) : s.set i o = s := by
  refine List.ext_getElem? fun j => ?_
  by_cases hj : i = j
  · subst hj; rw [List.getElem?_set_self (lt_of h), h]
  · rw [List.getElem?_set_ne hj]
theorem wst_d {s : Sto} {i : Nat} {o : O} {K : Sto → Prop} : wst s i o K = K (s.set i o) := rfl
theorem spendE (h : Dsk s d bi pi B Pn c lf tn) {lf' : Fx.D} (hd : Dec lf lf') : (gen T0 defs (n + 1)).call 16 [.obj d] s = .ok .non (s.set d (dO bi pi c lf' tn)) := by
  apply wp_okE
  rw [h16]
  rcases hd with ⟨e1, e2⟩ | ⟨l, hl, e1, e2⟩ <;> subst e1 e2
  · rw [set_same h.o]
    exists 0, v16_1, r16_1, v16_0, r16_0, ti3, tm3_size, tm3__check_at, tm3_read, tm3__cut, tm3__spend, tm3_write, tm3_flush, tm3_pending_count, tm3_cut_count, tm3_cut_power, tm3_schedule_cut, ta3__blocks, ta3__pending, ta3__cuts, ta3__left, ta3__torn, w_o h.o
  · have hn : ¬ l = 0 := by omega
    exists 1, v16_1, r16_1, v16_2, r16_2, v16_0, r16_0, v16_5, r16_5, ti3, tm3_size, tm3__check_at, tm3_read, tm3__cut, tm3__spend, tm3_write, tm3_flush, tm3_pending_count, tm3_cut_count, tm3_cut_power, tm3_schedule_cut, ta3__blocks, ta3__pending, ta3__cuts, ta3__left, ta3__torn, w_o h.o, Fx.i_neg hn, wst_d
    exact rfl
end
end K42

set_option linter.all false
set_option maxRecDepth 100000
set_option maxHeartbeats 4000000
namespace K42
open PySem PySem.Spec PyProof.Rows L2 Fx
theorem blk_at {B : Blocks} {j : Nat} (h : j < B.length) : (B.map lD)[j]? = some (lD (B.getD j [])) := by
  rw [List.getElem?_map, List.getElem?_eq_getElem h, List.getD_eq_getElem?_getD, List.getElem?_eq_getElem h]; rfl
theorem wlsO_lD {r : List Nat} {s : Sto} {k : List Fx.D → Prop} : wlsO (lD r) s k = k (r.map nD) := rfl
theorem wp_mono {α : Type} {r : R α} {Q Q' : α → Sto → Prop} {E : Ex → Sto → Prop} (h : Wp r Q E) (k : ∀ a s, Q a s → Q' a s) : Wp r Q' E := Wp.imp (r := r) h k fun _ _ q => q
theorem set_map {B : Blocks} {i : Nat} {r : List Nat} : (B.map lD).set i (lD r) = (B.set i r).map lD := by rw [List.map_set]
/-- the store behind a flush or a cut of the disk -/
def aftS (s : Sto) (d bi : Nat) (B : Blocks) (c : Int) (lf tn : Fx.D) : Sto := ((s.set bi (.lst (B.map lD))) ++ [O.lst []]).set d (dO bi s.length c lf tn)
theorem aft_set {s : Sto} {d bi : Nat} {B : Blocks} {c : Int} {lf tn : Fx.D} {o : O} (hd : d < s.length) (hn : d ≠ bi) : aftS (s.set d o) d bi B c lf tn = aftS s d bi B c lf tn := by
  unfold aftS
  rw [List.length_set, List.set_comm _ _ hn]
  rw [List.set_append_left _ _ (by rw [List.length_set, List.length_set]; exact hd), List.set_set, List.set_append_left _ _ (by rw [List.length_set]; exact hd)]
theorem enum_map {α : Type} (f : α → Fx.D) (d0 : α) (xs : List α) : enumD (xs.map f) = (List.range xs.length).map fun k : Nat => Fx.D.tup [.int (k : Int), f (xs.getD k d0)] := by
  unfold enumD
  rw [List.length_map]
  refine List.ext_getElem (by simp) fun i h1 h2 => ?_
  simp at h1
  simp [List.getD_eq_getElem?_getD, List.getElem?_eq_getElem h1]
section
variable {n : Nat} {s : Sto} {d bi pi : Nat} {B : Blocks} {Pn : Pend} {c : Int} {lf tn : Fx.D} {E : Ex → Sto → Prop}
theorem readE (h : Dsk s d bi pi B Pn c lf tn) {i : Nat} {ii : Int} (hii : ii = (i : Int)) (h1 : i < B.length) : (gen T0 defs (n + 2)).call 14 [.obj d, .int ii] s = .ok (lD (findB B Pn i)) s := by
  apply wp_okE
  rw [h14]
  refine Fx.r_cut v14_0 (fun e u => u = s ∧ e = [.val (.obj d), .val (.int ii), .no, .no, .no]) ?_ ?_
  · exists 0, ti3, tm3_size, tm3__check_at, tm3_read, tm3__cut, tm3__spend, tm3_write, tm3_flush, tm3_pending_count, tm3_cut_count, tm3_cut_power, tm3_schedule_cut, ta3__blocks, ta3__pending, ta3__cuts, ta3__left, ta3__torn, w_o h.o, z13, wp_okI (checkAtE (n := n) h (i := ii) (by omega) (by omega))
  rintro e u ⟨e1, e2⟩
  subst e1 e2
  refine Fx.r_cut v14_1 (fun e u' => u' = u ∧ e = [.val (.obj d), .val (.int ii), .val (lD (B.getD i [])), .no, .no]) ?_ ?_
  · have hat : ∀ {K : Fx.D → Prop}, wo (atI (B.map lD) ii) K = K (lD (B.getD i [])) := fun {K} => by rw [hii]; exact at_N (blk_at h1)
    exists 0, ti3, tm3_size, tm3__check_at, tm3_read, tm3__cut, tm3__spend, tm3_write, tm3_flush, tm3_pending_count, tm3_cut_count, tm3_cut_power, tm3_schedule_cut, ta3__blocks, ta3__pending, ta3__cuts, ta3__left, ta3__torn, w_o h.o, w_l h.b, hat
  rintro e u' ⟨e1, e2⟩
  subst e1 e2
  refine Fx.r_cut v14_2 (fun e u => u = u' ∧ ∃ s3 s4, e = [.val (.obj d), .val (.int ii), .val (lD (findB B Pn i)), s3, s4]) ?_ ?_
  · rw [v_forO]
    exists 0, ti3, tm3_size, tm3__check_at, tm3_read, tm3__cut, tm3__spend, tm3_write, tm3_flush, tm3_pending_count, tm3_cut_count, tm3_cut_power, tm3_schedule_cut, ta3__blocks, ta3__pending, ta3__cuts, ta3__left, ta3__torn, w_o h.o, wlo_obj, w_l h.p, wen_f
    refine r_listO pD Pn (fun pre env s' => s' = u' ∧ ∃ s3 s4, env = [.val (.obj d), .val (.int ii), .val (lD (findB B pre i)), s3, s4]) ?_ ?_ ⟨rfl, _, _, rfl⟩
    · rintro pre x post env s' e0 ⟨e1, s3, s4, e2⟩
      subst e1 e2
      obtain ⟨xi, hxi⟩ : ∃ xi : Int, xi = (x.1 : Int) := ⟨_, rfl⟩
      have hf : findB B (pre ++ [x]) i = if x.1 = i then x.2 else findB B pre i := by unfold findB; rw [List.foldl_append]; rfl
      rw [hf]
      unfold pD nD
      rw [← hxi]
      by_cases hx : xi = ii
      · rw [if_pos (by omega)]
        exists 1, v14_4, r14_4, v14_3, r14_3, Fx.i_pos hx
        exact ⟨h.p, _, _, rfl⟩
      · rw [if_neg (by omega)]
        exists 1, v14_4, r14_4, v14_3, r14_3, Fx.i_neg hx
        exact ⟨h.p, _, _, rfl⟩
    · rintro env s' hh
      exact hh
  rintro e u ⟨e1, s3, s4, e2⟩
  subst e1 e2
  unfold lD
  exists 0, v14_5, r14_5, w_listF
theorem writeE (h : Dsk s d bi pi B Pn c lf tn) {lf' : Fx.D} (hd : Dec lf lf') {r : List Nat} (hl : r.length = 32) (hb : ∀ x ∈ r, x ≤ 255) {i : Nat} {ii : Int} (hii : ii = (i : Int)) (h1 : i < B.length) (hz : Pn.length < 1000) :
    (gen T0 defs (n + 2)).call 17 [.obj d, .int ii, lD r] s = .ok .non ((s.set d (dO bi pi c lf' tn)).set pi (.lst ((Pn ++ [(i, r)]).map pD))) := by
  apply wp_okE
  rw [h17]
  have hmm : (r.map fun (x : Nat) => (x : Int)).map Fx.D.int = r.map nD := by rw [List.map_map]; rfl
  have hok : okBlk (r.map fun (x : Nat) => (x : Int)) = true := by
    unfold okBlk
    rw [decide_eq_true (by rw [List.length_map]; exact hl), Bool.true_and]
    refine List.all_eq_true.mpr fun x hx => ?_
    obtain ⟨y, hy, e⟩ := List.mem_map.mp hx
    have := hb y hy
    exact decide_eq_true (by omega)
  have hblk := isBlockE (n := n) (s := s) (is := r.map fun (x : Nat) => (x : Int))
  rw [hok, hmm, show Fx.D.lst (r.map nD) = lD r from rfl] at hblk
  refine Fx.r_cut v17_0 (fun e u => u = s ∧ e = [.val (.obj d), .val (.int ii), .val (lD r)]) ?_ ?_
  · exists 0, ti3, tm3_size, tm3__check_at, tm3_read, tm3__cut, tm3__spend, tm3_write, tm3_flush, tm3_pending_count, tm3_cut_count, tm3_cut_power, tm3_schedule_cut, ta3__blocks, ta3__pending, ta3__cuts, ta3__left, ta3__torn, w_o h.o, z13, wp_okI (checkAtE (n := n) h (i := ii) (by omega) (by omega))
  rintro e u ⟨e1, e2⟩
  subst e1 e2
  refine Fx.r_cut v17_1 (fun e u' => u' = u ∧ e = [.val (.obj d), .val (.int ii), .val (lD r)]) ?_ ?_
  · exists 0, v17_2, r17_2, z1, wp_okI hblk, Fx.i_t, Fx.i_f
  rintro e u' ⟨e1, e2⟩
  subst e1 e2
  refine Fx.r_cut v17_3 (fun e u => u = u'.set d (dO bi pi c lf' tn) ∧ e = [.val (.obj d), .val (.int ii), .val (lD r)]) ?_ ?_
  · exists 0, ti3, tm3_size, tm3__check_at, tm3_read, tm3__cut, tm3__spend, tm3_write, tm3_flush, tm3_pending_count, tm3_cut_count, tm3_cut_power, tm3_schedule_cut, ta3__blocks, ta3__pending, ta3__cuts, ta3__left, ta3__torn, w_o h.o, z16, wp_okI (spendE (n := n) h hd)
  rintro e u ⟨e1, e2⟩
  subst e2
  have ho : u[d]? = some (dO bi pi c lf' tn) := by rw [e1]; exact get_set (lt_of h.o)
  have hp : u[pi]? = some (.lst (Pn.map pD)) := by rw [e1, List.getElem?_set_ne h.n2]; exact h.p
  rw [← e1]
  have hln : (Pn.map pD).length < 16777216 := by rw [List.length_map]; omega
  have hfin : (.lst (Pn.map pD ++ [.tup [.int ii, .lst (r.map nD)]]) : O) = .lst ((Pn ++ [(i, r)]).map pD) := by
    rw [List.map_append, hii]; rfl
  unfold lD
  exists 0, v17_4, r17_4, ti3, tm3_size, tm3__check_at, tm3_read, tm3__cut, tm3__spend, tm3_write, tm3_flush, tm3_pending_count, tm3_cut_count, tm3_cut_power, tm3_schedule_cut, ta3__blocks, ta3__pending, ta3__cuts, ta3__left, ta3__torn, w_o ho, w_l hp, w_listF, wst_d, _, hfin
  exact ⟨hln, trivial⟩
theorem writeX1 (h : Dsk s d bi pi B Pn c lf tn) {bd : Fx.D} {ii : Int} (h1 : ii < 0 ∨ (B.length : Int) ≤ ii) : (gen T0 defs (n + 2)).call 17 [.obj d, .int ii, bd] s = .exc (exR "at") s := by
  apply wp_exE
  rw [h17]
  exists 0, v17_0, r17_0, ti3, tm3_size, tm3__check_at, tm3_read, tm3__cut, tm3__spend, tm3_write, tm3_flush, tm3_pending_count, tm3_cut_count, tm3_cut_power, tm3_schedule_cut, ta3__blocks, ta3__pending, ta3__cuts, ta3__left, ta3__torn, w_o h.o, z13, wp_exI (checkAtX (n := n) h (i := ii) h1)
theorem writeX2 (h : Dsk s d bi pi B Pn c lf tn) {is : List Int} (hn : okBlk is = false) {ii : Int} (h0 : 0 ≤ ii) (h1 : ii < B.length) : (gen T0 defs (n + 2)).call 17 [.obj d, .int ii, .lst (is.map .int)] s = .exc (exR "block") s := by
  apply wp_exE
  rw [h17]
  have hblk := isBlockE (n := n) (s := s) (is := is)
  rw [hn] at hblk
  exists 0, v17_2, r17_2, v17_1, r17_1, v17_0, r17_0, ti3, tm3_size, tm3__check_at, tm3_read, tm3__cut, tm3__spend, tm3_write, tm3_flush, tm3_pending_count, tm3_cut_count, tm3_cut_power, tm3_schedule_cut, ta3__blocks, ta3__pending, ta3__cuts, ta3__left, ta3__torn, w_o h.o, z13, wp_okI (checkAtE (n := n) h h0 h1), z1, wp_okI hblk, Fx.i_t, Fx.i_f, x1
  exact rfl
theorem flushE0 (h : Dsk s d bi pi B Pn c lf tn) (hp : ∀ q ∈ Pn, q.1 < B.length) {NN : Fl → Sto → Prop} {EE : Ex → En → Sto → Prop} (hk : ∀ e, NN (.nx e) (aftS s d bi (flushB B Pn) c lf tn)) : Run (gen T0 defs (n + 1)) c18_1 [.val (.obj d), .no, .no] s NN EE := by
  refine Fx.r_cut v18_1 (fun e u' => u' = s.set bi (.lst ((flushB B Pn).map lD)) ∧ ∃ s1 s2, e = [.val (.obj d), s1, s2]) ?_ ?_
  · rw [v_forO]
    exists 0, ti3, tm3_size, tm3__check_at, tm3_read, tm3__cut, tm3__spend, tm3_write, tm3_flush, tm3_pending_count, tm3_cut_count, tm3_cut_power, tm3_schedule_cut, ta3__blocks, ta3__pending, ta3__cuts, ta3__left, ta3__torn, w_o h.o, wlo_obj, w_l h.p, wen_f
    refine r_listO pD Pn (fun pre env s' => s' = s.set bi (.lst ((flushB B pre).map lD)) ∧ ∃ s1 s2, env = [.val (.obj d), s1, s2]) ?_ ?_ ⟨(set_same h.b).symm, _, _, rfl⟩
    · rintro pre x post env s' e0 ⟨e1, s1, s2, e2⟩
      subst e2
      have hx := hp x (by rw [e0]; simp)
      have hlen := flush_len pre B
      have hf : flushB B (pre ++ [x]) = (flushB B pre).set x.1 x.2 := by unfold flushB; rw [List.foldl_append]; rfl
      rw [hf]
      generalize flushB B pre = B' at e1 hlen
      have g1 : s'[d]? = some (dO bi pi c lf tn) := by rw [e1, List.getElem?_set_ne (Ne.symm h.n1)]; exact h.o
      have g2 : s'[bi]? = some (.lst (B'.map lD)) := by rw [e1]; exact get_set (lt_of h.b)
      have g3 : (s.set bi (.lst ((B'.set x.1 x.2).map lD)))[pi]? = some (.lst (Pn.map pD)) := by rw [List.getElem?_set_ne h.n3]; exact h.p
      have g4 : s'.set bi (.lst ((B'.set x.1 x.2).map lD)) = s.set bi (.lst ((B'.set x.1 x.2).map lD)) := by rw [e1, List.set_set]
      obtain ⟨xi, hxi⟩ : ∃ xi : Int, xi = (x.1 : Int) := ⟨_, rfl⟩
      have hq : ∀ {k : List Fx.D → Prop}, wseq (B'.map lD) xi (lD x.2) k = k ((B'.set x.1 x.2).map lD) := fun {k} => by
        rw [q_pos (by omega) (by rw [List.length_map]; omega), hxi, Int.toNat_natCast, set_map]
      unfold pD nD
      rw [← hxi]
      exists 1, v18_2, r18_2, ti3, tm3_size, tm3__check_at, tm3_read, tm3__cut, tm3__spend, tm3_write, tm3_flush, tm3_pending_count, tm3_cut_count, tm3_cut_power, tm3_schedule_cut, ta3__blocks, ta3__pending, ta3__cuts, ta3__left, ta3__torn, w_o g1, w_l g2, hq, wst_d
      rw [g4]
      exact ⟨g3, rfl, _, _, rfl⟩
    · rintro env s' hh
      exact hh
  rintro e u' ⟨e1, s1, s2, e2⟩
  subst e2
  have g1 : (u' ++ [O.lst []])[d]? = some (dO bi pi c lf tn) := by
    rw [e1, List.getElem?_append_left (by rw [List.length_set]; exact lt_of h.o), List.getElem?_set_ne (Ne.symm h.n1)]; exact h.o
  have hl : List.length u' = List.length s := by rw [e1, List.length_set]
  exists 0, v18_3, r18_3, ti3, tm3_size, tm3__check_at, tm3_read, tm3__cut, tm3__spend, tm3_write, tm3_flush, tm3_pending_count, tm3_cut_count, tm3_cut_power, tm3_schedule_cut, ta3__blocks, ta3__pending, ta3__cuts, ta3__left, ta3__torn, w_o g1, wst_d
  rw [hl, e1]
  exact hk _
theorem flushE (h : Dsk s d bi pi B Pn c lf tn) {lf' : Fx.D} (hd : Dec lf lf') (hp : ∀ q ∈ Pn, q.1 < B.length) : (gen T0 defs (n + 2)).call 18 [.obj d] s = .ok .non (aftS s d bi (flushB B Pn) c lf' tn) := by
  apply wp_okE
  rw [h18]
  refine Fx.r_cut v18_0 (fun e u => u = s.set d (dO bi pi c lf' tn) ∧ e = [.val (.obj d), .no, .no]) ?_ ?_
  · exists 0, ti3, tm3_size, tm3__check_at, tm3_read, tm3__cut, tm3__spend, tm3_write, tm3_flush, tm3_pending_count, tm3_cut_count, tm3_cut_power, tm3_schedule_cut, ta3__blocks, ta3__pending, ta3__cuts, ta3__left, ta3__torn, w_o h.o, z16, wp_okI (spendE (n := n) h hd)
  rintro e u ⟨e1, e2⟩
  subst e2
  have hdu : Dsk u d bi pi B Pn c lf' tn := by
    rw [e1]
    exact ⟨get_set (lt_of h.o), by rw [List.getElem?_set_ne h.n1]; exact h.b, by rw [List.getElem?_set_ne h.n2]; exact h.p, h.n1, h.n2, h.n3⟩
  refine flushE0 hdu hp fun e => ?_
  rw [e1, aft_set (lt_of h.o) h.n1]
  exact ⟨rfl, rfl⟩
theorem cutE (h : Dsk s d bi pi B Pn c lf tn) {t : List Nat} (hp : ∀ q ∈ Pn, q.1 < B.length ∧ q.2.length = 32) (hb : ∀ r ∈ B, r.length = 32) (ht : ∀ x ∈ t, x ≤ 32) (htl : t.length < 1000) :
    (gen T0 defs (n + 1)).call 15 [.obj d, lD t] s = .ok .non (aftS s d bi (cutB t Pn B Pn.length) (c + 1) .non (lD [])) := by
  apply wp_okE
  rw [h15]
  refine Fx.r_cut v15_0 (fun e u => u = s.set bi (.lst ((cutB t Pn B Pn.length).map lD)) ∧ ∃ s2 s3 s4 s5, e = [.val (.obj d), .val (lD t), s2, s3, s4, s5]) ?_ ?_
  · rw [v_forO]
    exists 0, ti3, tm3_size, tm3__check_at, tm3_read, tm3__cut, tm3__spend, tm3_write, tm3_flush, tm3_pending_count, tm3_cut_count, tm3_cut_power, tm3_schedule_cut, ta3__blocks, ta3__pending, ta3__cuts, ta3__left, ta3__torn, w_o h.o, wlo_obj, w_l h.p, wen_t
    rw [enum_map pD (0, []) Pn]
    refine r_listO (fun k : Nat => Fx.D.tup [.int (k : Int), pD (Pn.getD k (0, []))]) (List.range Pn.length) (fun pre env s' => s' = s.set bi (.lst ((cutB t Pn B pre.length).map lD)) ∧ ∃ s2 s3 s4 s5, env = [.val (.obj d), .val (lD t), s2, s3, s4, s5]) ?_ ?_ ⟨(set_same h.b).symm, _, _, _, _, rfl⟩
    · rintro pre k post env s' e0 ⟨e1, s2, s3, s4, s5, e2⟩
      subst e2
      obtain ⟨hpre, hk⟩ := range_split e0
      have hpl : pre.length = k := by rw [hpre, List.length_range]
      rw [List.length_append, List.length_singleton, hpl, cutB_succ]
      rw [hpl] at e1
      have hx := hp (Pn.getD k (0, [])) (by rw [List.getD_eq_getElem?_getD, List.getElem?_eq_getElem hk]; exact List.getElem_mem hk)
      have hlen : (cutB t Pn B k).length = B.length := fold_len _ _
      have hok := cut_ok hb hp ht k (by omega)
      have htd : tearB t Pn (cutB t Pn B k) k = (cutB t Pn B k).set (Pn.getD k (0, [])).1 ((Pn.getD k (0, [])).2.take (t.getD k 0) ++ ((cutB t Pn B k).getD (Pn.getD k (0, [])).1 []).drop (t.getD k 0)) := rfl
      rw [htd]
      clear htd
      generalize cutB t Pn B k = B' at e1 hlen hok
      generalize Pn.getD k (0, []) = x at hx
      have g1 : s'[d]? = some (dO bi pi c lf tn) := by rw [e1, List.getElem?_set_ne (Ne.symm h.n1)]; exact h.o
      have g2 : s'[bi]? = some (.lst (B'.map lD)) := by rw [e1]; exact get_set (lt_of h.b)
      obtain ⟨xi, hxi⟩ : ∃ xi : Int, xi = (x.1 : Int) := ⟨_, rfl⟩
      obtain ⟨ki, hki⟩ : ∃ ki : Int, ki = (k : Int) := ⟨_, rfl⟩
      obtain ⟨v, hv⟩ : ∃ v : Int, v = ((t.getD k 0 : Nat) : Int) := ⟨_, rfl⟩
      have hbx := blk_at (B := B') (j := x.1) (by omega)
      have hbl := getD_len hok (i := x.1) (by omega)
      have hat : ∀ {K : Fx.D → Prop}, wo (atI (B'.map lD) xi) K = K (lD (B'.getD x.1 [])) := fun {K} => by rw [hxi]; exact at_N hbx
      have c1 := cut_to x.2 (t.getD k 0)
      have c2 := cut_from (B'.getD x.1 []) (t.getD k 0)
      have hcat : Fx.D.lst ((x.2.take (t.getD k 0)).map nD ++ ((B'.getD x.1 []).drop (t.getD k 0)).map nD) = lD (x.2.take (t.getD k 0) ++ (B'.getD x.1 []).drop (t.getD k 0)) := by unfold lD; rw [List.map_append]
      have hln : ((x.2.take (t.getD k 0)).map nD).length + (((B'.getD x.1 []).drop (t.getD k 0)).map nD).length ≤ 16777216 := by
        rw [List.length_map, List.length_map, List.length_take, List.length_drop]; omega
      rw [← hv] at c1 c2
      have hq : ∀ {k2 : List Fx.D → Prop} {r : List Nat}, wseq (B'.map lD) xi (lD r) k2 = k2 ((B'.set x.1 r).map lD) := fun {k2 r} => by
        rw [q_pos (by omega) (by rw [List.length_map]; omega), hxi, Int.toNat_natCast, set_map]
      have g3 : ∀ r : List Nat, (s.set bi (.lst ((B'.set x.1 r).map lD)))[pi]? = some (.lst (Pn.map pD)) := fun r => by rw [List.getElem?_set_ne h.n3]; exact h.p
      have g4 : ∀ r : List Nat, s'.set bi (.lst ((B'.set x.1 r).map lD)) = s.set bi (.lst ((B'.set x.1 r).map lD)) := fun r => by rw [e1, List.set_set]
      generalize hr : x.2.take (t.getD k 0) ++ (B'.getD x.1 []).drop (t.getD k 0) = r at hcat
      generalize (x.2.take (t.getD k 0)).map nD = A1 at c1 hcat hln
      generalize ((B'.getD x.1 []).drop (t.getD k 0)).map nD = A2 at c2 hcat hln
      have htn : ∀ {K : Fx.D → Prop} {s : Sto}, ki < (t.length : Int) → wix (lD t) (.int ki) s K = K (.int v) := fun {K s} hlt => by
        have hk2 : k < t.length := by omega
        show wo (atI (t.map nD) ki) K = _
        rw [hki, at_N (d := nD (t.getD k 0)) (by rw [List.getElem?_map, List.getElem?_eq_getElem hk2, List.getD_eq_getElem?_getD, List.getElem?_eq_getElem hk2]; rfl), hv]; rfl
      have hlt0 : ¬ ki < (t.length : Int) → v = 0 := fun hlt => by
        have : t.getD k 0 = 0 := by rw [List.getD_eq_getElem?_getD, List.getElem?_eq_none (by omega)]; rfl
        omega
      have htlen : ∀ {K : Fx.D → Prop} {s : Sto}, wb1 .len (lD t) s K = K (.int t.length) := fun {K s} => by
        show K (.int ((t.map nD).length : Nat)) = _
        rw [List.length_map]
      clear hx hbx hbl
      unfold pD nD
      rw [← hxi, ← hki]
      generalize lD t = tD at htn htlen
      generalize hb0 : lD (B'.getD x.1 []) = b0 at hat
      simp -implicitDefEqProofs (disch := decide +kernel) only [↓Fx.t_tup, ↓Fx.t_cons, ↓Fx.t_nil, ↓Fx.t_name, ↓Fx.e_S, ↓Fx.e_0]
      refine Fx.r_cut v15_1 (fun e u => u = s' ∧ e = [.val (.obj d), .val tD, .val (.int ki), .val (.int v), .val (.int xi), .val (lD x.2)]) ?_ ?_
      · by_cases hlt : ki < (t.length : Int)
        · exists 1, htlen, Fx.i_pos hlt, htn hlt
        · exists 1, htlen, Fx.i_neg hlt
          rw [hlt0 hlt]
      rintro e u ⟨e3, e4⟩
      subst e3 e4
      subst hb0
      exists 1, v15_2, r15_2, ti3, tm3_size, tm3__check_at, tm3_read, tm3__cut, tm3__spend, tm3_write, tm3_flush, tm3_pending_count, tm3_cut_count, tm3_cut_power, tm3_schedule_cut, ta3__blocks, ta3__pending, ta3__cuts, ta3__left, ta3__torn, w_o g1, w_l g2, hat, wlsO_lD, hq, wst_d, _, c1, c2, hcat
      exact ⟨hln, by rw [g4]; exact g3 _, g4 _, _, _, _, _, rfl⟩
    · rintro env s' ⟨e1, hh⟩
      rw [List.length_range] at e1
      exact ⟨e1, hh⟩
  rintro e u ⟨e1, s2, s3, s4, s5, e2⟩
  subst e2
  have hl : List.length u = List.length s := by rw [e1, List.length_set]
  have hd : d < List.length u := by rw [hl]; exact lt_of h.o
  have hg : u[d]? = some (dO bi pi c lf tn) := by rw [e1, List.getElem?_set_ne (Ne.symm h.n1)]; exact h.o
  rw [show aftS s d bi (cutB t Pn B Pn.length) (c + 1) .non (lD []) = ((s.set bi (.lst ((cutB t Pn B Pn.length).map lD))) ++ [O.lst []]).set d (dO bi s.length (c + 1) .non (lD [])) from rfl, ← hl, ← e1]
  clear e1 hl
  have g1 : (u ++ [O.lst []])[d]? = some (dO bi pi c lf tn) := by rw [List.getElem?_append_left hd]; exact hg
  refine Fx.r_cut v15_3 (fun e w => w = (u ++ [O.lst []]).set d (dO bi u.length c lf tn) ∧ e = [.val (.obj d), .val (lD t), s2, s3, s4, s5]) ?_ ?_
  · exists 0, ti3, tm3_size, tm3__check_at, tm3_read, tm3__cut, tm3__spend, tm3_write, tm3_flush, tm3_pending_count, tm3_cut_count, tm3_cut_power, tm3_schedule_cut, ta3__blocks, ta3__pending, ta3__cuts, ta3__left, ta3__torn, w_o g1, wst_d
    exact ⟨rfl, trivial⟩
  rintro e w ⟨e1, e2⟩
  subst e2
  have g2 : w[d]? = some (dO bi u.length c lf tn) := by rw [e1]; exact get_set (by rw [List.length_append]; omega)
  refine Fx.r_cut v15_4 (fun e w => w = (u ++ [O.lst []]).set d (dO bi u.length (c + 1) lf tn) ∧ e = [.val (.obj d), .val (lD t), s2, s3, s4, s5]) ?_ ?_
  · exists 0, ti3, tm3_size, tm3__check_at, tm3_read, tm3__cut, tm3__spend, tm3_write, tm3_flush, tm3_pending_count, tm3_cut_count, tm3_cut_power, tm3_schedule_cut, ta3__blocks, ta3__pending, ta3__cuts, ta3__left, ta3__torn, w_o g2, wst_d
    rw [e1, List.set_set]; exact ⟨rfl, trivial⟩
  rintro e w2 ⟨e1, e2⟩
  subst e2
  have g3 : w2[d]? = some (dO bi u.length (c + 1) lf tn) := by rw [e1]; exact get_set (by rw [List.length_append]; omega)
  refine Fx.r_cut v15_5 (fun e w => w = (u ++ [O.lst []]).set d (dO bi u.length (c + 1) .non tn) ∧ e = [.val (.obj d), .val (lD t), s2, s3, s4, s5]) ?_ ?_
  · exists 0, ti3, tm3_size, tm3__check_at, tm3_read, tm3__cut, tm3__spend, tm3_write, tm3_flush, tm3_pending_count, tm3_cut_count, tm3_cut_power, tm3_schedule_cut, ta3__blocks, ta3__pending, ta3__cuts, ta3__left, ta3__torn, w_o g3, wst_d
    rw [e1, List.set_set]; exact ⟨rfl, trivial⟩
  rintro e w3 ⟨e1, e2⟩
  subst e2
  have g4 : w3[d]? = some (dO bi u.length (c + 1) .non tn) := by rw [e1]; exact get_set (by rw [List.length_append]; omega)
  exists 0, v15_6, r15_6, ti3, tm3_size, tm3__check_at, tm3_read, tm3__cut, tm3__spend, tm3_write, tm3_flush, tm3_pending_count, tm3_cut_count, tm3_cut_power, tm3_schedule_cut, ta3__blocks, ta3__pending, ta3__cuts, ta3__left, ta3__torn, w_o g4, wst_d
  rw [e1, List.set_set]; exact rfl
theorem raise2 {env : En} {NN : Fl → Sto → Prop} {EE : Ex → En → Sto → Prop} : WpS (S.ev (gen T0 defs n) (.raiseC 2) env s) NN EE = EE ⟨2, []⟩ env s := by
  have h : (gen T0 defs n).xfld 2 = none := by cases n <;> rfl
  rw [S.ev, if_pos h]; rfl
theorem spendX {t : List Nat} (h : Dsk s d bi pi B Pn c (.int 0) (lD t)) (hp : ∀ q ∈ Pn, q.1 < B.length ∧ q.2.length = 32) (hb : ∀ r ∈ B, r.length = 32) (ht : ∀ x ∈ t, x ≤ 32) (htl : t.length < 1000) :
    (gen T0 defs (n + 2)).call 16 [.obj d] s = .exc ⟨2, []⟩ (aftS s d bi (cutB t Pn B Pn.length) (c + 1) .non (lD [])) := by
  apply wp_exE
  rw [h16]
  have hc := cutE (n := n) h hp hb ht htl
  generalize lD t = tD at h hc
  exists 0, v16_1, r16_1, v16_4, r16_4, v16_3, r16_3, v16_2, r16_2, v16_0, r16_0, ti3, tm3_size, tm3__check_at, tm3_read, tm3__cut, tm3__spend, tm3_write, tm3_flush, tm3_pending_count, tm3_cut_count, tm3_cut_power, tm3_schedule_cut, ta3__blocks, ta3__pending, ta3__cuts, ta3__left, ta3__torn, w_o h.o, Fx.i_pos (rfl : (0 : Int) = 0), z15, wp_okI hc, raise2
end
end K42

set_option linter.all false
set_option maxRecDepth 100000
set_option maxHeartbeats 4000000
namespace K42
open PySem PySem.Spec PyProof.Rows L2 Fx
section
variable {n : Nat} {s : Sto} {d bi pi : Nat} {B : Blocks} {Pn : Pend} {c : Int} {lf tn : Fx.D} {Q : Fx.D → Sto → Prop} {E : Ex → Sto → Prop}
theorem checkTornE {bd : Fx.D} {t : List Nat} (hr : bd = lD t ∨ ∃ m, bd = .obj m ∧ s[m]? = some (.lst (t.map nD))) (ht : ∀ x ∈ t, x ≤ 32) : (gen T0 defs (n + 1)).call 2 [bd] s = .ok .non s := by
  apply wp_okE
  rw [h2]
  rw [v2_0, v_forO]
  have turn : ∀ {NN : Fl → Sto → Prop} {EE : Ex → En → Sto → Prop} {tD : Fx.D} {x : Nat}, x ≤ 32 → (NN (.nx [.val tD, .val (nD x)]) s) → Run (gen T0 defs n) c2_1 [.val tD, .val (nD x)] s NN EE := by
    intro NN EE tD x hx hN
    obtain ⟨xi, hxi⟩ : ∃ xi : Int, xi = (x : Int) := ⟨_, rfl⟩
    unfold nD at hN ⊢
    rw [← hxi] at hN ⊢
    exists 2, v2_1, r2_1, k_BLOCK
    exact ⟨fun q => absurd q (by omega), fun q => ⟨fun q2 => absurd q2 (by omega), fun q2 => hN⟩⟩
  rcases hr with h | ⟨m, h, hs⟩
  · subst h
    unfold lD
    exists 0, wlo_lst, wen_f
    refine r_list nD t (fun pre env s' => s' = s ∧ ∃ s1, env = [.val (.lst (t.map nD)), s1]) ?_ ?_ ⟨rfl, _, rfl⟩
    · rintro pre x post env s' e0 ⟨e1, s1, e2⟩
      subst e1 e2
      have hx := ht x (by rw [e0]; simp)
      simp -implicitDefEqProofs (disch := decide +kernel) only [↓Fx.t_name, ↓Fx.e_S, ↓Fx.e_0]
      exact turn hx ⟨rfl, _, rfl⟩
    · rintro env s' ⟨hh, _⟩
      exact hh
  · subst h
    exists 0, wlo_obj, w_l hs, wen_f
    refine r_listO nD t (fun pre env s' => s' = s ∧ ∃ s1, env = [.val (.obj m), s1]) ?_ ?_ ⟨rfl, _, rfl⟩
    · rintro pre x post env s' e0 ⟨e1, s1, e2⟩
      subst e1 e2
      have hx := ht x (by rw [e0]; simp)
      simp -implicitDefEqProofs (disch := decide +kernel) only [↓Fx.t_name, ↓Fx.e_S, ↓Fx.e_0]
      exact turn hx ⟨hs, rfl, _, rfl⟩
    · rintro env s' ⟨hh, _⟩
      exact hh
theorem checkTornX : (gen T0 defs (n + 1)).call 2 [.lst [.int 33]] s = .exc (exR "torn") s := by
  apply wp_exE
  rw [h2]
  rw [v2_0, v_forO]
  exists 2, wlo_lst, wen_f, v2_2, r2_2, v2_1, r2_1, k_BLOCK, x1
  exact ⟨fun _ => rfl, fun _ => ⟨fun _ => rfl, fun q => absurd q (by decide)⟩⟩
theorem cutPowerE (h : Dsk s d bi pi B Pn c lf tn) {t : List Nat} (hp : ∀ q ∈ Pn, q.1 < B.length ∧ q.2.length = 32) (hb : ∀ r ∈ B, r.length = 32) (ht : ∀ x ∈ t, x ≤ 32) (htl : t.length < 1000) :
    (gen T0 defs (n + 2)).call 21 [.obj d, lD t] s = .ok .non (aftS s d bi (cutB t Pn B Pn.length) (c + 1) .non (lD [])) := by
  apply wp_okE
  rw [h21]
  refine Fx.r_cut v21_0 (fun e u => u = s ∧ e = [.val (.obj d), .val (lD t)]) ?_ ?_
  · exists 0, z2, wp_okI (checkTornE (n := n) (s := s) (.inl rfl) ht)
  rintro e u ⟨e1, e2⟩
  subst e1 e2
  have hc := cutE (n := n) h hp hb ht htl
  generalize aftS u d bi (cutB t Pn B Pn.length) (c + 1) .non (lD []) = w at hc ⊢
  unfold lD at hc ⊢
  exists 0, v21_1, r21_1, ti3, tm3_size, tm3__check_at, tm3_read, tm3__cut, tm3__spend, tm3_write, tm3_flush, tm3_pending_count, tm3_cut_count, tm3_cut_power, tm3_schedule_cut, ta3__blocks, ta3__pending, ta3__cuts, ta3__left, ta3__torn, w_o h.o, w_listF, z15, wp_okI hc
theorem scheduleE (h : Dsk s d bi pi B Pn c lf tn) {m : Nat} {t : List Nat} (hs : s[m]? = some (.lst (t.map nD))) (ht : ∀ x ∈ t, x ≤ 32) {k : Int} (h0 : 0 ≤ k) (h1 : k ≤ 100000) (hm : d ≠ m) :
    (gen T0 defs (n + 2)).call 22 [.obj d, .int k, .obj m] s = .ok .non (s.set d (dO bi pi c (.int k) (lD t))) := by
  apply wp_okE
  rw [h22]
  refine Fx.r_cut v22_0 (fun e u => u = s ∧ e = [.val (.obj d), .val (.int k), .val (.obj m)]) ?_ ?_
  · exists 2, v22_1, r22_1, k_COUNT_MOST
    exact ⟨fun q => absurd q (by omega), fun q => ⟨fun q2 => absurd q2 (by omega), fun q2 => trivial⟩⟩
  rintro e u ⟨e1, e2⟩
  subst e1 e2
  refine Fx.r_cut v22_2 (fun e w => w = u ∧ e = [.val (.obj d), .val (.int k), .val (.obj m)]) ?_ ?_
  · exists 0, z2, wp_okI (checkTornE (n := n) (s := u) (.inr ⟨m, rfl, hs⟩) ht)
  rintro e w ⟨e1, e2⟩
  subst e1 e2
  refine Fx.r_cut v22_3 (fun e u => u = w.set d (dO bi pi c (.int k) tn) ∧ e = [.val (.obj d), .val (.int k), .val (.obj m)]) ?_ ?_
  · exists 0, ti3, tm3_size, tm3__check_at, tm3_read, tm3__cut, tm3__spend, tm3_write, tm3_flush, tm3_pending_count, tm3_cut_count, tm3_cut_power, tm3_schedule_cut, ta3__blocks, ta3__pending, ta3__cuts, ta3__left, ta3__torn, w_o h.o, wst_d
    exact ⟨rfl, trivial⟩
  rintro e u ⟨e1, e2⟩
  subst e2
  have g1 : u[d]? = some (dO bi pi c (.int k) tn) := by rw [e1]; exact get_set (lt_of h.o)
  have g2 : u[m]? = some (.lst (t.map nD)) := by rw [e1, List.getElem?_set_ne hm]; exact hs
  exists 0, v22_4, r22_4, ti3, tm3_size, tm3__check_at, tm3_read, tm3__cut, tm3__spend, tm3_write, tm3_flush, tm3_pending_count, tm3_cut_count, tm3_cut_power, tm3_schedule_cut, ta3__blocks, ta3__pending, ta3__cuts, ta3__left, ta3__torn, w_listF, w_l g2, w_o g1, wst_d
  rw [e1, List.set_set]; exact rfl
theorem scheduleX1 {k : Int} (h0 : k < 0 ∨ 100000 < k) {bd : Fx.D} :
    (gen T0 defs (n + 2)).call 22 [.obj d, .int k, bd] s = .exc (exR "many") s := by
  apply wp_exE
  rw [h22]
  exists 2, v22_1, r22_1, v22_0, r22_0, k_COUNT_MOST, x1
  exact ⟨fun q => rfl, fun q => ⟨fun q2 => rfl, fun q2 => absurd q2 (by omega)⟩⟩
theorem scheduleX2 :
    (gen T0 defs (n + 2)).call 22 [.obj d, .int 3, .lst [.int 33]] s = .exc (exR "torn") s := by
  apply wp_exE
  rw [h22]
  exists 2, v22_1, r22_1, v22_2, r22_2, v22_0, r22_0, k_COUNT_MOST, x1, z2, wp_exI (checkTornX (n := n) (s := s))
  exact ⟨fun q => absurd q (by decide), fun _ => ⟨fun q => absurd q (by decide), fun _ => trivial⟩⟩
theorem lawScheduleE (h : Dsk s d bi pi B Pn c lf tn) {m : Nat} {t : List Nat} (hs : s[m]? = some (.lst (t.map nD))) (ht : ∀ x ∈ t, x ≤ 32) {k : Int} (h0 : 0 ≤ k) (h1 : k ≤ 100000) (hm : d ≠ m) :
    (gen T0 defs (n + 3)).call 7 [.obj d, .int k, .obj m] s = .ok .non (s.set d (dO bi pi c (.int k) (lD t))) := by
  apply wp_okE
  rw [h7]
  exists 0, v7_1, r7_1, v7_2, r7_2, v7_0, r7_0, ti3, tm3_size, tm3__check_at, tm3_read, tm3__cut, tm3__spend, tm3_write, tm3_flush, tm3_pending_count, tm3_cut_count, tm3_cut_power, tm3_schedule_cut, ta3__blocks, ta3__pending, ta3__cuts, ta3__left, ta3__torn, w_o h.o, z22, wp_okI (scheduleE (n := n) h hs ht h0 h1 hm)
theorem lawScheduleX1 (h : Dsk s d bi pi B Pn c lf tn) {k : Int} (h0 : k < 0 ∨ 100000 < k) {bd : Fx.D} :
    (gen T0 defs (n + 3)).call 7 [.obj d, .int k, bd] s = .ok (.tup [.str "refused", .str "many"]) s := by
  apply wp_okE
  rw [h7]
  exists 0, v7_1, r7_1, v7_2, r7_2, v7_0, r7_0, ti3, tm3_size, tm3__check_at, tm3_read, tm3__cut, tm3__spend, tm3_write, tm3_flush, tm3_pending_count, tm3_cut_count, tm3_cut_power, tm3_schedule_cut, ta3__blocks, ta3__pending, ta3__cuts, ta3__left, ta3__torn, w_o h.o, z22, wp_exI (scheduleX1 (n := n) (s := s) (d := d) (bd := bd) h0), s1_1, x1, _, exR
theorem lawScheduleX2 (h : Dsk s d bi pi B Pn c lf tn) :
    (gen T0 defs (n + 3)).call 7 [.obj d, .int 3, .lst [.int 33]] s = .ok (.tup [.str "refused", .str "torn"]) s := by
  apply wp_okE
  rw [h7]
  exists 0, v7_1, r7_1, v7_2, r7_2, v7_0, r7_0, ti3, tm3_size, tm3__check_at, tm3_read, tm3__cut, tm3__spend, tm3_write, tm3_flush, tm3_pending_count, tm3_cut_count, tm3_cut_power, tm3_schedule_cut, ta3__blocks, ta3__pending, ta3__cuts, ta3__left, ta3__torn, w_o h.o, z22, wp_exI (scheduleX2 (n := n) (s := s) (d := d)), s1_1, x1, _, exR
/-- a deed of the disk by the law -/
theorem rawF (h : Dsk s d bi pi B Pn c lf tn) {bd : Fx.D} {Q : Fx.D → Sto → Prop} {E : Ex → Sto → Prop} : Wp ((gen T0 defs (n + 1)).call 8 [.obj d, .int (0 - 1), bd] s) Q E = Wp ((gen T0 defs n).call 18 [.obj d] s) Q E := by
  rw [h8]
  exists 1, v8_1, r8_1, v8_0, r8_0, ti3, tm3_size, tm3__check_at, tm3_read, tm3__cut, tm3__spend, tm3_write, tm3_flush, tm3_pending_count, tm3_cut_count, tm3_cut_power, tm3_schedule_cut, ta3__blocks, ta3__pending, ta3__cuts, ta3__left, ta3__torn, w_o h.o, Fx.i_pos (rfl : (0 - 1 : Int) = 0 - 1)
theorem rawW (h : Dsk s d bi pi B Pn c lf tn) {ii : Int} (hi : 0 ≤ ii) {bd : Fx.D} {Q : Fx.D → Sto → Prop} {E : Ex → Sto → Prop} : Wp ((gen T0 defs (n + 1)).call 8 [.obj d, .int ii, bd] s) Q E = Wp ((gen T0 defs n).call 17 [.obj d, .int ii, bd] s) Q E := by
  rw [h8]
  have hn : ¬ ii = 0 - 1 := by omega
  exists 1, v8_1, r8_1, v8_2, r8_2, v8_0, r8_0, ti3, tm3_size, tm3__check_at, tm3_read, tm3__cut, tm3__spend, tm3_write, tm3_flush, tm3_pending_count, tm3_cut_count, tm3_cut_power, tm3_schedule_cut, ta3__blocks, ta3__pending, ta3__cuts, ta3__left, ta3__torn, w_o h.o, Fx.i_neg hn
theorem doE {s' : Sto} {x y : Fx.D} (h : ∀ {Q : Fx.D → Sto → Prop} {E : Ex → Sto → Prop}, Wp ((gen T0 defs (n + 1)).call 8 [.obj d, x, y] s) Q E = Q .non s') :
    (gen T0 defs (n + 2)).call 9 [.obj d, x, y] s = .ok .non s' := by
  apply wp_okE
  rw [h9]
  refine Fx.r_cut v9_0 (fun e u => u = s' ∧ e = [.val (.obj d), .val x, .val y, .no, .val .non]) ?_ ?_
  · exists 0, v9_1, r9_1, Fx.y_try2, z8, h
  rintro e u ⟨e1, e2⟩
  subst e1 e2
  exists 0, v9_6, r9_6
theorem doX {s' : Sto} {x y : Fx.D} {nm : Str} (h : ∀ {Q : Fx.D → Sto → Prop} {E : Ex → Sto → Prop}, Wp ((gen T0 defs (n + 1)).call 8 [.obj d, x, y] s) Q E = E (exR nm) s') :
    (gen T0 defs (n + 2)).call 9 [.obj d, x, y] s = .ok (.tup [.str "refused", .str nm]) s' := by
  apply wp_okE
  rw [h9]
  exists 0, v9_1, r9_1, v9_3, r9_3, v9_4, r9_4, v9_2, r9_2, v9_5, r9_5, v9_0, r9_0, Fx.y_try2, z8, h, s1_1, s1_2, x1, _, exR
theorem doC {s' : Sto} {x y : Fx.D} (h : ∀ {Q : Fx.D → Sto → Prop} {E : Ex → Sto → Prop}, Wp ((gen T0 defs (n + 1)).call 8 [.obj d, x, y] s) Q E = E ⟨2, []⟩ s') :
    (gen T0 defs (n + 2)).call 9 [.obj d, x, y] s = .ok (.tup [.str "refused", .str "cut"]) s' := by
  apply wp_okE
  rw [h9]
  exists 0, v9_1, r9_1, v9_3, r9_3, v9_4, r9_4, v9_2, r9_2, v9_5, r9_5, v9_0, r9_0, Fx.y_try2, z8, h, s2_2, s2_0, s2_1, Fx.i_t, Fx.i_f
end
section
variable {n : Nat} {s : Sto} {d bi pi : Nat} {B : Blocks} {Pn : Pend} {c : Int} {lf tn : Fx.D} {Q : Fx.D → Sto → Prop} {E : Ex → Sto → Prop}
/-- a row of draws -/
theorem drawsC {is : List Int} {a : Nat} {rs : Sto} {env : En} {X : Fx.X} {t : T} (m : Nat) (lim : Nat) (hm : m ≤ 1000)
    (hs : ∀ (d : Fx.D) (a : Nat) {yes : Fx.D → Sto → Prop} {no : Sto → Prop}, (∀ x a', x ≤ lim → yes (nD x) (bx is a' rs)) → Fx.turnC (gen T0 defs n) t .none X env d (bx is a rs) yes no)
    {Q : List Fx.D → Sto → Prop} (hQ : ∀ (r : List Nat) a', r.length = m → (∀ x ∈ r, x ≤ lim) → Q (r.map nD) (bx is a' rs)) :
    Wp (goes (stepF (gen T0 defs n) t .none X env) (Fx.rangeI 0 m) [] (bx is a rs)) Q nE := by
  refine l_goes (fun r acc s' => ∃ (a : Nat) (W : List Nat), s' = bx is a rs ∧ acc = W.map nD ∧ W.length + r.length = m ∧ ∀ c ∈ W, c ≤ lim) ?_ ?_ _ _ _ ⟨a, [], rfl, rfl, by rw [rng_len]; simp, fun c hc => by cases hc⟩
  · rintro d r acc s' ⟨a, W, e1, e2, hl, ho⟩
    subst e1 e2
    rw [List.length_cons] at hl
    refine hs d a fun x a' hx => ⟨by rw [List.length_map]; omega, a', W ++ [x], rfl, by rw [List.map_append]; rfl, by rw [List.length_append, List.length_singleton]; omega, fun c hc => ?_⟩
    rcases List.mem_append.mp hc with q | q
    · exact ho c q
    · rw [List.mem_singleton.mp q]; exact hx
  · rintro acc s' ⟨a, W, e1, e2, hl, ho⟩
    subst e1 e2
    exact hQ W a (by simpa using hl) ho
theorem lawTornE {is : List Int} {a : Nat} {rs : Sto} {m : Nat} {mi : Int} (hmi : mi = (m : Int)) (hm : m ≤ 1000) (hQ : ∀ (t : List Nat) a', (∀ x ∈ t, x ≤ 32) → t.length ≤ m → Q (lD t) (bx is a' rs)) :
    Wp ((gen T0 defs (n + 2)).call 6 [.obj 0, .int mi] (bx is a rs)) Q E := by
  have p4 : (0 : Int) < 4 := by decide
  have p2 : (0 : Int) < 2 := by decide
  have p33 : (0 : Int) < 33 := by decide
  have hn : mi.toNat = m := by omega
  rw [h6]
  refine Fx.r_cut v6_0 (fun e u => ∃ k a, u = bx is a rs ∧ e = [.val (.obj 0), .val (.int mi), .val (.int k), .no]) ?_ ?_
  · exists 0, z5, draw p4
    exact ⟨_, _, rfl, rfl⟩
  rintro e u ⟨k, a, e1, e2⟩
  subst e1 e2
  by_cases h0 : k = 0
  · exists 1, v6_2, r6_2, v6_1, r6_1, Fx.i_pos h0
    exact hQ [] a (fun x hx => by cases hx) (Nat.zero_le _)
  by_cases h1 : k = 1
  · exists 1, v6_2, r6_2, v6_4, r6_4, v6_3, r6_3, v6_1, r6_1, Fx.i_neg h0, Fx.i_pos h1
    rw [hn]
    have := flR m 32
    rw [show ((32 : Nat) : Int) = 32 from rfl] at this
    rw [this]
    exact ⟨⟨by omega, by omega, by omega⟩, hQ (List.replicate m 32) a (fun x hx => by rw [(List.mem_replicate.mp hx).2]; omega) (by rw [List.length_replicate]; omega)⟩
  by_cases h2 : k = 2
  · exists 1, v6_2, r6_2, v6_4, r6_4, v6_6, r6_6, v6_5, r6_5, v6_3, r6_3, v6_1, r6_1, Fx.i_neg h0, Fx.i_neg h1, Fx.i_pos h2
    rw [hn]
    refine ⟨by omega, drawsC m 32 hm (fun d a yes no hy => ?_) fun r a' hl hr => hQ r a' hr (by omega)⟩
    obtain ⟨x, hx, hx2⟩ := drN (is := is) (a := a) p2
    have e : Fx.D.int (32 * dr is a 2) = nD (32 * x) := by
      have : 32 * dr is a 2 = ((32 * x : Nat) : Int) := by omega
      rw [this]; rfl
    exists 0, z5, draw p2, _, Fx.turnC, e
    exact hy _ _ (by omega)
  · exists 1, v6_2, r6_2, v6_4, r6_4, v6_6, r6_6, v6_7, r6_7, v6_5, r6_5, v6_3, r6_3, v6_1, r6_1, Fx.i_neg h0, Fx.i_neg h1, Fx.i_neg h2
    rw [hn]
    refine ⟨by omega, drawsC m 32 hm (fun d a yes no hy => ?_) fun r a' hl hr => hQ r a' hr (by omega)⟩
    obtain ⟨x, hx, hx2⟩ := drN (is := is) (a := a) p33
    have e : Fx.D.int (dr is a 33) = nD x := by rw [hx]; rfl
    exists 1, z5, draw p33, _, Fx.turnC, e
    exact hy _ _ (by omega)
end
theorem ref_ne {a : Str} {q : Bool → Prop} (ha : (Fx.D.str a).lay = true) : wo (opCmp .NotEq (.tup [.str "refused", .str a]) (.tup [.str "refused", .str a])) q = q false := by
  refine o_neR (x := .tup [.str "refused", .str a]) ?_ (Nat.le_trans (Nat.le_refl 1) (by decide))
  show ((Fx.D.str "refused").lay && ((Fx.D.str a).lay && true)) = true
  rw [ha]; decide +kernel
end K42

set_option linter.all false
set_option maxRecDepth 100000
set_option maxHeartbeats 4000000
namespace K42
open PySem PySem.Spec PyProof.Rows L2 Fx
/-- the law's own state beside the disk's -/
structure St (is : List Int) (m d lb : Nat) (B : Blocks) (Pn : Pend) (c : Int) (lf tn : Fx.D) (lp bi pi : Nat) (s : Sto) : Prop where
  box : ∃ a rs, s = bx is a rs
  dsk : Dsk s d bi pi B Pn c lf tn
  hlb : s[lb]? = some (.lst (B.map lD))
  hlp : s[lp]? = some (.lst (Pn.map eD))
  nd : [0, d, bi, pi, lb, lp].Nodup
  ok : Ok B Pn
  sz : B.length = m
theorem bx_of {is : List Int} {a : Nat} {s s' : Sto} {rs : Sto} (h : s = bx is a rs) (k : s'[0]? = s[0]?) : ∃ rs', s' = bx is a rs' := by
  subst h
  cases s' with
  | nil => cases k
  | cons o r => cases k; exact ⟨r, rfl⟩
theorem St.same {is : List Int} {m d lb : Nat} {B : Blocks} {Pn : Pend} {c : Int} {lf tn : Fx.D} {lp bi pi : Nat} {s s' : Sto} (h : St is m d lb B Pn c lf tn lp bi pi s) (k : ∀ j ∈ [0, d, bi, pi, lb, lp], s'[j]? = s[j]?) : St is m d lb B Pn c lf tn lp bi pi s' := by
  obtain ⟨a, rs, e⟩ := h.box
  obtain ⟨rs', e'⟩ := bx_of e (k 0 (by simp))
  exact ⟨⟨a, rs', e'⟩, ⟨by rw [k d (by simp)]; exact h.dsk.o, by rw [k bi (by simp)]; exact h.dsk.b, by rw [k pi (by simp)]; exact h.dsk.p, h.dsk.n1, h.dsk.n2, h.dsk.n3⟩, by rw [k lb (by simp)]; exact h.hlb, by rw [k lp (by simp)]; exact h.hlp, h.nd, h.ok, h.sz⟩
theorem St.lt {is : List Int} {m d lb : Nat} {B : Blocks} {Pn : Pend} {c : Int} {lf tn : Fx.D} {lp bi pi : Nat} {s : Sto} (h : St is m d lb B Pn c lf tn lp bi pi s) : ∀ j ∈ [0, d, bi, pi, lb, lp], j < s.length := by
  intro j hj
  simp only [List.mem_cons, List.not_mem_nil, or_false] at hj
  rcases hj with e | e | e | e | e | e <;> subst e
  · obtain ⟨a, rs, e⟩ := h.box
    rw [e]; exact Nat.zero_lt_succ _
  · exact lt_of h.dsk.o
  · exact lt_of h.dsk.b
  · exact lt_of h.dsk.p
  · exact lt_of h.hlb
  · exact lt_of h.hlp
theorem St.draw {is : List Int} {m d lb : Nat} {B : Blocks} {Pn : Pend} {c : Int} {lf tn : Fx.D} {lp bi pi a a' : Nat} {rs : Sto} (h : St is m d lb B Pn c lf tn lp bi pi (bx is a rs)) : St is m d lb B Pn c lf tn lp bi pi (bx is a' rs) := by
  have nd := h.nd
  simp only [List.nodup_cons, List.mem_cons, List.not_mem_nil, or_false, not_or] at nd
  have k : ∀ j, ¬ 0 = j → (bx is a' rs)[j]? = (bx is a rs)[j]? := fun j hj => by
    match j, hj with
    | j + 1, _ => rfl
  exact ⟨⟨a', rs, rfl⟩, ⟨by rw [k d (by omega)]; exact h.dsk.o, by rw [k bi (by omega)]; exact h.dsk.b, by rw [k pi (by omega)]; exact h.dsk.p, h.dsk.n1, h.dsk.n2, h.dsk.n3⟩, by rw [k lb (by omega)]; exact h.hlb, by rw [k lp (by omega)]; exact h.hlp, h.nd, h.ok, h.sz⟩
theorem aft_len {s : Sto} {d bi : Nat} {B : Blocks} {c : Int} {lf tn : Fx.D} : (aftS s d bi B c lf tn).length = s.length + 1 := by
  unfold aftS
  rw [List.length_set, List.length_append, List.length_set]; rfl
theorem aft_get {s : Sto} {d bi j : Nat} {B : Blocks} {c : Int} {lf tn : Fx.D} (hj : j < s.length) (h1 : bi ≠ j) (h2 : d ≠ j) : (aftS s d bi B c lf tn)[j]? = s[j]? := by
  unfold aftS
  rw [List.getElem?_set_ne h2, List.getElem?_append_left (by rw [List.length_set]; exact hj), List.getElem?_set_ne h1]
theorem aft_dsk {s : Sto} {d bi pi : Nat} {B B' : Blocks} {Pn : Pend} {c c' : Int} {lf tn lf' tn' : Fx.D} (h : Dsk s d bi pi B Pn c lf tn) : Dsk (aftS s d bi B' c' lf' tn') d bi s.length B' [] c' lf' tn' := by
  have hd := lt_of h.o
  have hb := lt_of h.b
  unfold aftS
  have e : List.length (s.set bi (.lst (B'.map lD))) = s.length := List.length_set
  refine ⟨get_set (by rw [List.length_append, e]; omega), ?_, ?_, h.n1, by omega, by omega⟩
  · rw [List.getElem?_set_ne h.n1, List.getElem?_append_left (by rw [e]; exact hb)]; exact get_set hb
  · rw [List.getElem?_set_ne (by omega), List.getElem?_append_right (by rw [e]; exact Nat.le_refl _), e, Nat.sub_self]; rfl
theorem St.after {is : List Int} {m d lb : Nat} {B B' : Blocks} {Pn : Pend} {c c' : Int} {lf tn lf' tn' : Fx.D} {lp bi pi : Nat} {s : Sto} (h : St is m d lb B Pn c lf tn lp bi pi s) (hl : B'.length = m) (hb : ∀ r ∈ B', r.length = 32) :
    St is m d lb B' [] c' lf' tn' (s.length + 1) bi s.length ((aftS s d bi B' c' lf' tn').set lb (.lst (B'.map lD)) ++ [O.lst []]) := by
  have nd := h.nd
  simp only [List.nodup_cons, List.mem_cons, List.not_mem_nil, or_false, not_or, not_false_eq_true, List.nodup_nil, and_true] at nd
  have lt := h.lt
  simp only [List.mem_cons, List.not_mem_nil, or_false, forall_eq_or_imp, forall_eq] at lt
  have hd := aft_dsk (B' := B') (c' := c') (lf' := lf') (tn' := tn') h.dsk
  have hln := aft_len (s := s) (d := d) (bi := bi) (B := B') (c := c') (lf := lf') (tn := tn')
  have g : ∀ {j : Nat}, j < s.length + 1 → lb ≠ j → ((aftS s d bi B' c' lf' tn').set lb (.lst (B'.map lD)) ++ [O.lst []])[j]? = (aftS s d bi B' c' lf' tn')[j]? := fun {j} h1 h2 => by
    rw [List.getElem?_append_left (by rw [List.length_set, hln]; exact h1), List.getElem?_set_ne h2]
  obtain ⟨a, rs, e⟩ := h.box
  obtain ⟨rs', e'⟩ := bx_of (s' := (aftS s d bi B' c' lf' tn').set lb (.lst (B'.map lD)) ++ [O.lst []]) e (by rw [g (by omega) (by omega), aft_get (by omega) (by omega) (by omega)])
  refine ⟨⟨a, rs', e'⟩, ⟨?_, ?_, ?_, hd.n1, hd.n2, hd.n3⟩, ?_, ?_, ?_, ⟨hb, fun q hq => (by cases hq), by rw [hl, ← h.sz]; exact h.ok.m⟩, hl⟩
  · rw [g (by omega) (by omega)]; exact hd.o
  · rw [g (by omega) (by omega)]; exact hd.b
  · rw [g (by omega) (by omega)]; exact hd.p
  · rw [List.getElem?_append_left (by rw [List.length_set, hln]; omega)]
    exact get_set (by rw [hln]; omega)
  · rw [List.getElem?_append_right (by rw [List.length_set, hln]; exact Nat.le_refl _), List.length_set, hln, Nat.sub_self]; rfl
  · simp only [List.nodup_cons, List.mem_cons, List.not_mem_nil, or_false, not_or, not_false_eq_true, List.nodup_nil, and_true]
    omega
theorem St.upd {is : List Int} {m d lb : Nat} {B : Blocks} {Pn Pn' : Pend} {c : Int} {lf tn : Fx.D} {lp bi pi : Nat} {s s' : Sto} (h : St is m d lb B Pn c lf tn lp bi pi s) (k : ∀ j ∈ [0, d, bi, lb], s'[j]? = s[j]?) (hp : s'[pi]? = some (.lst (Pn'.map pD))) (hl : s'[lp]? = some (.lst (Pn'.map eD))) (ok : Ok B Pn') : St is m d lb B Pn' c lf tn lp bi pi s' := by
  obtain ⟨a, rs, e⟩ := h.box
  obtain ⟨rs', e'⟩ := bx_of e (k 0 (by simp))
  exact ⟨⟨a, rs', e'⟩, ⟨by rw [k d (by simp)]; exact h.dsk.o, by rw [k bi (by simp)]; exact h.dsk.b, hp, h.dsk.n1, h.dsk.n2, h.dsk.n3⟩, by rw [k lb (by simp)]; exact h.hlb, hl, h.nd, ok, h.sz⟩
theorem lay_r (r : List Nat) : D.layA (r.map nD) = true := by
  induction r with
  | nil => rfl
  | cons i r ih => rw [List.map_cons, D.layA, ih]; rfl
theorem dp_r (r : List Nat) : PyData.depthAll (D.pyAll (r.map nD)) ≤ 0 := by
  induction r with
  | nil => exact Nat.le_refl _
  | cons i r ih =>
    rw [List.map_cons]; simp only [D.pyAll, PyData.depthAll]
    have : (nD i).py.depth = 0 := rfl
    omega
theorem row_ne {r : List Nat} {q : Bool → Prop} : wo (opCmp .NotEq (lD r) (lD r)) q = q false := by
  refine o_neR (x := lD r) (lay_r r) ?_
  have h : (lD r).py.depth = PyData.depthAll (D.pyAll (r.map nD)) + 1 := rfl
  have := dp_r r
  omega
theorem de_lD {s : Sto} {r : List Nat} {k : Fx.D → Prop} : wder s (lD r) k = k (lD r) := rfl
theorem it_as {g : G} {it : Fx.It} {env : En} {s : Sto} {Q : List Fx.D → Sto → Prop} {E : Ex → Sto → Prop} (ds : List Fx.D) (h : ∀ Q : List Fx.D → Sto → Prop, Q ds s → Wp (It.ev g it env s) Q E) (hq : Q ds s) : Wp (It.ev g it env s) Q E := h Q hq
section
variable {n : Nat} {s : Sto} {d bi pi : Nat} {B : Blocks} {Pn : Pend} {c : Int} {lf tn : Fx.D}
theorem doFlush (h : Dsk s d bi pi B Pn c lf tn) {lf' : Fx.D} (hd : Dec lf lf') (hp : ∀ q ∈ Pn, q.1 < B.length) {bd : Fx.D} : (gen T0 defs (n + 4)).call 9 [.obj d, .int (0 - 1), bd] s = .ok .non (aftS s d bi (flushB B Pn) c lf' tn) :=
  doE (n := n + 2) fun {Q E} => by rw [rawF h, wp_okI (flushE (n := n) h hd hp)]
theorem doFlushC {t : List Nat} (h : Dsk s d bi pi B Pn c (.int 0) (lD t)) (hp : ∀ q ∈ Pn, q.1 < B.length ∧ q.2.length = 32) (hb : ∀ r ∈ B, r.length = 32) (ht : ∀ x ∈ t, x ≤ 32) (htl : t.length < 1000) {bd : Fx.D} : (gen T0 defs (n + 5)).call 9 [.obj d, .int (0 - 1), bd] s = .ok (.tup [.str "refused", .str "cut"]) (aftS s d bi (cutB t Pn B Pn.length) (c + 1) .non (lD [])) :=
  doC (n := n + 3) fun {Q E} => by
    rw [rawF h]
    have hs := spendX (n := n) h hp hb ht htl
    rw [h18]
    exists 0, v18_0, r18_0, ti3, tm3_size, tm3__check_at, tm3_read, tm3__cut, tm3__spend, tm3_write, tm3_flush, tm3_pending_count, tm3_cut_count, tm3_cut_power, tm3_schedule_cut, ta3__blocks, ta3__pending, ta3__cuts, ta3__left, ta3__torn, w_o h.o, z16, wp_exI hs
theorem doWrite (h : Dsk s d bi pi B Pn c lf tn) {lf' : Fx.D} (hd : Dec lf lf') {r : List Nat} (hl : r.length = 32) (hb : ∀ x ∈ r, x ≤ 255) {i : Nat} {ii : Int} (hii : ii = (i : Int)) (h1 : i < B.length) (hz : Pn.length < 1000) : (gen T0 defs (n + 4)).call 9 [.obj d, .int ii, lD r] s = .ok .non ((s.set d (dO bi pi c lf' tn)).set pi (.lst ((Pn ++ [(i, r)]).map pD))) :=
  doE (n := n + 2) fun {Q E} => by rw [rawW h (by omega), wp_okI (writeE (n := n) h hd hl hb hii h1 hz)]
theorem doWriteC {t : List Nat} (h : Dsk s d bi pi B Pn c (.int 0) (lD t)) (hp : ∀ q ∈ Pn, q.1 < B.length ∧ q.2.length = 32) (hbb : ∀ r ∈ B, r.length = 32) (ht : ∀ x ∈ t, x ≤ 32) (htl : t.length < 1000) {r : List Nat} (hl : r.length = 32) (hb : ∀ x ∈ r, x ≤ 255) {i : Nat} {ii : Int} (hii : ii = (i : Int)) (h1 : i < B.length) : (gen T0 defs (n + 5)).call 9 [.obj d, .int ii, lD r] s = .ok (.tup [.str "refused", .str "cut"]) (aftS s d bi (cutB t Pn B Pn.length) (c + 1) .non (lD [])) :=
  doC (n := n + 3) fun {Q E} => by
    rw [rawW h (by omega)]
    have hs := spendX (n := n) h hp hbb ht htl
    have hmm : (r.map fun (x : Nat) => (x : Int)).map Fx.D.int = r.map nD := by rw [List.map_map]; rfl
    have hok : okBlk (r.map fun (x : Nat) => (x : Int)) = true := by
      unfold okBlk
      rw [decide_eq_true (by rw [List.length_map]; exact hl), Bool.true_and]
      refine List.all_eq_true.mpr fun x hx => ?_
      obtain ⟨y, hy, e⟩ := List.mem_map.mp hx
      have := hb y hy
      exact decide_eq_true (by omega)
    have hblk := isBlockE (n := n + 1) (s := s) (is := r.map fun (x : Nat) => (x : Int))
    rw [hok, hmm, show Fx.D.lst (r.map nD) = lD r from rfl] at hblk
    have hat := checkAtE (n := n + 1) h (i := ii) (by omega) (by omega)
    generalize aftS s d bi (cutB t Pn B Pn.length) (c + 1) .non (lD []) = w at hs ⊢
    generalize lD r = rD at hblk
    rw [h17]
    exists 0, v17_2, r17_2, v17_3, r17_3, v17_1, r17_1, v17_0, r17_0, ti3, tm3_size, tm3__check_at, tm3_read, tm3__cut, tm3__spend, tm3_write, tm3_flush, tm3_pending_count, tm3_cut_count, tm3_cut_power, tm3_schedule_cut, ta3__blocks, ta3__pending, ta3__cuts, ta3__left, ta3__torn, w_o h.o, z13, wp_okI hat, z1, wp_okI hblk, Fx.i_t, Fx.i_f, z16, wp_exI hs
theorem doX1 (h : Dsk s d bi pi B Pn c lf tn) {bd : Fx.D} {ii : Int} (h1 : (B.length : Int) ≤ ii) : (gen T0 defs (n + 4)).call 9 [.obj d, .int ii, bd] s = .ok (.tup [.str "refused", .str "at"]) s :=
  doX (n := n + 2) fun {Q E} => by rw [rawW h (by omega), wp_exI (writeX1 (n := n) h (.inr h1))]
theorem doX2 (h : Dsk s d bi pi B Pn c lf tn) {is : List Int} (hn : okBlk is = false) {ii : Int} (h0 : 0 ≤ ii) (h1 : ii < B.length) : (gen T0 defs (n + 4)).call 9 [.obj d, .int ii, .lst (is.map .int)] s = .ok (.tup [.str "refused", .str "block"]) s :=
  doX (n := n + 2) fun {Q E} => by rw [rawW h (by omega), wp_exI (writeX2 (n := n) h hn h0 h1)]
theorem pendE (h : Dsk s d bi pi B Pn c lf tn) : (gen T0 defs (n + 1)).call 19 [.obj d] s = .ok (.int Pn.length) s := by
  apply wp_okE
  exists 0, f19, ti3, tm3_size, tm3__check_at, tm3_read, tm3__cut, tm3__spend, tm3_write, tm3_flush, tm3_pending_count, tm3_cut_count, tm3_cut_power, tm3_schedule_cut, ta3__blocks, ta3__pending, ta3__cuts, ta3__left, ta3__torn, w_o h.o, w_l h.p
  rw [List.length_map]; exact ⟨rfl, trivial⟩
theorem cutsE (h : Dsk s d bi pi B Pn c lf tn) : (gen T0 defs (n + 1)).call 20 [.obj d] s = .ok (.int c) s := by
  apply wp_okE
  exists 0, f20, ti3, tm3_size, tm3__check_at, tm3_read, tm3__cut, tm3__spend, tm3_write, tm3_flush, tm3_pending_count, tm3_cut_count, tm3_cut_power, tm3_schedule_cut, ta3__blocks, ta3__pending, ta3__cuts, ta3__left, ta3__torn, w_o h.o
theorem flI (q : Nat) : (List.replicate q [Fx.D.int 0]).flatten = (List.replicate q (0 : Int)).map .int := by
  induction q with
  | zero => rfl
  | succ q ih => rw [List.replicate_succ, List.flatten_cons, ih]; rfl
theorem cut_nil {Pn : Pend} {B : Blocks} {k : Nat} : cutB [] Pn B k = B := by
  rw [cutB_min]
  show cutB [] Pn B (min 0 k) = B
  rw [Nat.zero_min]; rfl
end
end K42

set_option linter.all false
set_option maxRecDepth 100000
set_option maxHeartbeats 4000000
namespace K42
open PySem PySem.Spec PyProof.Rows L2 Fx
/-- what the law knows of the schedule -/
def LR (lf tn : Fx.D) (left : Int) (tv : Fx.D) : Prop := (lf = .non ∧ left = 0 - 1) ∨ ∃ t : List Nat, lf = .int left ∧ 0 ≤ left ∧ tn = lD t ∧ tv = lD t ∧ (∀ x ∈ t, x ≤ 32) ∧ t.length ≤ 9
theorem St.dset {is : List Int} {m d lb : Nat} {B : Blocks} {Pn : Pend} {c : Int} {lf tn lf' tn' : Fx.D} {lp bi pi : Nat} {s s' : Sto} (h : St is m d lb B Pn c lf tn lp bi pi s) (k : ∀ j ∈ [0, bi, pi, lb, lp], s'[j]? = s[j]?) (hd : s'[d]? = some (dO bi pi c lf' tn')) : St is m d lb B Pn c lf' tn' lp bi pi s' := by
  obtain ⟨a, rs, e⟩ := h.box
  obtain ⟨rs', e'⟩ := bx_of e (k 0 (by simp))
  exact ⟨⟨a, rs', e'⟩, ⟨hd, by rw [k bi (by simp)]; exact h.dsk.b, by rw [k pi (by simp)]; exact h.dsk.p, h.dsk.n1, h.dsk.n2, h.dsk.n3⟩, by rw [k lb (by simp)]; exact h.hlb, by rw [k lp (by simp)]; exact h.hlp, h.nd, h.ok, h.sz⟩
section
variable {n : Nat} {is : List Int} {m d lb lp bi pi : Nat} {B : Blocks} {Pn : Pend} {c : Int} {lf tn : Fx.D} {s : Sto} {mi left : Int} {nsD tv : Fx.D} {s2 s3 s4 s5 s6 s7 s8 s9 s10 s11 s12 s13 s14 s15 s16 s17 : Sl} {NN : Fl → Sto → Prop} {EE : Ex → En → Sto → Prop}
theorem schedK (h : St is m d lb B Pn c lf tn lp bi pi s)
    (hk : ∀ (lf tn : Fx.D) (left : Int) (tv : Fx.D) (s : Sto) (s12 : Sl), LR lf tn left tv → St is m d lb B Pn c lf tn lp bi pi s → NN (.nx [.val nsD, .val (.obj 0), .val (.int mi), .val (.obj d), .val (.obj lb), .val (.obj lp), .val (.int left), .val tv, s8, s9, s10, s11, s12, s13, s14, s15, s16, s17]) s) :
    Run (gen T0 defs (n + 4)) c10_12 [.val nsD, .val (.obj 0), .val (.int mi), .val (.obj d), .val (.obj lb), .val (.obj lp), s6, s7, s8, s9, s10, s11, s12, s13, s14, s15, s16, s17] s NN EE := by
  have p21 : (0 : Int) < 21 := by decide
  have p2 : (0 : Int) < 2 := by decide
  refine Fx.r_cut v10_12 (fun e s => ∃ k : Int, 0 ≤ k ∧ k < 21 ∧ St is m d lb B Pn c lf tn lp bi pi s ∧ e = [.val nsD, .val (.obj 0), .val (.int mi), .val (.obj d), .val (.obj lb), .val (.obj lp), .val (.int k), s7, s8, s9, s10, s11, s12, s13, s14, s15, s16, s17]) ?_ ?_
  · obtain ⟨a, rs, e⟩ := h.box
    subst e
    exists 1, z5, draw p21
    exact ⟨_, (drp p21).1, (drp p21).2, h.draw, rfl⟩
  rintro e s ⟨k, h0, h1, h, e2⟩
  subst e2
  refine Fx.r_cut v10_13 (fun e s => ∃ t : List Nat, (∀ x ∈ t, x ≤ 32) ∧ t.length ≤ 9 ∧ St is m d lb B Pn c lf tn lp bi pi s ∧ e = [.val nsD, .val (.obj 0), .val (.int mi), .val (.obj d), .val (.obj lb), .val (.obj lp), .val (.int k), .val (lD t), s8, s9, s10, s11, s12, s13, s14, s15, s16, s17]) ?_ ?_
  · obtain ⟨a, rs, e⟩ := h.box
    subst e
    exists 1, z6
    refine lawTornE (m := 9) rfl (by decide) fun t a' ht hl => ?_
    exact ⟨t, ht, hl, h.draw, rfl⟩
  rintro e s ⟨t, ht, htl, h, e2⟩
  subst e2
  have lt := h.lt
  have nd := h.nd
  simp only [List.mem_cons, List.not_mem_nil, or_false, forall_eq_or_imp, forall_eq] at lt
  simp only [List.nodup_cons, List.mem_cons, List.not_mem_nil, or_false, not_or, not_false_eq_true, List.nodup_nil, and_true] at nd
  refine Fx.r_cut v10_14 (fun e u => u = s ++ [.lst (t.map nD)] ∧ e = [.val nsD, .val (.obj 0), .val (.int mi), .val (.obj d), .val (.obj lb), .val (.obj lp), .val (.int k), .val (lD t), s8, s9, s10, s11, .val (.obj s.length), s13, s14, s15, s16, s17]) ?_ ?_
  · unfold lD
    exists 1, w_listF
  rintro e u ⟨e1, e2⟩
  subst e2
  have hs1 : St is m d lb B Pn c lf tn lp bi pi u := h.same fun j hj => by rw [e1]; exact List.getElem?_append_left (h.lt j hj)
  have hg : u[s.length]? = some (.lst (t.map nD)) := by rw [e1]; exact get_app
  have hul : List.length u = s.length + 1 := by rw [e1, List.length_append]; rfl
  clear e1
  have hsc := lawScheduleE (n := n + 1) hs1.dsk hg ht h0 (by omega) (by omega)
  refine Fx.r_cut v10_15 (fun e w => w = u.set d (dO bi pi c (.int k) (lD t)) ∧ e = [.val nsD, .val (.obj 0), .val (.int mi), .val (.obj d), .val (.obj lb), .val (.obj lp), .val (.int k), .val (lD t), s8, s9, s10, s11, .val (.obj s.length), s13, s14, s15, s16, s17]) ?_ ?_
  · generalize u.set d (dO bi pi c (.int k) (lD t)) = w at hsc ⊢
    generalize lD t = tD
    exists 1, v10_16, r10_16, z7, wp_okI hsc, Fx.i_f
  rintro e w ⟨e1, e2⟩
  subst e2
  have hs2 : St is m d lb B Pn c (.int k) (lD t) lp bi pi w := hs1.dset (fun j hj => by
    rw [e1, List.getElem?_set_ne]
    simp only [List.mem_cons, List.not_mem_nil, or_false] at hj
    rcases hj with e | e | e | e | e <;> subst e <;> omega) (by rw [e1]; exact get_set (by omega))
  have hg2 : w[s.length]? = some (.lst (t.map nD)) := by rw [e1, List.getElem?_set_ne (by omega)]; exact hg
  clear e1 hsc
  have hln : (t.map nD).length < 16777216 := by rw [List.length_map]; omega
  refine Fx.r_cut v10_17 (fun e w' => (∃ o, w' = w.set s.length o) ∧ e = [.val nsD, .val (.obj 0), .val (.int mi), .val (.obj d), .val (.obj lb), .val (.obj lp), .val (.int k), .val (lD t), s8, s9, s10, s11, .val (.obj s.length), s13, s14, s15, s16, s17]) ?_ ?_
  · generalize lD t = tD
    exists 1, w_l hg2, wst_d
    exact ⟨hln, ⟨_, rfl⟩, trivial⟩
  rintro e w' ⟨⟨o, e1⟩, e2⟩
  subst e2
  have hs3 : St is m d lb B Pn c (.int k) (lD t) lp bi pi w' := hs2.same fun j hj => by
    rw [e1, List.getElem?_set_ne]
    simp only [List.mem_cons, List.not_mem_nil, or_false] at hj
    rcases hj with e | e | e | e | e | e <;> subst e <;> omega
  clear e1
  have l1 : (Fx.D.str "many").lay = true := by decide +kernel
  have l2 : (Fx.D.str "torn").lay = true := by decide +kernel
  refine Fx.r_cut v10_18 (fun e s => St is m d lb B Pn c (.int k) (lD t) lp bi pi s ∧ ∃ s12, e = [.val nsD, .val (.obj 0), .val (.int mi), .val (.obj d), .val (.obj lb), .val (.obj lp), .val (.int k), .val (lD t), s8, s9, s10, s11, s12, s13, s14, s15, s16, s17]) ?_ ?_
  · obtain ⟨a, rs, e⟩ := hs3.box
    subst e
    have hs4 := hs3.draw (a' := a + 1)
    generalize lD t = tD at hs4 ⊢
    exists 1, v10_19, r10_19, z5, draw p2
    refine pickN rfl (by decide) fun v hv => ?_
    simp only [List.mem_cons, List.not_mem_nil, or_false] at hv
    rcases hv with h | h <;> subst h
    · exists 1, v10_19, r10_19, z7, wp_okI (lawScheduleX1 (n := n + 1) hs4.dsk (k := 0 - 1) (.inl (by decide)) (bd := .lst [.int 33])), ref_ne l1, Fx.i_f
      exact ⟨hs4, _, rfl⟩
    · exists 1, v10_19, r10_19, z7, wp_okI (lawScheduleX1 (n := n + 1) hs4.dsk (k := 100001) (.inr (by decide)) (bd := .lst [.int 33])), ref_ne l1, Fx.i_f
      exact ⟨hs4, _, rfl⟩
  rintro e s ⟨h, s12, e2⟩
  subst e2
  have hR : LR (.int k) (lD t) k (lD t) := .inr ⟨t, rfl, h0, rfl, rfl, ht, htl⟩
  generalize lD t = tD at h hR ⊢
  exists 1, v10_21, r10_21, v10_20, r10_20, z7, wp_okI (lawScheduleX2 (n := n + 1) h.dsk), ref_ne l2, Fx.i_f
  exact hk _ _ _ _ _ _ hR h
theorem cutK {ci : Int} (h : St is m d lb B Pn c lf tn lp bi pi s)
    (hk : ∀ (lp pi : Nat) (s : Sto), St is m d lb B [] (c + 1) .non (lD []) lp bi pi s → NN (.nx [.val nsD, .val (.obj 0), .val (.int mi), .val (.obj d), .val (.obj lb), .val (.obj lp), .val (.int (0 - 1)), s7, .val (.int (c + 1)), s9, s10, s11, s12, s13, s14, s15, s16, s17]) s) :
    Run (gen T0 defs (n + 4)) c10_23 [.val nsD, .val (.obj 0), .val (.int mi), .val (.obj d), .val (.obj lb), .val (.obj lp), s6, s7, .val (.int c), s9, s10, s11, s12, s13, s14, s15, s16, s17] s NN EE := by
  have hc := cutPowerE (n := n + 2) h.dsk (t := []) h.ok.p h.ok.b (fun x hx => by cases hx) (by decide)
  rw [cut_nil] at hc
  have haf := h.after (c' := c + 1) (lf' := .non) (tn' := lD []) h.sz h.ok.b
  have lt := h.lt
  have nd := h.nd
  simp only [List.mem_cons, List.not_mem_nil, or_false, forall_eq_or_imp, forall_eq] at lt
  simp only [List.nodup_cons, List.mem_cons, List.not_mem_nil, or_false, not_or, not_false_eq_true, List.nodup_nil, and_true] at nd
  have gb : (aftS s d bi B (c + 1) .non (lD []))[lb]? = some (.lst (B.map lD)) := by rw [aft_get (by omega) (by omega) (by omega)]; exact h.hlb
  rw [set_same gb] at haf
  have hln := aft_len (s := s) (d := d) (bi := bi) (B := B) (c := c + 1) (lf := .non) (tn := lD [])
  generalize aftS s d bi B (c + 1) .non (lD []) = u at hc haf hln
  rw [show lD [] = Fx.D.lst [] from rfl] at hc
  refine Fx.r_cut v10_23 (fun e w => w = u ∧ e = [.val nsD, .val (.obj 0), .val (.int mi), .val (.obj d), .val (.obj lb), .val (.obj lp), s6, s7, .val (.int c), s9, s10, s11, s12, s13, s14, s15, s16, s17]) ?_ ?_
  · exists 0, ti3, tm3_size, tm3__check_at, tm3_read, tm3__cut, tm3__spend, tm3_write, tm3_flush, tm3_pending_count, tm3_cut_count, tm3_cut_power, tm3_schedule_cut, ta3__blocks, ta3__pending, ta3__cuts, ta3__left, ta3__torn, w_o h.dsk.o, z21, wp_okI hc
  rintro e w ⟨e1, e2⟩
  subst e1 e2
  rw [← hln] at haf
  exists 1, v10_26, r10_26, v10_25, r10_25, v10_24, r10_24
  exact hk _ _ _ haf
theorem wrongK (h : St is m d lb B Pn c lf tn lp bi pi s) (hmi : mi = (m : Int)) (hm : 0 < m)
    (hk : NN (.nx [.val nsD, .val (.obj 0), .val (.int mi), .val (.obj d), .val (.obj lb), .val (.obj lp), s6, s7, s8, s9, s10, s11, s12, s13, s14, s15, s16, s17]) s) :
    Run (gen T0 defs (n + 4)) c10_28 [.val nsD, .val (.obj 0), .val (.int mi), .val (.obj d), .val (.obj lb), .val (.obj lp), s6, s7, s8, s9, s10, s11, s12, s13, s14, s15, s16, s17] s NN EE := by
  have l1 : (Fx.D.str "at").lay = true := by decide +kernel
  have l2 : (Fx.D.str "block").lay = true := by decide +kernel
  have h1 := doX1 (n := n) h.dsk (bd := .lst ((List.replicate 32 (0 : Int)).map .int)) (ii := mi) (by rw [h.sz]; omega)
  have h2 := doX2 (n := n) h.dsk (is := List.replicate 31 0) (by decide +kernel) (ii := 0) (by decide) (by rw [h.sz]; omega)
  have f1 := flI 32
  have f2 := flI 31
  generalize (List.replicate 32 (0 : Int)).map Fx.D.int = b1 at h1 f1
  generalize (List.replicate 31 (0 : Int)).map Fx.D.int = b2 at h2 f2
  exists 1, v10_29, r10_29, v10_28, r10_28, z9, wp_okI h1, wp_okI h2, ref_ne l1, ref_ne l2, Fx.i_f, _, show Int.toNat 32 = 32 from rfl, show Int.toNat 31 = 31 from rfl, f1, f2
  exact ⟨⟨by decide, by decide, by decide⟩, ⟨by decide, by decide, by decide⟩, hk⟩
end
end K42

set_option linter.all false
set_option maxRecDepth 100000
set_option maxHeartbeats 4000000
namespace K42
open PySem PySem.Spec PyProof.Rows L2 Fx
section
variable {n : Nat} {is : List Int} {m d lb lp bi pi : Nat} {B : Blocks} {Pn : Pend} {c : Int} {lf tn : Fx.D} {s : Sto} {mi left : Int} {nsD tv : Fx.D} {s2 s3 s4 s5 s6 s7 s8 s9 s10 s11 s12 s13 s14 s15 s16 s17 : Sl} {NN : Fl → Sto → Prop} {EE : Ex → En → Sto → Prop}
/-- the power was cut: the law tears its own blocks -/
theorem cutD {t : List Nat} (h : St is m d lb B Pn c lf tn lp bi pi s) (ht : ∀ x ∈ t, x ≤ 32) (htl : t.length ≤ 9) (hz : Pn.length < 500)
    (hk : ∀ (B : Blocks) (lp pi : Nat) (s : Sto) (s11 s16 : Sl), St is m d lb B [] (c + 1) .non (lD []) lp bi pi s → NN (.nx [.val nsD, .val (.obj 0), .val (.int mi), .val (.obj d), .val (.obj lb), .val (.obj lp), .val (.int (0 - 1)), .val (lD t), .val (.int (c + 1)), s9, s10, s11, s12, s13, s14, .val (.tup [.str "refused", .str "cut"]), s16, s17]) s) :
    Run (gen T0 defs (n + 4)) c10_37 [.val nsD, .val (.obj 0), .val (.int mi), .val (.obj d), .val (.obj lb), .val (.obj lp), .val (.int 0), .val (lD t), .val (.int c), s9, s10, s11, s12, s13, s14, .val (.tup [.str "refused", .str "cut"]), s16, s17] (aftS s d bi (cutB t Pn B Pn.length) (c + 1) .non (lD [])) NN EE := by
  have hp : ∀ q ∈ Pn, q.1 < B.length ∧ q.2.length = 32 := h.ok.p
  have hcl : (cutB t Pn B Pn.length).length = B.length := fold_len _ _
  have haf := h.after (c' := c + 1) (lf' := .non) (tn' := lD []) (B' := cutB t Pn B Pn.length) (by rw [hcl]; exact h.sz) (cut_ok h.ok.b hp ht _ (Nat.le_refl _))
  have nd := h.nd
  simp only [List.nodup_cons, List.mem_cons, List.not_mem_nil, or_false, not_or, not_false_eq_true, List.nodup_nil, and_true] at nd
  have lt := h.lt
  simp only [List.mem_cons, List.not_mem_nil, or_false, forall_eq_or_imp, forall_eq] at lt
  have gb : (aftS s d bi (cutB t Pn B Pn.length) (c + 1) .non (lD []))[lb]? = some (.lst (B.map lD)) := by rw [aft_get (by omega) (by omega) (by omega)]; exact h.hlb
  have gp : (aftS s d bi (cutB t Pn B Pn.length) (c + 1) .non (lD []))[lp]? = some (.lst (Pn.map eD)) := by rw [aft_get (by omega) (by omega) (by omega)]; exact h.hlp
  have hln := aft_len (s := s) (d := d) (bi := bi) (B := cutB t Pn B Pn.length) (c := c + 1) (lf := .non) (tn := lD [])
  have hokb := h.ok.b
  generalize aftS s d bi (cutB t Pn B Pn.length) (c + 1) .non (lD []) = w at haf gb gp hln ⊢
  have l1 : (Fx.D.str "cut").lay = true := by decide +kernel
  refine Fx.r_cut v10_37 (fun e u => u = w ∧ e = [.val nsD, .val (.obj 0), .val (.int mi), .val (.obj d), .val (.obj lb), .val (.obj lp), .val (.int 0), .val (lD t), .val (.int c), s9, s10, s11, s12, s13, s14, .val (.tup [.str "refused", .str "cut"]), s16, s17]) ?_ ?_
  · generalize lD t = tD
    exists 1, v10_38, r10_38, ref_ne l1, Fx.i_f
  rintro e w ⟨e1, e2⟩
  subst e1 e2
  rw [cutB_min] at haf
  have hne : ∀ {q : Bool → Prop}, wo (opCmp .NotEq (.tup [.str "refused", .str "cut"]) (.tup [.str "refused", .str "cut"])) q = q false := fun {q} => ref_ne l1
  generalize hcd : Fx.D.tup [.str "refused", .str "cut"] = cD
  refine Fx.r_cut v10_39 (fun e u => u = w.set lb (.lst ((cutB t Pn B (min t.length Pn.length)).map lD)) ∧ ∃ s11 s16, e = [.val nsD, .val (.obj 0), .val (.int mi), .val (.obj d), .val (.obj lb), .val (.obj lp), .val (.int 0), .val (lD t), .val (.int c), s9, s10, s11, s12, s13, s14, .val cD, s16, s17]) ?_ ?_
  · rw [v_for]
    have htlen : ∀ {K : Fx.D → Prop} {s : Sto}, wb1 .len (lD t) s K = K (.int t.length) := fun {K s} => by
      show K (.int ((t.map nD).length : Nat)) = _
      rw [List.length_map]
    refine it_as ((List.range (min t.length Pn.length)).map fun k : Nat => Fx.D.int (k : Int)) (fun Q hQ => ?_) ?_
    · exists 2, htlen, w_l gp
      rw [List.length_map]
      have hmin : ((if (Pn.length : Int) < (t.length : Int) then (Pn.length : Int) else (t.length : Int))).toNat = min t.length Pn.length := by split <;> omega
      rw [hmin, rangeI0]
      exact ⟨by split <;> omega, hQ⟩
    refine r_list (fun k : Nat => Fx.D.int (k : Int)) (List.range (min t.length Pn.length)) (fun pre env s' => s' = w.set lb (.lst ((cutB t Pn B pre.length).map lD)) ∧ ∃ s11 s16, env = [.val nsD, .val (.obj 0), .val (.int mi), .val (.obj d), .val (.obj lb), .val (.obj lp), .val (.int 0), .val (lD t), .val (.int c), s9, s10, s11, s12, s13, s14, .val cD, s16, s17]) ?_ ?_ ⟨(set_same gb).symm, _, _, rfl⟩
    · rintro pre k post env s' e0 ⟨e1, s11, s16, e2⟩
      subst e2
      obtain ⟨hpre, hk⟩ := range_split e0
      have hpl : pre.length = k := by rw [hpre, List.length_range]
      rw [List.length_append, List.length_singleton, hpl, cutB_succ]
      rw [hpl] at e1
      have hkt : k < t.length := by omega
      have hkp : k < Pn.length := by omega
      have hx := hp (Pn.getD k (0, [])) (by rw [List.getD_eq_getElem?_getD, List.getElem?_eq_getElem hkp]; exact List.getElem_mem hkp)
      have hlen : (cutB t Pn B k).length = B.length := fold_len _ _
      have hok := cut_ok hokb hp ht k (by omega)
      have htd : tearB t Pn (cutB t Pn B k) k = (cutB t Pn B k).set (Pn.getD k (0, [])).1 ((Pn.getD k (0, [])).2.take (t.getD k 0) ++ ((cutB t Pn B k).getD (Pn.getD k (0, [])).1 []).drop (t.getD k 0)) := rfl
      rw [htd]
      clear htd
      have hpk : (Pn.map eD)[k]? = some (eD (Pn.getD k (0, []))) := by rw [List.getElem?_map, List.getElem?_eq_getElem hkp, List.getD_eq_getElem?_getD, List.getElem?_eq_getElem hkp]; rfl
      generalize cutB t Pn B k = B' at e1 hlen hok
      generalize Pn.getD k (0, []) = x at hx hpk
      have g2 : s'[lb]? = some (.lst (B'.map lD)) := by rw [e1]; exact get_set (lt_of gb)
      have g2p : s'[lp]? = some (.lst (Pn.map eD)) := by rw [e1, List.getElem?_set_ne (by omega)]; exact gp
      obtain ⟨xi, hxi⟩ : ∃ xi : Int, xi = (x.1 : Int) := ⟨_, rfl⟩
      obtain ⟨ki, hki⟩ : ∃ ki : Int, ki = (k : Int) := ⟨_, rfl⟩
      obtain ⟨v, hv⟩ : ∃ v : Int, v = ((t.getD k 0 : Nat) : Int) := ⟨_, rfl⟩
      have hbx := blk_at (B := B') (j := x.1) (by omega)
      have hbl := getD_len hok (i := x.1) (by omega)
      have hat : ∀ {K : Fx.D → Prop}, wo (atI (B'.map lD) xi) K = K (lD (B'.getD x.1 [])) := fun {K} => by rw [hxi]; exact at_N hbx
      have hatp : ∀ {K : Fx.D → Prop}, wo (atI (Pn.map eD) ki) K = K (.lst [.int xi, lD x.2]) := fun {K} => by rw [hki, at_N hpk, hxi]; rfl
      have htn : ∀ {K : Fx.D → Prop} {s : Sto}, wix (lD t) (.int ki) s K = K (.int v) := fun {K s} => by
        show wo (atI (t.map nD) ki) K = _
        rw [hki, at_N (d := nD (t.getD k 0)) (by rw [List.getElem?_map, List.getElem?_eq_getElem hkt, List.getD_eq_getElem?_getD, List.getElem?_eq_getElem hkt]; rfl), hv]; rfl
      have c1 := cut_to x.2 (t.getD k 0)
      have c2 := cut_from (B'.getD x.1 []) (t.getD k 0)
      have hcat : Fx.D.lst ((x.2.take (t.getD k 0)).map nD ++ ((B'.getD x.1 []).drop (t.getD k 0)).map nD) = lD (x.2.take (t.getD k 0) ++ (B'.getD x.1 []).drop (t.getD k 0)) := by unfold lD; rw [List.map_append]
      have hln2 : ((x.2.take (t.getD k 0)).map nD).length + (((B'.getD x.1 []).drop (t.getD k 0)).map nD).length ≤ 16777216 := by
        rw [List.length_map, List.length_map, List.length_take, List.length_drop]; omega
      rw [← hv] at c1 c2
      have hq : ∀ {k2 : List Fx.D → Prop} {r : List Nat}, wseq (B'.map lD) xi (lD r) k2 = k2 ((B'.set x.1 r).map lD) := fun {k2 r} => by
        rw [q_pos (by omega) (by rw [List.length_map]; omega), hxi, Int.toNat_natCast, set_map]
      have g4 : ∀ r : List Nat, s'.set lb (.lst ((B'.set x.1 r).map lD)) = w.set lb (.lst ((B'.set x.1 r).map lD)) := fun r => by rw [e1, List.set_set]
      generalize hr : x.2.take (t.getD k 0) ++ (B'.getD x.1 []).drop (t.getD k 0) = r at hcat
      generalize (x.2.take (t.getD k 0)).map nD = A1 at c1 hcat hln2
      generalize ((B'.getD x.1 []).drop (t.getD k 0)).map nD = A2 at c2 hcat hln2
      rw [← hki]
      clear hx hbl hpk hbx
      generalize lD t = tD at htn
      exists 1, Fx.t_name, Fx.e_S, Fx.e_0, v10_41, r10_41, v10_40, r10_40, w_l g2, w_l g2p, hatp, hat, htn, wlsO_lD, hq, wst_d, _, c1, c2, hcat
      exact ⟨hln2, g4 _, _, _, rfl⟩
    · rintro env s' ⟨e1, hh⟩
      rw [List.length_range] at e1
      exact ⟨e1, hh⟩
  rintro e u ⟨e1, s11, s16, e2⟩
  subst e2
  rw [← e1] at haf
  have hul : List.length u = s.length + 1 := by rw [e1, List.length_set]; exact hln
  clear hne
  subst hcd
  generalize lD t = tD at hk ⊢
  exists 1, v10_44, r10_44, v10_43, r10_43, v10_42, r10_42
  rw [hul]
  exact hk _ _ _ _ _ _ haf
theorem flushD (h : St is m d lb B Pn c lf tn lp bi pi s) {lf' : Fx.D}
    (hk : ∀ (B : Blocks) (lp pi : Nat) (s : Sto) (s17 : Sl), St is m d lb B [] c lf' tn lp bi pi s → NN (.nx [.val nsD, .val (.obj 0), .val (.int mi), .val (.obj d), .val (.obj lb), .val (.obj lp), .val (.int left), .val tv, .val (.int c), s9, s10, s11, s12, s13, s14, s15, s16, s17]) s) :
    Run (gen T0 defs (n + 4)) c10_50 [.val nsD, .val (.obj 0), .val (.int mi), .val (.obj d), .val (.obj lb), .val (.obj lp), .val (.int left), .val tv, .val (.int c), s9, s10, s11, s12, s13, s14, s15, s16, s17] (aftS s d bi (flushB B Pn) c lf' tn) NN EE := by
  have hp : ∀ q ∈ Pn, q.1 < B.length := fun q hq => (h.ok.p q hq).1
  have haf := h.after (c' := c) (lf' := lf') (tn' := tn) (by rw [flush_len]; exact h.sz) (flush_ok Pn B h.ok.b fun q hq => (h.ok.p q hq).2)
  have nd := h.nd
  simp only [List.nodup_cons, List.mem_cons, List.not_mem_nil, or_false, not_or, not_false_eq_true, List.nodup_nil, and_true] at nd
  have lt := h.lt
  simp only [List.mem_cons, List.not_mem_nil, or_false, forall_eq_or_imp, forall_eq] at lt
  have gb : (aftS s d bi (flushB B Pn) c lf' tn)[lb]? = some (.lst (B.map lD)) := by rw [aft_get (by omega) (by omega) (by omega)]; exact h.hlb
  have gp : (aftS s d bi (flushB B Pn) c lf' tn)[lp]? = some (.lst (Pn.map eD)) := by rw [aft_get (by omega) (by omega) (by omega)]; exact h.hlp
  have hln := aft_len (s := s) (d := d) (bi := bi) (B := flushB B Pn) (c := c) (lf := lf') (tn := tn)
  generalize aftS s d bi (flushB B Pn) c lf' tn = w at haf gb gp hln ⊢
  refine Fx.r_cut v10_50 (fun e u => u = w.set lb (.lst ((flushB B Pn).map lD)) ∧ ∃ s17, e = [.val nsD, .val (.obj 0), .val (.int mi), .val (.obj d), .val (.obj lb), .val (.obj lp), .val (.int left), .val tv, .val (.int c), s9, s10, s11, s12, s13, s14, s15, s16, s17]) ?_ ?_
  · rw [v_forO]
    exists 0, wlo_obj, w_l gp, wen_f
    refine r_listO eD Pn (fun pre env s' => s' = w.set lb (.lst ((flushB B pre).map lD)) ∧ ∃ s17, env = [.val nsD, .val (.obj 0), .val (.int mi), .val (.obj d), .val (.obj lb), .val (.obj lp), .val (.int left), .val tv, .val (.int c), s9, s10, s11, s12, s13, s14, s15, s16, s17]) ?_ ?_ ⟨(set_same gb).symm, _, rfl⟩
    · rintro pre x post env s' e0 ⟨e1, s17, e2⟩
      subst e2
      have hx := hp x (by rw [e0]; simp)
      have hlen := flush_len pre B
      have hf : flushB B (pre ++ [x]) = (flushB B pre).set x.1 x.2 := by unfold flushB; rw [List.foldl_append]; rfl
      rw [hf]
      generalize flushB B pre = B' at e1 hlen
      have g2 : s'[lb]? = some (.lst (B'.map lD)) := by rw [e1]; exact get_set (lt_of gb)
      have g3 : (w.set lb (.lst ((B'.set x.1 x.2).map lD)))[lp]? = some (.lst (Pn.map eD)) := by rw [List.getElem?_set_ne (by omega)]; exact gp
      have g4 : s'.set lb (.lst ((B'.set x.1 x.2).map lD)) = w.set lb (.lst ((B'.set x.1 x.2).map lD)) := by rw [e1, List.set_set]
      obtain ⟨xi, hxi⟩ : ∃ xi : Int, xi = (x.1 : Int) := ⟨_, rfl⟩
      have hq : ∀ {k : List Fx.D → Prop}, wseq (B'.map lD) xi (lD x.2) k = k ((B'.set x.1 x.2).map lD) := fun {k} => by
        rw [q_pos (by omega) (by rw [List.length_map]; omega), hxi, Int.toNat_natCast, set_map]
      unfold eD nD
      rw [← hxi]
      exists 1, v10_51, r10_51, w_l g2, hq, wst_d
      rw [g4]
      exact ⟨g3, rfl, _, rfl⟩
    · rintro env s' hh
      exact hh
  rintro e u ⟨e1, s17, e2⟩
  subst e2
  rw [← e1] at haf
  have hul : List.length u = s.length + 1 := by rw [e1, List.length_set]; exact hln
  exists 0, v10_52, r10_52
  rw [hul]
  exact hk _ _ _ _ _ haf
/-- a write -/
theorem writeD (h : St is m d lb B Pn c lf tn lp bi pi s) {lf' : Fx.D} {r : List Nat} {x : Nat} {xi : Int} (hxi : xi = (x : Int)) (hx : x < m) (hr : r.length = 32) (hz : Pn.length < 500)
    (hk : ∀ (s : Sto), St is m d lb B (Pn ++ [(x, r)]) c lf' tn lp bi pi s → NN (.nx [.val nsD, .val (.obj 0), .val (.int mi), .val (.obj d), .val (.obj lb), .val (.obj lp), .val (.int left), .val tv, .val (.int c), s9, s10, s11, s12, .val (.int xi), .val (lD r), s15, s16, s17]) s) :
    Run (gen T0 defs (n + 4)) c10_53 [.val nsD, .val (.obj 0), .val (.int mi), .val (.obj d), .val (.obj lb), .val (.obj lp), .val (.int left), .val tv, .val (.int c), s9, s10, s11, s12, .val (.int xi), .val (lD r), s15, s16, s17] ((s.set d (dO bi pi c lf' tn)).set pi (.lst ((Pn ++ [(x, r)]).map pD))) NN EE := by
  have nd := h.nd
  simp only [List.nodup_cons, List.mem_cons, List.not_mem_nil, or_false, not_or, not_false_eq_true, List.nodup_nil, and_true] at nd
  have lt := h.lt
  simp only [List.mem_cons, List.not_mem_nil, or_false, forall_eq_or_imp, forall_eq] at lt
  have hs1 : St is m d lb B Pn c lf' tn lp bi pi (s.set d (dO bi pi c lf' tn)) := h.dset (fun j hj => by
    rw [List.getElem?_set_ne]
    simp only [List.mem_cons, List.not_mem_nil, or_false] at hj
    rcases hj with e | e | e | e | e <;> subst e <;> omega) (get_set (by omega))
  have hul : List.length (s.set d (dO bi pi c lf' tn)) = s.length := List.length_set
  generalize s.set d (dO bi pi c lf' tn) = u at hs1 hul ⊢
  have hst : St is m d lb B (Pn ++ [(x, r)]) c lf' tn lp bi pi ((u.set pi (.lst ((Pn ++ [(x, r)]).map pD))).set lp (.lst ((Pn ++ [(x, r)]).map eD))) := by
    refine hs1.upd (fun j hj => ?_) ?_ (get_set (by rw [List.length_set]; omega)) ⟨hs1.ok.b, fun q hq => ?_, hs1.ok.m⟩
    · simp only [List.mem_cons, List.not_mem_nil, or_false] at hj
      rw [List.getElem?_set_ne (by rcases hj with e | e | e | e <;> subst e <;> omega), List.getElem?_set_ne (by rcases hj with e | e | e | e <;> subst e <;> omega)]
    · rw [List.getElem?_set_ne (by omega)]; exact get_set (by omega)
    · rcases List.mem_append.mp hq with z | z
      · exact hs1.ok.p q z
      · rw [List.mem_singleton.mp z]; exact ⟨by rw [hs1.sz]; exact hx, hr⟩
  have hlp' : (u.set pi (.lst ((Pn ++ [(x, r)]).map pD)))[lp]? = some (.lst (Pn.map eD)) := by rw [List.getElem?_set_ne (by omega)]; exact hs1.hlp
  have hfin : (.lst (Pn.map eD ++ [.lst [.int xi, lD r]]) : O) = .lst ((Pn ++ [(x, r)]).map eD) := by rw [List.map_append, hxi]; rfl
  have hln : (Pn.map eD).length < 16777216 := by rw [List.length_map]; omega
  generalize u.set pi (.lst ((Pn ++ [(x, r)]).map pD)) = w at hst hlp' ⊢
  generalize lD r = rD at hfin hk ⊢
  exists 1, v10_53, r10_53, w_l hlp', wst_d, _, hfin
  exact ⟨hln, hk _ hst⟩
end
end K42

set_option linter.all false
set_option maxRecDepth 100000
set_option maxHeartbeats 4000000
namespace K42
open PySem PySem.Spec PyProof.Rows L2 Fx
section
variable {n : Nat} {is : List Int} {m d lb lp bi pi : Nat} {B : Blocks} {Pn : Pend} {c : Int} {lf tn : Fx.D} {s : Sto} {mi left k : Int} {nsD tv : Fx.D} {s2 s3 s4 s5 s6 s7 s8 s9 s10 s11 s12 s13 s14 s15 s16 s17 : Sl} {NN : Fl → Sto → Prop} {EE : Ex → En → Sto → Prop}

theorem decK {left' ai : Int} {rD : Fx.D} {w : Sto} (hl0 : ¬ left = 0) (hl : (0 < left ∧ left' = left - 1) ∨ (¬ 0 < left ∧ left' = left))
    (h50 : ∀ {NN' : Fl → Sto → Prop} {EE' : Ex → En → Sto → Prop}, (∀ e s, NN (.nx e) s → NN' (.nx e) s) → ai = 0 - 1 → Run (gen T0 defs (n + 5)) c10_50 [.val nsD, .val (.obj 0), .val (.int mi), .val (.obj d), .val (.obj lb), .val (.obj lp), .val (.int left'), .val tv, .val (.int c), s9, .val (.int k), s11, s12, .val (.int ai), .val rD, .val .non, s16, s17] w NN' EE')
    (h53 : ∀ {NN' : Fl → Sto → Prop} {EE' : Ex → En → Sto → Prop}, (∀ e s, NN (.nx e) s → NN' (.nx e) s) → ¬ ai = 0 - 1 → Run (gen T0 defs (n + 5)) c10_53 [.val nsD, .val (.obj 0), .val (.int mi), .val (.obj d), .val (.obj lb), .val (.obj lp), .val (.int left'), .val tv, .val (.int c), s9, .val (.int k), s11, s12, .val (.int ai), .val rD, .val .non, s16, s17] w NN' EE') :
    Run (gen T0 defs (n + 5)) c10_36 [.val nsD, .val (.obj 0), .val (.int mi), .val (.obj d), .val (.obj lb), .val (.obj lp), .val (.int left), .val tv, .val (.int c), s9, .val (.int k), s11, s12, .val (.int ai), .val rD, .val .non, s16, s17] w NN EE := by
  rw [v10_36]
  exists 1, r10_45, Fx.i_neg hl0
  refine Fx.r_cut v10_45 (fun e u => u = w ∧ e = [.val nsD, .val (.obj 0), .val (.int mi), .val (.obj d), .val (.obj lb), .val (.obj lp), .val (.int left), .val tv, .val (.int c), s9, .val (.int k), s11, s12, .val (.int ai), .val rD, .val .non, s16, s17]) ?_ ?_
  · exists 1, v10_46, r10_46, Fx.i_f
  rintro e u ⟨e1, e2⟩
  subst e1 e2
  refine Fx.r_cut v10_47 (fun e w => w = u ∧ e = [.val nsD, .val (.obj 0), .val (.int mi), .val (.obj d), .val (.obj lb), .val (.obj lp), .val (.int left'), .val tv, .val (.int c), s9, .val (.int k), s11, s12, .val (.int ai), .val rD, .val .non, s16, s17]) ?_ ?_
  · rcases hl with ⟨q, e⟩ | ⟨q, e⟩ <;> subst e
    · exists 1, v10_48, r10_48, Fx.i_pos q
    · exists 1, v10_48, r10_48, Fx.i_neg q
  rintro e w ⟨e1, e2⟩
  subst e1 e2
  rw [v10_49]
  by_cases ha : ai = 0 - 1
  · exists 1, r10_50, Fx.i_pos ha
    exact h50 (fun e s h => h) ha
  · exists 1, r10_53, Fx.i_neg ha
    exact h53 (fun e s h => h) ha
/-- the deed is done by the disk; then by the law -/
theorem doneD {r : List Nat} {ai left' : Int} {lf' : Fx.D} (h : St is m d lb B Pn c lf tn lp bi pi s) (hd : Dec lf lf') (hl0 : ¬ left = 0) (hl : (0 < left ∧ left' = left - 1) ∨ (¬ 0 < left ∧ left' = left)) (hR : LR lf' tn left' tv) (hz : Pn.length < 500) (hai : ai = 0 - 1 ∨ ∃ x : Nat, ai = (x : Int) ∧ x < m) (hr : r.length = 32) (hrb : ∀ x ∈ r, x ≤ 255)
    (hk : ∀ (B : Blocks) (Pn' : Pend) (c : Int) (lf tn : Fx.D) (left : Int) (lp pi : Nat) (s : Sto) (s11 s12 s13 s14 s15 s16 s17 : Sl) (tv : Fx.D), Pn'.length ≤ Pn.length + 1 → LR lf tn left tv → St is m d lb B Pn' c lf tn lp bi pi s → NN (.nx [.val nsD, .val (.obj 0), .val (.int mi), .val (.obj d), .val (.obj lb), .val (.obj lp), .val (.int left), .val tv, .val (.int c), s9, .val (.int k), s11, s12, s13, s14, s15, s16, s17]) s) :
    Run (gen T0 defs (n + 5)) c10_34 [.val nsD, .val (.obj 0), .val (.int mi), .val (.obj d), .val (.obj lb), .val (.obj lp), .val (.int left), .val tv, .val (.int c), s9, .val (.int k), s11, s12, .val (.int ai), .own (r.map nD), s15, s16, s17] s NN EE := by
  have hmmm : Fx.D.lst (r.map nD) = lD r := rfl
  have hw : ∃ w : Sto, (gen T0 defs (n + 5)).call 9 [.obj d, .int ai, lD r] s = .ok .non w ∧ ((ai = 0 - 1 ∧ w = aftS s d bi (flushB B Pn) c lf' tn) ∨ ∃ x : Nat, ai = (x : Int) ∧ x < m ∧ w = ((s.set d (dO bi pi c lf' tn)).set pi (.lst ((Pn ++ [(x, r)]).map pD)))) := by
    rcases hai with e | ⟨x, e, hx⟩
    · refine ⟨_, ?_, .inl ⟨e, rfl⟩⟩
      rw [e]
      exact doFlush (n := n + 1) h.dsk hd (fun q hq => (h.ok.p q hq).1)
    · exact ⟨_, doWrite (n := n + 1) h.dsk hd hr hrb e (by rw [h.sz]; exact hx) (by omega), .inr ⟨x, e, hx, rfl⟩⟩
  obtain ⟨w, hdo, hw⟩ := hw
  refine Fx.r_cut v10_34 (fun e u => u = w ∧ e = [.val nsD, .val (.obj 0), .val (.int mi), .val (.obj d), .val (.obj lb), .val (.obj lp), .val (.int left), .val tv, .val (.int c), s9, .val (.int k), s11, s12, .val (.int ai), .own (r.map nD), .val .non, s16, s17]) ?_ ?_
  · generalize lD r = rD at hmmm hdo
    exists 1, w_listF, z9, wp_okI hdo, _, hmmm
  rintro e u ⟨e1, e2⟩
  subst e1 e2
  rw [v10_35]
  exists 1, Fx.o_own0, Fx.o_ownS, Fx.e_0, Fx.e_S, _, hmmm
  refine decK hl0 hl (fun {NN' EE'} hN ha => ?_) fun {NN' EE'} hN ha => ?_
  · rcases hw with ⟨_, e⟩ | ⟨x, e, _⟩
    · subst e
      exact flushD (n := n + 1) h fun B lp pi s s17 h => hN _ _ (hk _ _ _ _ _ _ _ _ _ _ _ _ _ _ _ _ _ (Nat.zero_le _) hR h)
    · omega
  · rcases hw with ⟨e, _⟩ | ⟨x, e, hx, e2⟩
    · exact absurd e ha
    · subst e2
      exact writeD (n := n + 1) h e hx hr hz fun s h => hN _ _ (hk _ _ _ _ _ _ _ _ _ _ _ _ _ _ _ _ _ (by rw [List.length_append]; exact Nat.le_refl _) hR h)
theorem doneK {r : List Nat} {ai : Int} (h : St is m d lb B Pn c lf tn lp bi pi s) (hR : LR lf tn left tv) (hz : Pn.length < 500) (hai : ai = 0 - 1 ∨ ∃ x : Nat, ai = (x : Int) ∧ x < m) (hr : r.length = 32) (hrb : ∀ x ∈ r, x ≤ 255)
    (hk : ∀ (B : Blocks) (Pn' : Pend) (c : Int) (lf tn : Fx.D) (left : Int) (lp pi : Nat) (s : Sto) (s11 s12 s13 s14 s15 s16 s17 : Sl) (tv : Fx.D), Pn'.length ≤ Pn.length + 1 → LR lf tn left tv → St is m d lb B Pn' c lf tn lp bi pi s → NN (.nx [.val nsD, .val (.obj 0), .val (.int mi), .val (.obj d), .val (.obj lb), .val (.obj lp), .val (.int left), .val tv, .val (.int c), s9, .val (.int k), s11, s12, s13, s14, s15, s16, s17]) s) :
    Run (gen T0 defs (n + 5)) c10_34 [.val nsD, .val (.obj 0), .val (.int mi), .val (.obj d), .val (.obj lb), .val (.obj lp), .val (.int left), .val tv, .val (.int c), s9, .val (.int k), s11, s12, .val (.int ai), .own (r.map nD), s15, s16, s17] s NN EE := by
  rcases hR with ⟨e1, e2⟩ | ⟨t, e1, e2, e3, e4, ht, htl⟩
  · exact doneD h (.inl ⟨e1, rfl⟩) (by omega) (.inr ⟨by omega, rfl⟩) (.inl ⟨rfl, e2⟩) hz hai hr hrb hk
  by_cases hl : left = 0
  · subst e1 e3 e4 hl
    have hmmm : Fx.D.lst (r.map nD) = lD r := rfl
    have hdo : (gen T0 defs (n + 5)).call 9 [.obj d, .int ai, lD r] s = .ok (.tup [.str "refused", .str "cut"]) (aftS s d bi (cutB t Pn B Pn.length) (c + 1) .non (lD [])) := by
      rcases hai with e | ⟨x, e, hx⟩
      · rw [e]; exact doFlushC (n := n) h.dsk h.ok.p h.ok.b ht (by omega)
      · exact doWriteC (n := n) h.dsk h.ok.p h.ok.b ht (by omega) hr hrb e (by rw [h.sz]; exact hx)
    have hC := fun (NN' : Fl → Sto → Prop) (EE' : Ex → En → Sto → Prop) s13 s14 hk' => cutD (n := n + 1) (mi := mi) (nsD := nsD) (NN := NN') (EE := EE') (s9 := s9) (s10 := .val (.int k)) (s11 := s11) (s12 := s12) (s13 := s13) (s14 := s14) (s16 := s16) (s17 := s17) h ht htl hz hk'
    generalize aftS s d bi (cutB t Pn B Pn.length) (c + 1) .non (lD []) = w at hdo hC
    generalize hcd : Fx.D.tup [.str "refused", .str "cut"] = cD at hdo hC
    refine Fx.r_cut v10_34 (fun e u => u = w ∧ e = [.val nsD, .val (.obj 0), .val (.int mi), .val (.obj d), .val (.obj lb), .val (.obj lp), .val (.int 0), .val (lD t), .val (.int c), s9, .val (.int k), s11, s12, .val (.int ai), .own (r.map nD), .val cD, s16, s17]) ?_ ?_
    · generalize lD r = rD at hmmm hdo
      generalize lD t = tD
      exists 1, w_listF, z9, wp_okI hdo, _, hmmm
    rintro e u ⟨e1, e2⟩
    subst e1 e2
    rw [v10_35]
    exists 1, Fx.o_own0, Fx.o_ownS, Fx.e_0, Fx.e_S, _, hmmm
    rw [v10_36]
    exists 1, r10_37, Fx.i_pos (rfl : (0 : Int) = 0)
    exact hC _ _ _ _ fun B lp pi s s11 s16 h => hk _ _ _ _ _ _ _ _ _ _ _ _ _ _ _ _ _ (Nat.zero_le _) (.inl ⟨rfl, rfl⟩) h
  · exact doneD (left' := left - 1) h (.inr ⟨left, by omega, e1, rfl⟩) hl (.inl ⟨by omega, rfl⟩) (.inr ⟨t, rfl, by omega, e3, e4, ht, htl⟩) hz hai hr hrb hk
/-- at, block -/
theorem deedK (h : St is m d lb B Pn c lf tn lp bi pi s) (hmi : mi = (m : Int)) (hm : 0 < m) (hR : LR lf tn left tv) (hz : Pn.length < 500)
    (hk : ∀ (B : Blocks) (Pn' : Pend) (c : Int) (lf tn : Fx.D) (left : Int) (lp pi : Nat) (s : Sto) (s11 s12 s13 s14 s15 s16 s17 : Sl) (tv : Fx.D), Pn'.length ≤ Pn.length + 1 → LR lf tn left tv → St is m d lb B Pn' c lf tn lp bi pi s → NN (.nx [.val nsD, .val (.obj 0), .val (.int mi), .val (.obj d), .val (.obj lb), .val (.obj lp), .val (.int left), .val tv, .val (.int c), s9, .val (.int k), s11, s12, s13, s14, s15, s16, s17]) s) :
    Run (gen T0 defs (n + 5)) c10_30 [.val nsD, .val (.obj 0), .val (.int mi), .val (.obj d), .val (.obj lb), .val (.obj lp), .val (.int left), .val tv, .val (.int c), s9, .val (.int k), s11, s12, s13, s14, s15, s16, s17] s NN EE := by
  have p255 : (0 : Int) < 255 := by decide
  have pm : 0 < mi := by omega
  refine Fx.r_cut v10_30 (fun e u => u = s ∧ e = [.val nsD, .val (.obj 0), .val (.int mi), .val (.obj d), .val (.obj lb), .val (.obj lp), .val (.int left), .val tv, .val (.int c), s9, .val (.int k), s11, s12, .val (.int (0 - 1)), s14, s15, s16, s17]) ?_ ?_
  · exists 1
  rintro e u ⟨e1, e2⟩
  subst e1 e2
  refine Fx.r_cut v10_31 (fun e s => ∃ ai : Int, (ai = 0 - 1 ∨ ∃ x : Nat, ai = (x : Int) ∧ x < m) ∧ St is m d lb B Pn c lf tn lp bi pi s ∧ e = [.val nsD, .val (.obj 0), .val (.int mi), .val (.obj d), .val (.obj lb), .val (.obj lp), .val (.int left), .val tv, .val (.int c), s9, .val (.int k), s11, s12, .val (.int ai), s14, s15, s16, s17]) ?_ ?_
  · obtain ⟨a, rs, e⟩ := h.box
    subst e
    obtain ⟨x, hx, hx2⟩ := drN (is := is) (a := a) pm
    exists 2, v10_32, r10_32, z5, draw pm
    exact ⟨fun _ => ⟨_, .inr ⟨x, hx, by omega⟩, h.draw, rfl⟩, fun _ => ⟨_, .inl rfl, h, rfl⟩⟩
  rintro e s ⟨ai, hai, h, e2⟩
  subst e2
  refine Fx.r_cut v10_33 (fun e s => ∃ (r : List Nat) (s11 : Sl), r.length = 32 ∧ (∀ x ∈ r, x ≤ 255) ∧ St is m d lb B Pn c lf tn lp bi pi s ∧ e = [.val nsD, .val (.obj 0), .val (.int mi), .val (.obj d), .val (.obj lb), .val (.obj lp), .val (.int left), .val tv, .val (.int c), s9, .val (.int k), s11, s12, .val (.int ai), .own (r.map nD), s15, s16, s17]) ?_ ?_
  · obtain ⟨a, rs, e⟩ := h.box
    subst e
    exists 1, Fx.u_own
    rw [show Int.toNat 32 = 32 from rfl]
    refine ⟨by decide, drawsC 32 255 (by decide) (fun d a yes no hy => ?_) fun r a' hl hr => ⟨r, _, hl, hr, h.draw, rfl⟩⟩
    obtain ⟨x, hx, hx2⟩ := drN (is := is) (a := a) p255
    have e : Fx.D.int (1 + dr is a 255) = nD (1 + x) := by
      have : 1 + dr is a 255 = ((1 + x : Nat) : Int) := by omega
      rw [this]; rfl
    exists 1, z5, draw p255, _, Fx.turnC, e
    exact hy _ _ (by omega)
  rintro e s ⟨r, s11, hr, hrb, h, e2⟩
  subst e2
  exact doneK h hR hz hai hr hrb hk
end
end K42

set_option linter.all false
set_option maxRecDepth 100000
set_option maxHeartbeats 4000000
namespace K42
open PySem PySem.Spec PyProof.Rows L2 Fx
section
variable {n : Nat} {is : List Int} {m d lb lp bi pi : Nat} {B : Blocks} {Pn : Pend} {c : Int} {lf tn : Fx.D} {s : Sto} {mi left k : Int} {nsD tv : Fx.D} {s2 s3 s4 s5 s6 s7 s8 s9 s10 s11 s12 s13 s14 s15 s16 s17 : Sl} {NN : Fl → Sto → Prop} {EE : Ex → En → Sto → Prop}

theorem turnE {ti : Int} (h : St is m d lb B Pn c lf tn lp bi pi s) (hmi : mi = (m : Int)) (hm : 0 < m) (hR : LR lf tn left tv) (hz : Pn.length < 500)
    (hk : ∀ (B : Blocks) (Pn' : Pend) (c : Int) (lf tn : Fx.D) (left : Int) (lp pi : Nat) (s : Sto) (s10 s11 s12 s13 s14 s15 s16 s17 : Sl) (tv : Fx.D), Pn'.length ≤ Pn.length + 1 → LR lf tn left tv → St is m d lb B Pn' c lf tn lp bi pi s → NN (.nx [.val nsD, .val (.obj 0), .val (.int mi), .val (.obj d), .val (.obj lb), .val (.obj lp), .val (.int left), .val tv, .val (.int c), .val (.int ti), s10, s11, s12, s13, s14, s15, s16, s17]) s) :
    Run (gen T0 defs (n + 5)) c10_10 [.val nsD, .val (.obj 0), .val (.int mi), .val (.obj d), .val (.obj lb), .val (.obj lp), .val (.int left), .val tv, .val (.int c), .val (.int ti), s10, s11, s12, s13, s14, s15, s16, s17] s NN EE := by
  have p10 : (0 : Int) < 10 := by decide
  have p4 : (0 : Int) < 4 := by decide
  refine Fx.r_cut v10_10 (fun e s => ∃ k : Int, St is m d lb B Pn c lf tn lp bi pi s ∧ e = [.val nsD, .val (.obj 0), .val (.int mi), .val (.obj d), .val (.obj lb), .val (.obj lp), .val (.int left), .val tv, .val (.int c), .val (.int ti), .val (.int k), s11, s12, s13, s14, s15, s16, s17]) ?_ ?_
  · obtain ⟨a, rs, e⟩ := h.box
    subst e
    exists 1, z5, draw p10
    exact ⟨_, h.draw, rfl⟩
  rintro e s ⟨k, h, e2⟩
  subst e2
  refine Fx.r_cut v10_11 (fun e s => ∃ (B : Blocks) (Pn' : Pend) (c : Int) (lf tn : Fx.D) (left : Int) (lp pi : Nat) (s11 s12 s13 s14 s15 s16 s17 : Sl) (tv : Fx.D), Pn'.length ≤ Pn.length + 1 ∧ LR lf tn left tv ∧ St is m d lb B Pn' c lf tn lp bi pi s ∧ e = [.val nsD, .val (.obj 0), .val (.int mi), .val (.obj d), .val (.obj lb), .val (.obj lp), .val (.int left), .val tv, .val (.int c), .val (.int ti), .val (.int k), s11, s12, s13, s14, s15, s16, s17]) ?_ ?_
  · have hS : ∀ {NN' : Fl → Sto → Prop} {EE' : Ex → En → Sto → Prop}, (∀ e s, (∃ (B : Blocks) (Pn' : Pend) (c : Int) (lf tn : Fx.D) (left : Int) (lp pi : Nat) (s11 s12 s13 s14 s15 s16 s17 : Sl) (tv : Fx.D), Pn'.length ≤ Pn.length + 1 ∧ LR lf tn left tv ∧ St is m d lb B Pn' c lf tn lp bi pi s ∧ e = [.val nsD, .val (.obj 0), .val (.int mi), .val (.obj d), .val (.obj lb), .val (.obj lp), .val (.int left), .val tv, .val (.int c), .val (.int ti), .val (.int k), s11, s12, s13, s14, s15, s16, s17]) → NN' (.nx e) s) → Run (gen T0 defs (n + 5)) c10_12 [.val nsD, .val (.obj 0), .val (.int mi), .val (.obj d), .val (.obj lb), .val (.obj lp), .val (.int left), .val tv, .val (.int c), .val (.int ti), .val (.int k), s11, s12, s13, s14, s15, s16, s17] s NN' EE' :=
      fun {NN' EE'} hN => schedK (n := n + 1) h fun lf tn left tv s s12 hR h => hN _ _ ⟨B, Pn, c, lf, tn, left, lp, pi, _, _, _, _, _, _, _, tv, by omega, hR, h, rfl⟩
    by_cases h0 : k = 0
    · exists 1, r10_12, Fx.i_pos h0
      exact hS fun e s h => h
    by_cases ht : ti = 0
    · exists 1, r10_12, Fx.i_neg h0, Fx.i_pos ht
      exact hS fun e s h => h
    have hD : ∀ {s : Sto} {NN' : Fl → Sto → Prop} {EE' : Ex → En → Sto → Prop}, St is m d lb B Pn c lf tn lp bi pi s → (∀ e s, (∃ (B : Blocks) (Pn' : Pend) (c : Int) (lf tn : Fx.D) (left : Int) (lp pi : Nat) (s11 s12 s13 s14 s15 s16 s17 : Sl) (tv : Fx.D), Pn'.length ≤ Pn.length + 1 ∧ LR lf tn left tv ∧ St is m d lb B Pn' c lf tn lp bi pi s ∧ e = [.val nsD, .val (.obj 0), .val (.int mi), .val (.obj d), .val (.obj lb), .val (.obj lp), .val (.int left), .val tv, .val (.int c), .val (.int ti), .val (.int k), s11, s12, s13, s14, s15, s16, s17]) → NN' (.nx e) s) → Run (gen T0 defs (n + 5)) c10_30 [.val nsD, .val (.obj 0), .val (.int mi), .val (.obj d), .val (.obj lb), .val (.obj lp), .val (.int left), .val tv, .val (.int c), .val (.int ti), .val (.int k), s11, s12, s13, s14, s15, s16, s17] s NN' EE' :=
      fun {s NN' EE'} h hN => deedK (n := n) h hmi hm hR hz fun B Pn' c lf tn left lp pi s s11 s12 s13 s14 s15 s16 s17 tv hl hR h => hN _ _ ⟨B, Pn', c, lf, tn, left, lp, pi, _, _, _, _, _, _, _, tv, hl, hR, h, rfl⟩
    by_cases h1 : k = 1
    · obtain ⟨a, rs, e⟩ := h.box
      subst e
      have h' := h.draw (a' := a + 1)
      have hn2 : ¬ k = 2 := by omega
      by_cases hdr : dr is a 4 = 0
      · exists 1, r10_22, v10_22, r10_23, Fx.i_neg h0, Fx.i_neg ht, Fx.i_pos h1, z5, draw p4, Fx.i_pos hdr
        exact cutK (ci := 0) (n := n + 1) h' fun lp pi s h => ⟨B, [], c + 1, .non, lD [], 0 - 1, lp, pi, _, _, _, _, _, _, _, tv, Nat.zero_le _, .inl ⟨rfl, rfl⟩, h, rfl⟩
      · exists 1, r10_22, v10_22, r10_27, v10_27, r10_30, Fx.i_neg h0, Fx.i_neg ht, Fx.i_pos h1, z5, draw p4, Fx.i_neg hdr, Fx.i_neg hn2
        exact hD h' fun e s h => h
    by_cases h2 : k = 2
    · exists 1, r10_22, v10_22, r10_27, v10_27, r10_28, Fx.i_neg h0, Fx.i_neg ht, Fx.i_neg h1, Fx.i_pos h2
      exact wrongK (n := n + 1) h hmi hm ⟨B, Pn, c, lf, tn, left, lp, pi, _, _, _, _, _, _, _, tv, Nat.le_succ _, hR, h, rfl⟩
    · exists 1, r10_22, v10_22, r10_27, v10_27, r10_30, Fx.i_neg h0, Fx.i_neg ht, Fx.i_neg h1, Fx.i_neg h2
      exact hD h fun e s h => h
  rintro e s ⟨B, Pn', c, lf, tn, left, lp, pi, s11, s12, s13, s14, s15, s16, s17, tv, hl, hR, h, e2⟩
  subst e2
  have e1 : ((Pn'.length : Nat) : Int) = ((Pn'.map eD).length : Nat) := by rw [List.length_map]
  have h1 := pendE (n := n + 4) h.dsk
  rw [e1] at h1
  exists 1, v10_55, r10_55, v10_54, r10_54, ti3, tm3_size, tm3__check_at, tm3_read, tm3__cut, tm3__spend, tm3_write, tm3_flush, tm3_pending_count, tm3_cut_count, tm3_cut_power, tm3_schedule_cut, ta3__blocks, ta3__pending, ta3__cuts, ta3__left, ta3__torn, w_o h.dsk.o, z19, z20, wp_okI h1, wp_okI (cutsE (n := n + 4) h.dsk), w_l h.hlp, Fx.i_pos (rfl : ((Pn'.map eD).length : Int) = ((Pn'.map eD).length : Int)), Fx.i_pos (rfl : c = c)
  exact hk _ _ _ _ _ _ _ _ _ _ _ _ _ _ _ _ _ _ hl hR h
theorem lay_B (B : Blocks) : D.layA (B.map lD) = true := by
  induction B with
  | nil => rfl
  | cons i r ih => rw [List.map_cons, D.layA, ih]; exact Bool.and_eq_true_iff.mpr ⟨lay_r i, rfl⟩
theorem dp_B (B : Blocks) : PyData.depthAll (D.pyAll (B.map lD)) ≤ 1 := by
  induction B with
  | nil => decide
  | cons i r ih =>
    rw [List.map_cons]; simp only [D.pyAll, PyData.depthAll]
    have h : (lD i).py.depth = PyData.depthAll (D.pyAll (i.map nD)) + 1 := rfl
    have := dp_r i
    omega
theorem endE (h : St is m d lb B Pn c lf tn lp bi pi s) (hmi : mi = (m : Int)) (hm : m ≤ 400) (hk : ∀ s, NN (.rt (.bl true)) s) :
    Run (gen T0 defs (n + 5)) c10_56 [.val nsD, .val (.obj 0), .val (.int mi), .val (.obj d), .val (.obj lb), .val (.obj lp), .val (.int left), .val tv, .val (.int c), s9, s10, s11, s12, s13, s14, s15, s16, s17] s NN EE := by
  have hc := cutPowerE (n := n + 3) h.dsk (t := []) h.ok.p h.ok.b (fun x hx => by cases hx) (by decide)
  rw [cut_nil] at hc
  have haf := h.after (c' := c + 1) (lf' := .non) (tn' := lD []) h.sz h.ok.b
  have lt := h.lt
  have nd := h.nd
  simp only [List.mem_cons, List.not_mem_nil, or_false, forall_eq_or_imp, forall_eq] at lt
  simp only [List.nodup_cons, List.mem_cons, List.not_mem_nil, or_false, not_or, not_false_eq_true, List.nodup_nil, and_true] at nd
  have gb : (aftS s d bi B (c + 1) .non (lD []))[lb]? = some (.lst (B.map lD)) := by rw [aft_get (by omega) (by omega) (by omega)]; exact h.hlb
  have hd := aft_dsk (B' := B) (c' := c + 1) (lf' := .non) (tn' := lD []) h.dsk
  generalize aftS s d bi B (c + 1) .non (lD []) = u at hc gb hd
  rw [show lD [] = Fx.D.lst [] from rfl] at hc
  refine Fx.r_cut v10_56 (fun e w => w = u ∧ e = [.val nsD, .val (.obj 0), .val (.int mi), .val (.obj d), .val (.obj lb), .val (.obj lp), .val (.int left), .val tv, .val (.int c), s9, s10, s11, s12, s13, s14, s15, s16, s17]) ?_ ?_
  · exists 0, ti3, tm3_size, tm3__check_at, tm3_read, tm3__cut, tm3__spend, tm3_write, tm3_flush, tm3_pending_count, tm3_cut_count, tm3_cut_power, tm3_schedule_cut, ta3__blocks, ta3__pending, ta3__cuts, ta3__left, ta3__torn, w_o h.dsk.o, z21, wp_okI hc
  rintro e w ⟨e1, e2⟩
  subst e1 e2
  rw [v10_57]
  have hn : mi.toNat = m := by omega
  have hde : ∀ {k : Fx.D → Prop}, wder w (.obj lb) k = k (.lst (B.map lD)) := fun {k} => de_o gb
  have hdl : ∀ {ds : List Fx.D} {k : Fx.D → Prop}, wder w (.lst ds) k = k (.lst ds) := fun {ds k} => rfl
  have heq : ∀ {q : Bool → Prop}, wo (opCmp .Eq (.lst (B.map lD)) (.lst (B.map lD))) q = q true := fun {q} => by
    refine o_eqR (x := .lst (B.map lD)) (lay_B B) ?_
    have h : (Fx.D.lst (B.map lD)).py.depth = PyData.depthAll (D.pyAll (B.map lD)) + 1 := rfl
    have := dp_B B
    omega
  exists 1
  rw [hn, rangeI0]
  refine ⟨by omega, l_mapM (fun k : Nat => Fx.D.int (k : Int)) (fun k : Nat => lD (B.getD k [])) (by rw [List.length_range]; omega) (fun k hkk yes no hy => ?_) ?_⟩
  · have hk' := List.mem_range.mp hkk
    obtain ⟨ki, hki⟩ : ∃ ki : Int, ki = (k : Int) := ⟨_, rfl⟩
    have hr := readE (n := n + 3) hd hki (by rw [h.sz]; exact hk')
    have hf : findB B [] k = B.getD k [] := rfl
    rw [hf] at hr
    rw [← hki]
    generalize lD (B.getD k []) = rD at hr hy
    exists 1, ti3, tm3_size, tm3__check_at, tm3_read, tm3__cut, tm3__spend, tm3_write, tm3_flush, tm3_pending_count, tm3_cut_count, tm3_cut_power, tm3_schedule_cut, ta3__blocks, ta3__pending, ta3__cuts, ta3__left, ta3__torn, w_o hd.o, z14, wp_okI hr, _, Fx.turnC
    exact hy
  · have hB : (List.range m).map (fun k : Nat => lD (B.getD k [])) = B.map lD := by
      rw [← h.sz]
      refine List.ext_getElem (by simp) fun i h1 h2 => ?_
      simp at h1
      simp [List.getD_eq_getElem?_getD, List.getElem?_eq_getElem h1]
    rw [hB]
    generalize B.map lD = BD at hde heq
    exists 1, w_cmpo, hde, hdl, heq
    exact hk _
end
end K42

set_option linter.all false
set_option maxRecDepth 100000
set_option maxHeartbeats 4000000
namespace K42
open PySem PySem.Spec PyProof.Rows L2 Fx
section
variable {n : Nat} {is : List Int} {m d lb lp bi pi : Nat} {B : Blocks} {Pn : Pend} {c : Int} {lf tn : Fx.D} {s : Sto} {mi left k : Int} {nsD tv : Fx.D} {s2 s3 s4 s5 s6 s7 s8 s9 s10 s11 s12 s13 s14 s15 s16 s17 : Sl} {NN : Fl → Sto → Prop} {EE : Ex → En → Sto → Prop}
/-! a new disk -/
def B0 (m : Nat) : Blocks := List.replicate m (List.replicate 32 0)
theorem mid_get {s : Sto} {o : O} {r : Sto} : (s ++ o :: r)[s.length]? = some o := by rw [List.getElem?_append_right (Nat.le_refl _), Nat.sub_self]; rfl
theorem mid_set {s : Sto} {o o' : O} {r : Sto} : (s ++ o :: r).set s.length o' = s ++ o' :: r := by
  rw [List.set_append_right _ _ (Nat.le_refl _), Nat.sub_self]; rfl
theorem B0_map (m : Nat) : (List.range m).map (fun _ : Nat => lD (List.replicate 32 0)) = (B0 m).map lD := by
  unfold B0
  rw [List.map_replicate, List.map_const', List.length_range]
theorem zerosC {m : Nat} {mi : Int} {env : En} {t : T} {X : Fx.X} {Q : List Fx.D → Sto → Prop} (hm : m ≤ 1000) (hs : ∀ k : Nat, ∀ {yes : Fx.D → Sto → Prop} {no : Sto → Prop}, yes (lD (List.replicate 32 0)) s → Fx.turnC (gen T0 defs n) t .none X env (.int (k : Int)) s yes no) (hQ : Q ((B0 m).map lD) s) :
    Wp (goes (stepF (gen T0 defs n) t .none X env) (Fx.rangeI 0 m) [] s) Q nE := by
  rw [rangeI0]
  refine l_mapM (fun k : Nat => Fx.D.int (k : Int)) (fun _ : Nat => lD (List.replicate 32 0)) (by rw [List.length_range]; omega) (fun k hk yes no hy => hs k hy) ?_
  rw [B0_map]; exact hQ
theorem initE {m : Nat} {mi : Int} (hmi : mi = (m : Int)) (h8 : 8 ≤ m) (h400 : m ≤ 400) :
    (gen T0 defs (n + 1)).call 11 [.obj s.length, .int mi] (s ++ [.ins 3 []]) = .ok .non (s ++ [dO (s.length + 1) (s.length + 2) 0 .non (lD []), .lst ((B0 m).map lD), .lst []]) := by
  apply wp_okE
  rw [h11]
  have hn : mi.toNat = m := by omega
  refine Fx.r_cut v11_0 (fun e u => u = s ++ [.ins 3 []] ∧ e = [.val (.obj s.length), .val (.int mi), .no]) ?_ ?_
  · exists 2, v11_1, r11_1, k_BLOCKS_LEAST, k_BLOCKS_MOST
    exact ⟨fun q => absurd q (by omega), fun q => ⟨fun q2 => absurd q2 (by omega), fun q2 => trivial⟩⟩
  rintro e u ⟨e1, e2⟩
  subst e1 e2
  have z32 : Fx.D.lst ((List.replicate (Int.toNat 32) [Fx.D.int 0]).flatten) = lD (List.replicate 32 0) := by
    rw [show Int.toNat 32 = 32 from rfl]
    exact congrArg Fx.D.lst (flR 32 0)
  have ln : ∀ {r : Sto}, List.length (s ++ r) = s.length + r.length := fun {r} => List.length_append
  refine Fx.r_cut v11_2 (fun e u => u = s ++ [.ins 3 [("_blocks", .obj (s.length + 1))], .lst ((B0 m).map lD)] ∧ e = [.val (.obj s.length), .val (.int mi), .no]) ?_ ?_
  · exists 0, ti3, tm3_size, tm3__check_at, tm3_read, tm3__cut, tm3__spend, tm3_write, tm3_flush, tm3_pending_count, tm3_cut_count, tm3_cut_power, tm3_schedule_cut, ta3__blocks, ta3__pending, ta3__cuts, ta3__left, ta3__torn
    refine ⟨by omega, ?_⟩
    rw [hn]
    refine zerosC (mi := mi) (by omega) (fun k yes no hy => ?_) ?_
    · exists 0, k_BLOCK, _, Fx.turnC
      rw [z32]
      exact ⟨⟨by decide, by decide, by decide⟩, hy⟩
    · have g : ((s ++ [O.ins 3 []]) ++ [.lst ((B0 m).map lD)])[s.length]? = some (.ins 3 []) := by rw [List.append_assoc]; exact mid_get
      have gw : ∀ {k : Nat → List (Str × Fx.D) → Prop}, wins (((s ++ [O.ins 3 []]) ++ [.lst ((B0 m).map lD)])[s.length]?) k = k 3 [] := fun {k} => by rw [g]; rfl
      exists 0, ti3, tm3_size, tm3__check_at, tm3_read, tm3__cut, tm3__spend, tm3_write, tm3_flush, tm3_pending_count, tm3_cut_count, tm3_cut_power, tm3_schedule_cut, ta3__blocks, ta3__pending, ta3__cuts, ta3__left, ta3__torn, gw, wst_d
      rw [List.append_assoc, List.length_append]
      exact ⟨mid_set, trivial⟩
  rintro e u ⟨e1, e2⟩
  subst e1 e2
  refine Fx.r_cut v11_3 (fun e u => u = s ++ [.ins 3 [("_blocks", .obj (s.length + 1)), ("_pending", .obj (s.length + 2))], .lst ((B0 m).map lD), .lst []] ∧ e = [.val (.obj s.length), .val (.int mi), .no]) ?_ ?_
  · have g : ∀ {k : Nat → List (Str × Fx.D) → Prop}, wins (((s ++ [.ins 3 [("_blocks", .obj (s.length + 1))], .lst ((B0 m).map lD)]) ++ [O.lst []])[s.length]?) k = k 3 [("_blocks", .obj (s.length + 1))] := fun {k} => by rw [List.append_assoc]; exact congrArg (fun o => wins o k) mid_get
    exists 0, ti3, tm3_size, tm3__check_at, tm3_read, tm3__cut, tm3__spend, tm3_write, tm3_flush, tm3_pending_count, tm3_cut_count, tm3_cut_power, tm3_schedule_cut, ta3__blocks, ta3__pending, ta3__cuts, ta3__left, ta3__torn, g, wst_d
    rw [List.append_assoc, List.length_append]
    exact ⟨mid_set, trivial⟩
  rintro e u ⟨e1, e2⟩
  subst e1 e2
  have gg : ∀ {fs : List (Str × Fx.D)} {r : Sto} {k : Nat → List (Str × Fx.D) → Prop}, wins ((s ++ .ins 3 fs :: r)[s.length]?) k = k 3 fs := fun {fs r k} => congrArg (fun o => wins o k) mid_get
  have gs : ∀ {fs : List (Str × Fx.D)} {r : Sto} {o : O} {K : Sto → Prop}, wst (s ++ .ins 3 fs :: r) s.length o K = K (s ++ o :: r) := fun {fs r o K} => congrArg K mid_set
  exists 0, v11_6, r11_6, v11_5, r11_5, v11_4, r11_4, ti3, tm3_size, tm3__check_at, tm3_read, tm3__cut, tm3__spend, tm3_write, tm3_flush, tm3_pending_count, tm3_cut_count, tm3_cut_power, tm3_schedule_cut, ta3__blocks, ta3__pending, ta3__cuts, ta3__left, ta3__torn, gg, gs
  exact rfl
theorem startE {is : List Int} (hk : ∀ (m d lb lp bi pi : Nat) (mi : Int) (s : Sto) (s11 : Sl), mi = (m : Int) → 0 < m → m ≤ 400 → St is m d lb (B0 m) [] 0 .non (lD []) lp bi pi s → Run (gen T0 defs (n + 5)) c10_9 [.val nsD, .val (.obj 0), .val (.int mi), .val (.obj d), .val (.obj lb), .val (.obj lp), .val (.int (0 - 1)), .val (lD []), .val (.int 0), s9, s10, s11, s12, s13, s14, s15, s16, s17] s NN EE) :
    Run (gen T0 defs (n + 5)) c10_1 [.val nsD, .val (.obj 0), s2, s3, s4, s5, s6, s7, s8, s9, s10, s11, s12, s13, s14, s15, s16, s17] (bx is 0) NN EE := by
  have p4 : (0 : Int) < 4 := by decide
  refine Fx.r_cut v10_1 (fun e s => ∃ m : Nat, ∃ mi : Int, mi = (m : Int) ∧ 8 ≤ m ∧ m ≤ 400 ∧ e = [.val nsD, .val (.obj 0), .val (.int mi), s3, s4, s5, s6, s7, s8, s9, s10, s11, s12, s13, s14, s15, s16, s17] ∧ ∃ a, s = bx is a) ?_ ?_
  · obtain ⟨x, hx, hx2⟩ := drN (is := is) (a := 0) p4
    exists 1, z5, draw p4
    exact ⟨8 + x, _, by rw [hx]; omega, by omega, by omega, rfl, _, rfl⟩
  rintro e s ⟨m, mi, hmi, h8, h400, e1, a, e2⟩
  subst e1 e2
  have hini := initE (n := n + 4) (s := bx is a) hmi h8 h400
  refine Fx.r_cut v10_2 (fun e s => s = bx is a [dO 2 3 0 .non (lD []), .lst ((B0 m).map lD), .lst []] ∧ e = [.val nsD, .val (.obj 0), .val (.int mi), .val (.obj 1), s4, s5, s6, s7, s8, s9, s10, s11, s12, s13, s14, s15, s16, s17]) ?_ ?_
  · exists 0, ti3, tm3_size, tm3__check_at, tm3_read, tm3__cut, tm3__spend, tm3_write, tm3_flush, tm3_pending_count, tm3_cut_count, tm3_cut_power, tm3_schedule_cut, ta3__blocks, ta3__pending, ta3__cuts, ta3__left, ta3__torn, z11, wp_okI hini
    exact ⟨rfl, rfl⟩
  rintro e s ⟨e1, e2⟩
  subst e1 e2
  have hn : mi.toNat = m := by omega
  have z32 : Fx.D.lst ((List.replicate (Int.toNat 32) [Fx.D.int 0]).flatten) = lD (List.replicate 32 0) := by
    rw [show Int.toNat 32 = 32 from rfl]
    exact congrArg Fx.D.lst (flR 32 0)
  refine Fx.r_cut v10_3 (fun e s => s = bx is a [dO 2 3 0 .non (lD []), .lst ((B0 m).map lD), .lst []] ∧ ∃ s11, e = [.val nsD, .val (.obj 0), .val (.int mi), .val (.obj 1), .own ((B0 m).map lD), s5, s6, s7, s8, s9, s10, s11, s12, s13, s14, s15, s16, s17]) ?_ ?_
  · exists 1, Fx.u_own
    refine ⟨by omega, ?_⟩
    rw [hn]
    refine zerosC (mi := mi) (by omega) (fun k yes no hy => ?_) ⟨rfl, _, rfl⟩
    exists 0, _, Fx.turnC
    rw [z32]
    exact ⟨⟨by decide, by decide, by decide⟩, hy⟩
  rintro e s ⟨e1, s11, e2⟩
  subst e1 e2
  rw [v10_4]
  simp -implicitDefEqProofs (disch := decide +kernel) only [↓Fx.o_own0, ↓Fx.o_ownS, ↓Fx.e_0, ↓Fx.e_S]
  refine Fx.r_cut v10_5 (fun e s => s = bx is a [dO 2 3 0 .non (lD []), .lst ((B0 m).map lD), .lst [], .lst ((B0 m).map lD), .lst []] ∧ e = [.val nsD, .val (.obj 0), .val (.int mi), .val (.obj 1), .val (.obj 4), .val (.obj 5), s6, s7, s8, s9, s10, s11, s12, s13, s14, s15, s16, s17]) ?_ ?_
  · exists 0
    exact ⟨rfl, rfl⟩
  rintro e s ⟨e1, e2⟩
  subst e1 e2
  refine Fx.r_cut v10_6 (fun e s => s = bx is a [dO 2 3 0 .non (lD []), .lst ((B0 m).map lD), .lst [], .lst ((B0 m).map lD), .lst []] ∧ e = [.val nsD, .val (.obj 0), .val (.int mi), .val (.obj 1), .val (.obj 4), .val (.obj 5), .val (.int (0 - 1)), s7, s8, s9, s10, s11, s12, s13, s14, s15, s16, s17]) ?_ ?_
  · exists 1
  rintro e s ⟨e1, e2⟩
  subst e1 e2
  refine Fx.r_cut v10_7 (fun e s => s = bx is a [dO 2 3 0 .non (lD []), .lst ((B0 m).map lD), .lst [], .lst ((B0 m).map lD), .lst []] ∧ e = [.val nsD, .val (.obj 0), .val (.int mi), .val (.obj 1), .val (.obj 4), .val (.obj 5), .val (.int (0 - 1)), .val (lD []), s8, s9, s10, s11, s12, s13, s14, s15, s16, s17]) ?_ ?_
  · exists 1
    exact rfl
  rintro e s ⟨e1, e2⟩
  subst e1 e2
  refine Fx.r_cut v10_8 (fun e s => s = bx is a [dO 2 3 0 .non (lD []), .lst ((B0 m).map lD), .lst [], .lst ((B0 m).map lD), .lst []] ∧ e = [.val nsD, .val (.obj 0), .val (.int mi), .val (.obj 1), .val (.obj 4), .val (.obj 5), .val (.int (0 - 1)), .val (lD []), .val (.int 0), s9, s10, s11, s12, s13, s14, s15, s16, s17]) ?_ ?_
  · exists 1
  rintro e s ⟨e1, e2⟩
  subst e1 e2
  have hl0 : (B0 m).length = m := by unfold B0; rw [List.length_replicate]
  refine hk m 1 4 5 2 3 mi _ s11 hmi (by omega) h400 ⟨⟨a, _, rfl⟩, ⟨rfl, rfl, rfl, by decide, by decide, by decide⟩, rfl, rfl, by decide, ⟨fun r hr => ?_, fun q hq => (by cases hq), by rw [hl0]; exact h400⟩, hl0⟩
  unfold B0 at hr
  rw [(List.mem_replicate.mp hr).2, List.length_replicate]
end
theorem plain0 {n : Nat} {ns : List Int} : ∃ s', (gen T0 defs (n + 6)).call 10 [.lst (ns.map .int)] [] = .ok (.bl true) s' := by
  obtain ⟨is, hd⟩ := digits (n := n + 3) (s := []) (ns := ns)
  have : Wp ((gen T0 defs (n + 6)).call 10 [.lst (ns.map .int)] []) (fun v _ => v = .bl true) (fun _ _ => False) := by
    rw [h10]
    generalize hL : Fx.D.lst (ns.map .int) = nsD at hd
    refine Fx.r_cut v10_0 (fun e s => e = [.val nsD, .val (.obj 0), .no, .no, .no, .no, .no, .no, .no, .no, .no, .no, .no, .no, .no, .no, .no, .no] ∧ s = bx is 0) ?_ ?_
    · exists 1, z4, wp_okI hd
      exact rfl
    rintro e s ⟨e1, e2⟩
    subst e1 e2
    refine startE fun m d lb lp bi pi mi s s11 hmi hm h400 h => ?_
    refine Fx.r_cut v10_9 (fun e s => ∃ (B : Blocks) (Pn : Pend) (c : Int) (lf tn : Fx.D) (left : Int) (lp pi : Nat) (s9 s10 s11 s12 s13 s14 s15 s16 s17 : Sl) (tv : Fx.D), LR lf tn left tv ∧ St is m d lb B Pn c lf tn lp bi pi s ∧ e = [.val nsD, .val (.obj 0), .val (.int mi), .val (.obj d), .val (.obj lb), .val (.obj lp), .val (.int left), .val tv, .val (.int c), s9, s10, s11, s12, s13, s14, s15, s16, s17]) ?_ ?_
    · rw [v_for]
      refine it_as ((List.range 40).map fun k : Nat => Fx.D.int (k : Int)) (fun Q hQ => ?_) ?_
      · exists 1
        rw [show Int.toNat 40 = 40 from rfl, rangeI0]
        exact ⟨by decide, hQ⟩
      refine r_for (fun r env s => (∀ x ∈ r, ∃ i : Int, x = .int i) ∧ ∃ (B : Blocks) (Pn : Pend) (c : Int) (lf tn : Fx.D) (left : Int) (lp pi : Nat) (s9 s10 s11 s12 s13 s14 s15 s16 s17 : Sl) (tv : Fx.D), Pn.length + r.length ≤ 40 ∧ LR lf tn left tv ∧ St is m d lb B Pn c lf tn lp bi pi s ∧ env = [.val nsD, .val (.obj 0), .val (.int mi), .val (.obj d), .val (.obj lb), .val (.obj lp), .val (.int left), .val tv, .val (.int c), s9, s10, s11, s12, s13, s14, s15, s16, s17]) ?_ ?_ _ _ _ ⟨fun x hx => ?_, B0 m, [], 0, .non, lD [], 0 - 1, lp, pi, _, _, _, _, _, _, _, _, _, lD [], by rw [List.length_map, List.length_range]; decide, .inl ⟨rfl, rfl⟩, h, rfl⟩
      rotate_left 2
      · obtain ⟨k, _, e⟩ := List.mem_map.mp hx
        exact ⟨_, e.symm⟩
      · rintro x r env s ⟨hx, B, Pn, c, lf, tn, left, lp, pi, s9, s10, s11, s12, s13, s14, s15, s16, s17, tv, hl, hR, h, e1⟩
        subst e1
        obtain ⟨i, hi⟩ := hx x (List.mem_cons_self ..)
        have hx' := fun y hy => hx y (List.mem_cons_of_mem _ hy)
        subst hi
        rw [List.length_cons] at hl
        simp -implicitDefEqProofs (disch := decide +kernel) only [↓Fx.t_name, ↓Fx.e_S, ↓Fx.e_0]
        exact turnE h hmi hm hR (by omega) fun B Pn' c lf tn left lp pi s s10 s11 s12 s13 s14 s15 s16 s17 tv hl2 hR h => ⟨hx', B, Pn', c, lf, tn, left, lp, pi, _, _, _, _, _, _, _, _, _, tv, by omega, hR, h, rfl⟩
      · rintro env s ⟨_, B, Pn, c, lf, tn, left, lp, pi, s9, s10, s11, s12, s13, s14, s15, s16, s17, tv, hl, hR, h, e1⟩
        exact ⟨B, Pn, c, lf, tn, left, lp, pi, _, _, _, _, _, _, _, _, _, tv, hR, h, e1⟩
    rintro e s ⟨B, Pn, c, lf, tn, left, lp, pi, s9, s10, s11, s12, s13, s14, s15, s16, s17, tv, hR, h, e1⟩
    subst e1
    exact endE h hmi h400 fun s => rfl
  revert this
  cases (gen T0 defs (n + 6)).call 10 [.lst (ns.map .int)] [] with
  | ok v s' => intro h; exact ⟨s', by rw [show v = .bl true from h]⟩
  | exc _ _ => intro h; exact absurd h id
  | bad => intro h; exact absurd h id
end K42

set_option Elab.async false
theorem K42.plain : ∀ ns : List Int, ns.length ≤ 63 → ∃ s', (Fx.gen K42.T0 K42.defs 6).call 10 [.lst (ns.map .int)] [] = .ok (.bl true) s' := fun ns _ => K42.plain0 (n := 0)
open PySem PySem.W PyProof.Rows
set_option maxRecDepth 100000 in
set_option maxHeartbeats 0 in
theorem PySem.Challenge.cw_asforetold_k42_cut_on_schedule_holds : PySem.Challenge.rw_asforetold_k42_cut_on_schedule.Holds := by
  w_on; o_law; k_head; (case hw => w_witness2)
  k_fill
  refine Fx.walk_ofG (l := PySem.Challenge.rw_asforetold_k42_cut_on_schedule) (n := 63) (N := 6) (x := "_law_script") (i := 10) (D := K42.d10) (B := K42.tb) (T := K42.T0) (defs := K42.defs) rfl (by decide) rfl ⟨rfl, by decide, by decide⟩ (fun w h Y => PySem.W.kIn_of Y) rfl rfl K42.all_chk ?F K42.plain
  case F =>
    intro w mg fa h KX G hmg
    refine' K42.all_mk KX G hmg ?cg3 ?cp3 ?cd3_ ?co3_ ?cs3 ?mk3 ?ck3 ?na3__blocks ?na3__pending ?na3__cuts ?na3__left ?na3__torn ?a0 ?l0 ?c0 ?k0 ?a1 ?l1 ?c1 ?k1 ?a2 ?l2 ?c2 ?k2 ?a3 ?l3 ?c3 ?k3 ?a4 ?l4 ?c4 ?k4 ?a5 ?l5 ?c5 ?k5 ?a6 ?l6 ?c6 ?k6 ?a7 ?l7 ?c7 ?k7 ?a8 ?l8 ?c8 ?k8 ?a9 ?l9 ?c9 ?k9 ?a10 ?l10 ?c10 ?k10 ?a11 ?i11 ?l11 ?c11 ?k11 ?a12 ?i12 ?l12 ?c12 ?k12 ?a13 ?i13 ?l13 ?c13 ?k13 ?a14 ?i14 ?l14 ?c14 ?k14 ?a15 ?i15 ?l15 ?c15 ?k15 ?a16 ?i16 ?l16 ?c16 ?k16 ?a17 ?i17 ?l17 ?c17 ?k17 ?a18 ?i18 ?l18 ?c18 ?k18 ?a19 ?i19 ?l19 ?c19 ?k19 ?a20 ?i20 ?l20 ?c20 ?k20 ?a21 ?i21 ?l21 ?c21 ?k21 ?a22 ?i22 ?l22 ?c22 ?k22 ?m_BLOCK ?m_BLOCKS_LEAST ?m_BLOCKS_MOST ?m_COUNT_MOST ?hg0 ?xb0 ?xd0 ?xt0 ?hg1 ?xb1 ?xd1 ?xt1 ?hg2 ?xb2 ?xd2 ?xt2 ?xg1 ?xk1 ?xa1 ?xm1 ?xs1 ?xf1_name ?xg2 ?xk2 ?xa2 ?xm2 ?xs2 ?xf2_name ?xn ?xh ?sb1_0 ?sb1_1 ?sb1_2 ?sb2_0 ?sb2_1 ?sb2_2 ?xP2 ?xkz2 ?xL1 ?xv1 ?xw1 ?xkp1 ?xi1 ?xy1 ?xl1 ?xc1 ?xq1 ?z_enumerate ?z_int ?z_isinstance ?z_len ?z_list ?z_min ?z_range
    (case cg3 => k_is)
    (case cp3 => k_is)
    (case cd3_ => k_is)
    (case co3_ => k_is)
    (case cs3 => k_is)
    (case mk3 => k_is)
    (case ck3 => k_is)
    (case na3__blocks => k_is)
    (case na3__pending => k_is)
    (case na3__cuts => k_is)
    (case na3__left => k_is)
    (case na3__torn => k_is)
    (case a0 => k_is)
    (case l0 => k_is)
    (case c0 => k_is)
    (case k0 => k_is)
    (case a1 => k_is)
    (case l1 => k_is)
    (case c1 => k_is)
    (case k1 => k_is)
    (case a2 => k_is)
    (case l2 => k_is)
    (case c2 => k_is)
    (case k2 => k_is)
    (case a3 => k_is)
    (case l3 => k_is)
    (case c3 => k_is)
    (case k3 => k_is)
    (case a4 => k_is)
    (case l4 => k_is)
    (case c4 => k_is)
    (case k4 => k_is)
    (case a5 => k_is)
    (case l5 => k_is)
    (case c5 => k_is)
    (case k5 => k_is)
    (case a6 => k_is)
    (case l6 => k_is)
    (case c6 => k_is)
    (case k6 => k_is)
    (case a7 => k_is)
    (case l7 => k_is)
    (case c7 => k_is)
    (case k7 => k_is)
    (case a8 => k_is)
    (case l8 => k_is)
    (case c8 => k_is)
    (case k8 => k_is)
    (case a9 => k_is)
    (case l9 => k_is)
    (case c9 => k_is)
    (case k9 => k_is)
    (case a10 => k_is)
    (case l10 => k_is)
    (case c10 => k_is)
    (case k10 => k_is)
    (case a11 => k_is)
    (case i11 => k_is)
    (case l11 => k_is)
    (case c11 => k_is)
    (case k11 => k_is)
    (case a12 => k_is)
    (case i12 => k_is)
    (case l12 => k_is)
    (case c12 => k_is)
    (case k12 => k_is)
    (case a13 => k_is)
    (case i13 => k_is)
    (case l13 => k_is)
    (case c13 => k_is)
    (case k13 => k_is)
    (case a14 => k_is)
    (case i14 => k_is)
    (case l14 => k_is)
    (case c14 => k_is)
    (case k14 => k_is)
    (case a15 => k_is)
    (case i15 => k_is)
    (case l15 => k_is)
    (case c15 => k_is)
    (case k15 => k_is)
    (case a16 => k_is)
    (case i16 => k_is)
    (case l16 => k_is)
    (case c16 => k_is)
    (case k16 => k_is)
    (case a17 => k_is)
    (case i17 => k_is)
    (case l17 => k_is)
    (case c17 => k_is)
    (case k17 => k_is)
    (case a18 => k_is)
    (case i18 => k_is)
    (case l18 => k_is)
    (case c18 => k_is)
    (case k18 => k_is)
    (case a19 => k_is)
    (case i19 => k_is)
    (case l19 => k_is)
    (case c19 => k_is)
    (case k19 => k_is)
    (case a20 => k_is)
    (case i20 => k_is)
    (case l20 => k_is)
    (case c20 => k_is)
    (case k20 => k_is)
    (case a21 => k_is)
    (case i21 => k_is)
    (case l21 => k_is)
    (case c21 => k_is)
    (case k21 => k_is)
    (case a22 => k_is)
    (case i22 => k_is)
    (case l22 => k_is)
    (case c22 => k_is)
    (case k22 => k_is)
    (case m_BLOCK => k_is)
    (case m_BLOCKS_LEAST => k_is)
    (case m_BLOCKS_MOST => k_is)
    (case m_COUNT_MOST => k_is)
    (case hg0 => k_is)
    (case xb0 => k_is)
    (case xd0 => k_is)
    (case xt0 => k_is)
    (case hg1 => k_is)
    (case xb1 => k_is)
    (case xd1 => k_is)
    (case xt1 => k_is)
    (case hg2 => k_is)
    (case xb2 => k_is)
    (case xd2 => k_is)
    (case xt2 => k_is)
    (case xg1 => k_is)
    (case xk1 => k_is)
    (case xa1 => k_is)
    (case xm1 => k_is)
    (case xs1 => first | rfl | k_is)
    (case xf1_name => k_is)
    (case xg2 => k_is)
    (case xk2 => k_is)
    (case xa2 => k_is)
    (case xm2 => k_is)
    (case xs2 => first | rfl | k_is)
    (case xf2_name => k_is)
    (case xn => k_is)
    (case xh => k_is)
    (case sb1_0 => first | rfl | k_is)
    (case sb1_1 => first | rfl | k_is)
    (case sb1_2 => first | rfl | k_is)
    (case sb2_0 => first | rfl | k_is)
    (case sb2_1 => first | rfl | k_is)
    (case sb2_2 => first | rfl | k_is)
    (case xP2 => k_exc)
    (case xkz2 => k_is)
    (case xL1 => k_is)
    (case xv1 => decide +kernel)
    (case xw1 => k_is)
    (case xkp1 => k_is)
    (case xi1 => k_is)
    (case xy1 => k_is)
    (case xl1 => k_is)
    (case xc1 => k_is)
    (case xq1 => k_is)
    (case z_enumerate => k_is)
    (case z_int => k_is)
    (case z_isinstance => k_is)
    (case z_len => k_is)
    (case z_list => k_is)
    (case z_min => k_is)
    (case z_range => k_is)

