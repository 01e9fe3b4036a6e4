import PyProof.Rows.All
import PySem.Challenge.RW_leadterms_k75_whole_turned_rows_and_tree
import Wide.All
import OpenK.AllK
import Wide.FinOn
import HandS.ForMost
import HandS.ForExc
import HandS.Zip
import HandS.Wide
import HandS.TupAny
import HandS.TupMul
import HandS.Defaults
import HandS.HotCalls
import HandS.ExcIs
import HandS.Rev
import HandS.TryOnly
import HandS.RaiseMore
import KE.GoesMore
import KE.KDictZip
import HandS.RevTup
import HandS.Ends
import KE.BitLaws
set_option Elab.async false
set_option linter.all false
set_option maxRecDepth 100000
set_option maxHeartbeats 1000000
/-! Sm: Python's expressions and statements simulated by plain functions over data and a small store of mutable lists. -/
namespace Sm
open PySem L2

/-- data: values by what they are; ptr n: the n-th mutable list of the store -/
inductive D where
  | non
  | bl (b : Bool)
  | int (i : Int)
  | str (s : Str)
  | tup (ds : List D)
  | lst (ds : List D)
  | frl (ds : List D)
  | ptr (n : Nat)
inductive O where
  | lst (ds : List D)
abbrev Store := List O
abbrev Envm := List (Option D)

/-- a list that stays: frozen, or the module's -/
def FrL (K : PySem.W.Frag) (H : Hp) (a : Addr) (xs : List V) : Prop := (∃ o, H a = some (.frz o (.lst xs))) ∨
  ∃ (o : Obj) (ws : Array Value) (m : Nat), K.lookup a = some o ∧ o.cls = .type "list" ∧ o.dict = none ∧ o.data = .seq ws m ∧ ws.size ≤ sizeLine ∧ Vals xs ws.toList
theorem FrL.sq {K : PySem.W.Frag} {H : Hp} {a : Addr} {xs : List V} (h : FrL K H a xs) : SqL K H a xs := by
  rcases h with h | h
  · exact .inl (.inr h)
  · exact .inr h
mutual
/-- v stands for the datum in the heap; ι: where the store's objects lie; Z: addresses that no list value lies at -/
def RD (K : PySem.W.Frag) (ι Z : List Addr) (H : Hp) : D → V → Prop
  | .non, v => v = .non
  | .bl b, v => v = .bl b
  | .int i, v => v = .int i
  | .str s, v => v = .str s
  | .ptr n, v => ∃ a, v = .ref a ∧ ι[n]? = some a
  | .tup ds, v => ∃ a vs, v = .ref a ∧ SqT K H a vs ∧ RDs K ι Z H ds vs
  | .lst ds, v => ∃ a vs, v = .ref a ∧ a ∉ ι ∧ a ∉ Z ∧ H a = some (.lst vs) ∧ RDs K ι Z H ds vs
  | .frl ds, v => ∃ a vs, v = .ref a ∧ FrL K H a vs ∧ RDs K ι Z H ds vs
def RDs (K : PySem.W.Frag) (ι Z : List Addr) (H : Hp) : List D → List V → Prop
  | [], vs => vs = []
  | d :: ds, vs => ∃ v r, vs = v :: r ∧ RD K ι Z H d v ∧ RDs K ι Z H ds r
end

/-- from (ι, H) to (ι', H'): what is not the store's own stays, new places are new -/
structure Ext (ι ι' : List Addr) (H H' : Hp) : Prop where
  pre : ∃ more, ι' = ι ++ more
  keep : ∀ a o, H a = some o → a ∉ ι → H' a = some o
  new : ∀ a, a ∈ ι' → a ∉ ι → H a = none
  tk : ∀ a xs, H a = some (.tup xs) → H' a = some (.tup xs)
  fk : ∀ a o u, H a = some (.frz o u) → H' a = some (.frz o u)
def Ex (H H' : Hp) : Prop := ∀ a o, H a = some o → H' a = some o
theorem Ex.refl (H : Hp) : Ex H H := fun _ _ h => h
theorem Ex.trans {H H1 H2 : Hp} (a : Ex H H1) (b : Ex H1 H2) : Ex H H2 := fun x o h => b x o (a x o h)
theorem Ex.upd {H : Hp} {p : Addr} {o : HO} (h : H p = none) : Ex H (upd H p o) := fun a u e => by
  have hne : a ≠ p := ne_of_none e h
  rw [upd_ne hne]; exact e
theorem Ext.ex {ι : List Addr} {H H' : Hp} (e : Ex H H') : Ext ι ι H H' :=
  ⟨⟨[], by simp⟩, fun a o h _ => e a o h, fun a h n => absurd h n, fun a xs h => e a _ h, fun a o u h => e a _ h⟩
theorem Ext.refl (ι : List Addr) (H : Hp) : Ext ι ι H H := Ext.ex (Ex.refl H)
theorem Ext.sub {ι ι' : List Addr} {H H' : Hp} (e : Ext ι ι' H H') {a : Addr} (h : a ∈ ι) : a ∈ ι' := by
  obtain ⟨m, rfl⟩ := e.pre
  exact List.mem_append_left _ h
theorem Ext.nin {ι ι' : List Addr} {H H' : Hp} (e : Ext ι ι' H H') {a : Addr} {o : HO} (h : H a = some o) (n : a ∉ ι) : a ∉ ι' := fun m => by
  have := e.new a m n
  rw [h] at this; cases this
theorem Ext.trans {ι ι1 ι2 : List Addr} {H H1 H2 : Hp} (a : Ext ι ι1 H H1) (b : Ext ι1 ι2 H1 H2) : Ext ι ι2 H H2 where
  pre := by
    obtain ⟨m, rfl⟩ := a.pre
    obtain ⟨m2, rfl⟩ := b.pre
    exact ⟨m ++ m2, by simp⟩
  keep := fun x o h n => b.keep x o (a.keep x o h n) (a.nin h n)
  new := fun x m n => by
    cases q : H x with
    | none => rfl
    | some o =>
      have h1 := a.keep x o q n
      have h2 := b.new x m (a.nin q n)
      rw [h1] at h2; cases h2
  tk := fun x xs h => b.tk x xs (a.tk x xs h)
  fk := fun x o u h => b.fk x o u (a.fk x o u h)
theorem Ext.get {ι ι' : List Addr} {H H' : Hp} (e : Ext ι ι' H H') {n : Nat} {a : Addr} (h : ι[n]? = some a) : ι'[n]? = some a := by
  obtain ⟨m, rfl⟩ := e.pre
  have hl : n < ι.length := (List.getElem?_eq_some_iff.mp h).1
  rw [List.getElem?_append_left hl]; exact h
theorem Ext.sqt {K : PySem.W.Frag} {ι ι' : List Addr} {H H' : Hp} (e : Ext ι ι' H H') {a : Addr} {vs : List V} (h : SqT K H a vs) : SqT K H' a vs := by
  rcases h with (h | ⟨o, h⟩) | h
  · exact .inl (.inl (e.tk _ _ h))
  · exact .inl (.inr ⟨o, e.fk _ _ _ h⟩)
  · exact .inr h
theorem Ext.frl {K : PySem.W.Frag} {ι ι' : List Addr} {H H' : Hp} (e : Ext ι ι' H H') {a : Addr} {vs : List V} (h : FrL K H a vs) : FrL K H' a vs := by
  rcases h with ⟨o, h⟩ | h
  · exact .inl ⟨o, e.fk _ _ _ h⟩
  · exact .inr h
mutual
theorem RD.ext {K : PySem.W.Frag} {ι ι' Z : List Addr} {H H' : Hp} (e : Ext ι ι' H H') : ∀ {d : D} {v : V}, RD K ι Z H d v → RD K ι' Z H' d v
  | .non, _, h => h
  | .bl _, _, h => h
  | .int _, _, h => h
  | .str _, _, h => h
  | .ptr n, _, h => by
    obtain ⟨a, rfl, h⟩ := h
    exact ⟨a, rfl, e.get h⟩
  | .tup ds, _, h => by
    obtain ⟨a, vs, rfl, h1, h2⟩ := h
    exact ⟨a, vs, rfl, e.sqt h1, RDs.ext e h2⟩
  | .lst ds, _, h => by
    obtain ⟨a, vs, rfl, h1, h2, h3, h4⟩ := h
    exact ⟨a, vs, rfl, e.nin h3 h1, h2, e.keep _ _ h3 h1, RDs.ext e h4⟩
  | .frl ds, _, h => by
    obtain ⟨a, vs, rfl, h1, h2⟩ := h
    exact ⟨a, vs, rfl, e.frl h1, RDs.ext e h2⟩
theorem RDs.ext {K : PySem.W.Frag} {ι ι' Z : List Addr} {H H' : Hp} (e : Ext ι ι' H H') : ∀ {ds : List D} {vs : List V}, RDs K ι Z H ds vs → RDs K ι' Z H' ds vs
  | [], _, h => h
  | d :: ds, _, h => by
    obtain ⟨v, r, rfl, h1, h2⟩ := h
    exact ⟨v, r, rfl, RD.ext e h1, RDs.ext e h2⟩
end
mutual
theorem RD.weak {K : PySem.W.Frag} {ι Z Z' : List Addr} {H : Hp} (e : ∀ a, a ∈ Z' → a ∈ Z) : ∀ {d : D} {v : V}, RD K ι Z H d v → RD K ι Z' H d v
  | .non, _, h => h
  | .bl _, _, h => h
  | .int _, _, h => h
  | .str _, _, h => h
  | .ptr n, _, h => h
  | .tup ds, _, h => by
    obtain ⟨a, vs, rfl, h1, h2⟩ := h
    exact ⟨a, vs, rfl, h1, RDs.weak e h2⟩
  | .lst ds, _, h => by
    obtain ⟨a, vs, rfl, h1, h2, h3, h4⟩ := h
    exact ⟨a, vs, rfl, h1, fun m => h2 (e a m), h3, RDs.weak e h4⟩
  | .frl ds, _, h => by
    obtain ⟨a, vs, rfl, h1, h2⟩ := h
    exact ⟨a, vs, rfl, h1, RDs.weak e h2⟩
theorem RDs.weak {K : PySem.W.Frag} {ι Z Z' : List Addr} {H : Hp} (e : ∀ a, a ∈ Z' → a ∈ Z) : ∀ {ds : List D} {vs : List V}, RDs K ι Z H ds vs → RDs K ι Z' H ds vs
  | [], _, h => h
  | d :: ds, _, h => by
    obtain ⟨v, r, rfl, h1, h2⟩ := h
    exact ⟨v, r, rfl, RD.weak e h1, RDs.weak e h2⟩
end
mutual
/-- an address that is new may be forbidden -/
theorem RD.forbid {K : PySem.W.Frag} {ι Z : List Addr} {H : Hp} {p : Addr} (hp : H p = none) : ∀ {d : D} {v : V}, RD K ι Z H d v → RD K ι (p :: Z) H d v
  | .non, _, h => h
  | .bl _, _, h => h
  | .int _, _, h => h
  | .str _, _, h => h
  | .ptr n, _, h => h
  | .tup ds, _, h => by
    obtain ⟨a, vs, rfl, h1, h2⟩ := h
    exact ⟨a, vs, rfl, h1, RDs.forbid hp h2⟩
  | .lst ds, _, h => by
    obtain ⟨a, vs, rfl, h1, h2, h3, h4⟩ := h
    refine ⟨a, vs, rfl, h1, fun m => ?_, h3, RDs.forbid hp h4⟩
    rcases List.mem_cons.mp m with rfl | m
    · rw [hp] at h3; cases h3
    · exact h2 m
  | .frl ds, _, h => by
    obtain ⟨a, vs, rfl, h1, h2⟩ := h
    exact ⟨a, vs, rfl, h1, RDs.forbid hp h2⟩
theorem RDs.forbid {K : PySem.W.Frag} {ι Z : List Addr} {H : Hp} {p : Addr} (hp : H p = none) : ∀ {ds : List D} {vs : List V}, RDs K ι Z H ds vs → RDs K ι (p :: Z) H ds vs
  | [], _, h => h
  | d :: ds, _, h => by
    obtain ⟨v, r, rfl, h1, h2⟩ := h
    exact ⟨v, r, rfl, RD.forbid hp h1, RDs.forbid hp h2⟩
end
mutual
/-- a forbidden address becomes the store's -/
theorem RD.own {K : PySem.W.Frag} {ι Z : List Addr} {H : Hp} {p : Addr} : ∀ {d : D} {v : V}, RD K ι (p :: Z) H d v → RD K (ι ++ [p]) Z H d v
  | .non, _, h => h
  | .bl _, _, h => h
  | .int _, _, h => h
  | .str _, _, h => h
  | .ptr n, _, h => by
    obtain ⟨a, rfl, h⟩ := h
    refine ⟨a, rfl, ?_⟩
    have hl : n < ι.length := (List.getElem?_eq_some_iff.mp h).1
    rw [List.getElem?_append_left hl]; exact h
  | .tup ds, _, h => by
    obtain ⟨a, vs, rfl, h1, h2⟩ := h
    exact ⟨a, vs, rfl, h1, RDs.own h2⟩
  | .lst ds, _, h => by
    obtain ⟨a, vs, rfl, h1, h2, h3, h4⟩ := h
    refine ⟨a, vs, rfl, fun m => ?_, fun m => h2 (List.mem_cons_of_mem _ m), h3, RDs.own h4⟩
    rcases List.mem_append.mp m with m | m
    · exact h1 m
    · exact h2 (by rw [List.mem_singleton.mp m]; exact List.mem_cons_self)
  | .frl ds, _, h => by
    obtain ⟨a, vs, rfl, h1, h2⟩ := h
    exact ⟨a, vs, rfl, h1, RDs.own h2⟩
theorem RDs.own {K : PySem.W.Frag} {ι Z : List Addr} {H : Hp} {p : Addr} : ∀ {ds : List D} {vs : List V}, RDs K ι (p :: Z) H ds vs → RDs K (ι ++ [p]) Z H ds vs
  | [], _, h => h
  | d :: ds, _, h => by
    obtain ⟨v, r, rfl, h1, h2⟩ := h
    exact ⟨v, r, rfl, RD.own h1, RDs.own h2⟩
end
section
variable {K : PySem.W.Frag} {ι Z : List Addr} {H : Hp}
theorem RDs.length : ∀ {ds : List D} {vs : List V}, RDs K ι Z H ds vs → vs.length = ds.length
  | [], _, h => by cases h; rfl
  | d :: ds, _, h => by
    obtain ⟨v, r, rfl, h1, h2⟩ := h
    simp [RDs.length h2]
theorem RDs.get : ∀ {ds : List D} {vs : List V} {i : Nat} {d : D}, RDs K ι Z H ds vs → ds[i]? = some d → ∃ v, vs[i]? = some v ∧ RD K ι Z H d v
  | [], _, _, _, _, e => by simp at e
  | d :: ds, _, 0, d', h, e => by
    obtain ⟨v, r, rfl, h1, h2⟩ := h
    simp at e; subst e
    exact ⟨v, rfl, h1⟩
  | d :: ds, _, i + 1, d', h, e => by
    obtain ⟨v, r, rfl, h1, h2⟩ := h
    obtain ⟨v', e', q⟩ := RDs.get (i := i) h2 (by simpa using e)
    exact ⟨v', by simpa using e', q⟩
theorem RDs.app : ∀ {ds es : List D} {vs us : List V}, RDs K ι Z H ds vs → RDs K ι Z H es us → RDs K ι Z H (ds ++ es) (vs ++ us)
  | [], _, _, _, h, h' => by cases h; exact h'
  | d :: ds, _, _, _, h, h' => by
    obtain ⟨v, r, rfl, h1, h2⟩ := h
    exact ⟨v, r ++ _, rfl, h1, RDs.app h2 h'⟩
theorem RDs.one {d : D} {v : V} (h : RD K ι Z H d v) : RDs K ι Z H [d] [v] := ⟨v, [], rfl, h, rfl⟩
theorem RDs.take : ∀ {ds : List D} {vs : List V} (n : Nat), RDs K ι Z H ds vs → RDs K ι Z H (ds.take n) (vs.take n)
  | _, _, 0, h => by simp; rfl
  | [], _, n + 1, h => by cases h; simp; rfl
  | d :: ds, _, n + 1, h => by
    obtain ⟨v, r, rfl, h1, h2⟩ := h
    exact ⟨v, r.take n, by simp, h1, RDs.take n h2⟩
theorem RDs.drop : ∀ {ds : List D} {vs : List V} (n : Nat), RDs K ι Z H ds vs → RDs K ι Z H (ds.drop n) (vs.drop n)
  | _, _, 0, h => by simpa using h
  | [], _, n + 1, h => by cases h; simp; rfl
  | d :: ds, _, n + 1, h => by
    obtain ⟨v, r, rfl, h1, h2⟩ := h
    simpa using RDs.drop n h2
theorem RDs.rev : ∀ {ds : List D} {vs : List V}, RDs K ι Z H ds vs → RDs K ι Z H ds.reverse vs.reverse
  | [], _, h => by cases h; rfl
  | d :: ds, _, h => by
    obtain ⟨v, r, rfl, h1, h2⟩ := h
    simp only [List.reverse_cons]
    exact RDs.app (RDs.rev h2) (RDs.one h1)
theorem RDs.set : ∀ {ds : List D} {vs : List V} {i : Nat} {d : D} {v : V}, RDs K ι Z H ds vs → RD K ι Z H d v → RDs K ι Z H (ds.set i d) (vs.set i v)
  | [], _, _, _, _, h, _ => by cases h; exact rfl
  | d :: ds, _, 0, d', v', h, q => by
    obtain ⟨v, r, rfl, h1, h2⟩ := h
    exact ⟨v', r, rfl, q, h2⟩
  | d :: ds, _, i + 1, d', v', h, q => by
    obtain ⟨v, r, rfl, h1, h2⟩ := h
    exact ⟨v, r.set i v', rfl, h1, RDs.set h2 q⟩
theorem RDs.rep : ∀ {ds : List D} {vs : List V} (k : Nat), RDs K ι Z H ds vs → RDs K ι Z H (List.replicate k ds).flatten (List.replicate k vs).flatten
  | _, _, 0, _ => rfl
  | ds, vs, k + 1, h => by
    simp only [List.replicate_succ, List.flatten_cons]
    exact RDs.app h (RDs.rep k h)
theorem RDs.ints : ∀ (xs : List Int), RDs K ι Z H (xs.map D.int) (xs.map V.int)
  | [] => rfl
  | x :: xs => ⟨.int x, _, rfl, rfl, RDs.ints xs⟩
theorem RDs.ofInts : ∀ {xs : List Int} {vs : List V}, RDs K ι Z H (xs.map D.int) vs → vs = xs.map V.int
  | [], _, h => h
  | x :: xs, _, h => by
    obtain ⟨v, r, rfl, h1, h2⟩ := h
    have h1' : v = V.int x := h1
    rw [h1', RDs.ofInts h2]; rfl
end

/-- the store's objects lie where ι says -/
structure SR (K : PySem.W.Frag) (ι Z : List Addr) (H : Hp) (S : Store) : Prop where
  len : S.length = ι.length
  nd : ι.Nodup
  zt : ∀ z, z ∈ Z → (∃ o, H z = some o) ∧ z ∉ ι
  ob : ∀ (n : Nat) (a : Addr), ι[n]? = some a → ∃ (ds : List D) (vs : List V), S[n]? = some (O.lst ds) ∧ H a = some (.lst vs) ∧ RDs K ι Z H ds vs
section
variable {K : PySem.W.Frag} {ι Z : List Addr} {H H' : Hp} {S : Store}
theorem SR.ex (s : SR K ι Z H S) (e : Ex H H') : SR K ι Z H' S :=
  ⟨s.len, s.nd, fun z m => ⟨let ⟨o, h⟩ := (s.zt z m).1; ⟨o, e z o h⟩, (s.zt z m).2⟩, fun n a h => by
    obtain ⟨ds, vs, h1, h2, h3⟩ := s.ob n a h
    exact ⟨ds, vs, h1, e _ _ h2, RDs.ext (Ext.ex e) h3⟩⟩
theorem SR.there (s : SR K ι Z H S) {a : Addr} (h : a ∈ ι) : ∃ vs, H a = some (.lst vs) := by
  obtain ⟨n, hn⟩ := List.mem_iff_getElem?.mp h
  obtain ⟨_, vs, _, h2, _⟩ := s.ob n a hn
  exact ⟨vs, h2⟩
theorem SR.free (s : SR K ι Z H S) {p : Addr} (h : H p = none) : p ∉ ι := fun m => by
  obtain ⟨vs, q⟩ := s.there m
  rw [h] at q; cases q
theorem SR.freeZ (s : SR K ι Z H S) {p : Addr} (h : H p = none) : p ∉ Z := fun m => by
  obtain ⟨⟨o, q⟩, _⟩ := s.zt p m
  rw [h] at q; cases q
theorem SR.forbid (s : SR K ι Z H S) {p : Addr} {o : HO} (hp : H p = none) : SR K ι (p :: Z) (upd H p o) S := by
  have e : Ex H (upd H p o) := Ex.upd hp
  refine ⟨s.len, s.nd, fun z m => ?_, fun n a h => ?_⟩
  · rcases List.mem_cons.mp m with rfl | m
    · exact ⟨⟨o, upd_same⟩, s.free hp⟩
    · exact ⟨let ⟨o, h⟩ := (s.zt z m).1; ⟨o, e z o h⟩, (s.zt z m).2⟩
  · obtain ⟨ds, vs, h1, h2, h3⟩ := s.ob n a h
    exact ⟨ds, vs, h1, e _ _ h2, RDs.ext (Ext.ex e) (RDs.forbid hp h3)⟩
theorem SR.weak (s : SR K ι Z H S) {Z' : List Addr} (e : ∀ a, a ∈ Z' → a ∈ Z) : SR K ι Z' H S :=
  ⟨s.len, s.nd, fun z m => s.zt z (e z m), fun n a h => let ⟨ds, vs, h1, h2, h3⟩ := s.ob n a h; ⟨ds, vs, h1, h2, RDs.weak e h3⟩⟩
/-- the forbidden list at p becomes the store's newest -/
theorem SR.own {p : Addr} {ds : List D} {vs : List V} (s : SR K ι (p :: Z) H S) (hz : p ∉ Z) (h : H p = some (.lst vs)) (r : RDs K ι (p :: Z) H ds vs) : SR K (ι ++ [p]) Z H (S ++ [O.lst ds]) := by
  have np : p ∉ ι := (s.zt p List.mem_cons_self).2
  refine ⟨by simp [s.len], ?_, fun z m => ⟨(s.zt z (List.mem_cons_of_mem _ m)).1, fun q => ?_⟩, fun n a hn => ?_⟩
  · rw [List.nodup_append]
    exact ⟨s.nd, by simp, fun a ha b hb => by rw [List.mem_singleton.mp hb]; rintro rfl; exact np ha⟩
  · rcases List.mem_append.mp q with q | q
    · exact (s.zt z (List.mem_cons_of_mem _ m)).2 q
    · rw [List.mem_singleton.mp q] at m; exact hz m
  · by_cases hl : n < ι.length
    · rw [List.getElem?_append_left hl] at hn
      obtain ⟨ds', vs', h1, h2, h3⟩ := s.ob n a hn
      exact ⟨ds', vs', by rw [List.getElem?_append_left (by rw [s.len]; exact hl)]; exact h1, h2, RDs.own h3⟩
    · have e : n = ι.length := by
        have := (List.getElem?_eq_some_iff.mp hn).1
        simp at this; omega
      subst e
      have e2 : a = p := by simpa using hn.symm
      subst e2
      refine ⟨ds, vs, ?_, h, RDs.own r⟩
      rw [← s.len]; simp
theorem Ext.own {p : Addr} {ι ι' : List Addr} {H H' : Hp} (e : Ext ι ι' H H') (hp : H p = none) : Ext ι (ι' ++ [p]) H H' where
  pre := by obtain ⟨m, rfl⟩ := e.pre; exact ⟨m ++ [p], by simp⟩
  keep := e.keep
  new := fun a m n => by
    rcases List.mem_append.mp m with m | m
    · exact e.new a m n
    · rw [List.mem_singleton.mp m]; exact hp
  tk := e.tk
  fk := e.fk
/-- an object of the store is written -/
theorem SR.put {n : Nat} {a : Addr} {ds : List D} {vs : List V} (s : SR K ι Z H S) (hn : ι[n]? = some a) (r : RDs K ι Z H ds vs) :
    Ext ι ι H (upd H a (.lst vs)) ∧ SR K ι Z (upd H a (.lst vs)) (S.set n (O.lst ds)) := by
  obtain ⟨ds0, vs0, g1, g2, g3⟩ := s.ob n a hn
  have e : Ext ι ι H (upd H a (.lst vs)) := by
    refine ⟨⟨[], by simp⟩, fun b o h nb => ?_, fun b h nb => absurd h nb, fun b xs h => ?_, fun b o u h => ?_⟩
    · rw [upd_ne]; exact h
      rintro rfl; exact nb (List.mem_of_getElem? hn)
    · rw [upd_ne]; exact h
      rintro rfl; rw [g2] at h; cases h
    · rw [upd_ne]; exact h
      rintro rfl; rw [g2] at h; cases h
  refine ⟨e, by simpa using s.len, s.nd, fun z m => ?_, fun k b hb => ?_⟩
  · obtain ⟨⟨o, h⟩, q⟩ := s.zt z m
    exact ⟨⟨o, e.keep z o h q⟩, q⟩
  · by_cases hk : k = n
    · subst hk
      rw [hn] at hb; cases hb
      have hl : k < S.length := by rw [s.len]; exact (List.getElem?_eq_some_iff.mp hn).1
      exact ⟨ds, vs, by rw [List.getElem?_set_self hl], upd_same, RDs.ext e r⟩
    · have hab : b ≠ a := by
        rintro rfl
        exact hk (nodup_ix' s.nd hb hn)
      obtain ⟨ds', vs', h1, h2, h3⟩ := s.ob k b hb
      exact ⟨ds', vs', by rw [List.getElem?_set_ne (Ne.symm hk)]; exact h1, by rw [upd_ne hab]; exact h2, RDs.ext e h3⟩
where
  nodup_ix' {l : List Addr} (hN : l.Nodup) {i j : Nat} {x : Addr} (a : l[i]? = some x) (b : l[j]? = some x) : i = j := by
    obtain ⟨h1, e1⟩ := List.getElem?_eq_some_iff.mp a
    obtain ⟨h2, e2⟩ := List.getElem?_eq_some_iff.mp b
    exact (List.getElem_inj hN).mp (e1.trans e2.symm)
end

/-- the slots -/
structure RE (K : PySem.W.Frag) (ι Z : List Addr) (H : Hp) (ρ : Envm) (σ : L2.St) : Prop where
  len : σ.length = ρ.length
  at_ : ∀ (i : Nat) (d : D), ρ[i]? = some (some d) → ∃ v, σ[i]? = some (some v) ∧ RD K ι Z H d v
section
variable {K : PySem.W.Frag} {ι ι' Z : List Addr} {H H' : Hp} {ρ : Envm} {σ : L2.St}
theorem RE.ext (r : RE K ι Z H ρ σ) (e : Ext ι ι' H H') : RE K ι' Z H' ρ σ := ⟨r.len, fun i d h => let ⟨v, h1, h2⟩ := r.at_ i d h; ⟨v, h1, h2.ext e⟩⟩
theorem RE.forbid (r : RE K ι Z H ρ σ) {p : Addr} (hp : H p = none) : RE K ι (p :: Z) H ρ σ := ⟨r.len, fun i d h => let ⟨v, h1, h2⟩ := r.at_ i d h; ⟨v, h1, h2.forbid hp⟩⟩
theorem RE.weak (r : RE K ι Z H ρ σ) {Z' : List Addr} (e : ∀ a, a ∈ Z' → a ∈ Z) : RE K ι Z' H ρ σ := ⟨r.len, fun i d h => let ⟨v, h1, h2⟩ := r.at_ i d h; ⟨v, h1, h2.weak e⟩⟩
theorem RE.own {p : Addr} (r : RE K ι (p :: Z) H ρ σ) : RE K (ι ++ [p]) Z H ρ σ := ⟨r.len, fun i d h => let ⟨v, h1, h2⟩ := r.at_ i d h; ⟨v, h1, h2.own⟩⟩
theorem RE.set (r : RE K ι Z H ρ σ) {i : Nat} {d : D} {v : V} (q : RD K ι Z H d v) : RE K ι Z H (ρ.set i (some d)) (σ.set i (some v)) := by
  refine ⟨by simp [r.len], fun j d' h => ?_⟩
  by_cases hj : j = i
  · subst hj
    by_cases hl : j < ρ.length
    · rw [List.getElem?_set_self hl] at h
      cases h
      exact ⟨v, by rw [List.getElem?_set_self (by rw [r.len]; exact hl)], q⟩
    · rw [List.getElem?_eq_none (by simpa using hl)] at h; cases h
  · rw [List.getElem?_set_ne (Ne.symm hj)] at h
    obtain ⟨v', h1, h2⟩ := r.at_ j d' h
    exact ⟨v', by rw [List.getElem?_set_ne (Ne.symm hj)]; exact h1, h2⟩
theorem RE.unset (r : RE K ι Z H ρ σ) (i : Nat) : RE K ι Z H (ρ.set i none) (σ.set i none) := by
  refine ⟨by simp [r.len], fun j d' h => ?_⟩
  by_cases hj : j = i
  · subst hj
    by_cases hl : j < ρ.length
    · rw [List.getElem?_set_self hl] at h; cases h
    · rw [List.getElem?_eq_none (by simpa using hl)] at h; cases h
  · rw [List.getElem?_set_ne (Ne.symm hj)] at h
    obtain ⟨v', h1, h2⟩ := r.at_ j d' h
    exact ⟨v', by rw [List.getElem?_set_ne (Ne.symm hj)]; exact h1, h2⟩
end
end Sm


set_option Elab.async false
set_option linter.all false
set_option maxRecDepth 100000
set_option maxHeartbeats 1000000
namespace Sm
open PySem L2

/-- an exception as data: its class's name, its fields -/
structure Xd where
  nm : Str
  fl : List (Str × D)
inductive R (α : Type) where
  | ok (a : α) (S : Store)
  | exc (x : Xd) (S : Store)
  | bad
def R.bind {α β : Type} (r : R α) (k : α → Store → R β) : R β := match r with
  | .ok a S => k a S
  | .exc x S => .exc x S
  | .bad => .bad
abbrev F (α : Type) := Envm → Store → R α
def RX (K : PySem.W.Frag) (mg : Str → Option Value) (ι Z : List Addr) (H : Hp) (x : Xd) (cls : Value) (dd : Option Addr) : Prop :=
  ∃ C, mg x.nm = some (.ref C) ∧ cls = .ref C ∧ (x.fl = [] → dd = none) ∧
    (x.fl ≠ [] → ∃ p fs, dd = some p ∧ H p = some (.xd fs) ∧ ∀ f d, x.fl.lookup f = some d → ∃ v, fs.lookup f = some v ∧ RD K ι Z H d v)

section
variable {α β α' β' : Type}
/-- what is wanted behind a result -/
def Pg (K : PySem.W.Frag) (mg : Str → Option Value) (rel : List Addr → List Addr → Hp → α → β → Prop) (ι Z : List Addr) (H : Hp) (E : XK) (Q : β → Hp → Prop) : R α → Prop
  | .ok a S' => ∀ ι' H' b, Ext ι ι' H H' → SR K ι' Z H' S' → rel ι' Z H' a b → Q b H'
  | .exc x S' => ∀ ι' H' cls dd, Ext ι ι' H H' → SR K ι' Z H' S' → RX K mg ι' Z H' x cls dd → E cls dd H'
  | .bad => False
def tG (K : PySem.W.Frag) (mg : Str → Option Value) (rel : List Addr → List Addr → Hp → α → β → Prop) (W : WX) (f : F α) : L2.St → Hp → (β → Hp → Prop) → Prop := fun σ H Q =>
  ∃ ι Z ρ S, RE K ι Z H ρ σ ∧ SR K ι Z H S ∧ Pg K mg rel ι Z H (fun c d H' => W c d σ H') Q (f ρ S)
variable {K : PySem.W.Frag} {mg : Str → Option Value} {rel : List Addr → List Addr → Hp → α → β → Prop} {rel' : List Addr → List Addr → Hp → α' → β' → Prop} {ι ι1 Z : List Addr} {H H1 : Hp} {E : XK}
theorem Pg.ext {Q : β → Hp → Prop} {r : R α} (e : Ext ι ι1 H H1) (h : Pg K mg rel ι Z H E Q r) : Pg K mg rel ι1 Z H1 E Q r := by
  cases r with
  | ok a S => exact fun ι' H' b e' => h ι' H' b (e.trans e')
  | exc x S => exact fun ι' H' c d e' => h ι' H' c d (e.trans e')
  | bad => exact h
theorem Pg.bnd {Q : β' → Hp → Prop} {Q1 : β → Hp → Prop} {r : R α} {k : α → Store → R α'} (h : Pg K mg rel' ι Z H E Q (r.bind k))
    (hk : ∀ a S' ι' H' b, Ext ι ι' H H' → SR K ι' Z H' S' → rel ι' Z H' a b → Pg K mg rel' ι' Z H' E Q (k a S') → Q1 b H') : Pg K mg rel ι Z H E Q1 r := by
  cases r with
  | ok a S => exact fun ι' H' b e s q => hk a S ι' H' b e s q (Pg.ext e h)
  | exc x S => exact h
  | bad => exact h
theorem Pg.imp {Q Q1 : β → Hp → Prop} {r : R α} (h : Pg K mg rel ι Z H E Q r) (hk : ∀ ι' H' b, Ext ι ι' H H' → Q b H' → Q1 b H') : Pg K mg rel ι Z H E Q1 r := by
  cases r with
  | ok a S => exact fun ι' H' b e s q => hk ι' H' b e (h ι' H' b e s q)
  | exc x S => exact h
  | bad => exact h
end
def relB : List Addr → List Addr → Hp → Bool → Bool → Prop := fun _ _ _ a b => a = b
abbrev tE (K : PySem.W.Frag) (mg : Str → Option Value) (W : WX) (f : F D) : TE := tG K mg (RD K) W f
abbrev tT (K : PySem.W.Frag) (mg : Str → Option Value) (W : WX) (f : F Bool) : TT := tG K mg relB W f
abbrev tA (K : PySem.W.Frag) (mg : Str → Option Value) (W : WX) (f : F (List D)) : TA := tG K mg (RDs K) W f

/-! ### stronger readings -/
section
variable {X : Cx}
theorem peImp {e : Expr} {t t' : TE} (h : PE X e t) (q : ∀ σ H Q, t' σ H Q → t σ H Q) : PE X e t' := ⟨fun pins s σ H Q I w => h.run pins s σ H Q I (q σ H Q w)⟩
theorem ptImp {e : Expr} {t t' : TT} (h : PT X e t) (q : ∀ σ H Q, t' σ H Q → t σ H Q) : PT X e t' := ⟨fun pins s σ H Q I w => h.run pins s σ H Q I (q σ H Q w)⟩
theorem pwImp {e : Expr} {t t' : TT} (h : PW X e t) (q : ∀ σ H Q, t' σ H Q → t σ H Q) : PW X e t' := ⟨fun wh pins s σ H Q I w => h.run wh pins s σ H Q I (q σ H Q w)⟩
theorem paImp {e : List Expr} {t t' : TA} (h : PA X e t) (q : ∀ σ H Q, t' σ H Q → t σ H Q) : PA X e t' := ⟨fun pos pins s σ H Q I w => h.run pos pins s σ H Q I (q σ H Q w)⟩
theorem psImp {e : Stmt} {t t' : TS} (h : PS X e t) (q : ∀ D σ H, t' D σ H → t D σ H) : PS X e t' := ⟨fun pins s σ H D I w => h.run pins s σ H D I (q D σ H w)⟩
theorem pssImp {e : List Stmt} {t t' : TS} (h : PSs X e t) (q : ∀ D σ H, t' D σ H → t D σ H) : PSs X e t' := ⟨fun pins s σ H D I w => h.run pins s σ H D I (q D σ H w)⟩
theorem piImp {tg it : Expr} {t t' : TI} (h : PI X tg it t) (q : ∀ σ H R, t' σ H R → t σ H R) : PI X tg it t' := ⟨fun pins s σ H R I w => h.run pins s σ H R I (q σ H R w)⟩
theorem piOr {tg it : Expr} {t t' : TI} (h : PI X tg it t) (h' : PI X tg it t') : PI X tg it (fun σ H R => t σ H R ∨ t' σ H R) := ⟨fun pins s σ H R I w => by
  rcases w with w | w
  · exact h.run pins s σ H R I w
  · exact h'.run pins s σ H R I w⟩
theorem peOr {e : Expr} {t t' : TE} (h : PE X e t) (h' : PE X e t') : PE X e (fun σ H R => t σ H R ∨ t' σ H R) := ⟨fun pins s σ H R I w => by
  rcases w with w | w
  · exact h.run pins s σ H R I w
  · exact h'.run pins s σ H R I w⟩
end

/-! ### names, constants -/
def eV (i : Nat) : F D := fun ρ S => match ρ[i]? with
  | some (some d) => .ok d S
  | _ => .bad
def eC (d : D) : F D := fun _ S => .ok d S
/-- an operation on data that changes nothing -/
def eO1 (g : Store → D → Option D) (fa : F D) : F D := fun ρ S => (fa ρ S).bind fun a S1 => match g S1 a with
  | some d => .ok d S1
  | none => .bad
def eO2 (g : Store → D → D → Option D) (fa fb : F D) : F D := fun ρ S => (fa ρ S).bind fun a S1 => (fb ρ S1).bind fun b S2 => match g S2 a b with
  | some d => .ok d S2
  | none => .bad
/-- a built-in's call -/
def eB (g : Store → List D → Option D) (fa : F (List D)) : F D := fun ρ S => (fa ρ S).bind fun a S1 => match g S1 a with
  | some d => .ok d S1
  | none => .bad
def aN : F (List D) := fun _ S => .ok [] S
def aC (fa : F D) (fr : F (List D)) : F (List D) := fun ρ S => (fa ρ S).bind fun a S1 => (fr ρ S1).bind fun r S2 => .ok (a :: r) S2
/-- a display of a tuple -/
def eT (fa : F (List D)) : F D := fun ρ S => (fa ρ S).bind fun a S1 => if a.length ≤ 100000 then .ok (.tup a) S1 else .bad
/-- a list made, as a value -/
def eL (fa : F (List D)) : F D := fun ρ S => (fa ρ S).bind fun a S1 => .ok (.lst a) S1
/-- a list made, as an object of the store -/
def eN (fa : F (List D)) : F D := fun ρ S => (fa ρ S).bind fun a S1 => .ok (.ptr S1.length) (S1 ++ [.lst a])
/-- a list displayed -/
def lD (fa : F (List D)) : F (List D) := fun ρ S => (fa ρ S).bind fun a S1 => if a.length ≤ 100000 then .ok a S1 else .bad
def eIf (ft : F Bool) (fa fb : F D) : F D := fun ρ S => (ft ρ S).bind fun b S1 => if b then fa ρ S1 else fb ρ S1
/-- a test -/
def tV (f : F D) : F Bool := fun ρ S => (f ρ S).bind fun d S1 => match d with
  | .bl b => .ok b S1
  | _ => .bad
def tNo (f : F Bool) : F Bool := fun ρ S => (f ρ S).bind fun b S1 => .ok (!b) S1
def tAn (f g : F Bool) : F Bool := fun ρ S => (f ρ S).bind fun b S1 => if b then g ρ S1 else .ok false S1
def tOr_ (f g : F Bool) : F Bool := fun ρ S => (f ρ S).bind fun b S1 => if b then .ok true S1 else g ρ S1
def eAn (f g : F D) : F D := fun ρ S => (f ρ S).bind fun d S1 => match d with
  | .bl b => if b then g ρ S1 else .ok (.bl false) S1
  | _ => .bad
def eOr (f g : F D) : F D := fun ρ S => (f ρ S).bind fun d S1 => match d with
  | .bl b => if b then .ok (.bl true) S1 else g ρ S1
  | _ => .bad
def eNo (f : F D) : F D := fun ρ S => (f ρ S).bind fun d S1 => match d with
  | .bl b => .ok (.bl (!b)) S1
  | _ => .bad

/-! ### what an operation on values must meet -/
def OpS (K : PySem.W.Frag) (r : R2) (g : Store → D → D → Option D) : Prop :=
  ∀ (ι Z : List Addr) (H : Hp) (S : Store) (a b d : D) (va vb : V) (Q : VK), SR K ι Z H S → RD K ι Z H a va → RD K ι Z H b vb → g S a b = some d →
    (∀ H' v, Ex H H' → RD K ι Z H' d v → Q v H') → r va vb H Q
def UnS (K : PySem.W.Frag) (r : V → Hp → VK → Prop) (g : Store → D → Option D) : Prop :=
  ∀ (ι Z : List Addr) (H : Hp) (S : Store) (a d : D) (va : V) (Q : VK), SR K ι Z H S → RD K ι Z H a va → g S a = some d →
    (∀ H' v, Ex H H' → RD K ι Z H' d v → Q v H') → r va H Q
def CaS (K : PySem.W.Frag) (r : List V → Hp → VK → Prop) (g : Store → List D → Option D) : Prop :=
  ∀ (ι Z : List Addr) (H : Hp) (S : Store) (as : List D) (d : D) (vs : List V) (Q : VK), SR K ι Z H S → RDs K ι Z H as vs → g S as = some d →
    (∀ H' v, Ex H H' → RD K ι Z H' d v → Q v H') → r vs H Q
section
variable {K : PySem.W.Frag} {mg : Str → Option Value} {W : WX} {fa fb : F D} {σ : L2.St} {H : Hp} {Q : VK}
theorem i_op {r : R2} {g : Store → D → D → Option D} (hr : OpS K r g) (h : tE K mg W (eO2 g fa fb) σ H Q) : tOp r (tE K mg W fa) (tE K mg W fb) σ H Q := by
  obtain ⟨ι, Z, ρ, S, hρ, hS, h⟩ := h
  refine ⟨ι, Z, ρ, S, hρ, hS, Pg.bnd h fun a S1 ι1 H1 va e1 s1 ra h1 => ?_⟩
  refine ⟨ι1, Z, ρ, S1, hρ.ext e1, s1, Pg.bnd h1 fun b S2 ι2 H2 vb e2 s2 rb h2 => ?_⟩
  cases hg : g S2 a b with
  | none => rw [hg] at h2; exact h2.elim
  | some d =>
    rw [hg] at h2
    exact hr ι2 Z H2 S2 a b d va vb Q s2 (ra.ext e2) rb hg fun H' v e rd => h2 ι2 H' v (Ext.ex e) (s2.ex e) rd
theorem i_un {r : V → Hp → VK → Prop} {g : Store → D → Option D} (hr : UnS K r g) (h : tE K mg W (eO1 g fa) σ H Q) : tUn r (tE K mg W fa) σ H Q := by
  obtain ⟨ι, Z, ρ, S, hρ, hS, h⟩ := h
  refine ⟨ι, Z, ρ, S, hρ, hS, Pg.bnd h fun a S1 ι1 H1 va e1 s1 ra h1 => ?_⟩
  cases hg : g S1 a with
  | none => rw [hg] at h1; exact h1.elim
  | some d =>
    rw [hg] at h1
    exact hr ι1 Z H1 S1 a d va Q s1 ra hg fun H' v e rd => h1 ι1 H' v (Ext.ex e) (s1.ex e) rd
theorem i_cb {r : List V → Hp → VK → Prop} {g : Store → List D → Option D} {fs : F (List D)} (hr : CaS K r g) (h : tE K mg W (eB g fs) σ H Q) : tCB r (tA K mg W fs) σ H Q := by
  obtain ⟨ι, Z, ρ, S, hρ, hS, h⟩ := h
  refine ⟨ι, Z, ρ, S, hρ, hS, Pg.bnd h fun a S1 ι1 H1 va e1 s1 ra h1 => ?_⟩
  cases hg : g S1 a with
  | none => rw [hg] at h1; exact h1.elim
  | some d =>
    rw [hg] at h1
    exact hr ι1 Z H1 S1 a d va Q s1 ra hg fun H' v e rd => h1 ι1 H' v (Ext.ex e) (s1.ex e) rd
end

/-! ### the rules -/
section
variable {X : Cx} {W : WX} {a b c : Expr} {fa fb : F D} {pos : Pos}
theorem se_v (i : Nat) {x : Str} (hN : X.N[i]? = some x := by rfl) (hv : Vis X.env.scope x := by first | exact Or.inl rfl | exact Or.inr (Or.inl rfl) | exact Or.inr (Or.inr rfl)) (hd : (x == ("__debug__" : Str)) = false := by decide)
    (hcd : (x == ("__classdict__" : Str)) = false := by decide) : PE X (.Name x pos) (tE X.K X.mg W (eV i)) :=
  peImp (pv i hN hv hd hcd) fun σ H Q ⟨ι, Z, ρ, S, hρ, hS, h⟩ => by
    unfold eV at h
    cases hi : ρ[i]? with
    | none => rw [hi] at h; exact h.elim
    | some o =>
      rw [hi] at h
      cases o with
      | none => exact h.elim
      | some d =>
        obtain ⟨v, h1, h2⟩ := hρ.at_ i d hi
        exact ⟨v, h1, h ι H v (Ext.refl _ _) hS h2⟩
theorem se_int {i : Int} {j : Nat} : PE X (.Constant (.int i) j pos) (tE X.K X.mg W (eC (.int i))) := peImp pe_int fun σ H Q ⟨ι, Z, ρ, S, hρ, hS, h⟩ => h ι H _ (Ext.refl _ _) hS rfl
theorem se_bl {i : Bool} {j : Nat} : PE X (.Constant (.bool i) j pos) (tE X.K X.mg W (eC (.bl i))) := peImp pe_bl fun σ H Q ⟨ι, Z, ρ, S, hρ, hS, h⟩ => h ι H _ (Ext.refl _ _) hS rfl
theorem se_non {j : Nat} : PE X (.Constant .none j pos) (tE X.K X.mg W (eC .non)) := peImp pe_non fun σ H Q ⟨ι, Z, ρ, S, hρ, hS, h⟩ => h ι H _ (Ext.refl _ _) hS rfl
theorem se_str {i : Str} {j : Nat} : PE X (.Constant (.str i) j pos) (tE X.K X.mg W (eC (.str i))) := peImp pe_str fun σ H Q ⟨ι, Z, ρ, S, hρ, hS, h⟩ => h ι H _ (Ext.refl _ _) hS rfl
theorem se_op {op : Operator} {r : R2} {g : Store → D → D → Option D} (ho : OpR X (binaryOp op) r) (hs : OpS X.K r g) (ha : PE X a (tE X.K X.mg W fa)) (hb : PE X b (tE X.K X.mg W fb)) :
    PE X (.BinOp a op b pos) (tE X.K X.mg W (eO2 g fa fb)) := peImp (pe_op ho ha hb) fun σ H Q h => i_op hs h
theorem se_un {op : UnaryOp} {r : V → Hp → VK → Prop} {g : Store → D → Option D} (ho : UnR X (unaryOp op) r) (hs : UnS X.K r g) (ha : PE X a (tE X.K X.mg W fa)) :
    PE X (.UnaryOp op a pos) (tE X.K X.mg W (eO1 g fa)) := peImp (pe_un ho ha) fun σ H Q h => i_un hs h
theorem se_cmp {op : CmpOp} {r : R2} {g : Store → D → D → Option D} (ho : OpR X (compareOp op) r) (hs : OpS X.K r g) (ha : PE X a (tE X.K X.mg W fa)) (hb : PE X b (tE X.K X.mg W fb)) (hm : behindInMarks op b = false) :
    PE X (.Compare a [op] [b] pos) (tE X.K X.mg W (eO2 g fa fb)) := peImp (pe_cmpR ho ha hb hm) fun σ H Q h => i_op hs h
theorem se_ix {r : R2} {g : Store → D → D → Option D} (ho : IxR X r) (hs : OpS X.K r g) (ha : PE X a (tE X.K X.mg W fa)) (hb : PE X b (tE X.K X.mg W fb)) (hp : PlainIx b) :
    PE X (.Subscript a b pos) (tE X.K X.mg W (eO2 g fa fb)) := peImp (pe_ix ho ha hb hp) fun σ H Q h => i_op hs h
/-- a test by its value -/
theorem i_tv {t : TE} {σ : L2.St} {H : Hp} {Q : Bool → Hp → Prop} {K : PySem.W.Frag} {mg : Str → Option Value} {f : F D} (q : ∀ Q, tE K mg W f σ H Q → t σ H Q) (h : tT K mg W (tV f) σ H Q) :
    t σ H fun x H' => ∃ k, x = .bl k ∧ Q k H' := by
  obtain ⟨ι, Z, ρ, S, hρ, hS, h⟩ := h
  refine q _ ⟨ι, Z, ρ, S, hρ, hS, Pg.bnd h fun d S1 ι1 H1 v e1 s1 rd h1 => ?_⟩
  cases d with
  | bl k =>
    have rv : v = .bl k := rd
    exact ⟨k, rv, h1 ι1 H1 k (Ext.refl _ _) s1 rfl⟩
  | _ => exact h1.elim
theorem st_cmp {op : CmpOp} {r : R2} {g : Store → D → D → Option D} (ho : OpR X (compareOp op) r) (hs : OpS X.K r g) (ha : PE X a (tE X.K X.mg W fa)) (hb : PE X b (tE X.K X.mg W fb)) (hm : behindInMarks op b = false) :
    PT X (.Compare a [op] [b] pos) (tT X.K X.mg W (tV (eO2 g fa fb))) := ptImp (pt_cmpR ho ha hb hm) fun σ H Q h => i_tv (fun Q h => i_op hs h) h
/-- any expression whose value is a bool, as a test -/
theorem st_val {f : F D} (h : PE X a (tE X.K X.mg W f)) (he : ∀ whole, isTrue a X.env whole = (do let v ← whole; standAt a.pos; holding [v] (truthy v)) := by intro _; rfl) :
    PT X a (tT X.K X.mg W (tV f)) := ptImp (pt_val h he) fun σ H Q h => i_tv (fun Q h => h) h
theorem st_no {f : F Bool} (h : PT X a (tT X.K X.mg W f)) : PT X (.UnaryOp .Not a pos) (tT X.K X.mg W (tNo f)) := ptImp (pt_not h) fun σ H Q h => by
  obtain ⟨ι, Z, ρ, S, hρ, hS, h⟩ := h
  refine ⟨ι, Z, ρ, S, hρ, hS, Pg.bnd h fun d S1 ι1 H1 v e1 s1 rd h1 => ?_⟩
  have rv : d = v := rd
  subst rv
  exact h1 ι1 H1 _ (Ext.refl _ _) s1 rfl
theorem sw_and1 {f : F Bool} (h : PT X a (tT X.K X.mg W f)) : PW X (.BoolOp .And [a] pos) (tT X.K X.mg W f) := pw_and1 h
theorem sw_or1 {f : F Bool} (h : PT X a (tT X.K X.mg W f)) : PW X (.BoolOp .Or [a] pos) (tT X.K X.mg W f) := pw_or1 h
theorem sw_and {rest : List Expr} {f g : F Bool} (h : PT X a (tT X.K X.mg W f)) (h2 : PW X (.BoolOp .And (b :: rest) pos) (tT X.K X.mg W g)) : PW X (.BoolOp .And (a :: b :: rest) pos) (tT X.K X.mg W (tAn f g)) :=
  pwImp (pw_and h h2) fun σ H Q h => by
    obtain ⟨ι, Z, ρ, S, hρ, hS, h⟩ := h
    refine ⟨ι, Z, ρ, S, hρ, hS, Pg.bnd h fun d S1 ι1 H1 v e1 s1 rd h1 => ?_⟩
    have rv : d = v := rd
    subst rv
    cases d with
    | true => exact ⟨ι1, Z, ρ, S1, hρ.ext e1, s1, h1⟩
    | false => exact h1 ι1 H1 _ (Ext.refl _ _) s1 rfl
theorem sw_or {rest : List Expr} {f g : F Bool} (h : PT X a (tT X.K X.mg W f)) (h2 : PW X (.BoolOp .Or (b :: rest) pos) (tT X.K X.mg W g)) : PW X (.BoolOp .Or (a :: b :: rest) pos) (tT X.K X.mg W (tOr_ f g)) :=
  pwImp (pw_or h h2) fun σ H Q h => by
    obtain ⟨ι, Z, ρ, S, hρ, hS, h⟩ := h
    refine ⟨ι, Z, ρ, S, hρ, hS, Pg.bnd h fun d S1 ι1 H1 v e1 s1 rd h1 => ?_⟩
    have rv : d = v := rd
    subst rv
    cases d with
    | false => exact ⟨ι1, Z, ρ, S1, hρ.ext e1, s1, h1⟩
    | true => exact h1 ι1 H1 _ (Ext.refl _ _) s1 rfl
theorem se_one {op : BoolOp} {f : F D} (h : PE X a (tE X.K X.mg W f)) : PE X (.BoolOp op [a] pos) (tE X.K X.mg W f) := pe_one h
theorem se_and {rest : List Expr} {f g : F D} (h : PE X a (tE X.K X.mg W f)) (h2 : PE X (.BoolOp .And (b :: rest) pos) (tE X.K X.mg W g)) : PE X (.BoolOp .And (a :: b :: rest) pos) (tE X.K X.mg W (eAn f g)) :=
  peImp (pe_and h h2) fun σ H Q h => by
    obtain ⟨ι, Z, ρ, S, hρ, hS, h⟩ := h
    refine ⟨ι, Z, ρ, S, hρ, hS, Pg.bnd h fun d S1 ι1 H1 v e1 s1 rd h1 => ?_⟩
    cases d with
    | bl k =>
      have rv : v = .bl k := rd
      refine ⟨k, rv, ?_⟩
      cases k with
      | true => exact ⟨ι1, Z, ρ, S1, hρ.ext e1, s1, h1⟩
      | false => exact h1 ι1 H1 _ (Ext.refl _ _) s1 rfl
    | _ => exact h1.elim
theorem se_or {rest : List Expr} {f g : F D} (h : PE X a (tE X.K X.mg W f)) (h2 : PE X (.BoolOp .Or (b :: rest) pos) (tE X.K X.mg W g)) : PE X (.BoolOp .Or (a :: b :: rest) pos) (tE X.K X.mg W (eOr f g)) :=
  peImp (pe_or h h2) fun σ H Q h => by
    obtain ⟨ι, Z, ρ, S, hρ, hS, h⟩ := h
    refine ⟨ι, Z, ρ, S, hρ, hS, Pg.bnd h fun d S1 ι1 H1 v e1 s1 rd h1 => ?_⟩
    cases d with
    | bl k =>
      have rv : v = .bl k := rd
      refine ⟨k, rv, ?_⟩
      cases k with
      | false => exact ⟨ι1, Z, ρ, S1, hρ.ext e1, s1, h1⟩
      | true => exact h1 ι1 H1 _ (Ext.refl _ _) s1 rfl
    | _ => exact h1.elim
theorem se_no {f : F D} (h : PE X a (tE X.K X.mg W f)) : PE X (.UnaryOp .Not a pos) (tE X.K X.mg W (eNo f)) := peImp (pe_not h) fun σ H Q h => by
  obtain ⟨ι, Z, ρ, S, hρ, hS, h⟩ := h
  refine ⟨ι, Z, ρ, S, hρ, hS, Pg.bnd h fun d S1 ι1 H1 v e1 s1 rd h1 => ?_⟩
  cases d with
  | bl k =>
    have rv : v = .bl k := rd
    exact ⟨k, rv, h1 ι1 H1 _ (Ext.refl _ _) s1 rfl⟩
  | _ => exact h1.elim
theorem se_if {f : F Bool} (hc : PT X c (tT X.K X.mg W f)) (ha : PE X a (tE X.K X.mg W fa)) (hb : PE X b (tE X.K X.mg W fb)) : PE X (.IfExp c a b pos) (tE X.K X.mg W (eIf f fa fb)) :=
  peImp (pe_ifExp hc ha hb) fun σ H Q h => by
    obtain ⟨ι, Z, ρ, S, hρ, hS, h⟩ := h
    refine ⟨ι, Z, ρ, S, hρ, hS, Pg.bnd h fun d S1 ι1 H1 v e1 s1 rd h1 => ?_⟩
    have rv : d = v := rd
    subst rv
    cases d with
    | true => exact ⟨ι1, Z, ρ, S1, hρ.ext e1, s1, h1⟩
    | false => exact ⟨ι1, Z, ρ, S1, hρ.ext e1, s1, h1⟩
theorem sa_n : PA X [] (tA X.K X.mg W aN) := paImp pa_nil fun σ H Q ⟨ι, Z, ρ, S, hρ, hS, h⟩ => h ι H [] (Ext.refl _ _) hS rfl
theorem sa_c {es : List Expr} {fr : F (List D)} (ha : PE X a (tE X.K X.mg W fa)) (hr : PA X es (tA X.K X.mg W fr)) (hs : starEach (a :: es) X.env = (false, eval a X.env) :: starEach es X.env := by rfl) :
    PA X (a :: es) (tA X.K X.mg W (aC fa fr)) := paImp (pa_cons ha hr hs) fun σ H Q h => by
  obtain ⟨ι, Z, ρ, S, hρ, hS, h⟩ := h
  refine ⟨ι, Z, ρ, S, hρ, hS, Pg.bnd h fun d S1 ι1 H1 v e1 s1 rd h1 => ?_⟩
  refine ⟨ι1, Z, ρ, S1, hρ.ext e1, s1, Pg.bnd h1 fun ds S2 ι2 H2 vs e2 s2 rds h2 => ?_⟩
  exact h2 ι2 H2 (v :: vs) (Ext.refl _ _) s2 ⟨v, vs, rfl, rd.ext e2, rds⟩
theorem se_cb {x : Str} {p : Pos} {es : List Expr} {id : String} {r : List V → Hp → VK → Prop} {g : Store → List D → Option D} {fs : F (List D)} (hc : CallR X (.builtin id) r) (hs : CaS X.K r g) (hg : Gl X x) (hm : X.mg x = none) (hv : bootBuiltins x = some (.builtin id))
    (ha : PA X (a :: es) (tA X.K X.mg W fs)) (hn : x ≠ "__name__" := by decide) (hdb : (x == ("__debug__" : Str)) = false := by decide)
    (he : starEach (a :: es) X.env = (false, eval a X.env) :: starEach es X.env := by rfl) (hpl : (backTo pos (starEach es X.env)).any (·.1) = false := by rfl) :
    PE X (.Call (.Name x p) (a :: es) [] pos) (tE X.K X.mg W (eB g fs)) := peImp (pe_callB hc hg hm hv ha hn hdb he hpl) fun σ H Q h => i_cb hs h
theorem se_ct {x : Str} {p : Pos} {es : List Expr} {T : String} {r : List V → Hp → VK → Prop} {g : Store → List D → Option D} {fs : F (List D)} (hc : CallR X (.type T) r) (hs : CaS X.K r g) (hg : Gl X x) (hm : X.mg x = none) (hv : bootBuiltins x = some (.type T))
    (ha : PA X (a :: es) (tA X.K X.mg W fs)) (hn : x ≠ "__name__" := by decide) (hdb : (x == ("__debug__" : Str)) = false := by decide)
    (he : starEach (a :: es) X.env = (false, eval a X.env) :: starEach es X.env := by rfl) (hpl : (backTo pos (starEach es X.env)).any (·.1) = false := by rfl) :
    PE X (.Call (.Name x p) (a :: es) [] pos) (tE X.K X.mg W (eB g fs)) := peImp (pe_callTy hc hg hm hv ha hn hdb he hpl) fun σ H Q h => i_cb hs h
/-- a tuple displayed -/
theorem se_t {x1 : Nat} {es : List Expr} {fs : F (List D)} (h : PA X es (tA X.K X.mg W fs)) : PE X (.Tuple es x1 pos) (tE X.K X.mg W (eT fs)) := peImp (pe_tup h) fun σ H Q h => by
  obtain ⟨ι, Z, ρ, S, hρ, hS, h⟩ := h
  refine ⟨ι, Z, ρ, S, hρ, hS, Pg.bnd h fun ds S1 ι1 H1 vs e1 s1 rds h1 => ?_⟩
  have hl := rds.length
  by_cases hz : ds.length ≤ 100000
  · rw [if_pos hz] at h1
    refine ⟨by rw [hl, sizeLine_eq]; omega, fun p hp => ?_⟩
    have e := Ex.upd (o := .tup vs) hp
    exact h1 ι1 _ _ (Ext.ex e) (s1.ex e) ⟨p, vs, rfl, .inl (.inl upd_same), rds.ext (Ext.ex e)⟩
  · rw [if_neg hz] at h1; exact h1.elim
end

/-! ### lists that are made: at a new place -/
/-- the reading of an expression that makes a list -/
def tL (K : PySem.W.Frag) (mg : Str → Option Value) (W : WX) (f : F (List D)) : TE := fun σ H Q => ∃ ι Z ρ S, RE K ι Z H ρ σ ∧ SR K ι Z H S ∧ match f ρ S with
  | .ok ds S' => ∀ ι' H' p vs, Ext ι ι' H H' → H p = none → SR K ι' (p :: Z) H' S' → p ∉ Z → H' p = some (.lst vs) → RDs K ι' (p :: Z) H' ds vs → Q (.ref p) H'
  | .exc x S' => ∀ ι' H' cls dd, Ext ι ι' H H' → SR K ι' Z H' S' → RX K mg ι' Z H' x cls dd → W cls dd σ H'
  | .bad => False
section
variable {X : Cx} {W : WX} {e : Expr} {f : F (List D)} {pos : Pos}
/-- .. as a value that nobody changes -/
theorem se_l (h : PE X e (tL X.K X.mg W f)) : PE X e (tE X.K X.mg W (eL f)) := peImp h fun σ H Q h => by
  obtain ⟨ι, Z, ρ, S, hρ, hS, h⟩ := h
  refine ⟨ι, Z, ρ, S, hρ, hS, ?_⟩
  unfold eL at h
  cases hf : f ρ S with
  | ok ds S' =>
    rw [hf] at h
    intro ι' H' p vs e hp s nz hl rds
    exact h ι' H' (.ref p) e (s.weak fun a m => List.mem_cons_of_mem _ m) ⟨p, vs, rfl, (s.zt p List.mem_cons_self).2, nz, hl, rds.weak fun a m => List.mem_cons_of_mem _ m⟩
  | exc x S' => rw [hf] at h; exact h
  | bad => rw [hf] at h; exact h
/-- .. as an object of the store -/
theorem se_n (h : PE X e (tL X.K X.mg W f)) : PE X e (tE X.K X.mg W (eN f)) := peImp h fun σ H Q h => by
  obtain ⟨ι, Z, ρ, S, hρ, hS, h⟩ := h
  refine ⟨ι, Z, ρ, S, hρ, hS, ?_⟩
  unfold eN at h
  cases hf : f ρ S with
  | ok ds S' =>
    rw [hf] at h
    intro ι' H' p vs e hp s nz hl rds
    refine h (ι' ++ [p]) H' (.ref p) (e.own hp) (s.own nz hl rds) ⟨p, rfl, ?_⟩
    rw [s.len]; simp
  | exc x S' => rw [hf] at h; exact h
  | bad => rw [hf] at h; exact h
/-- a list displayed -/
theorem sl_d {es : List Expr} (h : PA X es (tA X.K X.mg W f)) : PE X (.List es pos) (tL X.K X.mg W (lD f)) := peImp (pe_lst h) fun σ H Q h => by
  obtain ⟨ι, Z, ρ, S, hρ, hS, h⟩ := h
  refine ⟨ι, Z, ρ, S, hρ, hS, ?_⟩
  unfold lD at h
  cases hf : f ρ S with
  | ok ds S' =>
    rw [hf] at h
    intro ι' H' vs e s rds
    have hl := rds.length
    simp only [R.bind] at h
    by_cases hz : ds.length ≤ 100000
    · rw [if_pos hz] at h
      refine ⟨by rw [hl, sizeLine_eq]; omega, fun p hp => ?_⟩
      have e2 := Ex.upd (o := .lst vs) hp
      have hp0 : H p = none := by
        cases q : H p with
        | none => rfl
        | some o =>
          by_cases hm : p ∈ ι
          · obtain ⟨vs', g⟩ := s.there (e.sub hm)
            rw [hp] at g; cases g
          · have := e.keep p o q hm
            rw [hp] at this; cases this
      exact h ι' _ p vs (e.trans (Ext.ex e2)) hp0 (s.forbid hp) (s.freeZ hp) upd_same ((rds.forbid hp).ext (Ext.ex e2))
    · rw [if_neg hz] at h; exact h.elim
  | exc x S' => rw [hf] at h; exact h
  | bad => rw [hf] at h; exact h
end
end Sm


set_option Elab.async false
set_option linter.all false
set_option maxRecDepth 100000
set_option maxHeartbeats 1000000
namespace Sm
open PySem L2

/-! ### sequences -/
def seqD (S : Store) : D → Option (List D)
  | .tup ds => some ds
  | .lst ds => some ds
  | .frl ds => some ds
  | .ptr n => match S[n]? with
    | some (.lst ds) => some ds
    | none => none
  | _ => none
theorem seq_rep {K : PySem.W.Frag} {ι Z : List Addr} {H : Hp} {S : Store} {d : D} {v : V} {ds : List D} (s : SR K ι Z H S) (r : RD K ι Z H d v) (h : seqD S d = some ds) :
    ∃ a vs, v = .ref a ∧ RDs K ι Z H ds vs ∧ ((∃ ds', d = .tup ds') ∧ SqT K H a vs ∨ (∀ ds', d ≠ .tup ds') ∧ SqL K H a vs) := by
  cases d with
  | tup ds' =>
    cases h
    obtain ⟨a, vs, rfl, h1, h2⟩ := r
    exact ⟨a, vs, rfl, h2, .inl ⟨⟨_, rfl⟩, h1⟩⟩
  | lst ds' =>
    cases h
    obtain ⟨a, vs, rfl, h1, h2, h3, h4⟩ := r
    exact ⟨a, vs, rfl, h4, .inr ⟨fun _ q => (by cases q), .inl (.inl h3)⟩⟩
  | frl ds' =>
    cases h
    obtain ⟨a, vs, rfl, h1, h2⟩ := r
    exact ⟨a, vs, rfl, h2, .inr ⟨fun _ q => (by cases q), h1.sq⟩⟩
  | ptr n =>
    obtain ⟨a, rfl, hn⟩ := r
    obtain ⟨ds', vs, h1, h2, h3⟩ := s.ob n a hn
    simp only [seqD, h1] at h
    cases h
    exact ⟨a, vs, rfl, h3, .inr ⟨fun _ q => (by cases q), .inl (.inl h2)⟩⟩
  | _ => cases h
theorem atI_rep {K : PySem.W.Frag} {ι Z : List Addr} {H : Hp} {ds : List D} {vs : List V} {i : Int} {d : D} (r : RDs K ι Z H ds vs) (h : atI ds i = some d) : ∃ v, atI vs i = some v ∧ RD K ι Z H d v := by
  unfold atI at h ⊢
  rw [r.length]
  cases q : ixN ds.length i with
  | none => rw [q] at h; cases h
  | some j =>
    rw [q] at h
    exact r.get h

/-! ### operations -/
def dAdd (_ : Store) : D → D → Option D
  | .int i, .int j => some (.int (i + j))
  | .tup x, .tup y => if x.length + y.length ≤ 100000 then some (.tup (x ++ y)) else none
  | .str x, .str y => if x.length + y.length ≤ 100000 then some (.str (x ++ y)) else none
  | _, _ => none
def rAddA (K : PySem.W.Frag) : R2 := fun x y H Q => rI0 (fun i j => .int (i + j)) x y H Q ∨ (rCatA K x y H Q ∨ ∃ i j, x = .str i ∧ y = .str j ∧ i.length + j.length ≤ sizeLine ∧ Q (.str (i ++ j)) H)
theorem o_add {X : Cx} : OpR X (binaryOp .Add) (rAddA X.K) := op_add.or (op_catA.or op_add_str)
theorem s_add {K : PySem.W.Frag} : OpS K (rAddA K) dAdd := by
  intro ι Z H S a b d va vb Q s ra rb h k
  cases a with
  | int i =>
    cases b with
    | int j => cases h; exact .inl ⟨i, j, ra, rb, k H _ (Ex.refl _) rfl⟩
    | _ => cases h
  | tup x =>
    cases b with
    | tup y =>
      simp only [dAdd] at h
      split at h
      · rename_i hz
        cases h
        obtain ⟨a, vs, rfl, h1, h2⟩ := ra
        obtain ⟨b, us, rfl, h3, h4⟩ := rb
        have l1 := h2.length
        have l2 := h4.length
        refine .inr (.inl ⟨a, b, vs, us, rfl, rfl, h1, h3, by rw [l1, l2, sizeLine_eq]; omega, fun e => ?_, fun _ e => ?_, fun _ _ p hp => ?_⟩)
        · refine k H _ (Ex.refl _) ⟨b, us, rfl, h3, ?_⟩
          subst e
          have : x = [] := by simpa using l1.symm
          subst this
          exact h4
        · refine k H _ (Ex.refl _) ⟨a, vs, rfl, h1, ?_⟩
          subst e
          have : y = [] := by simpa using l2.symm
          subst this
          rw [List.append_nil]
          exact h2
        · have e := Ex.upd (o := .tup (vs ++ us)) hp
          exact k _ _ e ⟨p, _, rfl, .inl (.inl upd_same), (h2.app h4).ext (Ext.ex e)⟩
      · cases h
    | _ => cases h
  | str x =>
    cases b with
    | str y =>
      simp only [dAdd] at h
      split at h
      · rename_i hz
        cases h
        exact .inr (.inr ⟨x, y, ra, rb, by rw [sizeLine_eq]; omega, k H _ (Ex.refl _) rfl⟩)
      · cases h
    | _ => cases h
  | _ => cases h
def dSub (_ : Store) : D → D → Option D
  | .int i, .int j => some (.int (i - j))
  | _, _ => none
theorem s_int0 {K : PySem.W.Frag} {g : Int → Int → V} {gd : Int → Int → D} {f : Store → D → D → Option D} (hf : ∀ S a b d, f S a b = some d → ∃ i j, a = .int i ∧ b = .int j ∧ d = gd i j) (hg : ∀ i j ι Z H, RD K ι Z H (gd i j) (g i j)) : OpS K (rI0 g) f := by
  intro ι Z H S a b d va vb Q s ra rb h k
  obtain ⟨i, j, rfl, rfl, rfl⟩ := hf S a b d h
  exact ⟨i, j, ra, rb, k H _ (Ex.refl _) (hg i j ι Z H)⟩
theorem s_int {K : PySem.W.Frag} {C : Int → Int → Prop} {g : Int → Int → V} {gd : Int → Int → D} {f : Store → D → D → Option D} (hf : ∀ S a b d, f S a b = some d → ∃ i j, a = .int i ∧ b = .int j ∧ C i j ∧ d = gd i j) (hg : ∀ i j ι Z H, RD K ι Z H (gd i j) (g i j)) : OpS K (rI C g) f := by
  intro ι Z H S a b d va vb Q s ra rb h k
  obtain ⟨i, j, rfl, rfl, hc, rfl⟩ := hf S a b d h
  exact ⟨i, j, ra, rb, hc, k H _ (Ex.refl _) (hg i j ι Z H)⟩
theorem s_sub {K : PySem.W.Frag} : OpS K (rI0 fun i j => .int (i - j)) dSub := s_int0 (gd := fun i j => .int (i - j)) (fun S a b d h => by
  cases a <;> first | (cases b <;> first | (cases h; exact ⟨_, _, rfl, rfl, rfl⟩) | cases h) | cases h) fun _ _ _ _ _ => rfl
/-- small enough for a product -/
def smI (i : Int) : Bool := decide (i.natAbs.log2 < 400000)
def dMul (_ : Store) : D → D → Option D
  | .int i, .int j => if smI i && smI j then some (.int (i * j)) else none
  | _, _ => none
theorem s_mul {K : PySem.W.Frag} : OpS K (rI CMulW fun i j => .int (i * j)) dMul := s_int (gd := fun i j => .int (i * j)) (fun S a b d h => by
  cases a with
  | int i =>
    cases b with
    | int j =>
      simp only [dMul] at h
      split at h
      · rename_i hz
        cases h
        simp only [smI, Bool.and_eq_true, decide_eq_true_eq] at hz
        exact ⟨i, j, rfl, rfl, by unfold CMulW; omega, rfl⟩
      · cases h
    | _ => cases h
  | _ => cases h) fun _ _ _ _ _ => rfl
def dDiv (_ : Store) : D → D → Option D
  | .int i, .int j => if decide (0 < j) && decide (j.natAbs.log2 < 9000) then some (.int (i / j)) else none
  | _, _ => none
theorem s_div {K : PySem.W.Frag} : OpS K (rI CDivW fun i j => .int (i / j)) dDiv := s_int (gd := fun i j => .int (i / j)) (fun S a b d h => by
  cases a with
  | int i =>
    cases b with
    | int j =>
      simp only [dDiv] at h
      split at h
      · rename_i hz
        cases h
        simp only [Bool.and_eq_true, decide_eq_true_eq] at hz
        exact ⟨i, j, rfl, rfl, hz, rfl⟩
      · cases h
    | _ => cases h
  | _ => cases h) fun _ _ _ _ _ => rfl
def dMod (_ : Store) : D → D → Option D
  | .int i, .int j => if 0 < j then some (.int (i % j)) else none
  | _, _ => none
theorem s_mod {K : PySem.W.Frag} : OpS K (rI (fun _ j => 0 < j) fun i j => .int (i % j)) dMod := s_int (gd := fun i j => .int (i % j)) (fun S a b d h => by
  cases a with
  | int i =>
    cases b with
    | int j =>
      simp only [dMod] at h
      split at h
      · rename_i hz
        cases h
        exact ⟨i, j, rfl, rfl, hz, rfl⟩
      · cases h
    | _ => cases h
  | _ => cases h) fun _ _ _ _ _ => rfl
def dPow (_ : Store) : D → D → Option D
  | .int i, .int j => if decide (0 ≤ j) && decide (j ≤ 100000) && decide (i.natAbs < 2 ^ 64) then some (.int (i ^ j.toNat)) else none
  | _, _ => none
theorem s_pow {K : PySem.W.Frag} : OpS K (rI CPow fun i j => .int (i ^ j.toNat)) dPow := s_int (gd := fun i j => .int (i ^ j.toNat)) (fun S a b d h => by
  cases a with
  | int i =>
    cases b with
    | int j =>
      simp only [dPow] at h
      split at h
      · rename_i hz
        cases h
        simp only [Bool.and_eq_true, decide_eq_true_eq] at hz
        exact ⟨i, j, rfl, rfl, ⟨hz.1.1, by omega, hz.2⟩, rfl⟩
      · cases h
    | _ => cases h
  | _ => cases h) fun _ _ _ _ _ => rfl
def dBand (_ : Store) : D → D → Option D
  | .int i, .int j => some (.int (Builtin.bitAnd i j))
  | _, _ => none
theorem s_band {K : PySem.W.Frag} : OpS K (rI0 fun i j => .int (Builtin.bitAnd i j)) dBand := s_int0 (gd := fun i j => .int (Builtin.bitAnd i j)) (fun S a b d h => by
  cases a <;> first | (cases b <;> first | (cases h; exact ⟨_, _, rfl, rfl, rfl⟩) | cases h) | cases h) fun _ _ _ _ _ => rfl
def dNeg (_ : Store) : D → Option D
  | .int i => some (.int (-i))
  | _ => none
theorem s_neg {K : PySem.W.Frag} : UnS K (rU fun i => .int (-i)) dNeg := by
  intro ι Z H S a d va Q s ra h k
  cases a with
  | int i => cases h; exact ⟨i, ra, k H _ (Ex.refl _) rfl⟩
  | _ => cases h
def dCmp (p : Int → Int → Bool) (_ : Store) : D → D → Option D
  | .int i, .int j => some (.bl (p i j))
  | _, _ => none
theorem s_cmp {K : PySem.W.Frag} (p : Int → Int → Bool) : OpS K (rI0 fun i j => .bl (p i j)) (dCmp p) := s_int0 (gd := fun i j => .bl (p i j)) (fun S a b d h => by
  cases a <;> first | (cases b <;> first | (cases h; exact ⟨_, _, rfl, rfl, rfl⟩) | cases h) | cases h) fun _ _ _ _ _ => rfl
def dIx (S : Store) (a b : D) : Option D := match seqD S a, b with
  | some ds, .int i => atI ds i
  | _, _ => none
theorem s_ix {K : PySem.W.Frag} : OpS K (rIx K) dIx := by
  intro ι Z H S a b d va vb Q s ra rb h k
  unfold dIx at h
  cases hs : seqD S a with
  | none => rw [hs] at h; cases h
  | some ds =>
    rw [hs] at h
    cases b with
    | int i =>
      have rb : vb = .int i := rb
      obtain ⟨p, vs, rfl, rds, q⟩ := seq_rep s ra hs
      obtain ⟨v, h1, h2⟩ := atI_rep rds h
      rcases q with ⟨_, q⟩ | ⟨_, q⟩
      · exact .inr (.inl ⟨p, vs, i, v, rfl, rb, q, h1, k H v (Ex.refl _) h2⟩)
      · exact .inl ⟨p, vs, i, v, rfl, rb, q, h1, k H v (Ex.refl _) h2⟩
    | _ => cases h

/-! ### data compared -/
def pyD (S : Store) : Nat → D → Option PyData
  | _, .non => some .none
  | _, .bl b => some (.bool b)
  | _, .int i => some (.int i)
  | _, .str s => some (.str s)
  | 0, _ => none
  | n + 1, .tup ds => (ds.mapM (pyD S n)).map .tuple
  | n + 1, .lst ds => (ds.mapM (pyD S n)).map .list
  | n + 1, .frl ds => (ds.mapM (pyD S n)).map .list
  | n + 1, .ptr k => match S[k]? with
    | some (.lst ds) => (ds.mapM (pyD S n)).map .list
    | none => none
theorem mapM_cons {α β : Type} (f : α → Option β) (a : α) (l : List α) : (a :: l).mapM f = (f a).bind fun b => (l.mapM f).bind fun r => some (b :: r) := by
  rw [List.mapM_cons]; rfl
theorem pyAll {K : PySem.W.Frag} {ι Z : List Addr} {H : Hp} {f : D → Option PyData} (hf : ∀ d v e, RD K ι Z H d v → f d = some e → Dp K H v e) : ∀ {ds : List D} {vs : List V} {es : List PyData}, RDs K ι Z H ds vs → ds.mapM f = some es → DpAll K H vs es
  | [], _, _, r, h => by
    cases r
    have : ([] : List PyData) = _ := Option.some.inj h
    subst this
    exact .nil
  | d :: ds, _, es, r, h => by
    obtain ⟨v, vr, rfl, h1, h2⟩ := r
    rw [mapM_cons] at h
    cases q : f d with
    | none => rw [q] at h; cases h
    | some e =>
      rw [q] at h
      cases q2 : ds.mapM f with
      | none => rw [q2] at h; cases h
      | some r =>
        rw [q2] at h
        have : e :: r = es := Option.some.inj h
        subst this
        exact .cons (hf d v e h1 q) (pyAll hf h2 q2)
theorem py_rep {K : PySem.W.Frag} {ι Z : List Addr} {H : Hp} {S : Store} (s : SR K ι Z H S) : ∀ (n : Nat) {d : D} {v : V} {e : PyData}, RD K ι Z H d v → pyD S n d = some e → Dp K H v e := by
  intro n
  induction n with
  | zero =>
    intro d v e r h
    cases d with
    | non => have r : v = .non := r; subst r; cases h; exact .non
    | bl b => have r : v = .bl b := r; subst r; cases h; exact .bl b
    | int b => have r : v = .int b := r; subst r; cases h; exact .int b
    | str b => have r : v = .str b := r; subst r; cases h; exact .str b
    | _ => cases h
  | succ n ih =>
    intro d v e r h
    cases d with
    | non => have r : v = .non := r; subst r; cases h; exact .non
    | bl b => have r : v = .bl b := r; subst r; cases h; exact .bl b
    | int b => have r : v = .int b := r; subst r; cases h; exact .int b
    | str b => have r : v = .str b := r; subst r; cases h; exact .str b
    | tup ds =>
      obtain ⟨a, vs, rfl, h1, h2⟩ := r
      simp only [pyD] at h
      cases q : ds.mapM (pyD S n) with
      | none => rw [q] at h; cases h
      | some es => rw [q] at h; cases h; exact .tup h1 (pyAll (fun d v e r h => ih r h) h2 q)
    | lst ds =>
      obtain ⟨a, vs, rfl, _, _, h1, h2⟩ := r
      simp only [pyD] at h
      cases q : ds.mapM (pyD S n) with
      | none => rw [q] at h; cases h
      | some es => rw [q] at h; cases h; exact .lst (.inl (.inl h1)) (pyAll (fun d v e r h => ih r h) h2 q)
    | frl ds =>
      obtain ⟨a, vs, rfl, h1, h2⟩ := r
      simp only [pyD] at h
      cases q : ds.mapM (pyD S n) with
      | none => rw [q] at h; cases h
      | some es => rw [q] at h; cases h; exact .lst h1.sq (pyAll (fun d v e r h => ih r h) h2 q)
    | ptr k =>
      obtain ⟨a, rfl, hn⟩ := r
      obtain ⟨ds, vs, g1, g2, g3⟩ := s.ob k a hn
      simp only [pyD, g1] at h
      cases q : ds.mapM (pyD S n) with
      | none => rw [q] at h; cases h
      | some es => rw [q] at h; cases h; exact .lst (.inl (.inl g2)) (pyAll (fun d v e r h => ih r h) g3 q)
/-- how deep data may be that is compared or shown -/
abbrev dp : Nat := 8
def dEq (S : Store) (a b : D) : Option D := match pyD S dp a, pyD S dp b with
  | some x, some y => if SeqAt.shaped x && SeqAt.shaped y then some (.bl (PyData.eqv x y)) else none
  | _, _ => none
def dNe (S : Store) (a b : D) : Option D := match pyD S dp a, pyD S dp b with
  | some x, some y => if SeqAt.shaped x && SeqAt.shaped y then some (.bl (!PyData.eqv x y)) else none
  | _, _ => none
theorem s_eq {K : PySem.W.Frag} : OpS K (rEqD K) dEq := by
  intro ι Z H S a b d va vb Q s ra rb h k
  unfold dEq at h
  cases h1 : pyD S dp a with
  | none => rw [h1] at h; cases h
  | some x =>
    cases h2 : pyD S dp b with
    | none => rw [h1, h2] at h; cases h
    | some y =>
      rw [h1, h2] at h
      simp only at h
      split at h
      · rename_i hz
        cases h
        rw [Bool.and_eq_true] at hz
        exact ⟨x, y, py_rep s _ ra h1, py_rep s _ rb h2, hz.1, hz.2, k H _ (Ex.refl _) rfl⟩
      · cases h
theorem s_ne {K : PySem.W.Frag} : OpS K (rNeD K) dNe := by
  intro ι Z H S a b d va vb Q s ra rb h k
  unfold dNe at h
  cases h1 : pyD S dp a with
  | none => rw [h1] at h; cases h
  | some x =>
    cases h2 : pyD S dp b with
    | none => rw [h1, h2] at h; cases h
    | some y =>
      rw [h1, h2] at h
      simp only at h
      split at h
      · rename_i hz
        cases h
        rw [Bool.and_eq_true] at hz
        exact ⟨x, y, py_rep s _ ra h1, py_rep s _ rb h2, hz.1, hz.2, k H _ (Ex.refl _) rfl⟩
      · cases h
/-- x in (flat things) -/
def flV : D → Option V
  | .non => some .non
  | .bl b => some (.bl b)
  | .int i => some (.int i)
  | .str s => some (.str s)
  | _ => none
theorem fl_rep {K : PySem.W.Frag} {ι Z : List Addr} {H : Hp} {d : D} {v x : V} (r : RD K ι Z H d v) (h : flV d = some x) : v = x := by
  cases d <;> first | (cases h; exact r) | cases h
theorem fl_all {K : PySem.W.Frag} {ι Z : List Addr} {H : Hp} : ∀ {ds : List D} {vs xs : List V}, RDs K ι Z H ds vs → ds.mapM flV = some xs → vs = xs
  | [], _, _, r, h => by cases r; exact Option.some.inj h
  | d :: ds, _, xs, r, h => by
    obtain ⟨v, vr, rfl, h1, h2⟩ := r
    rw [mapM_cons] at h
    cases q : flV d with
    | none => rw [q] at h; cases h
    | some e =>
      rw [q] at h
      cases q2 : ds.mapM flV with
      | none => rw [q2] at h; cases h
      | some r =>
        rw [q2] at h
        have : e :: r = xs := Option.some.inj h
        subst this
        rw [fl_rep h1 q, fl_all h2 q2]
def dIn (neg : Bool) (S : Store) (a b : D) : Option D := match flV a, seqD S b with
  | some x, some ds => match ds.mapM flV with
    | some xs => if flatV x && xs.all flatV then some (.bl (if neg then !inV x xs else inV x xs)) else none
    | none => none
  | _, _ => none
theorem s_in {K : PySem.W.Frag} (neg : Bool) : OpS K (rIn K neg) (dIn neg) := by
  intro ι Z H S a b d va vb Q s ra rb h k
  unfold dIn at h
  cases h1 : flV a with
  | none => rw [h1] at h; cases h
  | some x =>
    cases h2 : seqD S b with
    | none => rw [h1, h2] at h; cases h
    | some ds =>
      rw [h1, h2] at h
      simp only at h
      cases h3 : ds.mapM flV with
      | none => rw [h3] at h; cases h
      | some xs =>
        rw [h3] at h
        simp only at h
        split at h
        · rename_i hz
          cases h
          rw [Bool.and_eq_true] at hz
          obtain ⟨p, vs, rfl, rds, q⟩ := seq_rep s rb h2
          have e := fl_all rds h3
          subst e
          have e2 := fl_rep ra h1
          subst e2
          refine ⟨p, vs, rfl, ?_, hz.1, hz.2, k H _ (Ex.refl _) rfl⟩
          rcases q with ⟨_, q⟩ | ⟨_, q⟩
          · exact .inr q
          · exact .inl q
        · cases h
/-! ### built-ins -/
def dLen (S : Store) : List D → Option D
  | [d] => (seqD S d).map fun ds => .int (ds.length : Nat)
  | _ => none
theorem RDs.inv1 {K : PySem.W.Frag} {ι Z : List Addr} {H : Hp} {d : D} {vs : List V} (r : RDs K ι Z H [d] vs) : ∃ v, vs = [v] ∧ RD K ι Z H d v := by
  obtain ⟨v, r, rfl, h1, h2⟩ := r
  have h2 : r = [] := h2
  subst h2
  exact ⟨v, rfl, h1⟩
theorem RDs.inv2 {K : PySem.W.Frag} {ι Z : List Addr} {H : Hp} {d e : D} {vs : List V} (r : RDs K ι Z H [d, e] vs) : ∃ v u, vs = [v, u] ∧ RD K ι Z H d v ∧ RD K ι Z H e u := by
  obtain ⟨v, r, rfl, h1, h2⟩ := r
  obtain ⟨u, rfl, h3⟩ := h2.inv1
  exact ⟨v, u, rfl, h1, h3⟩
theorem s_len {K : PySem.W.Frag} : CaS K (fun xs H Q => ∃ p ys, xs = [.ref p] ∧ (SqL K H p ys ∨ SqT K H p ys) ∧ Q (.int ys.length) H) dLen := by
  intro ι Z H S as d vs Q s r h k
  match as, h with
  | [a], h =>
    obtain ⟨v, rfl, ra⟩ := r.inv1
    simp only [dLen] at h
    cases h1 : seqD S a with
    | none => rw [h1] at h; cases h
    | some ds =>
      rw [h1] at h
      cases h
      obtain ⟨p, vs, rfl, rds, q⟩ := seq_rep s ra h1
      refine ⟨p, vs, rfl, ?_, k H _ (Ex.refl _) ?_⟩
      · rcases q with ⟨_, q⟩ | ⟨_, q⟩
        · exact .inr q
        · exact .inl q
      · show V.int _ = V.int _
        rw [rds.length]
def intsD : List D → Option (List Int)
  | [] => some []
  | .int i :: r => (intsD r).map (i :: ·)
  | _ :: _ => none
theorem intsD_eq : ∀ {ds : List D} {ns : List Int}, intsD ds = some ns → ds = ns.map D.int
  | [], _, h => by cases h; rfl
  | .int i :: r, ns, h => by
    simp only [intsD] at h
    cases q : intsD r with
    | none => rw [q] at h; cases h
    | some l => rw [q] at h; cases h; rw [intsD_eq q]; rfl
  | .non :: _, _, h => by cases h
  | .bl _ :: _, _, h => by cases h
  | .str _ :: _, _, h => by cases h
  | .tup _ :: _, _, h => by cases h
  | .lst _ :: _, _, h => by cases h
  | .frl _ :: _, _, h => by cases h
  | .ptr _ :: _, _, h => by cases h
theorem intsD_map : ∀ (ns : List Int), intsD (ns.map D.int) = some ns
  | [] => rfl
  | n :: ns => by simp only [List.map_cons, intsD, intsD_map ns, Option.map_some]
def dSum (S : Store) : List D → Option D
  | [.tup _] => none
  | [d] => (seqD S d).bind fun ds => (intsD ds).map fun ns => .int ns.sum
  | _ => none
theorem lst_ints {K : PySem.W.Frag} {ι Z : List Addr} {H : Hp} {S : Store} {d : D} {v : V} {ds : List D} {ns : List Int} (s : SR K ι Z H S) (r : RD K ι Z H d v) (h : seqD S d = some ds) (h2 : intsD ds = some ns) (nt : ∀ ds', d ≠ .tup ds') :
    ∃ a, v = .ref a ∧ SqL K H a (ns.map V.int) := by
  obtain ⟨p, vs, rfl, rds, q⟩ := seq_rep s r h
  rw [intsD_eq h2] at rds
  have e := rds.ofInts
  subst e
  rcases q with ⟨⟨_, e⟩, _⟩ | ⟨_, q⟩
  · exact absurd e (nt _)
  · exact ⟨p, rfl, q⟩
theorem s_sum {K : PySem.W.Frag} : CaS K (rSum K) dSum := by
  intro ι Z H S as d vs Q s r h k
  rcases as with _ | ⟨a, _ | ⟨b, r2⟩⟩
  · cases h
  rotate_left
  · cases a <;> cases h
  ·
    obtain ⟨v, rfl, ra⟩ := r.inv1
    have nt : ∀ ds', a ≠ .tup ds' := by rintro ds' rfl; cases h
    have h : ((seqD S a).bind fun ds => (intsD ds).map fun ns => D.int ns.sum) = some d := by
      cases a <;> first | exact h | exact absurd rfl (nt _)
    cases h1 : seqD S a with
    | none => rw [h1] at h; cases h
    | some ds =>
      rw [h1] at h
      simp only [Option.bind_some] at h
      cases h2 : intsD ds with
      | none => rw [h2] at h; cases h
      | some ns =>
        rw [h2] at h
        cases h
        obtain ⟨p, rfl, q⟩ := lst_ints s ra h1 h2 nt
        exact ⟨p, ns, rfl, q, k H _ (Ex.refl _) rfl⟩
/-- max of a list of ints -/
def maxI : List Int → Int
  | [] => 0
  | [a] => a
  | a :: r => max a (maxI r)
theorem maxI_mem : ∀ {ns : List Int}, ns ≠ [] → maxI ns ∈ ns ∧ ∀ y, y ∈ ns → y ≤ maxI ns
  | [], h => absurd rfl h
  | [a], _ => by simp [maxI]
  | a :: b :: r, _ => by
    obtain ⟨h1, h2⟩ := maxI_mem (ns := b :: r) (by simp)
    have e : maxI (a :: b :: r) = max a (maxI (b :: r)) := rfl
    rw [e]
    refine ⟨?_, fun y hy => ?_⟩
    · by_cases hc : a ≤ maxI (b :: r)
      · rw [Int.max_eq_right hc]; exact List.mem_cons_of_mem _ h1
      · rw [Int.max_eq_left (by omega)]; exact List.mem_cons_self
    · rcases List.mem_cons.mp hy with rfl | hy
      · exact Int.le_max_left _ _
      · exact Int.le_trans (h2 y hy) (Int.le_max_right _ _)
def dMax (S : Store) : List D → Option D
  | [.tup _] => none
  | [d] => (seqD S d).bind fun ds => (intsD ds).bind fun ns => if ns = [] then none else some (.int (maxI ns))
  | _ => none
theorem s_max {K : PySem.W.Frag} : CaS K (rMax K) dMax := by
  intro ι Z H S as d vs Q s r h k
  rcases as with _ | ⟨a, _ | ⟨b, r2⟩⟩
  · cases h
  rotate_left
  · cases a <;> cases h
  ·
    obtain ⟨v, rfl, ra⟩ := r.inv1
    have nt : ∀ ds', a ≠ .tup ds' := by rintro ds' rfl; cases h
    have h : ((seqD S a).bind fun ds => (intsD ds).bind fun ns => if ns = [] then none else some (D.int (maxI ns))) = some d := by
      cases a <;> first | exact h | exact absurd rfl (nt _)
    cases h1 : seqD S a with
    | none => rw [h1] at h; cases h
    | some ds =>
      rw [h1] at h
      simp only [Option.bind_some] at h
      cases h2 : intsD ds with
      | none => rw [h2] at h; cases h
      | some ns =>
        rw [h2] at h
        simp only [Option.bind_some] at h
        split at h
        · cases h
        · rename_i hn
          cases h
          obtain ⟨p, rfl, q⟩ := lst_ints s ra h1 h2 nt
          obtain ⟨m1, m2⟩ := maxI_mem hn
          refine ⟨p, ns, rfl, q, List.length_pos_iff.mpr hn, fun m hm hy => ?_⟩
          have e : m = maxI ns := Int.le_antisymm (m2 m hm) (hy _ m1)
          subst e
          exact k H _ (Ex.refl _) rfl
def dAbs (_ : Store) : List D → Option D
  | [.int i] => some (.int (if i < 0 then -i else i))
  | _ => none
theorem s_abs {K : PySem.W.Frag} : CaS K (fun xs H Q => ∃ i, xs = [.int i] ∧ Q (.int (if i < 0 then -i else i)) H) dAbs := by
  intro ι Z H S as d vs Q s r h k
  match as, h with
  | [.int i], h =>
    obtain ⟨v, rfl, ra⟩ := r.inv1
    have ra : v = .int i := ra
    subst ra
    cases h
    exact ⟨i, rfl, k H _ (Ex.refl _) rfl⟩
def dInt (_ : Store) : List D → Option D
  | [.int i] => some (.int i)
  | [.bl b] => some (.int (if b then 1 else 0))
  | _ => none
theorem s_toint {K : PySem.W.Frag} : CaS K (fun xs H Q => (∃ i, xs = [.int i] ∧ Q (.int i) H) ∨ ∃ k, xs = [.bl k] ∧ Q (.int (if k then 1 else 0)) H) dInt := by
  intro ι Z H S as d vs Q s r h k
  match as, h with
  | [.int i], h =>
    obtain ⟨v, rfl, ra⟩ := r.inv1
    have ra : v = .int i := ra
    subst ra
    cases h
    exact .inl ⟨i, rfl, k H _ (Ex.refl _) rfl⟩
  | [.bl i], h =>
    obtain ⟨v, rfl, ra⟩ := r.inv1
    have ra : v = .bl i := ra
    subst ra
    cases h
    exact .inr ⟨i, rfl, k H _ (Ex.refl _) rfl⟩
def dTup (S : Store) : List D → Option D
  | [d] => (seqD S d).map .tup
  | _ => none
theorem s_tup {K : PySem.W.Frag} : CaS K (fun xs H Q => ∃ p ys, xs = [.ref p] ∧ ((SqL K H p ys ∧ ∀ l, H l = none → Q (.ref l) (upd H l (.tup ys))) ∨ (SqT K H p ys ∧ Q (.ref p) H))) dTup := by
  intro ι Z H S as d vs Q s r h k
  match as, h with
  | [a], h =>
    obtain ⟨v, rfl, ra⟩ := r.inv1
    simp only [dTup] at h
    cases h1 : seqD S a with
    | none => rw [h1] at h; cases h
    | some ds =>
      rw [h1] at h
      cases h
      obtain ⟨p, vs, rfl, rds, q⟩ := seq_rep s ra h1
      refine ⟨p, vs, rfl, ?_⟩
      rcases q with ⟨_, q⟩ | ⟨_, q⟩
      · exact .inr ⟨q, k H _ (Ex.refl _) ⟨p, vs, rfl, q, rds⟩⟩
      · exact .inl ⟨q, fun l hl => k _ _ (Ex.upd hl) ⟨l, vs, rfl, .inl (.inl upd_same), rds.ext (Ext.ex (Ex.upd hl))⟩⟩
end Sm


set_option Elab.async false
set_option linter.all false
set_option maxRecDepth 100000
set_option maxHeartbeats 1000000
namespace Sm
open PySem L2

/-! ### repr -/
theorem int_short {i : Int} (h : i.natAbs.log2 < 1920) : (PyData.shown (.int i)).length ≤ 640 := by
  have h1 : i.natAbs < 10 ^ 600 := by
    have h2 : i.natAbs < 2 ^ 1920 := by
      by_cases hz : i.natAbs = 0
      · rw [hz]; exact Nat.pos_pow_of_pos' 
      · exact (Nat.log2_lt hz).mp h
    exact Nat.lt_of_lt_of_le h2 (by decide +kernel)
  have e := int_text_length_le10 (k := 600) (by decide) h1
  show (Str.ofString (toString i)).length ≤ 640
  rw [ofString_length]; omega
where
  Nat.pos_pow_of_pos' : 0 < 2 ^ 1920 := by decide +kernel
mutual
theorem short_of : ∀ d : PyData, d.showable = true → d.canLay0 = true → d.intsShort 640 = true
  | .none, _, _ => by simp only [PyData.intsShort]
  | .bool _, _, _ => by simp only [PyData.intsShort]
  | .str _, _, _ => by simp only [PyData.intsShort]
  | .int i, h, _ => by
    simp only [PyData.showable, decide_eq_true_eq] at h
    simp only [PyData.intsShort, decide_eq_true_eq]
    exact int_short h
  | .list xs, h, c => by
    simp only [PyData.showable] at h
    simp only [PyData.canLay0] at c
    simp only [PyData.intsShort]
    exact short_all xs h c
  | .tuple xs, h, c => by
    simp only [PyData.showable] at h
    simp only [PyData.canLay0] at c
    simp only [PyData.intsShort]
    exact short_all xs h c
  | .dict _, _, c => by simp only [PyData.canLay0] at c; cases c
theorem short_all : ∀ ds : List PyData, PyData.showableAll ds = true → PyData.canLayAll0 ds = true → PyData.intsShortAll 640 ds = true
  | [], _, _ => rfl
  | d :: ds, h, c => by
    simp only [PyData.showableAll, Bool.and_eq_true] at h
    simp only [PyData.canLayAll0, Bool.and_eq_true] at c
    simp only [PyData.intsShortAll, Bool.and_eq_true]
    exact ⟨short_of d h.1 c.1, short_all ds h.2 c.2⟩
end
/-- shown within the limits -/
def okR (x : PyData) : Bool := x.showable && SeqAt.shaped x && decide (x.bulk ≤ 20000)
def dRepr (S : Store) : List D → Option D
  | [.int i] => if i.natAbs.log2 < 1920 then some (.str (toString i)) else none
  | [.tup ds] => (pyD S dp (.tup ds)).bind fun x => if okR x then some (.str x.shown) else none
  | [.lst ds] => (pyD S dp (.lst ds)).bind fun x => if okR x then some (.str x.shown) else none
  | [.ptr n] => (pyD S dp (.ptr n)).bind fun x => if okR x then some (.str x.shown) else none
  | _ => none
def rReprD (K : PySem.W.Frag) : List V → Hp → VK → Prop := fun xs H Q => (∃ i, xs = [.int i] ∧ i.natAbs.log2 < 1920 ∧ Q (.str (toString i)) H) ∨
  ∃ a d, xs = [.ref a] ∧ Dp K H (.ref a) d ∧ okR d = true ∧ Q (.str d.shown) H
theorem call_reprD {X : Cx} (hg : X.A.guards = some []) (hu : X.A.units + 80 < cLine) : CallR X (.builtin "repr") (rReprD X.K) := by
  intro pins s σ H xs us Q I r h
  rcases h with h | ⟨a, d, rfl, hd, ho, q⟩
  · exact SkE.call_repr_int pins s σ H xs us Q I r h
  · obtain ⟨u, rfl, ru⟩ := vals1 r
    obtain rfl : u = Value.ref a := ru
    obtain ⟨as, r1⟩ := Dp.reads I d _ _ hd rfl
    unfold okR at ho
    simp only [Bool.and_eq_true, decide_eq_true_eq] at ho
    obtain ⟨⟨h1, h2⟩, h3⟩ := ho
    have h4 := SeqAt.canLay_of_shaped h2
    have h5 : d.depth ≤ 64 := by
      unfold SeqAt.shaped at h2
      simp only [Bool.and_eq_true, decide_eq_true_eq] at h2
      exact h2.2
    have hsz : d.shown.length ≤ sizeLine := by
      have := PyData.shown_le_bulk 640 (by decide) d (PyData.leavesShort_of_canLay0 640 d h4 (short_of d h1 h4))
      rw [sizeLine_eq]
      omega
    refine repr_of_reads' r1 h1 (PyData.noDict_hsm (PyData.hasDict_of_canLay d h4)) hg (by omega) (fun _ _ e => e) (fun h' u tk hk => ?_) hsz
    exact ⟨.str d.shown, H, I.kept hk, ⟨u, rfl⟩, q⟩
theorem s_repr {K : PySem.W.Frag} : CaS K (rReprD K) dRepr := by
  intro ι Z H S as d vs Q s r h k
  have core : ∀ (a : D) (v : V), RD K ι Z H a v → (∃ p, v = .ref p) → ((pyD S dp a).bind fun x => if okR x then some (D.str x.shown) else none) = some d → rReprD K [v] H Q := fun a v ra hp h => by
    obtain ⟨p, rfl⟩ := hp
    cases hx : pyD S dp a with
    | none => rw [hx] at h; cases h
    | some x =>
      rw [hx] at h
      simp only [Option.bind_some] at h
      split at h
      · rename_i hz
        cases h
        exact .inr ⟨p, x, rfl, py_rep s _ ra hx, hz, k H _ (Ex.refl _) rfl⟩
      · cases h
  rcases as with _ | ⟨a, _ | ⟨b, r2⟩⟩
  · cases h
  rotate_left
  · cases a <;> cases h
  obtain ⟨v, rfl, ra⟩ := r.inv1
  cases a with
  | int i =>
    simp only [dRepr] at h
    split at h
    · rename_i hz
      cases h
      have ra : v = .int i := ra
      subst ra
      exact .inl ⟨i, rfl, hz, k H _ (Ex.refl _) rfl⟩
    · cases h
  | tup ds => exact core _ v ra (let ⟨p, _, e, _⟩ := ra; ⟨p, e⟩) h
  | lst ds => exact core _ v ra (let ⟨p, _, e, _⟩ := ra; ⟨p, e⟩) h
  | ptr n => exact core _ v ra (let ⟨p, e, _⟩ := ra; ⟨p, e⟩) h
  | _ => cases h

/-! ### lists made by operations, calls, slices -/
def OpL (K : PySem.W.Frag) (r : R2) (g : Store → D → D → Option (List D)) : Prop :=
  ∀ (ι Z : List Addr) (H : Hp) (S : Store) (a b : D) (ds : List D) (va vb : V) (Q : VK), SR K ι Z H S → RD K ι Z H a va → RD K ι Z H b vb → g S a b = some ds →
    (∀ p us, H p = none → RDs K ι Z H ds us → Q (.ref p) (upd H p (.lst us))) → r va vb H Q
def CaL (K : PySem.W.Frag) (r : List V → Hp → VK → Prop) (g : Store → List D → Option (List D)) : Prop :=
  ∀ (ι Z : List Addr) (H : Hp) (S : Store) (as ds : List D) (vs : List V) (Q : VK), SR K ι Z H S → RDs K ι Z H as vs → g S as = some ds →
    (∀ p us, H p = none → RDs K ι Z H ds us → Q (.ref p) (upd H p (.lst us))) → r vs H Q
def lO2 (g : Store → D → D → Option (List D)) (fa fb : F D) : F (List D) := fun ρ S => (fa ρ S).bind fun a S1 => (fb ρ S1).bind fun b S2 => match g S2 a b with
  | some ds => .ok ds S2
  | none => .bad
def lB (g : Store → List D → Option (List D)) (fa : F (List D)) : F (List D) := fun ρ S => (fa ρ S).bind fun a S1 => match g S1 a with
  | some ds => .ok ds S1
  | none => .bad
section
variable {K : PySem.W.Frag} {mg : Str → Option Value} {W : WX} {fa fb : F D} {σ : L2.St} {H : Hp} {Q : VK}
/-- what is wanted behind a list made -/
def Pl (K : PySem.W.Frag) (mg : Str → Option Value) (ι Z : List Addr) (H0 H : Hp) (E : XK) (Q : VK) : R (List D) → Prop
  | .ok ds S' => ∀ ι' H' p vs, Ext ι ι' H H' → H0 p = none → SR K ι' (p :: Z) H' S' → p ∉ Z → H' p = some (.lst vs) → RDs K ι' (p :: Z) H' ds vs → Q (.ref p) H'
  | .exc x S' => ∀ ι' H' cls dd, Ext ι ι' H H' → SR K ι' Z H' S' → RX K mg ι' Z H' x cls dd → E cls dd H'
  | .bad => False
theorem Pl.of {f : F (List D)} {ι Z : List Addr} {ρ : Envm} {S : Store} (h : Pl K mg ι Z H H (fun c d H' => W c d σ H') Q (f ρ S)) (hρ : RE K ι Z H ρ σ) (hS : SR K ι Z H S) : tL K mg W f σ H Q := by
  refine ⟨ι, Z, ρ, S, hρ, hS, ?_⟩
  cases hf : f ρ S with
  | ok ds S' => rw [hf] at h; exact h
  | exc x S' => rw [hf] at h; exact h
  | bad => rw [hf] at h; exact h
theorem tL.out {f : F (List D)} (h : tL K mg W f σ H Q) : ∃ ι Z ρ S, RE K ι Z H ρ σ ∧ SR K ι Z H S ∧ Pl K mg ι Z H H (fun c d H' => W c d σ H') Q (f ρ S) := by
  obtain ⟨ι, Z, ρ, S, hρ, hS, h⟩ := h
  refine ⟨ι, Z, ρ, S, hρ, hS, ?_⟩
  cases hf : f ρ S with
  | ok ds S' => rw [hf] at h; exact h
  | exc x S' => rw [hf] at h; exact h
  | bad => rw [hf] at h; exact h
theorem free_back {ι ι' Z : List Addr} {H H' : Hp} {S' : Store} (e : Ext ι ι' H H') (s : SR K ι' Z H' S') {p : Addr} (h : H' p = none) : H p = none := by
  cases q : H p with
  | none => rfl
  | some o =>
    by_cases hm : p ∈ ι
    · obtain ⟨vs', g⟩ := s.there (e.sub hm)
      rw [h] at g; cases g
    · have := e.keep p o q hm
      rw [h] at this; cases this
/-- a list laid at a new place, behind a step -/
theorem Pl.lay {ι ι1 Z : List Addr} {H1 : Hp} {S1 : Store} {ds : List D} {E : XK} (e : Ext ι ι1 H H1) (s : SR K ι1 Z H1 S1) (h : Pl K mg ι Z H H E Q (.ok ds S1)) (p : Addr) (us : List V) (hp : H1 p = none) (r : RDs K ι1 Z H1 ds us) : Q (.ref p) (upd H1 p (.lst us)) := by
  have e2 := Ex.upd (o := .lst us) hp
  exact h ι1 _ p us (e.trans (Ext.ex e2)) (free_back e s hp) (s.forbid hp) (s.freeZ hp) upd_same ((r.forbid hp).ext (Ext.ex e2))
theorem Pg.bndL {β : Type} {α : Type} {rel : List Addr → List Addr → Hp → α → β → Prop} {ι Z : List Addr} {E : XK} {Q1 : β → Hp → Prop} {r : R α} {k : α → Store → R (List D)} {H0 : Hp} (h : Pl K mg ι Z H0 H E Q (r.bind k))
    (hk : ∀ a S' ι' H' b, Ext ι ι' H H' → SR K ι' Z H' S' → rel ι' Z H' a b → Pl K mg ι' Z H0 H' E Q (k a S') → Q1 b H') : Pg K mg rel ι Z H E Q1 r := by
  cases r with
  | ok a S =>
    intro ι' H' b e s q
    refine hk a S ι' H' b e s q ?_
    have h : Pl K mg ι Z H0 H E Q (k a S) := h
    cases hf : k a S with
    | ok ds S' => rw [hf] at h; exact fun ι2 H2 p vs e2 => h ι2 H2 p vs (e.trans e2)
    | exc x S' => rw [hf] at h; exact fun ι2 H2 c d e2 => h ι2 H2 c d (e.trans e2)
    | bad => rw [hf] at h; exact h
  | exc x S => exact h
  | bad => exact h
/-- a list laid at a new place -/
theorem Pl.lay0 {ι Z : List Addr} {H0 : Hp} {S1 : Store} {ds : List D} {E : XK} {ι0 : List Addr} (e0 : Ext ι0 ι H0 H) (s : SR K ι Z H S1) (h : Pl K mg ι Z H0 H E Q (.ok ds S1)) (p : Addr) (us : List V) (hp : H p = none) (r : RDs K ι Z H ds us) : Q (.ref p) (upd H p (.lst us)) := by
  have e2 := Ex.upd (o := .lst us) hp
  exact h ι _ p us (Ext.ex e2) (free_back e0 s hp) (s.forbid hp) (s.freeZ hp) upd_same ((r.forbid hp).ext (Ext.ex e2))
theorem i_opL {r : R2} {g : Store → D → D → Option (List D)} (hr : OpL K r g) (h : tL K mg W (lO2 g fa fb) σ H Q) : tOp r (tE K mg W fa) (tE K mg W fb) σ H Q := by
  obtain ⟨ι, Z, ρ, S, hρ, hS, h⟩ := h.out
  refine ⟨ι, Z, ρ, S, hρ, hS, Pg.bndL h fun a S1 ι1 H1 va e1 s1 ra h1 => ?_⟩
  refine ⟨ι1, Z, ρ, S1, hρ.ext e1, s1, Pg.bndL h1 fun b S2 ι2 H2 vb e2 s2 rb h2 => ?_⟩
  cases hg : g S2 a b with
  | none => rw [hg] at h2; exact h2.elim
  | some ds =>
    rw [hg] at h2
    exact hr ι2 Z H2 S2 a b ds va vb Q s2 (ra.ext e2) rb hg fun p us hp r => Pl.lay0 (e1.trans e2) s2 h2 p us hp r
theorem i_cbL {r : List V → Hp → VK → Prop} {g : Store → List D → Option (List D)} {fs : F (List D)} (hr : CaL K r g) (h : tL K mg W (lB g fs) σ H Q) : tCB r (tA K mg W fs) σ H Q := by
  obtain ⟨ι, Z, ρ, S, hρ, hS, h⟩ := h.out
  refine ⟨ι, Z, ρ, S, hρ, hS, Pg.bndL h fun a S1 ι1 H1 va e1 s1 ra h1 => ?_⟩
  cases hg : g S1 a with
  | none => rw [hg] at h1; exact h1.elim
  | some ds =>
    rw [hg] at h1
    exact hr ι1 Z H1 S1 a ds va Q s1 ra hg fun p us hp r => Pl.lay0 e1 s1 h1 p us hp r
end
section
variable {X : Cx} {W : WX} {a b c : Expr} {fa fb : F D} {pos : Pos}
theorem sl_op {op : Operator} {r : R2} {g : Store → D → D → Option (List D)} (ho : OpR X (binaryOp op) r) (hs : OpL X.K r g) (ha : PE X a (tE X.K X.mg W fa)) (hb : PE X b (tE X.K X.mg W fb)) :
    PE X (.BinOp a op b pos) (tL X.K X.mg W (lO2 g fa fb)) := peImp (pe_op ho ha hb) fun σ H Q h => i_opL hs h
theorem sl_ct {x : Str} {p : Pos} {es : List Expr} {T : String} {r : List V → Hp → VK → Prop} {g : Store → List D → Option (List D)} {fs : F (List D)} (hc : CallR X (.type T) r) (hs : CaL X.K r g) (hg : Gl X x) (hm : X.mg x = none) (hv : bootBuiltins x = some (.type T))
    (ha : PA X (a :: es) (tA X.K X.mg W fs)) (hn : x ≠ "__name__" := by decide) (hdb : (x == ("__debug__" : Str)) = false := by decide)
    (he : starEach (a :: es) X.env = (false, eval a X.env) :: starEach es X.env := by rfl) (hpl : (backTo pos (starEach es X.env)).any (·.1) = false := by rfl) :
    PE X (.Call (.Name x p) (a :: es) [] pos) (tL X.K X.mg W (lB g fs)) := peImp (pe_callTy hc hg hm hv ha hn hdb he hpl) fun σ H Q h => i_cbL hs h
end
/-- list(x) -/
def lList (S : Store) : List D → Option (List D)
  | [d] => seqD S d
  | _ => none
theorem s_list {K : PySem.W.Frag} : CaL K (fun xs H Q => ∃ p ys, xs = [.ref p] ∧ (SqL K H p ys ∨ SqT K H p ys) ∧ ∀ l, H l = none → Q (.ref l) (upd H l (.lst ys))) lList := by
  intro ι Z H S as ds vs Q s r h k
  match as, h with
  | [a], h =>
    obtain ⟨v, rfl, ra⟩ := r.inv1
    obtain ⟨p, vs, rfl, rds, q⟩ := seq_rep s ra h
    refine ⟨p, vs, rfl, ?_, fun l hl => k l vs hl rds⟩
    rcases q with ⟨_, q⟩ | ⟨_, q⟩
    · exact .inr q
    · exact .inl q
/-- a tracked list, as + and * want it -/
def lstD : Store → D → Option (List D)
  | _, .tup _ => none
  | S, d => seqD S d
/-- xs + ys -/
def rCatB (K : PySem.W.Frag) : R2 := fun x y H Q => ∃ l b xs zs, x = .ref l ∧ y = .ref b ∧ SqL K H l xs ∧ SqL K H b zs ∧ xs.length + zs.length ≤ sizeLine ∧ ∀ p, H p = none → Q (.ref p) (upd H p (.lst (xs ++ zs)))
end Sm


set_option Elab.async false
set_option linter.all false
set_option maxRecDepth 100000
set_option maxHeartbeats 4000000
namespace Sm
open PySem L2 PySem.Spec PyProof.Rows

/-! ### tuple * int where it makes no copies -/
theorem tmul_same (l : Addr) (items : Array Value) (n : Nat) (dd : Option Addr) (sl : Array (Option Value)) (x : Int) (u : Tok) (c0 : (decide (x < -(2 ^ 63)) || decide (x ≥ 2 ^ 63)) = false) (c1 : (items.isEmpty || x == 1) = true) :
    Meets (Builtin.«tuple.__mul__» ⟨[.ref l, .int x u], []⟩) (fun _ R s => s.heap.get? l = some { cls := .type "tuple", dict := dd, data := .seq items n, slots := sl } ∧ R (.ok (.ret (Value.ref l))) s) :=
  .of_wp fun prog w A R s h => by
    obtain ⟨hp, g, d, tk, os⟩ := s
    obtain ⟨hl, h⟩ := h
    have f1 := AutoSeq1.idx_int
    wp_walk using wpAny_loadPart' hl
    repeat (first
      | (refine wpAny_ite_false (decide_eq_false (by rw [c0]; exact Bool.false_ne_true)) ?_; wp_walk using wpAny_loadPart' hl)
      | (refine wpAny_ite_true (decide_eq_true c1) ?_; wp_walk using wpAny_loadPart' hl))
    exact ⟨_, rfl, h⟩
theorem tmul_none (l : Addr) (items : Array Value) (n : Nat) (dd : Option Addr) (sl : Array (Option Value)) (x : Int) (u : Tok) (c0 : (decide (x < -(2 ^ 63)) || decide (x ≥ 2 ^ 63)) = false) (c1 : (items.isEmpty || x == 1) = false) (c2 : (decide (x ≤ 0) || items.isEmpty) = true) (hsz : (#[] : Array Value).size ≤ sizeLine) :
    Meets (Builtin.«tuple.__mul__» ⟨[.ref l, .int x u], []⟩) (fun _ R s => s.heap.get? l = some { cls := .type "tuple", dict := dd, data := .seq items n, slots := sl } ∧
      R (.ok (.ret (Value.ref s.heap.objs.size))) { s with heap := s.heap.push { cls := Value.type "tuple", data := Data.seq #[] }, toks := s.toks }) :=
  .of_wp fun prog w A R s h => by
    obtain ⟨hp, g, d, tk, os⟩ := s
    obtain ⟨hl, h⟩ := h
    have f1 := AutoSeq1.idx_int
    wp_walk using wpAny_loadPart' hl
    repeat (first
      | (refine wpAny_ite_false (decide_eq_false (by rw [c0]; exact Bool.false_ne_true)) ?_; wp_walk using wpAny_loadPart' hl)
      | (refine wpAny_ite_false (decide_eq_false (by rw [c1]; exact Bool.false_ne_true)) ?_; wp_walk using wpAny_loadPart' hl)
      | (refine wpAny_ite_true (decide_eq_true c2) ?_; wp_walk using wpAny_loadPart' hl)
      | (refine wpAny_ite_false (decide_eq_false (Nat.not_lt.mpr hsz)) ?_; wp_walk using wpAny_loadPart' hl))
    exact ⟨_, rfl, h⟩
def rMulT (K : PySem.W.Frag) : R2 := fun x y H Q => ∃ l k xs, x = .ref l ∧ y = .int k ∧ SqT K H l xs ∧ -1000 ≤ k ∧ k ≤ 1000 ∧ xs.length ≤ 1000 ∧
  (xs = [] ∨ k = 1 → Q (.ref l) H) ∧ (xs ≠ [] → k ≤ 0 → ∀ p, H p = none → Q (.ref p) (upd H p (.tup []))) ∧
  (xs ≠ [] → 2 ≤ k → ∀ p, H p = none → Q (.ref p) (upd H p (.tup (List.replicate k.toNat xs).flatten)))
theorem op_mulT {X : Cx} : OpR X (binaryOp .Mult) (rMulT X.K) := by
  intro pins s σ H x y v u Q I rx ry h
  obtain ⟨l, k, xs, rfl, rfl, hT, h1, h2, hz, q1, q0, q2⟩ := h
  by_cases big : xs ≠ [] ∧ 2 ≤ k
  · exact op_repT pins s σ H _ _ v u Q I rx ry ⟨l, k, xs, rfl, rfl, hT, big.1, big.2, h2, hz, q2 big.1 big.2⟩
  · cases rx
    obtain ⟨t, rfl⟩ := ry
    obtain ⟨its, r, ⟨⟨cls, dd, data, sl⟩, ho, hc, n, hd⟩, hs⟩ := I.tuple hT
    simp only at hc hd
    subst hc hd
    have hle : its.length = xs.length := r.length.symm
    have c0 : (decide (k < -(2 ^ 63)) || decide (k ≥ 2 ^ 63)) = false := by
      rw [decide_eq_false (by omega), decide_eq_false (by omega)] <;> rfl
    by_cases same : xs = [] ∨ k = 1
    · have c1 : (its.toArray.isEmpty || k == 1) = true := by
        rcases same with e | e
        · have : its = [] := List.eq_nil_of_length_eq_zero (by rw [hle, e]; rfl)
          subst this
          simp
        · subst e; simp
      refine wpAny_binaryOp_repeat_ref (T := "tuple") (U := "int") (by decide) ⟨_, ho, rfl⟩ (fun s' => typeIs_int s' k t) noFill_tuple_mul F.fills_int_mul F.slot_int_rmul repeat_tuple F.slot_int_index.lookup
        (call_meets F.slot_int_rmul (typeIs_int s k t) F.entry_int_rmul (F.args_int_rmul_2 _ _) (int_rmul_tuple k t l its.toArray n dd sl)
          ⟨ho, rfl, ⟨_, ho, rfl⟩, call_meets F.slot_tuple_mul ⟨_, ho, rfl⟩ F.entry_tuple_mul (F.args_tuple_mul_2 _ _) (tmul_same l its.toArray n dd sl k t c0 c1) ⟨ho, ?_⟩⟩)
      exact ⟨.ref l, H, I, rfl, q1 same⟩
    · have hne : xs ≠ [] := fun e => same (.inl e)
      have hk : k ≤ 0 := by
        have n1 : ¬ 2 ≤ k := fun e => big ⟨hne, e⟩
        have n2 : k ≠ 1 := fun e => same (.inr e)
        omega
      have hi : its.toArray.isEmpty = false := by
        cases its with
        | nil => exact absurd (List.eq_nil_of_length_eq_zero hle.symm) hne
        | cons a b => rfl
      have c1 : (its.toArray.isEmpty || k == 1) = false := by
        rw [hi, Bool.false_or]
        exact beq_eq_false_iff_ne.mpr (by omega)
      have c2 : (decide (k ≤ 0) || its.toArray.isEmpty) = true := by
        rw [decide_eq_true hk] <;> rfl
      refine wpAny_binaryOp_repeat_ref (T := "tuple") (U := "int") (by decide) ⟨_, ho, rfl⟩ (fun s' => typeIs_int s' k t) noFill_tuple_mul F.fills_int_mul F.slot_int_rmul repeat_tuple F.slot_int_index.lookup
        (call_meets F.slot_int_rmul (typeIs_int s k t) F.entry_int_rmul (F.args_int_rmul_2 _ _) (int_rmul_tuple k t l its.toArray n dd sl)
          ⟨ho, rfl, ⟨_, ho, rfl⟩, call_meets F.slot_tuple_mul ⟨_, ho, rfl⟩ F.entry_tuple_mul (F.args_tuple_mul_2 _ _) (tmul_none l its.toArray n dd sl k t c0 c1 c2 (Nat.zero_le _)) ⟨ho, ?_⟩⟩)
      refine ⟨.ref s.heap.objs.size, _, I.laid (t' := s.toks) (o := .tup []) (fun b ob q => Heap.get?_push_of_some _ q) (Nat.le_refl _) ?_, rfl, q0 hne hk _ (I.hok.fresh (Nat.le_refl _))⟩
      exact ⟨Nat.zero_le _, [], .nil, IsTup.new _ _⟩
/-- ints, a tuple times an int -/
def dMulA (S : Store) : D → D → Option D
  | .tup xs, .int k => if decide (-1000 ≤ k) && decide (k ≤ 1000) && decide (xs.length ≤ 1000) then some (.tup (List.replicate k.toNat xs).flatten) else none
  | a, b => dMul S a b
def rMulA (K : PySem.W.Frag) : R2 := fun x y H Q => rI CMulW (fun i j => .int (i * j)) x y H Q ∨ rMulT K x y H Q
theorem o_mul {X : Cx} : OpR X (binaryOp .Mult) (rMulA X.K) := op_mulW.or op_mulT
theorem s_mulA {K : PySem.W.Frag} : OpS K (rMulA K) dMulA := by
  intro ι Z H S a b d va vb Q s ra rb h k
  by_cases ht : ∃ xs j, a = .tup xs ∧ b = .int j
  · obtain ⟨xs, j, rfl, rfl⟩ := ht
    simp only [dMulA] at h
    split at h
    · rename_i hz
      cases h
      simp only [Bool.and_eq_true, decide_eq_true_eq] at hz
      obtain ⟨a, vs, rfl, h1, h2⟩ := ra
      have l1 := h2.length
      refine .inr ⟨a, j, vs, rfl, rb, h1, hz.1.1, hz.1.2, by omega, fun e => ?_, fun _ hj p hp => ?_, fun _ hj p hp => ?_⟩
      · refine k H _ (Ex.refl _) ⟨a, vs, rfl, h1, ?_⟩
        rcases e with e | e
        · subst e
          have : xs = [] := by simpa using l1.symm
          subst this
          have e2 : (List.replicate j.toNat ([] : List D)).flatten = [] := by
            generalize j.toNat = m
            induction m with
            | zero => rfl
            | succ m ih => simp [List.replicate_succ, ih]
          rw [e2]; exact rfl
        · subst e
          show RDs K ι Z H (List.replicate 1 xs).flatten vs
          simpa using h2
      · have e : j.toNat = 0 := by omega
        rw [e] at k
        exact k _ _ (Ex.upd hp) ⟨p, [], rfl, .inl (.inl upd_same), rfl⟩
      · exact k _ _ (Ex.upd hp) ⟨p, _, rfl, .inl (.inl upd_same), (h2.rep _).ext (Ext.ex (Ex.upd hp))⟩
    · cases h
  · have h : dMul S a b = some d := by
      cases a <;> first | exact h | (cases b <;> first | exact h | exact absurd ⟨_, _, rfl, rfl⟩ ht)
    exact .inl (s_mul ι Z H S a b d va vb Q s ra rb h k)
/-! ### xs + ys, xs * k of lists -/
def trkD (S : Store) : D → Option (List D)
  | .lst ds => some ds
  | .ptr n => match S[n]? with
    | some (.lst ds) => some ds
    | none => none
  | _ => none
theorem trk_rep {K : PySem.W.Frag} {ι Z : List Addr} {H : Hp} {S : Store} {d : D} {v : V} {ds : List D} (s : SR K ι Z H S) (r : RD K ι Z H d v) (h : trkD S d = some ds) : ∃ a vs, v = .ref a ∧ H a = some (.lst vs) ∧ RDs K ι Z H ds vs := by
  cases d with
  | lst ds' =>
    cases h
    obtain ⟨a, vs, rfl, h1, h2, h3, h4⟩ := r
    exact ⟨a, vs, rfl, h3, h4⟩
  | ptr n =>
    obtain ⟨a, rfl, hn⟩ := r
    obtain ⟨ds', vs, h1, h2, h3⟩ := s.ob n a hn
    simp only [trkD, h1] at h
    cases h
    exact ⟨a, vs, rfl, h2, h3⟩
  | _ => cases h
def lAdd (S : Store) (a b : D) : Option (List D) := match trkD S a, trkD S b with
  | some x, some y => if x.length + y.length ≤ 100000 then some (x ++ y) else none
  | _, _ => none
theorem s_addL {K : PySem.W.Frag} : OpL K rCat lAdd := by
  intro ι Z H S a b ds va vb Q s ra rb h k
  unfold lAdd at h
  cases h1 : trkD S a with
  | none => rw [h1] at h; cases h
  | some x =>
    cases h2 : trkD S b with
    | none => rw [h1, h2] at h; cases h
    | some y =>
      rw [h1, h2] at h
      simp only at h
      split at h
      · rename_i hz
        cases h
        obtain ⟨p, vs, rfl, g1, g2⟩ := trk_rep s ra h1
        obtain ⟨q, us, rfl, g3, g4⟩ := trk_rep s rb h2
        have l1 := g2.length
        have l2 := g4.length
        exact ⟨p, q, vs, us, rfl, rfl, g1, g3, by rw [l1, l2, sizeLine_eq]; omega, fun l hl => k l _ hl (g2.app g4)⟩
      · cases h
def lMul (S : Store) (a b : D) : Option (List D) := match trkD S a, b with
  | some x, .int k => if decide (-1000 ≤ k) && decide (k ≤ 1000) && decide (x.length ≤ 1000) then some (List.replicate k.toNat x).flatten else none
  | _, _ => none
theorem s_mulL {K : PySem.W.Frag} : OpL K rRep lMul := by
  intro ι Z H S a b ds va vb Q s ra rb h k
  unfold lMul at h
  cases h1 : trkD S a with
  | none => rw [h1] at h; cases h
  | some x =>
    rw [h1] at h
    cases b with
    | int j =>
      simp only at h
      split at h
      · rename_i hz
        cases h
        simp only [Bool.and_eq_true, decide_eq_true_eq] at hz
        obtain ⟨p, vs, rfl, g1, g2⟩ := trk_rep s ra h1
        have l1 := g2.length
        refine ⟨p, j, vs, rfl, rb, g1, by omega, by omega, ?_, fun l hl => k l _ hl (g2.rep _)⟩
        rw [l1, sizeLine_eq]
        have a1 : x.length * j.toNat ≤ 1000 * 1000 := Nat.mul_le_mul hz.2 (by omega)
        omega
      · cases h
    | _ => cases h

/-! ### slices -/
def cutD (xs : List D) (lo hi : Option Int) : List D := (xs.drop (HT.sIx xs.length 0 lo)).take (HT.sIx xs.length xs.length hi - HT.sIx xs.length 0 lo)
theorem cut_rep {K : PySem.W.Frag} {ι Z : List Addr} {H : Hp} {ds : List D} {vs : List V} (lo hi : Option Int) (r : RDs K ι Z H ds vs) : RDs K ι Z H (cutD ds lo hi) (cutV vs lo hi) := by
  unfold cutD cutV
  rw [r.length]
  exact (r.drop _).take _
def relO : List Addr → List Addr → Hp → Option Int → Option Int → Prop := fun _ _ _ a b => a = b
abbrev tO (K : PySem.W.Frag) (mg : Str → Option Value) (W : WX) (f : F (Option Int)) : L2.TO := tG K mg relO W f
def oN : F (Option Int) := fun _ S => .ok none S
def oS (f : F D) : F (Option Int) := fun ρ S => (f ρ S).bind fun d S1 => match d with
  | .int i => .ok (some i) S1
  | _ => .bad
def eSl (f : F D) (lo hi : F (Option Int)) : F D := fun ρ S => (f ρ S).bind fun d S1 => (lo ρ S1).bind fun l S2 => (hi ρ S2).bind fun h S3 => match d with
  | .tup ds => .ok (.tup (cutD ds l h)) S3
  | _ => .bad
def lSl (f : F D) (lo hi : F (Option Int)) : F (List D) := fun ρ S => (f ρ S).bind fun d S1 => (lo ρ S1).bind fun l S2 => (hi ρ S2).bind fun h S3 => match d with
  | .tup _ => .bad
  | d => match seqD S3 d with
    | some ds => .ok (cutD ds l h) S3
    | none => .bad
section
variable {X : Cx} {W : WX} {e : Expr} {f : F D} {pos p2 : Pos} {lo hi : Option Expr} {fl fh : F (Option Int)}
theorem so_n : PO X none (tO X.K X.mg W oN) := ⟨fun pins s σ H Q I h => po_none.run pins s σ H Q I (by
  obtain ⟨ι, Z, ρ, S, hρ, hS, h⟩ := h
  exact h ι H none (Ext.refl _ _) hS rfl)⟩
theorem so_s (he : PE X e (tE X.K X.mg W f)) : PO X (some e) (tO X.K X.mg W (oS f)) := ⟨fun pins s σ H Q I h => (po_some he).run pins s σ H Q I (by
  obtain ⟨ι, Z, ρ, S, hρ, hS, h⟩ := h
  refine ⟨ι, Z, ρ, S, hρ, hS, Pg.bnd h fun d S1 ι1 H1 v e1 s1 rd h1 => ?_⟩
  cases d with
  | int i => exact ⟨i, rd, h1 ι1 H1 _ (Ext.refl _ _) s1 rfl⟩
  | _ => exact h1.elim)⟩
/-- a tuple cut -/
theorem se_sl (he : PE X e (tE X.K X.mg W f)) (h1 : PO X lo (tO X.K X.mg W fl)) (h2 : PO X hi (tO X.K X.mg W fh)) : PE X (.Subscript e (.Slice lo hi none p2) pos) (tE X.K X.mg W (eSl f fl fh)) :=
  peImp (pe_slice sl_tupA he h1 h2) fun σ H Q h => by
    obtain ⟨ι, Z, ρ, S, hρ, hS, h⟩ := h
    refine ⟨ι, Z, ρ, S, hρ, hS, Pg.bnd h fun d S1 ι1 H1 v e1 s1 rd h1 => ?_⟩
    refine ⟨ι1, Z, ρ, S1, hρ.ext e1, s1, Pg.bnd h1 fun l S2 ι2 H2 l' e2 s2 rl h2 => ?_⟩
    refine ⟨ι2, Z, ρ, S2, (hρ.ext e1).ext e2, s2, Pg.bnd h2 fun h S3 ι3 H3 h' e3 s3 rh h3 => ?_⟩
    have rl : l = l' := rl
    have rh : h = h' := rh
    subst rl rh
    cases d with
    | tup ds =>
      obtain ⟨a, vs, rfl, g1, g2⟩ := (rd.ext e2).ext e3
      have lv := g2.length
      refine ⟨a, vs, rfl, g1, fun w => ?_, fun w p hp => ?_⟩
      · refine h3 ι3 H3 _ (Ext.refl _ _) s3 ⟨a, vs, rfl, g1, ?_⟩
        have := cut_rep l h g2
        unfold cutV at this
        rw [w.1, w.2] at this
        simpa using this
      · exact h3 ι3 _ _ (Ext.ex (Ex.upd hp)) (s3.ex (Ex.upd hp)) ⟨p, _, rfl, .inl (.inl upd_same), (cut_rep l h g2).ext (Ext.ex (Ex.upd hp))⟩
    | _ => exact h3.elim
/-- a list cut -/
theorem sl_sl (he : PE X e (tE X.K X.mg W f)) (h1 : PO X lo (tO X.K X.mg W fl)) (h2 : PO X hi (tO X.K X.mg W fh)) : PE X (.Subscript e (.Slice lo hi none p2) pos) (tL X.K X.mg W (lSl f fl fh)) :=
  peImp (pe_slice sl_list he h1 h2) fun σ H Q h => by
    obtain ⟨ι, Z, ρ, S, hρ, hS, h⟩ := h.out
    refine ⟨ι, Z, ρ, S, hρ, hS, Pg.bndL h fun d S1 ι1 H1 v e1 s1 rd h1 => ?_⟩
    refine ⟨ι1, Z, ρ, S1, hρ.ext e1, s1, Pg.bndL h1 fun l S2 ι2 H2 l' e2 s2 rl h2 => ?_⟩
    refine ⟨ι2, Z, ρ, S2, (hρ.ext e1).ext e2, s2, Pg.bndL h2 fun h S3 ι3 H3 h' e3 s3 rh h3 => ?_⟩
    have rl : l = l' := rl
    have rh : h = h' := rh
    subst rl rh
    have rd := (rd.ext e2).ext e3
    have nt : ∀ ds', d ≠ .tup ds' := by rintro ds' rfl; exact h3.elim
    have h3' : Pl X.K X.mg ι3 Z H H3 (fun c d H' => W c d σ H') Q (match seqD S3 d with | some ds => .ok (cutD ds l h) S3 | none => .bad) := by
      cases d <;> first | exact h3 | exact absurd rfl (nt _)
    cases hs : seqD S3 d with
    | none => rw [hs] at h3'; exact h3'.elim
    | some ds =>
      rw [hs] at h3'
      obtain ⟨a, vs, rfl, g1, g2⟩ := seq_rep s3 rd hs
      rcases g2 with ⟨⟨_, g⟩, _⟩ | ⟨_, g2⟩
      · exact absurd g (nt _)
      · exact ⟨a, vs, rfl, g2, fun p hp => Pl.lay0 ((e1.trans e2).trans e3) s3 h3' p _ hp (cut_rep l h g1)⟩
end
end Sm


set_option Elab.async false
set_option linter.all false
set_option maxRecDepth 100000
set_option maxHeartbeats 1000000
namespace Sm
open PySem L2

/-! ### statements -/
inductive RS where
  | nx (ρ : Envm) (S : Store)
  | rt (d : D) (S : Store)
  | bk (ρ : Envm) (S : Store)
  | ct (ρ : Envm) (S : Store)
  | exc (x : Xd) (ρ : Envm) (S : Store)
  | bad
abbrev G := Envm → Store → RS
def Ps (K : PySem.W.Frag) (mg : Str → Option Value) (W : WX) (ι Z : List Addr) (H : Hp) (Dn : Ends) : RS → Prop
  | .nx ρ S' => ∀ ι' H' σ', Ext ι ι' H H' → SR K ι' Z H' S' → RE K ι' Z H' ρ σ' → Dn.nx σ' H'
  | .rt d S' => ∀ ι' H' v, Ext ι ι' H H' → SR K ι' Z H' S' → RD K ι' Z H' d v → Dn.rt v H'
  | .bk ρ S' => ∀ ι' H' σ', Ext ι ι' H H' → SR K ι' Z H' S' → RE K ι' Z H' ρ σ' → Dn.bk σ' H'
  | .ct ρ S' => ∀ ι' H' σ', Ext ι ι' H H' → SR K ι' Z H' S' → RE K ι' Z H' ρ σ' → Dn.ct σ' H'
  | .exc x ρ S' => ∀ ι' H' σ' cls dd, Ext ι ι' H H' → SR K ι' Z H' S' → RE K ι' Z H' ρ σ' → RX K mg ι' Z H' x cls dd → W cls dd σ' H'
  | .bad => False
def tS (K : PySem.W.Frag) (mg : Str → Option Value) (W : WX) (g : G) : TS := fun Dn σ H => ∃ ι Z ρ S, RE K ι Z H ρ σ ∧ SR K ι Z H S ∧ Ps K mg W ι Z H Dn (g ρ S)
/-- an expression's result, then a statement's -/
def toS {α : Type} (ρ : Envm) (r : R α) (k : α → Store → RS) : RS := match r with
  | .ok a S => k a S
  | .exc x S => .exc x ρ S
  | .bad => .bad
section
variable {K : PySem.W.Frag} {mg : Str → Option Value} {W : WX} {ι ι1 Z : List Addr} {H H1 : Hp} {Dn Dn' : Ends} {σ : L2.St} {ρ : Envm}
theorem Ps.ext {r : RS} (e : Ext ι ι1 H H1) (h : Ps K mg W ι Z H Dn r) : Ps K mg W ι1 Z H1 Dn r := by
  cases r with
  | nx ρ S => exact fun ι' H' b e' => h ι' H' b (e.trans e')
  | rt ρ S => exact fun ι' H' b e' => h ι' H' b (e.trans e')
  | bk ρ S => exact fun ι' H' b e' => h ι' H' b (e.trans e')
  | ct ρ S => exact fun ι' H' b e' => h ι' H' b (e.trans e')
  | exc x ρ S => exact fun ι' H' σ' c d e' => h ι' H' σ' c d (e.trans e')
  | bad => exact h
theorem Ps.ex {α β : Type} {rel : List Addr → List Addr → Hp → α → β → Prop} {r : R α} {k : α → Store → RS} {Q : β → Hp → Prop} (hρ : RE K ι Z H ρ σ) (h : Ps K mg W ι Z H Dn (toS ρ r k))
    (hk : ∀ a S' ι' H' b, Ext ι ι' H H' → SR K ι' Z H' S' → rel ι' Z H' a b → Ps K mg W ι' Z H' Dn (k a S') → Q b H') : Pg K mg rel ι Z H (fun c d H' => W c d σ H') Q r := by
  cases r with
  | ok a S => exact fun ι' H' b e s q => hk a S ι' H' b e s q (Ps.ext e h)
  | exc x S => exact fun ι' H' c d e s q => h ι' H' σ c d e s (hρ.ext e) q
  | bad => exact h
end

def gSeq (g1 g2 : G) : G := fun ρ S => match g1 ρ S with
  | .nx ρ' S' => g2 ρ' S'
  | r => r
def gNx : G := fun ρ S => .nx ρ S
/-- name = e -/
def gA (i : Nat) (f : F D) : G := fun ρ S => toS ρ (f ρ S) fun d S' => .nx (ρ.set i (some d)) S'
/-- a, b = x, y -/
def gP (i j : Nat) (fs : F (List D)) : G := fun ρ S => toS ρ (fs ρ S) fun ds S' => match ds with
  | [d, e] => .nx ((ρ.set i (some d)).set j (some e)) S'
  | _ => .bad
def gR (f : F D) : G := fun ρ S => toS ρ (f ρ S) fun d S' => .rt d S'
def gX (f : F D) : G := fun ρ S => toS ρ (f ρ S) fun _ S' => .nx ρ S'
def gI (ft : F Bool) (g1 g2 : G) : G := fun ρ S => toS ρ (ft ρ S) fun b S' => if b then g1 ρ S' else g2 ρ S'
/-- o[i] = e -/
def gSet (f fo fi : F D) : G := fun ρ S => toS ρ (f ρ S) fun d S1 => toS ρ (fo ρ S1) fun o S2 => toS ρ (fi ρ S2) fun i S3 => match o, i with
  | .ptr n, .int k => match S3[n]? with
    | some (.lst ds) => match ixN ds.length k with
      | some j => .nx ρ (S3.set n (.lst (ds.set j d)))
      | none => .bad
    | none => .bad
  | _, _ => .bad
def gWh (ft : F Bool) (g : G) : Nat → G
  | 0, _, _ => .bad
  | n + 1, ρ, S => toS ρ (ft ρ S) fun b S1 => if b then (match g ρ S1 with
    | .nx ρ' S' => gWh ft g n ρ' S'
    | .ct ρ' S' => gWh ft g n ρ' S'
    | .bk ρ' S' => .nx ρ' S'
    | r => r) else .nx ρ S1
section
variable {X : Cx} {W : WX} {st : Stmt} {rest : List Stmt} {g g2 : G} {e : Expr} {f : F D} {pos : Pos}
theorem ss_nil : PSs X [] (tS X.K X.mg W gNx) := pssImp pss_nil fun Dn σ H ⟨ι, Z, ρ, S, hρ, hS, h⟩ => h ι H σ (Ext.refl _ _) hS hρ
theorem i_seq {t u : TS} {Dn : Ends} {σ : L2.St} {H : Hp} {K : PySem.W.Frag} {mg : Str → Option Value} (q : ∀ Dn, tS K mg W g Dn σ H → t Dn σ H) (q2 : ∀ Dn σ H, tS K mg W g2 Dn σ H → u Dn σ H) (h : tS K mg W (gSeq g g2) Dn σ H) : tSeq t u Dn σ H := by
  obtain ⟨ι, Z, ρ, S, hρ, hS, h⟩ := h
  refine q _ ⟨ι, Z, ρ, S, hρ, hS, ?_⟩
  unfold gSeq at h
  cases hg : g ρ S with
  | nx ρ' S' =>
    rw [hg] at h
    exact fun ι' H' σ' e s r => q2 _ _ _ ⟨ι', Z, ρ', S', r, s, Ps.ext e h⟩
  | rt d S' => rw [hg] at h; exact h
  | bk d S' => rw [hg] at h; exact h
  | ct d S' => rw [hg] at h; exact h
  | exc x d S' => rw [hg] at h; exact h
  | bad => rw [hg] at h; exact h
theorem ss_c (h1 : PS X st (tS X.K X.mg W g)) (h2 : PSs X rest (tS X.K X.mg W g2)) : PSs X (st :: rest) (tS X.K X.mg W (gSeq g g2)) :=
  pssImp (pss_cons h1 h2) fun Dn σ H h => i_seq (fun _ h => h) (fun _ _ _ h => h) h
theorem ss_1 (h1 : PS X st (tS X.K X.mg W g)) : PSs X [st] (tS X.K X.mg W g) := pss_one h1
theorem i_a {i : Nat} {Dn : Ends} {σ : L2.St} {H : Hp} {K : PySem.W.Frag} {mg : Str → Option Value} (h : tS K mg W (gA i f) Dn σ H) : tAsg (tE K mg W f) (gName i) Dn σ H := by
  obtain ⟨ι, Z, ρ, S, hρ, hS, h⟩ := h
  exact ⟨ι, Z, ρ, S, hρ, hS, Ps.ex hρ h fun d S1 ι1 H1 v e1 s1 rd h1 => h1 ι1 H1 _ (Ext.refl _ _) s1 ((hρ.ext e1).set rd)⟩
theorem ss_a {i : Nat} {x : Str} {pos' : Pos} (hN : X.N.Nodup) (he : PE X e (tE X.K X.mg W f)) (hi : X.N[i]? = some x := by rfl) (hx : Loc X.env.scope x := by first | exact Or.inl rfl | exact Or.inr rfl) (hs : swapsWith e (some (.Name x pos')) pos.line X.env = pure false := by rfl)
    (hf : X.fn x = true ∨ X.env.scope.names.lookup x = some .local := by first | exact .inl rfl | exact .inr rfl) : PS X (.Assign [.Name x pos'] e pos) (tS X.K X.mg W (gA i f)) :=
  psImp (ps_set hN hi hx he hs hf) fun Dn σ H h => i_a h
theorem i_el {K : PySem.W.Frag} {mg : Str → Option Value} {fl : F (List D)} {σ : L2.St} {H : Hp} {Q : VK} (h : tE K mg W (eL fl) σ H Q) : tL K mg W fl σ H Q := by
  obtain ⟨ι, Z, ρ, S, hρ, hS, h⟩ := h
  refine ⟨ι, Z, ρ, S, hρ, hS, ?_⟩
  unfold eL at h
  cases hf : fl ρ S with
  | ok ds S' =>
    rw [hf] at h
    intro ι' H' p vs e hp s nz hl rds
    exact h ι' H' (.ref p) e (s.weak fun a m => List.mem_cons_of_mem _ m) ⟨p, vs, rfl, (s.zt p List.mem_cons_self).2, nz, hl, rds.weak fun a m => List.mem_cons_of_mem _ m⟩
  | exc x S' => rw [hf] at h; exact h
  | bad => rw [hf] at h; exact h
theorem i_en {K : PySem.W.Frag} {mg : Str → Option Value} {fl : F (List D)} {σ : L2.St} {H : Hp} {Q : VK} (h : tE K mg W (eN fl) σ H Q) : tL K mg W fl σ H Q := by
  obtain ⟨ι, Z, ρ, S, hρ, hS, h⟩ := h
  refine ⟨ι, Z, ρ, S, hρ, hS, ?_⟩
  unfold eN at h
  cases hf : fl ρ S with
  | ok ds S' =>
    rw [hf] at h
    intro ι' H' p vs e hp s nz hl rds
    refine h (ι' ++ [p]) H' (.ref p) (e.own hp) (s.own nz hl rds) ⟨p, rfl, ?_⟩
    rw [s.len]; simp
  | exc x S' => rw [hf] at h; exact h
  | bad => rw [hf] at h; exact h
theorem ss_p {i j : Nat} {x y : Str} {a b : Expr} {fs : F (List D)} {px py pt : Pos} {kt k2 : Nat} {pt2 : Pos} (hc : X.calm = true) (hN : X.N.Nodup) (ha : PA X [a, b] (tA X.K X.mg W fs)) (hij : i ≠ j := by decide)
    (hw : swappedStores [.Tuple [.Name x px, .Name y py] kt pt] (.Tuple [a, b] k2 pt2) X.env = pure (some [x, y]) := by rfl) (hi : X.N[i]? = some x := by rfl) (hj : X.N[j]? = some y := by rfl)
    (hx : X.env.scope.names.lookup x = some .local := by rfl) (hy : X.env.scope.names.lookup y = some .local := by rfl)
    (hs : swapsWithSole [.Tuple [.Name x px, .Name y py] kt pt] (.Tuple [a, b] k2 pt2) pos.line X.env = pure false := by rfl) :
    PS X (.Assign [.Tuple [.Name x px, .Name y py] kt pt] (.Tuple [a, b] k2 pt2) pos) (tS X.K X.mg W (gP i j fs)) :=
  psImp (ps_par hc hN hi hj hij hx hy ha hw hs) fun Dn σ H ⟨ι, Z, ρ, S, hρ, hS, h⟩ => by
    refine ⟨ι, Z, ρ, S, hρ, hS, Ps.ex hρ h fun ds S1 ι1 H1 vs e1 s1 rds h1 => ?_⟩
    match ds, h1 with
    | [d, e], h1 =>
      obtain ⟨v, w, rfl, q1, q2⟩ := rds.inv2
      exact ⟨v, w, rfl, h1 ι1 H1 _ (Ext.refl _ _) s1 (((hρ.ext e1).set q1).set q2)⟩
    | [], h1 => exact h1.elim
    | [_], h1 => exact h1.elim
    | _ :: _ :: _ :: _, h1 => exact h1.elim
theorem ss_r (he : PE X e (tE X.K X.mg W f)) : PS X (.Return (some e) pos) (tS X.K X.mg W (gR f)) := psImp (ps_ret he) fun Dn σ H ⟨ι, Z, ρ, S, hρ, hS, h⟩ =>
  ⟨ι, Z, ρ, S, hρ, hS, Ps.ex hρ h fun d S1 ι1 H1 v e1 s1 rd h1 => h1 ι1 H1 _ (Ext.refl _ _) s1 rd⟩
theorem ss_x (he : PE X e (tE X.K X.mg W f)) (hs : swapsWith e none pos.line X.env = pure false := by rfl) : PS X (.Expr e pos) (tS X.K X.mg W (gX f)) := psImp (ps_expr he hs) fun Dn σ H ⟨ι, Z, ρ, S, hρ, hS, h⟩ =>
  ⟨ι, Z, ρ, S, hρ, hS, Ps.ex hρ h fun d S1 ι1 H1 v e1 s1 rd h1 => h1 ι1 H1 _ (Ext.refl _ _) s1 (hρ.ext e1)⟩
theorem ss_i {c : Expr} {a b : List Stmt} {ft : F Bool} (hc : PT X c (tT X.K X.mg W ft)) (ha : PSs X a (tS X.K X.mg W g)) (hb : PSs X b (tS X.K X.mg W g2)) : PS X (.If c a b pos) (tS X.K X.mg W (gI ft g g2)) :=
  psImp (ps_if hc ha hb) fun Dn σ H ⟨ι, Z, ρ, S, hρ, hS, h⟩ => by
    refine ⟨ι, Z, ρ, S, hρ, hS, Ps.ex hρ h fun d S1 ι1 H1 v e1 s1 rd h1 => ?_⟩
    have rv : d = v := rd
    subst rv
    cases d with
    | true => exact ⟨ι1, Z, ρ, S1, hρ.ext e1, s1, h1⟩
    | false => exact ⟨ι1, Z, ρ, S1, hρ.ext e1, s1, h1⟩
theorem ss_set {o i : Expr} {fo fi : F D} {ip : Pos} (he : PE X e (tE X.K X.mg W f)) (ho : PE X o (tE X.K X.mg W fo)) (hi : PE X i (tE X.K X.mg W fi))
    (ha : ∀ v, assign (.Subscript o i ip) X.env v = (do
      let ov ← holding [v] (eval o X.env)
      let iv ← holding [v, ov] (eval i X.env)
      standAt ip
      holding [v, ov, iv] (setItem ov iv v)
      release [v, ov, iv] []) := by intro _; rfl)
    (hs : swapsWithSole [.Subscript o i ip] e pos.line X.env = pure false := by rfl) (hw : swappedStores [.Subscript o i ip] e X.env = pure none := by rfl) (h1 : (assignEach [.Subscript o i ip] X.env).map (·.2) = [assign (.Subscript o i ip) X.env] := by rfl) :
    PS X (.Assign [.Subscript o i ip] e pos) (tS X.K X.mg W (gSet f fo fi)) := psImp (ps_asg he (pg_sub ho hi set_list ha) hs hw h1) fun Dn σ H ⟨ι, Z, ρ, S, hρ, hS, h⟩ => by
  refine ⟨ι, Z, ρ, S, hρ, hS, Ps.ex hρ h fun d S1 ι1 H1 v e1 s1 rd h1 => ?_⟩
  refine ⟨ι1, Z, ρ, S1, hρ.ext e1, s1, Ps.ex (hρ.ext e1) h1 fun o S2 ι2 H2 ov e2 s2 ro h2 => ?_⟩
  refine ⟨ι2, Z, ρ, S2, (hρ.ext e1).ext e2, s2, Ps.ex ((hρ.ext e1).ext e2) h2 fun i S3 ι3 H3 iv e3 s3 ri h3 => ?_⟩
  cases o with
  | ptr n =>
    cases i with
    | int k =>
      obtain ⟨a, rfl, hn⟩ := ro.ext e3
      obtain ⟨ds, vs, g1, g2, g3⟩ := s3.ob n a hn
      simp only [g1] at h3
      cases hj : ixN ds.length k with
      | none => rw [hj] at h3; exact h3.elim
      | some j =>
        rw [hj] at h3
        have rd3 := (rd.ext e2).ext e3
        obtain ⟨q1, q2⟩ := s3.put hn (g3.set (i := j) rd3)
        refine ⟨a, vs, k, j, rfl, ri, g2, by rw [g3.length]; exact hj, ?_⟩
        exact h3 ι3 _ _ q1 q2 ((((hρ.ext e1).ext e2).ext e3).ext q1)
    | _ => exact h3.elim
  | _ => exact h3.elim
theorem ss_pass : PS X (.Pass pos) (tS X.K X.mg W gNx) := psImp ps_pass fun Dn σ H ⟨ι, Z, ρ, S, hρ, hS, h⟩ => h ι H σ (Ext.refl _ _) hS hρ
theorem ss_break : PS X (.Break pos) (tS X.K X.mg W fun ρ S => .bk ρ S) := psImp ps_break fun Dn σ H ⟨ι, Z, ρ, S, hρ, hS, h⟩ => h ι H σ (Ext.refl _ _) hS hρ
theorem ss_cont : PS X (.Continue pos) (tS X.K X.mg W fun ρ S => .ct ρ S) := psImp ps_continue fun Dn σ H ⟨ι, Z, ρ, S, hρ, hS, h⟩ => h ι H σ (Ext.refl _ _) hS hρ
theorem ss_wh {c : Expr} {body : List Stmt} {ft : F Bool} (n : Nat) (hp : PassesOwn (model X.prog X.w) X.A X.env X.xe) (hc : PT X c (tT X.K X.mg W ft)) (hb : PSs X body (tS X.K X.mg W g)) : PS X (.While c body [] pos) (tS X.K X.mg W (gWh ft g n)) :=
  psImp (ps_while hp hc hb) fun Dn σ H h => by
    refine ⟨fun m σ H => tS X.K X.mg W (gWh ft g m) Dn σ H, ⟨n, h⟩, fun m σ H h => ?_⟩
    cases m with
    | zero =>
      obtain ⟨ι, Z, ρ, S, hρ, hS, h⟩ := h
      exact h.elim
    | succ m =>
      obtain ⟨ι, Z, ρ, S, hρ, hS, h⟩ := h
      refine ⟨ι, Z, ρ, S, hρ, hS, Ps.ex hρ h fun d S1 ι1 H1 v e1 s1 rd h1 => ?_⟩
      have rv : d = v := rd
      subst rv
      cases d with
      | false => exact h1 ι1 H1 _ (Ext.refl _ _) s1 (hρ.ext e1)
      | true =>
        refine ⟨fun σ H => tS X.K X.mg W (gWh ft g m) Dn σ H, fun σ' H' q => ⟨m, Nat.lt_succ_self _, q⟩, ι1, Z, ρ, S1, hρ.ext e1, s1, ?_⟩
        simp only [if_true] at h1
        cases hg : g ρ S1 with
        | nx ρ' S' => rw [hg] at h1; exact fun ι' H' σ' e s r => ⟨ι', Z, ρ', S', r, s, Ps.ext e h1⟩
        | ct ρ' S' => rw [hg] at h1; exact fun ι' H' σ' e s r => ⟨ι', Z, ρ', S', r, s, Ps.ext e h1⟩
        | bk ρ' S' => rw [hg] at h1; exact h1
        | rt d S' => rw [hg] at h1; exact h1
        | exc x d S' => rw [hg] at h1; exact h1
        | bad => rw [hg] at h1; exact h1
end

/-! ### methods of lists -/
def eM (c : Store → D → Bool) (g : Store → D → List D → Option (D × Store)) (fo : F D) (fa : F (List D)) : F D := fun ρ S => (fo ρ S).bind fun o S1 => if c S1 o then (fa ρ S1).bind fun as S2 => match g S2 o as with
  | some (d, S3) => .ok d S3
  | none => .bad else .bad
structure MtS (K : PySem.W.Frag) (T : String) (r : V → List V → Hp → VK → Prop) (c : Store → D → Bool) (g : Store → D → List D → Option (D × Store)) : Prop where
  ty : ∀ (ι Z : List Addr) (H : Hp) (S : Store) (o : D) (v : V), SR K ι Z H S → RD K ι Z H o v → c S o = true → tyV K T v H
  run : ∀ (ι Z : List Addr) (H : Hp) (S S' : Store) (o d : D) (as : List D) (v : V) (vs : List V) (Q : VK), SR K ι Z H S → RD K ι Z H o v → RDs K ι Z H as vs → g S o as = some (d, S') →
    (∀ ι' H' u, Ext ι ι' H H' → SR K ι' Z H' S' → RD K ι' Z H' d u → Q u H') → r v vs H Q
def isTrk (S : Store) (d : D) : Bool := (trkD S d).isSome
section
variable {X : Cx} {W : WX} {o e : Expr} {es : List Expr} {fo : F D} {fa : F (List D)} {pos apos : Pos} {T id : String} {name : Str} {r : V → List V → Hp → VK → Prop} {c : Store → D → Bool} {g : Store → D → List D → Option (D × Store)}
theorem i_m {K : PySem.W.Frag} {mg : Str → Option Value} {σ : L2.St} {H : Hp} {Q : VK} (M : MtS K T r c g) (h : tE K mg W (eM c g fo fa) σ H Q) : tBM K T r (tE K mg W fo) (tA K mg W fa) σ H Q := by
  obtain ⟨ι, Z, ρ, S, hρ, hS, h⟩ := h
  refine ⟨ι, Z, ρ, S, hρ, hS, Pg.bnd h fun d S1 ι1 H1 v e1 s1 rd h1 => ?_⟩
  by_cases hc : c S1 d = true
  · rw [if_pos hc] at h1
    refine ⟨M.ty ι1 Z H1 S1 d v s1 rd hc, ι1, Z, ρ, S1, hρ.ext e1, s1, Pg.bnd h1 fun as S2 ι2 H2 vs e2 s2 ras h2 => ?_⟩
    cases hg : g S2 d as with
    | none => rw [hg] at h2; exact h2.elim
    | some q =>
      obtain ⟨d', S3⟩ := q
      rw [hg] at h2
      exact M.run ι2 Z H2 S2 S3 d d' as v vs Q s2 (rd.ext e2) ras hg fun ι' H' u e s r => h2 ι' H' u e s r
  · rw [if_neg hc] at h1; exact h1.elim
end
theorem ty_list {K : PySem.W.Frag} {H : Hp} {a : Addr} {vs : List V} (h : H a = some (.lst vs)) : tyV K "list" (.ref a) H := .inl ⟨rfl, vs, SqL.of h⟩
theorem ty_trk {K : PySem.W.Frag} : ∀ (ι Z : List Addr) (H : Hp) (S : Store) (o : D) (v : V), SR K ι Z H S → RD K ι Z H o v → isTrk S o = true → tyV K "list" v H := fun ι Z H S o v s r h => by
  unfold isTrk at h
  obtain ⟨ds, hd⟩ := Option.isSome_iff_exists.mp h
  obtain ⟨a, vs, rfl, g1, g2⟩ := trk_rep s r hd
  exact ty_list g1
def mApp (S : Store) (o : D) (as : List D) : Option (D × Store) := match o, as with
  | .ptr n, [d] => match S[n]? with
    | some (.lst ds) => if ds.length < 100000 then some (.non, S.set n (.lst (ds ++ [d]))) else none
    | none => none
  | _, _ => none
theorem m_app {K : PySem.W.Frag} : MtS K "list" rAppend isTrk mApp := ⟨ty_trk, fun ι Z H S S' o d as v vs Q s ro ras h k => by
  cases o with
  | ptr n =>
    rcases as with _ | ⟨x, _ | ⟨y, r2⟩⟩
    · cases h
    · obtain ⟨a, rfl, hn⟩ := ro
      obtain ⟨ds, us, g1, g2, g3⟩ := s.ob n a hn
      obtain ⟨u, rfl, ru⟩ := ras.inv1
      simp only [mApp, g1] at h
      split at h
      · rename_i hz
        cases h
        obtain ⟨q1, q2⟩ := s.put hn (g3.app (RDs.one ru))
        exact ⟨a, us, u, rfl, rfl, g2, by rw [g3.length, sizeLine_eq]; omega, k ι _ _ q1 q2 rfl⟩
      · cases h
    · cases h
  | _ => cases h⟩
def mPop (S : Store) (o : D) (as : List D) : Option (D × Store) := match o, as with
  | .ptr n, [] => match S[n]? with
    | some (.lst ds) => match ds[ds.length - 1]? with
      | some d => some (d, S.set n (.lst ds.dropLast))
      | none => none
    | none => none
  | _, _ => none
theorem RDs.dropLast {K : PySem.W.Frag} {ι Z : List Addr} {H : Hp} {ds : List D} {vs : List V} (r : RDs K ι Z H ds vs) : RDs K ι Z H ds.dropLast vs.dropLast := by
  rw [List.dropLast_eq_take, List.dropLast_eq_take, r.length]
  exact r.take _
theorem m_pop {K : PySem.W.Frag} : MtS K "list" rPop isTrk mPop := ⟨ty_trk, fun ι Z H S S' o d as v vs Q s ro ras h k => by
  cases o with
  | ptr n =>
    rcases as with _ | ⟨x, r2⟩
    · obtain ⟨a, rfl, hn⟩ := ro
      obtain ⟨ds, us, g1, g2, g3⟩ := s.ob n a hn
      simp only [mPop, g1] at h
      cases q : ds[ds.length - 1]? with
      | none => rw [q] at h; cases h
      | some x =>
        rw [q] at h
        cases h
        obtain ⟨y, hy, ry⟩ := g3.get q
        have e : vs = [] := ras
        subst e
        obtain ⟨q1, q2⟩ := s.put hn g3.dropLast
        exact ⟨a, us, y, rfl, rfl, g2, by rw [g3.length]; exact hy, k ι _ _ q1 q2 (ry.ext q1)⟩
    · cases h
  | _ => cases h⟩
def mExt (S : Store) (o : D) (as : List D) : Option (D × Store) := match o, as with
  | .ptr n, [b] => match S[n]?, trkD S b with
    | some (.lst ds), some es => if ds.length + es.length ≤ 100000 then some (.non, S.set n (.lst (ds ++ es))) else none
    | _, _ => none
  | _, _ => none
theorem m_ext {K : PySem.W.Frag} : MtS K "list" rExtend isTrk mExt := ⟨ty_trk, fun ι Z H S S' o d as v vs Q s ro ras h k => by
  cases o with
  | ptr n =>
    rcases as with _ | ⟨x, _ | ⟨y, r2⟩⟩
    · cases h
    · obtain ⟨a, rfl, hn⟩ := ro
      obtain ⟨ds, us, g1, g2, g3⟩ := s.ob n a hn
      obtain ⟨u, rfl, ru⟩ := ras.inv1
      simp only [mExt, g1] at h
      cases q : trkD S x with
      | none => rw [q] at h; cases h
      | some es =>
        rw [q] at h
        simp only at h
        split at h
        · rename_i hz
          cases h
          obtain ⟨b, zs, rfl, j1, j2⟩ := trk_rep s ru q
          obtain ⟨q1, q2⟩ := s.put hn (g3.app j2)
          exact ⟨a, b, us, zs, rfl, rfl, g2, j1, by rw [g3.length, j2.length, sizeLine_eq]; omega, k ι _ _ q1 q2 rfl⟩
        · cases h
    · cases h
  | _ => cases h⟩
section
variable {X : Cx} {W : WX} {o e : Expr} {es : List Expr} {fo : F D} {fa : F (List D)} {pos apos : Pos} {T id : String} {name : Str} {r : V → List V → Hp → VK → Prop} {c : Store → D → Bool} {g : Store → D → List D → Option (D × Store)}
theorem se_m (pa : PlainAttrs T) (slot : Slot T name id) (hty : typeOf (.builtin id) = pure (.type "method_descriptor")) (hm : MtR X id r) (M : MtS X.K T r c g) (ho : PE X o (tE X.K X.mg W fo)) (ha : PA X (e :: es) (tA X.K X.mg W fa))
    (h1 : attributeBase o name X.env (eval o X.env) = eval o X.env := by rfl)
    (h2 : ((backTo pos (starEach (e :: es) X.env)).all (fun q => !q.1) && (backToKw pos (keywordEach [] X.env)).all (fun q => q.1.isSome) && decide ((e :: es).length + ([] : List Keyword).length + (if ([] : List Keyword).isEmpty then 0 else 1) < 30)) = true := by rfl)
    (h3 : (apos.endLine == pos.line) = true := by rfl) (h4 : starEach (e :: es) X.env = (false, eval e X.env) :: starEach es X.env := by rfl) (h5 : (backTo pos (starEach es X.env)).any (·.1) = false := by rfl) :
    PE X (.Call (.Attribute o name apos) (e :: es) [] pos) (tE X.K X.mg W (eM c g fo fa)) := peImp (pe_bm pa slot hty hm ho ha h1 h2 h3 h4 h5) fun σ H Q h => i_m M h
theorem se_m0 (pa : PlainAttrs T) (slot : Slot T name id) (hty : typeOf (.builtin id) = pure (.type "method_descriptor")) (hm : MtR X id r) (M : MtS X.K T r c g) (ho : PE X o (tE X.K X.mg W fo))
    (h1 : attributeBase o name X.env (eval o X.env) = eval o X.env := by rfl) (h3 : (apos.endLine == pos.line) = true := by rfl) :
    PE X (.Call (.Attribute o name apos) [] [] pos) (tE X.K X.mg W (eM c g fo aN)) := peImp (pe_bm0 pa slot hty hm ho h1 h3) fun σ H Q h => by
  obtain ⟨ι, Z, ρ, S, hρ, hS, h⟩ := h
  refine ⟨ι, Z, ρ, S, hρ, hS, Pg.bnd h fun d S1 ι1 H1 v e1 s1 rd h1 => ?_⟩
  by_cases hc : c S1 d = true
  · rw [if_pos hc] at h1
    refine ⟨M.ty ι1 Z H1 S1 d v s1 rd hc, ?_⟩
    cases hg : g S1 d [] with
    | none => simp only [aN, R.bind, hg] at h1; exact h1.elim
    | some q =>
      obtain ⟨d', S3⟩ := q
      simp only [aN, R.bind, hg] at h1
      exact M.run ι1 Z H1 S1 S3 d d' [] v [] Q s1 rd rfl hg fun ι' H' u e s r => h1 ι' H' u e s r
  · rw [if_neg hc] at h1; exact h1.elim
end
end Sm


set_option Elab.async false
set_option linter.all false
set_option maxRecDepth 100000
set_option maxHeartbeats 1000000
namespace Sm
open PySem L2

/-! ### targets -/
abbrev Tg := D → Envm → Option Envm
def tgN (i : Nat) : Tg := fun d ρ => some (ρ.set i (some d))
def tgs : List Tg → List D → Envm → Option Envm
  | [], [], ρ => some ρ
  | t :: ts, d :: ds, ρ => (t d ρ).bind fun ρ' => tgs ts ds ρ'
  | _, _, _ => none
def tgT (ts : List Tg) : Tg := fun d ρ => match d with
  | .tup ds => tgs ts ds ρ
  | _ => none
/-- a target's reading; js: the slots it stores to -/
def tGt (K : PySem.W.Frag) (τ : Tg) (js : List Nat) : TG := fun v σ H Q => ∃ ι Z ρ d ρ', RE K ι Z H ρ σ ∧ RD K ι Z H d v ∧ τ d ρ = some ρ' ∧
  ∀ σ', RE K ι Z H ρ' σ' → (∀ vs : List Nat, (∀ j, j ∈ js → j ∈ vs) → wipe σ' vs = wipe σ vs) → Q σ' H
def tGts (K : PySem.W.Frag) (ts : List Tg) (js : List Nat) : TGs := fun vs σ H Q => ∃ ι Z ρ ds ρ', RE K ι Z H ρ σ ∧ RDs K ι Z H ds vs ∧ tgs ts ds ρ = some ρ' ∧
  ∀ σ', RE K ι Z H ρ' σ' → (∀ vs : List Nat, (∀ j, j ∈ js → j ∈ vs) → wipe σ' vs = wipe σ vs) → Q σ' H
theorem wipe_get (σ : L2.St) : ∀ (vs : List Nat) (i : Nat), (wipe σ vs)[i]? = if i ∈ vs then (if i < σ.length then some none else none) else σ[i]?
  | [], i => by simp [wipe]
  | v :: vs, i => by
    have ih := wipe_get σ vs i
    unfold wipe
    by_cases hv : v = i
    · subst hv
      rw [if_pos List.mem_cons_self]
      by_cases hl : v < (wipe σ vs).length
      · rw [List.getElem?_set_self hl]
        rw [wipe_length] at hl
        rw [if_pos hl]
      · rw [List.getElem?_eq_none (by simpa using hl)]
        rw [wipe_length] at hl
        rw [if_neg hl]
    · rw [List.getElem?_set_ne hv, ih]
      by_cases hm : i ∈ vs
      · rw [if_pos hm, if_pos (List.mem_cons_of_mem _ hm)]
      · rw [if_neg hm, if_neg (by
          intro q
          rcases List.mem_cons.mp q with q | q
          · exact hv q.symm
          · exact hm q)]
theorem wipe_set {σ : L2.St} {vs : List Nat} {i : Nat} {x : Option V} (h : i ∈ vs) : wipe (σ.set i x) vs = wipe σ vs := by
  apply List.ext_getElem?
  intro j
  rw [wipe_get, wipe_get, List.length_set]
  by_cases hj : j ∈ vs
  · rw [if_pos hj, if_pos hj]
  · rw [if_neg hj, if_neg hj, List.getElem?_set_ne (fun e => hj (by rw [← e]; exact h))]
theorem wipe_idem {σ : L2.St} {vs : List Nat} : wipe (wipe σ vs) vs = wipe σ vs := by
  apply List.ext_getElem?
  intro j
  rw [wipe_get, wipe_length, wipe_get]
  by_cases hj : j ∈ vs
  · rw [if_pos hj, if_pos hj]
  · rw [if_neg hj, if_neg hj]
theorem pgImp {X : Cx} {tg : Expr} {t t' : TG} (h : PG X tg t) (q : ∀ v σ H Q, t' v σ H Q → t v σ H Q) : PG X tg t' := ⟨fun pins s σ H v u Q I r w => h.run pins s σ H v u Q I r (q v σ H Q w)⟩
theorem pgsImp {X : Cx} {tg : List Expr} {t t' : TGs} (h : PGs X tg t) (q : ∀ v σ H Q, t' v σ H Q → t v σ H Q) : PGs X tg t' := ⟨fun pins s σ H v u Q I r w => h.run pins s σ H v u Q I r (q v σ H Q w)⟩
section
variable {X : Cx} {pos : Pos}
theorem sg_n {i : Nat} {x : Str} (hN : X.N.Nodup) (hi : X.N[i]? = some x := by rfl) (hx : Loc X.env.scope x := by first | exact Or.inl rfl | exact Or.inr rfl) (hf : X.fn x = true ∨ X.env.scope.names.lookup x = some .local := by first | exact .inl rfl | exact .inr rfl | assumption) :
    PG X (.Name x pos) (tGt X.K (tgN i) [i]) := pgImp (pg_name hN hi hx hf) fun v σ H Q ⟨ι, Z, ρ, d, ρ', hρ, rd, ht, k⟩ => by
  cases ht
  exact k _ (hρ.set rd) fun vs hv => wipe_set (hv i (by simp))
theorem sgs_n : PGs X [] (tGts X.K [] []) := pgsImp pgs_nil fun v σ H Q ⟨ι, Z, ρ, ds, ρ', hρ, rd, ht, k⟩ => by
  cases ds with
  | nil => cases ht; exact ⟨rd, k σ hρ fun _ _ => rfl⟩
  | cons _ _ => cases ht
theorem sgs_c {e : Expr} {es : List Expr} {t : Tg} {ts : List Tg} {js ks : List Nat} (h1 : PG X e (tGt X.K t js)) (h2 : PGs X es (tGts X.K ts ks))
    (hs : (assignEach (e :: es) X.env).map (·.2) = assign e X.env :: (assignEach es X.env).map (·.2) := by rfl) : PGs X (e :: es) (tGts X.K (t :: ts) (js ++ ks)) := pgsImp (pgs_cons h1 h2 hs) fun v σ H Q ⟨ι, Z, ρ, ds, ρ', hρ, rd, ht, k⟩ => by
  cases ds with
  | nil => cases ht
  | cons d ds =>
    obtain ⟨v, r, rfl, q1, q2⟩ := rd
    simp only [tgs] at ht
    cases h : t d ρ with
    | none => rw [h] at ht; cases ht
    | some ρ1 =>
      rw [h] at ht
      refine ⟨v, r, rfl, ι, Z, ρ, d, ρ1, hρ, q1, h, fun σ1 r1 w1 => ⟨ι, Z, ρ1, ds, ρ', r1, q2, ht, fun σ2 r2 w2 => k σ2 r2 fun vs hv => ?_⟩⟩
      rw [w2 vs fun j hj => hv j (List.mem_append_right _ hj), w1 vs fun j hj => hv j (List.mem_append_left _ hj)]
theorem sg_t {es : List Expr} {n : Nat} {ts : List Tg} {js : List Nat} (hc : X.calm = true) (h : PGs X es (tGts X.K ts js)) (hl : ts.length = (assignEach es X.env).length := by rfl) (hst : (assignEach es X.env).findIdx? (·.1) = none := by rfl) :
    PG X (.Tuple es n pos) (tGt X.K (tgT ts) js) := pgImp (pg_tup hc h rfl hst) fun v σ H Q ⟨ι, Z, ρ, d, ρ', hρ, rd, ht, k⟩ => by
  cases d with
  | tup ds =>
    obtain ⟨a, vs, rfl, g1, g2⟩ := rd
    refine ⟨a, vs, rfl, g1, ?_, ι, Z, ρ, ds, ρ', hρ, g2, ht, k⟩
    have hts : ∀ (ts : List Tg) (ds : List D) (ρ ρ' : Envm), tgs ts ds ρ = some ρ' → ds.length = ts.length := by
      intro ts
      induction ts with
      | nil => intro ds ρ ρ' h; cases ds with
        | nil => rfl
        | cons _ _ => cases h
      | cons t ts ih => intro ds ρ ρ' h; cases ds with
        | nil => cases h
        | cons d ds =>
          simp only [tgs] at h
          cases q : t d ρ with
          | none => rw [q] at h; cases h
          | some ρ1 => rw [q] at h; simp [ih ds ρ1 ρ' h]
    rw [g2.length, hts _ _ _ _ ht, hl]
  | _ => cases ht
/-- target = e -/
def gT (τ : Tg) (f : F D) : G := fun ρ S => toS ρ (f ρ S) fun d S' => match τ d ρ with
  | some ρ' => .nx ρ' S'
  | none => .bad
theorem ss_t {W : WX} {tg e : Expr} {f : F D} {τ : Tg} {js : List Nat} (he : PE X e (tE X.K X.mg W f)) (hg : PG X tg (tGt X.K τ js)) (hs : swapsWithSole [tg] e pos.line X.env = pure false := by rfl) (hw : swappedStores [tg] e X.env = pure none := by rfl)
    (h1 : (assignEach [tg] X.env).map (·.2) = [assign tg X.env] := by rfl) : PS X (.Assign [tg] e pos) (tS X.K X.mg W (gT τ f)) := psImp (ps_asg he hg hs hw h1) fun Dn σ H ⟨ι, Z, ρ, S, hρ, hS, h⟩ => by
  refine ⟨ι, Z, ρ, S, hρ, hS, Ps.ex hρ h fun d S1 ι1 H1 v e1 s1 rd h1 => ?_⟩
  cases ht : τ d ρ with
  | none => rw [ht] at h1; exact h1.elim
  | some ρ' =>
    rw [ht] at h1
    exact ⟨ι1, Z, ρ, d, ρ', hρ.ext e1, rd, ht, fun σ' r _ => h1 ι1 H1 σ' (Ext.refl _ _) s1 r⟩
end

/-! ### what is walked -/
theorem RD.later {K : PySem.W.Frag} {ι ι' Z Z' : List Addr} {H H' : Hp} (e : Ext ι ι' H H') (hz : ∀ z, z ∈ Z' → z ∈ Z ∨ H z = none) : ∀ {d : D} {v : V}, RD K ι Z H d v → RD K ι' Z' H' d v := fun {d v} r => by
  have core : ∀ (l : List Addr), (∀ z, z ∈ l → H z = none) → ∀ Z0, RD K ι Z0 H d v → RD K ι (l ++ Z0) H d v := fun l => by
    induction l with
    | nil => exact fun _ _ r => r
    | cons z l ih => exact fun hl Z0 r => RD.forbid (hl z List.mem_cons_self) (ih (fun y hy => hl y (List.mem_cons_of_mem _ hy)) Z0 r)
  have r2 := core (Z'.filter fun z => (H z).isNone) (fun z hm => by simpa using (List.mem_filter.mp hm).2) Z r
  refine RD.ext e (r2.weak fun z hm => ?_)
  rcases hz z hm with q | q
  · exact List.mem_append_right _ q
  · exact List.mem_append_left _ (List.mem_filter.mpr ⟨hm, by simp [q]⟩)
theorem RDs.later {K : PySem.W.Frag} {ι ι' Z Z' : List Addr} {H H' : Hp} (e : Ext ι ι' H H') (hz : ∀ z, z ∈ Z' → z ∈ Z ∨ H z = none) : ∀ {ds : List D} {vs : List V}, RDs K ι Z H ds vs → RDs K ι' Z' H' ds vs
  | [], _, h => h
  | d :: ds, _, h => by
    obtain ⟨v, r, rfl, h1, h2⟩ := h
    exact ⟨v, r, rfl, h1.later e hz, RDs.later e hz h2⟩
/-- J gives the items xs, one a turn, as long as what stands is kept -/
def Wk (K : PySem.W.Frag) (ι Z : List Addr) (H : Hp) (J : It) (xs : List D) : Prop := ∀ ι' Z' H', Ext ι ι' H H' → (∀ z, z ∈ Z' → z ∈ Z ∨ H z = none) →
  J.stop xs.length H' ∧ ∀ i x, xs[i]? = some x → J.go i H' ∧ ∀ v H2, J.yld i H' v H2 → Ex H' H2 ∧ RD K ι' Z' H2 x v
def tI (K : PySem.W.Frag) (mg : Str → Option Value) (W : WX) (f : F (List D)) : TI := fun σ H R => ∃ ι Z ρ S, RE K ι Z H ρ σ ∧ SR K ι Z H S ∧ match f ρ S with
  | .ok xs S' => ∀ ι' H' J, Ext ι ι' H H' → SR K ι' Z H' S' → Wk K ι' Z H' J xs → R J H'
  | .exc x S' => ∀ ι' H' cls dd, Ext ι ι' H H' → SR K ι' Z H' S' → RX K mg ι' Z H' x cls dd → W cls dd σ H'
  | .bad => False
/-- what stands behind an iterable -/
def Pi_ (K : PySem.W.Frag) (mg : Str → Option Value) (ι Z : List Addr) (H : Hp) (E : XK) (Rr : It → Hp → Prop) : R (List D) → Prop
  | .ok xs S' => ∀ ι' H' J, Ext ι ι' H H' → SR K ι' Z H' S' → Wk K ι' Z H' J xs → Rr J H'
  | .exc x S' => ∀ ι' H' cls dd, Ext ι ι' H H' → SR K ι' Z H' S' → RX K mg ι' Z H' x cls dd → E cls dd H'
  | .bad => False
section
variable {K : PySem.W.Frag} {mg : Str → Option Value} {W : WX} {σ : L2.St} {H : Hp}
theorem tI.out {f : F (List D)} {Rr : It → Hp → Prop} (h : tI K mg W f σ H Rr) : ∃ ι Z ρ S, RE K ι Z H ρ σ ∧ SR K ι Z H S ∧ Pi_ K mg ι Z H (fun c d H' => W c d σ H') Rr (f ρ S) := by
  obtain ⟨ι, Z, ρ, S, hρ, hS, h⟩ := h
  refine ⟨ι, Z, ρ, S, hρ, hS, ?_⟩
  cases hf : f ρ S with
  | ok ds S' => rw [hf] at h; exact h
  | exc x S' => rw [hf] at h; exact h
  | bad => rw [hf] at h; exact h
theorem Pg.bndI {α β : Type} {rel : List Addr → List Addr → Hp → α → β → Prop} {ι Z : List Addr} {E : XK} {Q1 : β → Hp → Prop} {r : R α} {k : α → Store → R (List D)} {Q : It → Hp → Prop} (h : Pi_ K mg ι Z H E Q (r.bind k))
    (hk : ∀ a S' ι' H' b, Ext ι ι' H H' → SR K ι' Z H' S' → rel ι' Z H' a b → Pi_ K mg ι' Z H' E Q (k a S') → Q1 b H') : Pg K mg rel ι Z H E Q1 r := by
  cases r with
  | ok a S =>
    intro ι' H' b e s q
    refine hk a S ι' H' b e s q ?_
    have h : Pi_ K mg ι Z H E Q (k a S) := h
    cases hf : k a S with
    | ok ds S' => rw [hf] at h; exact fun ι2 H2 J e2 => h ι2 H2 J (e.trans e2)
    | exc x S' => rw [hf] at h; exact fun ι2 H2 c d e2 => h ι2 H2 c d (e.trans e2)
    | bad => rw [hf] at h; exact h
  | exc x S => exact h
  | bad => exact h
end
/-- the items of a tuple, of a list that nobody changes -/
def iSeq (f : F D) : F (List D) := fun ρ S => (f ρ S).bind fun d S1 => match d with
  | .tup ds => .ok ds S1
  | .lst ds => .ok ds S1
  | .frl ds => .ok ds S1
  | _ => .bad
theorem sq_inj {H : Hp} {a : Addr} {xs ys : List V} (h : H a = some (.lst xs)) (h' : Rd H a (.lst ys)) : xs = ys := by
  rcases h' with q | ⟨o, q⟩
  · rw [h] at q; cases q; rfl
  · rw [h] at q; cases q
section
variable {X : Cx} {W : WX} {tg e : Expr} {f : F D} {pos p : Pos}
/-- the list of a walk stands: all its readings agree -/
theorem wk_tup {K : PySem.W.Frag} {ι Z : List Addr} {H : Hp} {a : Addr} {vs : List V} {ds : List D} (h : SqT K H a vs) (r : RDs K ι Z H ds vs) : Wk K ι Z H (Itt K a) ds := fun ι' Z' H' e hz => by
  have h' := e.sqt h
  have r' := r.later e hz
  refine ⟨⟨vs, h', Nat.le_of_eq r.length⟩, fun i x hx => ?_⟩
  obtain ⟨v, hv, rv⟩ := r'.get hx
  refine ⟨⟨vs, v, h', hv⟩, fun u H2 y => ?_⟩
  obtain ⟨rfl, y⟩ := y
  have := y vs h'
  rw [hv] at this
  cases this
  exact ⟨Ex.refl _, rv⟩
theorem wk_lst {K : PySem.W.Frag} {ι Z : List Addr} {H : Hp} {a : Addr} {vs : List V} {ds : List D} (h : ∀ ι' H', Ext ι ι' H H' → SqL K H' a vs) (r : RDs K ι Z H ds vs) : Wk K ι Z H (Itl K a) ds := fun ι' Z' H' e hz => by
  have h' := h ι' H' e
  have r' := r.later e hz
  refine ⟨⟨vs, h', Nat.le_of_eq r.length⟩, fun i x hx => ?_⟩
  obtain ⟨v, hv, rv⟩ := r'.get hx
  refine ⟨⟨vs, v, h', hv⟩, fun u H2 y => ?_⟩
  obtain ⟨rfl, y⟩ := y
  have := y vs h'
  rw [hv] at this
  cases this
  exact ⟨Ex.refl _, rv⟩
theorem si_seq (he : PE X e (tE X.K X.mg W f)) : PI X tg e (tI X.K X.mg W (iSeq f)) := piImp (piOr (pi_list he) (pi_tup he)) fun σ H Rr h => by
  obtain ⟨ι, Z, ρ, S, hρ, hS, h⟩ := h.out
  unfold iSeq at h
  cases hf : f ρ S with
  | bad => rw [hf] at h; exact h.elim
  | exc x S1 => rw [hf] at h; exact .inl ⟨ι, Z, ρ, S, hρ, hS, by rw [hf]; exact h⟩
  | ok d S1 =>
    rw [hf] at h
    cases d with
    | tup ds =>
      refine .inr ⟨ι, Z, ρ, S, hρ, hS, ?_⟩
      rw [hf]
      intro ι1 H1 v e1 s1 rd
      obtain ⟨a, vs, rfl, g1, g2⟩ := rd
      exact ⟨a, rfl, ⟨vs, g1⟩, h ι1 H1 _ e1 s1 (wk_tup g1 g2)⟩
    | lst ds =>
      refine .inl ⟨ι, Z, ρ, S, hρ, hS, ?_⟩
      rw [hf]
      intro ι1 H1 v e1 s1 rd
      obtain ⟨a, vs, rfl, g1, g2, g3, g4⟩ := rd
      exact ⟨a, rfl, ⟨vs, .inl (.inl g3)⟩, h ι1 H1 _ e1 s1 (wk_lst (fun ι' H' e => .inl (.inl (e.keep _ _ g3 g1))) g4)⟩
    | frl ds =>
      refine .inl ⟨ι, Z, ρ, S, hρ, hS, ?_⟩
      rw [hf]
      intro ι1 H1 v e1 s1 rd
      obtain ⟨a, vs, rfl, g1, g2⟩ := rd
      exact ⟨a, rfl, ⟨vs, g1.sq⟩, h ι1 H1 _ e1 s1 (wk_lst (fun ι' H' e => (e.frl g1).sq) g2)⟩
    | _ => exact h.elim
/-- the ints from lo on, n of them -/
def rngD (lo : Int) (n : Nat) : List D := (List.range n).map fun (i : Nat) => D.int (lo + (i : Int))
theorem wk_rng {K : PySem.W.Frag} {ι Z : List Addr} {H : Hp} (lo : Int) (n : Nat) : Wk K ι Z H (Itr lo n) (rngD lo n) := fun ι' Z' H' e hz => by
  refine ⟨by simp [rngD, Itr], fun i x hx => ?_⟩
  unfold rngD at hx
  rw [List.getElem?_map] at hx
  by_cases hi : i < n
  · rw [List.getElem?_range hi] at hx
    cases hx
    refine ⟨hi, fun v H2 y => ?_⟩
    obtain ⟨rfl, rfl⟩ := y
    exact ⟨Ex.refl _, rfl⟩
  · rw [List.getElem?_eq_none (by simpa using hi)] at hx
    cases hx
def iR1 (fa : F (List D)) : F (List D) := fun ρ S => (fa ρ S).bind fun as S1 => match as with
  | [.int j] => if decide (-100000 ≤ j) && decide (j ≤ 100000) then .ok (rngD 0 j.toNat) S1 else .bad
  | _ => .bad
def iR2 (fa : F (List D)) : F (List D) := fun ρ S => (fa ρ S).bind fun as S1 => match as with
  | [.int i, .int j] => if decide (-100000 ≤ j) && decide (j ≤ 100000) && (decide (-100000 ≤ i) && decide (i ≤ 100000)) then .ok (rngD i (j - i).toNat) S1 else .bad
  | _ => .bad
theorem si_r1 {fa : F (List D)} (hm : X.mg "range" = none) (ha : PA X [e] (tA X.K X.mg W fa)) (hg : Gl X "range" := by rfl) (hs : starEach [e] X.env = [(false, eval e X.env)] := by rfl) : PI X tg (.Call (.Name "range" p) [e] [] pos) (tI X.K X.mg W (iR1 fa)) :=
  piImp (pi_range1 hg hm ha hs) fun σ H Rr h => by
    obtain ⟨ι, Z, ρ, S, hρ, hS, h⟩ := h.out
    refine ⟨ι, Z, ρ, S, hρ, hS, Pg.bndI h fun as S1 ι1 H1 vs e1 s1 ras h1 => ?_⟩
    match as, h1 with
    | [.int j], h1 =>
      obtain ⟨v, rfl, rv⟩ := ras.inv1
      have rv : v = .int j := rv
      subst rv
      simp only at h1
      split at h1
      · rename_i hz
        simp only [Bool.and_eq_true, decide_eq_true_eq] at hz
        exact ⟨j, rfl, by omega, by omega, h1 ι1 H1 _ (Ext.refl _ _) s1 (wk_rng 0 _)⟩
      · exact h1.elim
    | [], h1 => exact h1.elim
    | [.non], h1 => exact h1.elim
    | [.bl _], h1 => exact h1.elim
    | [.str _], h1 => exact h1.elim
    | [.tup _], h1 => exact h1.elim
    | [.lst _], h1 => exact h1.elim
    | [.frl _], h1 => exact h1.elim
    | [.ptr _], h1 => exact h1.elim
    | a :: b :: r, h1 => cases a <;> exact h1.elim
theorem si_r2 {e2 : Expr} {fa : F (List D)} (hm : X.mg "range" = none) (ha : PA X [e, e2] (tA X.K X.mg W fa)) (hg : Gl X "range" := by rfl) (hs : starEach [e, e2] X.env = [(false, eval e X.env), (false, eval e2 X.env)] := by rfl) (hs2 : starEach [e2] X.env = [(false, eval e2 X.env)] := by rfl) :
    PI X tg (.Call (.Name "range" p) [e, e2] [] pos) (tI X.K X.mg W (iR2 fa)) :=
  piImp (pi_range2 hg hm ha hs hs2) fun σ H Rr h => by
    obtain ⟨ι, Z, ρ, S, hρ, hS, h⟩ := h.out
    refine ⟨ι, Z, ρ, S, hρ, hS, Pg.bndI h fun as S1 ι1 H1 vs e1 s1 ras h1 => ?_⟩
    have two : ∃ i j, as = [.int i, .int j] := by
      rcases as with _ | ⟨a, _ | ⟨b, _ | ⟨c, r⟩⟩⟩
      · exact h1.elim
      · cases a <;> exact h1.elim
      · cases a <;> first | exact h1.elim | (cases b <;> first | exact h1.elim | exact ⟨_, _, rfl⟩)
      · cases a <;> first | exact h1.elim | (cases b <;> exact h1.elim)
    obtain ⟨i, j, rfl⟩ := two
    obtain ⟨v, u, rfl, rv, ru⟩ := ras.inv2
    have rv : v = .int i := rv
    have ru : u = .int j := ru
    subst rv ru
    simp only at h1
    split at h1
    · rename_i hz
      simp only [Bool.and_eq_true, decide_eq_true_eq] at hz
      exact ⟨i, j, rfl, ⟨by omega, by omega, by omega, by omega⟩, h1 ι1 H1 _ (Ext.refl _ _) s1 (wk_rng i _)⟩
    · exact h1.elim
end

/-! ### for -/
def loopL (τ : Tg) (g : G) : List D → G
  | [], ρ, S => .nx ρ S
  | x :: r, ρ, S => match τ x ρ with
    | none => .bad
    | some ρ1 => match g ρ1 S with
      | .nx ρ' S' => loopL τ g r ρ' S'
      | .ct ρ' S' => loopL τ g r ρ' S'
      | .bk ρ' S' => .nx ρ' S'
      | q => q
def gF (τ : Tg) (fi : F (List D)) (g : G) : G := fun ρ S => toS ρ (fi ρ S) fun xs S' => loopL τ g xs ρ S'
section
variable {X : Cx} {W : WX} {tg iter : Expr} {body : List Stmt} {g : G} {fi : F (List D)} {τ : Tg} {js : List Nat} {pos : Pos}
theorem ss_f (hp : PassesOwn (model X.prog X.w) X.A X.env X.xe) (hc : X.calm = true) (hi : PI X tg iter (tI X.K X.mg W fi)) (hg : PG X tg (tGt X.K τ js)) (hb : PSs X body (tS X.K X.mg W g)) (hs : ∀ x, foldedSetIterable iter X.env x = pure x := by intro _; rfl) :
    PS X (.For tg iter body [] pos) (tS X.K X.mg W (gF τ fi g)) := psImp (ps_for hp hc hi hg hb hs) fun Dn σ H ⟨ι, Z, ρ, S, hρ, hS, h⟩ => by
  refine ⟨ι, Z, ρ, S, hρ, hS, ?_⟩
  unfold gF at h
  cases hf : fi ρ S with
  | bad => rw [hf] at h; exact h.elim
  | exc x S1 => rw [hf] at h; exact fun ι' H' c d e s r => h ι' H' σ c d e s (hρ.ext e) r
  | ok xs S1 =>
    rw [hf] at h
    intro ι0 H0 J e0 s0 wk
    have h : Ps X.K X.mg W ι Z H Dn (loopL τ g xs ρ S1) := h
    refine ⟨fun i m σ H => m + i = xs.length ∧ ∃ ι ρ S, RE X.K ι Z H ρ σ ∧ SR X.K ι Z H S ∧ Ext ι0 ι H0 H ∧ Ps X.K X.mg W ι Z H Dn (loopL τ g (xs.drop i) ρ S), ⟨xs.length, rfl, ι0, ρ, S1, hρ.ext e0, s0, Ext.refl _ _, by simpa using Ps.ext e0 h⟩, ?_⟩
    rintro i m σ1 H1 ⟨hm, ι1, ρ1, S2, r1, s1, e1, h1⟩
    obtain ⟨w1, w2⟩ := wk ι1 Z H1 e1 fun z hz => .inl hz
    cases m with
    | zero =>
      have hi' : i = xs.length := by omega
      subst hi'
      rw [List.drop_length] at h1
      exact .inl ⟨w1, h1 ι1 H1 σ1 (Ext.refl _ _) s1 r1⟩
    | succ m =>
      have hi' : i < xs.length := by omega
      obtain ⟨w3, w4⟩ := w2 i xs[i] (List.getElem?_eq_getElem hi')
      rw [List.drop_eq_getElem_cons hi'] at h1
      refine .inr ⟨w3, fun σ H => m + (i + 1) = xs.length ∧ ∃ ι ρ S, RE X.K ι Z H ρ σ ∧ SR X.K ι Z H S ∧ Ext ι0 ι H0 H ∧ Ps X.K X.mg W ι Z H Dn (loopL τ g (xs.drop (i + 1)) ρ S), fun σ' H' q => ⟨m, Nat.lt_succ_self _, q⟩, fun v H2 y => ?_⟩
      obtain ⟨e2, rv⟩ := w4 v H2 y
      simp only [loopL] at h1
      cases ht : τ xs[i] ρ1 with
      | none => rw [ht] at h1; exact h1.elim
      | some ρ2 =>
        rw [ht] at h1
        have e2' := Ext.ex (ι := ι1) e2
        refine ⟨ι1, Z, ρ1, _, ρ2, r1.ext e2', rv, ht, fun σ2 r2 _ => ⟨ι1, Z, ρ2, S2, r2, s1.ex e2, ?_⟩⟩
        simp only at h1
        have e02 := e1.trans e2'
        have h1 := Ps.ext e2' h1
        cases hb2 : g ρ2 S2 with
        | nx ρ' S' => rw [hb2] at h1; exact fun ι' H' σ' e s r => ⟨by omega, ι', ρ', S', r, s, e02.trans e, Ps.ext e h1⟩
        | ct ρ' S' => rw [hb2] at h1; exact fun ι' H' σ' e s r => ⟨by omega, ι', ρ', S', r, s, e02.trans e, Ps.ext e h1⟩
        | bk ρ' S' => rw [hb2] at h1; exact h1
        | rt d S' => rw [hb2] at h1; exact h1
        | exc x d S' => rw [hb2] at h1; exact h1
        | bad => rw [hb2] at h1; exact h1
end

/-! ### comprehensions -/
def W0 : WX := fun _ _ _ _ => False
def wipeE (ρ : Envm) : List Nat → Envm
  | [] => ρ
  | v :: vs => (wipeE ρ vs).set v none
theorem RE.wipe {K : PySem.W.Frag} {ι Z : List Addr} {H : Hp} {ρ : Envm} {σ : L2.St} (r : RE K ι Z H ρ σ) : ∀ vs : List Nat, RE K ι Z H (wipeE ρ vs) (L2.wipe σ vs)
  | [] => r
  | v :: vs => (RE.wipe r vs).unset v
def noX {α : Type} : R α → R α
  | .exc _ _ => .bad
  | r => r
def compL (τ : Tg) (ft : F Bool) (fe : F D) : List D → F (List D)
  | [], _, S => .ok [] S
  | x :: r, ρ, S => match τ x ρ with
    | none => .bad
    | some ρ1 => (noX (ft ρ1 S)).bind fun b S1 => if b then (noX (fe ρ1 S1)).bind fun d S2 => (compL τ ft fe r ρ S2).bind fun ds S3 => if ds.length ≤ 100000 then .ok (d :: ds) S3 else .bad else compL τ ft fe r ρ S1
def lC (vs : List Nat) (τ : Tg) (fi : F (List D)) (ft : F Bool) (fe : F D) : F (List D) := fun ρ S => (fi ρ S).bind fun xs S1 => compL τ ft fe xs (wipeE ρ vs) S1
theorem Ext.mutD {ι ι' : List Addr} {H H' : Hp} {p : Addr} {o : HO} (e : Ext ι ι' H H') (hp : H p = none) : Ext ι ι' H (upd H' p o) where
  pre := e.pre
  keep := fun a u h n => by
    rw [upd_ne (ne_of_none h hp)]; exact e.keep a u h n
  new := e.new
  tk := fun a xs h => by rw [upd_ne (ne_of_none h hp)]; exact e.tk a xs h
  fk := fun a u xs h => by rw [upd_ne (ne_of_none h hp)]; exact e.fk a u xs h
theorem sqt_mut {K : PySem.W.Frag} {H : Hp} {p a : Addr} {us ws vs : List V} (hp : H p = some (.lst us)) (h : SqT K H a vs) : SqT K (upd H p (.lst ws)) a vs := by
  rcases h with (h | ⟨o, h⟩) | h
  · exact .inl (.inl (by rw [upd_ne]; exact h; rintro rfl; rw [hp] at h; cases h))
  · exact .inl (.inr ⟨o, by rw [upd_ne]; exact h; rintro rfl; rw [hp] at h; cases h⟩)
  · exact .inr h
mutual
theorem RD.mutD {K : PySem.W.Frag} {ι Z : List Addr} {H : Hp} {p : Addr} {us ws : List V} (hp : H p = some (.lst us)) : ∀ {d : D} {v : V}, RD K ι (p :: Z) H d v → RD K ι (p :: Z) (upd H p (.lst ws)) d v
  | .non, _, h => h
  | .bl _, _, h => h
  | .int _, _, h => h
  | .str _, _, h => h
  | .ptr n, _, h => h
  | .tup ds, _, h => by
    obtain ⟨a, vs, rfl, h1, h2⟩ := h
    exact ⟨a, vs, rfl, sqt_mut hp h1, RDs.mutD hp h2⟩
  | .lst ds, _, h => by
    obtain ⟨a, vs, rfl, h1, h2, h3, h4⟩ := h
    exact ⟨a, vs, rfl, h1, h2, by rw [upd_ne (fun e => h2 (by rw [e]; exact List.mem_cons_self))]; exact h3, RDs.mutD hp h4⟩
  | .frl ds, _, h => by
    obtain ⟨a, vs, rfl, h1, h2⟩ := h
    refine ⟨a, vs, rfl, ?_, RDs.mutD hp h2⟩
    rcases h1 with ⟨o, h1⟩ | h1
    · exact .inl ⟨o, by rw [upd_ne]; exact h1; rintro rfl; rw [hp] at h1; cases h1⟩
    · exact .inr h1
theorem RDs.mutD {K : PySem.W.Frag} {ι Z : List Addr} {H : Hp} {p : Addr} {us ws : List V} (hp : H p = some (.lst us)) : ∀ {ds : List D} {vs : List V}, RDs K ι (p :: Z) H ds vs → RDs K ι (p :: Z) (upd H p (.lst ws)) ds vs
  | [], _, h => h
  | d :: ds, _, h => by
    obtain ⟨v, r, rfl, h1, h2⟩ := h
    exact ⟨v, r, rfl, RD.mutD hp h1, RDs.mutD hp h2⟩
end
theorem SR.mutD {K : PySem.W.Frag} {ι Z : List Addr} {H : Hp} {S : Store} {p : Addr} {us ws : List V} (s : SR K ι (p :: Z) H S) (hp : H p = some (.lst us)) : SR K ι (p :: Z) (upd H p (.lst ws)) S := by
  have np := (s.zt p List.mem_cons_self).2
  refine ⟨s.len, s.nd, fun z m => ⟨?_, (s.zt z m).2⟩, fun n a h => ?_⟩
  · by_cases hz : z = p
    · subst hz; exact ⟨_, upd_same⟩
    · obtain ⟨o, h⟩ := (s.zt z m).1
      exact ⟨o, by rw [upd_ne hz]; exact h⟩
  · obtain ⟨ds, vs, h1, h2, h3⟩ := s.ob n a h
    have ha : a ≠ p := fun e => np (by rw [← e]; exact List.mem_of_getElem? h)
    exact ⟨ds, vs, h1, by rw [upd_ne ha]; exact h2, h3.mutD hp⟩
section
variable {X : Cx} {W : WX} {elt tg iter : Expr} {ifs : List Expr} {scope : Scope} {pos : Pos} {fi : F (List D)} {ft : F Bool} {fe : F D} {τ : Tg} {js : List Nat}
theorem compL_len (τ : Tg) (ft : F Bool) (fe : F D) : ∀ (xs : List D) (ρ : Envm) (S : Store) (ds : List D) (S' : Store), compL τ ft fe xs ρ S = .ok ds S' → ds.length ≤ 100001
  | [], _, _, _, _, h => by cases h; simp
  | x :: r, ρ, S, ds, S', h => by
    simp only [compL] at h
    cases ht : τ x ρ with
    | none => rw [ht] at h; cases h
    | some ρ1 =>
      rw [ht] at h
      simp only at h
      cases h1 : noX (ft ρ1 S) with
      | bad => rw [h1] at h; cases h
      | exc _ _ => rw [h1] at h; cases h
      | ok b S1 =>
        rw [h1] at h
        simp only [R.bind] at h
        cases b with
        | false => exact compL_len τ ft fe r ρ S1 ds S' h
        | true =>
          simp only [if_true] at h
          cases h2 : noX (fe ρ1 S1) with
          | bad => rw [h2] at h; cases h
          | exc _ _ => rw [h2] at h; cases h
          | ok d S2 =>
            rw [h2] at h
            simp only at h
            cases h3 : compL τ ft fe r ρ S2 with
            | bad => rw [h3] at h; cases h
            | exc _ _ => rw [h3] at h; cases h
            | ok es S3 =>
              rw [h3] at h
              simp only at h
              split at h
              · rename_i hz; cases h; simp; omega
              · cases h
/-- the reading of a comprehension -/
theorem i_lc {K : PySem.W.Frag} {mg : Str → Option Value} {vs : List Nat} {σ : L2.St} {H : Hp} {Q : VK} {wi : TI} (hwi : ∀ σ H Rr, tI K mg W fi σ H Rr → wi σ H Rr) {g : TG} (hg : ∀ v σ H Q, tGt K τ js v σ H Q → g v σ H Q) {tt : TT} (htt : ∀ σ H Q, tT K mg W0 ft σ H Q → tt σ H Q)
    {te : TE} (hte : ∀ σ H Q, tE K mg W0 fe σ H Q → te σ H Q) (hjs : ∀ j, j ∈ js → j ∈ vs) (h : tL K mg W (lC vs τ fi ft fe) σ H Q) : tLc wi g tt te vs σ H Q := by
  obtain ⟨ι, Z, ρ, S, hρ, hS, h⟩ := h.out
  refine hwi _ _ _ ⟨ι, Z, ρ, S, hρ, hS, ?_⟩
  unfold lC at h
  cases hf : fi ρ S with
  | bad => rw [hf] at h; exact h.elim
  | exc x S1 => rw [hf] at h; exact h
  | ok xs S1 =>
    rw [hf] at h
    have h : Pl K mg ι Z H H (fun c d H' => W c d σ H') Q (compL τ ft fe xs (wipeE ρ vs) S1) := h
    intro ι0 H0 J e0 s0 wk p hp
    have hp0 := free_back e0 s0 hp
    have hpZ := s0.freeZ hp
    -- behind i turns: what is made, what is left
    let Inv_ : Nat → Nat → Hp → Prop := fun i m H' => m + i = xs.length ∧ ∃ ι' S' acc us, Ext ι0 ι' H0 H' ∧ SR K ι' (p :: Z) H' S' ∧ H' p = some (.lst us) ∧ RDs K ι' (p :: Z) H' acc us ∧
      match compL τ ft fe (xs.drop i) (wipeE ρ vs) S' with
      | .ok ds S'' => acc.length + ds.length ≤ 100001 ∧ Pl K mg ι Z H H (fun c d H' => W c d σ H') Q (.ok (acc ++ ds) S'')
      | _ => False
    refine ⟨Inv_, ⟨xs.length, rfl, ι0, S1, [], [], (Ext.refl _ _).mutD hp, s0.forbid hp, upd_same, rfl, ?_⟩, ?_⟩
    · rw [List.drop_zero]
      cases hc : compL τ ft fe xs (wipeE ρ vs) S1 with
      | ok ds S'' =>
        rw [hc] at h
        refine ⟨?_, by simpa using h⟩
        have := compL_len τ ft fe xs (wipeE ρ vs) S1 ds S'' hc
        simpa using this
      | exc x S'' =>
        exfalso
        have noexc : ∀ (xs : List D) (S S'' : Store) (x : Xd), compL τ ft fe xs (wipeE ρ vs) S ≠ .exc x S'' := by
          intro xs
          induction xs with
          | nil => intro S S'' x h; cases h
          | cons y r ih =>
            intro S S'' x h
            simp only [compL] at h
            cases ht : τ y (wipeE ρ vs) with
            | none => rw [ht] at h; cases h
            | some ρ1 =>
              rw [ht] at h
              simp only at h
              cases h1 : ft ρ1 S with
              | bad => rw [h1] at h; cases h
              | exc _ _ => rw [h1] at h; cases h
              | ok b S1 =>
                rw [h1] at h
                simp only [noX, R.bind] at h
                cases b with
                | false => exact ih _ _ _ h
                | true =>
                  simp only [if_true] at h
                  cases h2 : fe ρ1 S1 with
                  | bad => rw [h2] at h; cases h
                  | exc _ _ => rw [h2] at h; cases h
                  | ok d S2 =>
                    rw [h2] at h
                    simp only [noX] at h
                    cases h3 : compL τ ft fe r (wipeE ρ vs) S2 with
                    | bad => rw [h3] at h; cases h
                    | exc _ _ => exact ih _ _ _ h3
                    | ok es S3 =>
                      rw [h3] at h
                      simp only at h
                      split at h <;> cases h
        exact noexc _ _ _ _ hc
      | bad => rw [hc] at h; exact h.elim
    · rintro i m H1 ⟨hm, ι1, S2, acc, us, e1, s1, hl, ra, hcmp⟩
      have ze : ∀ z, z ∈ p :: Z → z ∈ Z ∨ H0 z = none := fun z hz => by
        rcases List.mem_cons.mp hz with rfl | hz
        · exact .inr hp
        · exact .inl hz
      obtain ⟨w1, w2⟩ := wk ι1 (p :: Z) H1 e1 ze
      cases m with
      | zero =>
        have hi' : i = xs.length := by omega
        subst hi'
        rw [List.drop_length] at hcmp
        simp only [compL] at hcmp
        refine .inl ⟨w1, ?_⟩
        have hh := hcmp.2
        rw [List.append_nil] at hh
        exact hh ι1 H1 p us (e0.trans e1) hp0 s1 hpZ hl ra
      | succ m =>
        have hi' : i < xs.length := by omega
        obtain ⟨w3, w4⟩ := w2 i xs[i] (List.getElem?_eq_getElem hi')
        rw [List.drop_eq_getElem_cons hi'] at hcmp
        refine .inr ⟨w3, fun H' => Inv_ (i + 1) m H', fun H' q => ⟨m, Nat.lt_succ_self _, q⟩, fun v H2 y => ?_⟩
        obtain ⟨e2, rv⟩ := w4 v H2 y
        have e2' := Ext.ex (ι := ι1) e2
        have e12 := e1.trans e2'
        simp only [compL] at hcmp
        cases ht : τ xs[i] (wipeE ρ vs) with
        | none => rw [ht] at hcmp; exact hcmp.elim
        | some ρ2 =>
          rw [ht] at hcmp
          simp only at hcmp
          have rE : RE K ι1 (p :: Z) H2 (wipeE ρ vs) (L2.wipe σ vs) := (((hρ.ext e0).forbid hp).ext e12).wipe vs
          refine hg _ _ _ _ ⟨ι1, p :: Z, wipeE ρ vs, _, ρ2, rE, rv, ht, fun σ2 r2 w => ⟨by rw [w vs hjs, wipe_idem], ?_⟩⟩
          have s2 := s1.ex e2
          refine htt _ _ _ ⟨ι1, p :: Z, ρ2, S2, r2, s2, ?_⟩
          cases h1 : ft ρ2 S2 with
          | bad => rw [h1] at hcmp; exact hcmp.elim
          | exc _ _ => rw [h1] at hcmp; exact hcmp.elim
          | ok b S3 =>
            rw [h1] at hcmp
            simp only [noX, R.bind] at hcmp
            intro ι3 H3 b' e3 s3 rb
            have rb : b = b' := rb
            subst rb
            have hl2 : H2 p = some (.lst us) := e2 p _ hl
            have hl3 : H3 p = some (.lst us) := e3.keep p _ hl2 (s2.zt p List.mem_cons_self).2
            cases b with
            | false =>
              simp only [Bool.false_eq_true, if_false] at hcmp ⊢
              exact ⟨by omega, ι3, S3, acc, us, e12.trans e3, s3, hl3, (ra.ext e2').ext e3, hcmp⟩
            | true =>
              simp only [if_true] at hcmp ⊢
              refine hte _ _ _ ⟨ι3, p :: Z, ρ2, S3, r2.ext e3, s3, ?_⟩
              cases h2 : fe ρ2 S3 with
              | bad => rw [h2] at hcmp; exact hcmp.elim
              | exc _ _ => rw [h2] at hcmp; exact hcmp.elim
              | ok d S4 =>
                rw [h2] at hcmp
                simp only [noX] at hcmp
                intro ι4 H4 v4 e4 s4 rd4
                have hl4 : H4 p = some (.lst us) := e4.keep p _ hl3 (s3.zt p List.mem_cons_self).2
                have ra4 := ((ra.ext e2').ext e3).ext e4
                cases h3 : compL τ ft fe (xs.drop (i + 1)) (wipeE ρ vs) S4 with
                | bad => rw [h3] at hcmp; exact hcmp.elim
                | exc _ _ => rw [h3] at hcmp; exact hcmp.elim
                | ok es S5 =>
                  rw [h3] at hcmp
                  by_cases hz : es.length ≤ 100000
                  · simp only [if_pos hz] at hcmp
                    obtain ⟨k1, k2⟩ := hcmp
                    refine ⟨us, hl4, by rw [ra4.length, sizeLine_eq]; simp at k1; omega, by omega, ι4, S4, acc ++ [d], us ++ [v4], ((e12.trans e3).trans e4).mutD hp, s4.mutD hl4, upd_same, (ra4.app (RDs.one rd4)).mutD hl4, ?_⟩
                    rw [h3]
                    simp only [List.length_append, List.length_cons, List.length_nil, List.append_assoc, List.cons_append, List.nil_append] at k1 k2 ⊢
                    exact ⟨by omega, k2⟩
                  · simp only [if_neg hz] at hcmp
def tAll : F Bool := fun _ S => .ok true S
theorem i_all {K : PySem.W.Frag} {mg : Str → Option Value} {W : WX} {σ : L2.St} {H : Hp} {Q : Bool → Hp → Prop} (h : tT K mg W tAll σ H Q) : tYes σ H Q := by
  obtain ⟨ι, Z, ρ, S, hρ, hS, h⟩ := h
  exact h ι H true (Ext.refl _ _) hS rfl
theorem sl_c {own : List (Str × Nat)} (hc : X.calm = true) (hN : X.N.Nodup) (hi : PI X tg iter (tI X.K X.mg W fi)) (ok : BlkOk X.N X.env.scope scope own)
    (hg : ∀ (s : Shared) (H : Hp) (C : Addr) (cl : List (Str × Addr)) (fp : List Addr), PG (X.blk s H scope (compEnvC scope cl C X.env) fp) tg (tGt X.K τ js))
    (he : ∀ (s : Shared) (H : Hp) (C : Addr) (cl : List (Str × Addr)) (fp : List Addr), PE (X.blk s H scope (compEnvC scope cl C X.env) fp) elt (tE X.K X.mg W0 fe)) (hjs : ∀ j, j ∈ js → j ∈ own.map (·.2) := by decide) (hs : ∀ x, foldedSetIterable iter X.env x = pure x := by intro _; rfl) :
    PE X (.ListComp elt [⟨tg, iter, [], 0⟩] scope pos) (tL X.K X.mg W (lC (own.map (·.2)) τ fi tAll fe)) :=
  peImp (pe_lc hc hN hi ok hg (fun _ _ _ _ _ => pts_nil) he hs) fun σ H Q h => i_lc (fun _ _ _ h => h) (fun _ _ _ _ h => h) (fun _ _ _ h => i_all h) (fun _ _ _ h => h) hjs h
theorem sl_ci {own : List (Str × Nat)} {c : Expr} (hc : X.calm = true) (hN : X.N.Nodup) (hi : PI X tg iter (tI X.K X.mg W fi)) (ok : BlkOk X.N X.env.scope scope own)
    (hg : ∀ (s : Shared) (H : Hp) (C : Addr) (cl : List (Str × Addr)) (fp : List Addr), PG (X.blk s H scope (compEnvC scope cl C X.env) fp) tg (tGt X.K τ js))
    (ht : ∀ (s : Shared) (H : Hp) (C : Addr) (cl : List (Str × Addr)) (fp : List Addr), PT (X.blk s H scope (compEnvC scope cl C X.env) fp) c (tT X.K X.mg W0 ft))
    (he : ∀ (s : Shared) (H : Hp) (C : Addr) (cl : List (Str × Addr)) (fp : List Addr), PE (X.blk s H scope (compEnvC scope cl C X.env) fp) elt (tE X.K X.mg W0 fe)) (hjs : ∀ j, j ∈ js → j ∈ own.map (·.2) := by decide) (hs : ∀ x, foldedSetIterable iter X.env x = pure x := by intro _; rfl) :
    PE X (.ListComp elt [⟨tg, iter, [c], 0⟩] scope pos) (tL X.K X.mg W (lC (own.map (·.2)) τ fi ft fe)) :=
  peImp (pe_lc hc hN hi ok hg (fun _ _ _ _ _ => pts_one (ht _ _ _ _ _)) he hs) fun σ H Q h => i_lc (fun _ _ _ h => h) (fun _ _ _ _ h => h) (fun _ _ _ h => h) (fun _ _ _ h => h) hjs h
/-- name = [..] on one line -/
theorem ss_ac {own : List (Str × Nat)} {i : Nat} {y : Str} {py spos : Pos} (hc : X.calm = true) (hN : X.N.Nodup) (hi : PI X tg iter (tI X.K X.mg W fi)) (ok : BlkOk X.N X.env.scope scope own)
    (hg : ∀ (s : Shared) (H : Hp) (C : Addr) (cl : List (Str × Addr)) (fp : List Addr), PG (X.blk s H scope (compEnvC scope cl C X.env) fp) tg (tGt X.K τ js))
    (ht : ∀ (s : Shared) (H : Hp) (C : Addr) (cl : List (Str × Addr)) (fp : List Addr), PTs (X.blk s H scope (compEnvC scope cl C X.env) fp) ifs (tT X.K X.mg W0 ft))
    (he : ∀ (s : Shared) (H : Hp) (C : Addr) (cl : List (Str × Addr)) (fp : List Addr), PE (X.blk s H scope (compEnvC scope cl C X.env) fp) elt (tE X.K X.mg W0 fe)) (hsw : swapsWith (.ListComp elt [⟨tg, iter, ifs, 0⟩] scope pos) (some (.Name y py)) spos.line X.env = pure true)
    (hjs : ∀ j, j ∈ js → j ∈ own.map (·.2) := by decide) (hy : X.N[i]? = some y := by rfl) (hyl : X.env.scope.names.lookup y = some .local := by rfl) (hs : ∀ x, foldedSetIterable iter X.env x = pure x := by intro _; rfl) :
    PS X (.Assign [.Name y py] (.ListComp elt [⟨tg, iter, ifs, 0⟩] scope pos) spos) (tS X.K X.mg W (gA i (eL (lC (own.map (·.2)) τ fi ft fe)))) :=
  psImp (ps_setLc hc hN hy hyl hsw hi ok hg ht he hs) fun Dn σ H h => i_lc (fun _ _ _ h => h) (fun _ _ _ _ h => h) (fun _ _ _ h => h) (fun _ _ _ h => h) hjs (i_el (i_a h))
theorem sts_n {X : Cx} {W : WX} : PTs X [] (tT X.K X.mg W tAll) := ⟨fun pins s σ H Q I w => pts_nil.run pins s σ H Q I (i_all w)⟩
theorem sts_1 {X : Cx} {W : WX} {c : Expr} {ft : F Bool} (h : PT X c (tT X.K X.mg W ft)) : PTs X [c] (tT X.K X.mg W ft) := pts_one h
end
end Sm


set_option Elab.async false
set_option linter.all false
set_option maxRecDepth 100000
set_option maxHeartbeats 1000000
namespace Sm
open PySem L2 PySem.Spec PyProof.Rows

/-! ### a def's promise, where no repr is under way -/
structure FnG (P : Program) (w : World) (K : PySem.W.Frag) (mg : Str → Option Value) (base : Heap) (CX : CXT) (k : Nat) (f : Addr) (fd : FuncData) (ps : List Str) (sp : Sp) : Prop where
  len : ∀ vs H Q E, sp vs H Q E → vs.length = ps.length
  run : ∀ (A : Around) (outer : List Env) (s : Shared) (H : Hp) (args : Args) (us : List Value) (vs : List V) (Q : VK) (E : XK), A.guards = some [] → Room k A → Env0 P w K mg base A outer s H → BindsTo s fd args (ps.zip us) → Vals vs us → sp vs H Q E →
    codeAny (model P w) A (.call (.ref f) args) (CR CX outer P w H s Q E) s
theorem FnG.mono {P : Program} {w : World} {K : PySem.W.Frag} {mg : Str → Option Value} {base : Heap} {CX : CXT} {j k : Nat} {f : Addr} {fd : FuncData} {ps : List Str} {sp : Sp} (F : FnG P w K mg base CX j f fd ps sp) (h : j ≤ k) : FnG P w K mg base CX k f fd ps sp :=
  ⟨F.len, fun A outer s H args us vs Q E hg hr => F.run A outer s H args us vs Q E hg (hr.mono h)⟩
theorem fg_of {CX : CXT} {P : Program} {w : World} {K : PySem.W.Frag} {mg : Str → Option Value} {base : Heap} {k : Nat} {f : Addr} {name qual : Str} {params : Arguments} {body : List Stmt} {scope : Scope} {dV kV doc pm cdv ct oc : Value} {an od : Option Addr}
    {osl : Array (Option Value)} {N ps : List Str} {sp : Sp} (lk : K.lookup f = some ⟨oc, od, .func (PySem.W.fnOf name qual params body scope dV kV doc pm an cdv ct), osl⟩) (hcd : PySem.W.codeIn K cdv qual = true) (SC : FnScope N ps scope)
    (hlen : ∀ vs H Q E, sp vs H Q E → vs.length = ps.length)
    (hb : ∀ (A : Around) (outer : List Env) (s : Shared) (H : Hp) (vs : List V) (Q : VK) (E : XK), A.guards = some [] → Room k (A.deeper (envOfC qual scope s.heap.objs.size f cdv)) → sp vs H Q E →
      ∃ t, PSs (cxOf CX P w K mg base N qual scope f cdv A outer s H E) body t ∧ t { nx := fun _ H' => Q .non H', rt := Q } (L2.start N vs) H) :
    FnG P w K mg base CX (k + 1) f (PySem.W.fnOf name qual params body scope dV kV doc pm an cdv ct) ps sp := by
  refine ⟨hlen, fun A outer s H args us vs Q E hg hr env0 hbind rv hsp => ?_⟩
  have lim : s.heap.NoLimit := env0.mod.nolimit.keeps fun b o q => (env0.bs b o q).1
  have inK : K.In s.heap := env0.mod.kin.keeps fun b o q => (env0.bs b o q).1
  have hps : ∀ y ∈ ps.zip us, scope.names.lookup y.1 = some .local ∨ (scope.names.lookup y.1 = some .cell ∧ ((cellsFrom (s.heap.objs.size + 1) scope.names []).lookup y.1).isSome = true) := by
    rintro ⟨nm, vv⟩ hy
    rcases SC.par nm (List.of_mem_zip hy).1 with c | c
    · exact Or.inl c
    · exact Or.inr ⟨c, PySem.W.cellsFrom_some _ _ _ (Or.inl c)⟩
  refine codeAny_call_function hr.depth (inK _ _ lk) rfl SC.co SC.gen rfl (PySem.W.codeRec_of inK hcd) (hbind _ _ _ _ ?_)
  refine wpAny_newFunctionEnv_cells SC.kind hps ?_
  intro env he s1 x
  subst he
  obtain ⟨t, ht, hq⟩ := hb A outer s H vs Q E hg (hr.deeper _) hsp
  have I0 : Inv (cxOf CX P w K mg base N qual scope f cdv A outer s H E) [] (start N vs) H s1 := inv_start SC hr.hd env0 (hlen _ _ _ _ hsp) rv x
  refine ⟨lim.keeps x.toInCall.keep, codeAny_func (wpAny_mono (ht.run [] s1 (start N vs) H _ I0 hq) (fun fl s2 hs => ?_) fun e s2 hs => hs)⟩
  cases fl with
  | ret u => obtain ⟨v, σ2, H2, J, rv2, q⟩ := hs; exact ⟨v, H2, J.os, J.bare, J.base, J.hok, rv2, q⟩
  | next => obtain ⟨σ2, H2, J, q⟩ := hs; exact ⟨V.non, H2, J.os, J.bare, J.base, J.hok, rfl, q⟩
  | brk => obtain ⟨_, _, _, q⟩ := hs; exact q.elim
  | cont => obtain ⟨_, _, _, q⟩ := hs; exact q.elim

/-! ### what leaves a def -/
mutual
/-- all pointers below n -/
def lo (n : Nat) : D → Bool
  | .ptr k => decide (k < n)
  | .tup ds => los n ds
  | .lst ds => los n ds
  | .frl ds => los n ds
  | _ => true
def los (n : Nat) : List D → Bool
  | [] => true
  | d :: ds => lo n d && los n ds
end
def loO (n : Nat) : O → Bool
  | .lst ds => los n ds
mutual
theorem RD.cut {K : PySem.W.Frag} {ι m Z : List Addr} {H : Hp} : ∀ {d : D} {v : V}, RD K (ι ++ m) Z H d v → lo ι.length d = true → RD K ι Z H d v
  | .non, _, h, _ => h
  | .bl _, _, h, _ => h
  | .int _, _, h, _ => h
  | .str _, _, h, _ => h
  | .ptr n, _, h, q => by
    obtain ⟨a, rfl, h⟩ := h
    simp only [lo, decide_eq_true_eq] at q
    rw [List.getElem?_append_left q] at h
    exact ⟨a, rfl, h⟩
  | .tup ds, _, h, q => by
    obtain ⟨a, vs, rfl, h1, h2⟩ := h
    exact ⟨a, vs, rfl, h1, RDs.cut h2 (by simpa [lo] using q)⟩
  | .lst ds, _, h, q => by
    obtain ⟨a, vs, rfl, h1, h2, h3, h4⟩ := h
    exact ⟨a, vs, rfl, fun z => h1 (List.mem_append_left _ z), h2, h3, RDs.cut h4 (by simpa [lo] using q)⟩
  | .frl ds, _, h, q => by
    obtain ⟨a, vs, rfl, h1, h2⟩ := h
    exact ⟨a, vs, rfl, h1, RDs.cut h2 (by simpa [lo] using q)⟩
theorem RDs.cut {K : PySem.W.Frag} {ι m Z : List Addr} {H : Hp} : ∀ {ds : List D} {vs : List V}, RDs K (ι ++ m) Z H ds vs → los ι.length ds = true → RDs K ι Z H ds vs
  | [], _, h, _ => h
  | d :: ds, _, h, q => by
    obtain ⟨v, r, rfl, h1, h2⟩ := h
    simp only [los, Bool.and_eq_true] at q
    exact ⟨v, r, rfl, RD.cut h1 q.1, RDs.cut h2 q.2⟩
end
theorem Ext.cut {ι ι' : List Addr} {H H' : Hp} (e : Ext ι ι' H H') : Ext ι ι H H' := ⟨⟨[], by simp⟩, e.keep, fun a h n => absurd h n, e.tk, e.fk⟩
theorem SR.cut {K : PySem.W.Frag} {ι m Z : List Addr} {H : Hp} {S : Store} (s : SR K (ι ++ m) Z H S) (h : (S.take ι.length).all (loO ι.length) = true) : SR K ι Z H (S.take ι.length) := by
  have hl := s.len
  rw [List.length_append] at hl
  refine ⟨by rw [List.length_take]; omega, (List.nodup_append.mp s.nd).1, fun z hz => ⟨(s.zt z hz).1, fun q => (s.zt z hz).2 (List.mem_append_left _ q)⟩, fun n a hn => ?_⟩
  have hlt : n < ι.length := (List.getElem?_eq_some_iff.mp hn).1
  obtain ⟨ds, vs, h1, h2, h3⟩ := s.ob n a (by rw [List.getElem?_append_left hlt]; exact hn)
  have h1' : (S.take ι.length)[n]? = some (O.lst ds) := by rw [List.getElem?_take_of_lt hlt]; exact h1
  exact ⟨ds, vs, h1', h2, h3.cut (List.all_eq_true.mp h _ (List.mem_of_getElem? h1'))⟩
/-- the store as the caller knew it; a list that was made comes as a value -/
def fz (n : Nat) (d : D) (S : Store) : R D := if (S.take n).all (loO n) then (if lo n d then .ok d (S.take n) else match d with
  | .ptr k => match S[k]? with
    | some (.lst ds) => if los n ds then .ok (.lst ds) (S.take n) else .bad
    | none => .bad
  | _ => .bad) else .bad
def fzx (n : Nat) (x : Xd) (S : Store) : R D := if (S.take n).all (loO n) && x.fl.isEmpty then .exc x (S.take n) else .bad
/-- a def's body as a function: mF forgets what it made, mK keeps it -/
def mF (nl : Nat) (g : G) (ds : List D) (S : Store) : R D := match g (ds.map some ++ List.replicate (nl - ds.length) none) S with
  | .nx _ S' => fz S.length .non S'
  | .rt d S' => fz S.length d S'
  | .exc x _ S' => fzx S.length x S'
  | _ => .bad
def mK (nl : Nat) (g : G) (ds : List D) (S : Store) : R D := match g (ds.map some ++ List.replicate (nl - ds.length) none) S with
  | .nx _ S' => .ok .non S'
  | .rt d S' => .ok d S'
  | _ => .bad
def spM (K : PySem.W.Frag) (mg : Str → Option Value) (np : Nat) (m : List D → Store → R D) : Sp := fun vs H Q E => ∃ ι Z ds S, ds.length = np ∧ RDs K ι Z H ds vs ∧ SR K ι Z H S ∧ Pg K mg (RD K) ι Z H E Q (m ds S)
theorem re_start {K : PySem.W.Frag} {ι Z : List Addr} {H : Hp} {ds : List D} {vs : List V} {N : List Str} (r : RDs K ι Z H ds vs) : RE K ι Z H (ds.map some ++ List.replicate (N.length - ds.length) none) (L2.start N vs) := by
  have hl := r.length
  refine ⟨by simp [L2.start, hl], fun i d h => ?_⟩
  unfold L2.start
  by_cases hi : i < ds.length
  · rw [List.getElem?_append_left (by simpa using hi), List.getElem?_map] at h
    cases q : ds[i]? with
    | none => rw [q] at h; cases h
    | some d' =>
      rw [q] at h
      cases h
      obtain ⟨v, hv, rv⟩ := r.get q
      exact ⟨v, by rw [List.getElem?_append_left (by rw [List.length_map, hl]; exact hi), List.getElem?_map, hv]; rfl, rv⟩
  · rw [List.getElem?_append_right (by simpa using hi), List.getElem?_replicate] at h
    split at h <;> cases h
section
variable {P : Program} {w : World} {K : PySem.W.Frag} {mg : Str → Option Value} {base : Heap}
/-- the wish of a def's body -/
abbrev Wd (E : XK) : WX := fun cls d _ H => E cls d H
theorem fz_ok {ι Z : List Addr} {H : Hp} {S : Store} {E : XK} {Q : VK} {d : D} {S' : Store} (hS : SR K ι Z H S) (h : Pg K mg (RD K) ι Z H E Q (fz S.length d S')) : ∀ ι' H' v, Ext ι ι' H H' → SR K ι' Z H' S' → RD K ι' Z H' d v → Q v H' := by
  intro ι' H' v e s r
  obtain ⟨m, rfl⟩ := e.pre
  unfold fz at h
  rw [hS.len] at h
  by_cases h1 : (S'.take ι.length).all (loO ι.length) = true
  · rw [if_pos h1] at h
    by_cases h2 : lo ι.length d = true
    · rw [if_pos h2] at h
      exact h ι H' v e.cut (s.cut h1) (r.cut h2)
    · rw [if_neg h2] at h
      cases d with
      | ptr k =>
        simp only at h
        obtain ⟨a, rfl, hn⟩ := r
        obtain ⟨ds, vs, g1, g2, g3⟩ := s.ob k a hn
        rw [g1] at h
        simp only at h
        by_cases h3 : los ι.length ds = true
        · rw [if_pos h3] at h
          refine h ι H' _ e.cut (s.cut h1) ⟨a, vs, rfl, fun z => ?_, fun z => (s.zt a z).2 (List.mem_of_getElem? hn), g2, g3.cut h3⟩
          simp only [lo, decide_eq_true_eq] at h2
          have nd := s.nd
          obtain ⟨j, hj⟩ := List.mem_iff_getElem?.mp z
          have hjl : j < ι.length := (List.getElem?_eq_some_iff.mp hj).1
          have hj2 : (ι ++ m)[j]? = some a := by rw [List.getElem?_append_left hjl]; exact hj
          have := SR.put.nodup_ix' nd hj2 hn
          omega
        · rw [if_neg h3] at h; exact h.elim
      | _ => exact h.elim
  · rw [if_neg h1] at h; exact h.elim
theorem mF_ok {ι Z : List Addr} {H : Hp} {S : Store} {E : XK} {Q : VK} {ds : List D} {nl : Nat} {g : G} (hS : SR K ι Z H S) (h : Pg K mg (RD K) ι Z H E Q (mF nl g ds S)) :
    Ps K mg (Wd E) ι Z H { nx := fun _ H' => Q .non H', rt := Q } (g (ds.map some ++ List.replicate (nl - ds.length) none) S) := by
  unfold mF at h
  cases hb2 : g (ds.map some ++ List.replicate (nl - ds.length) none) S with
  | nx ρ S' => rw [hb2] at h; exact fun ι' H' σ' e s _ => fz_ok hS h ι' H' .non e s rfl
  | rt d S' => rw [hb2] at h; exact fz_ok hS h
  | exc x ρ S' =>
    rw [hb2] at h
    intro ι' H' σ' cls dd e s _ rx
    obtain ⟨m, rfl⟩ := e.pre
    simp only [fzx, hS.len] at h
    split at h
    · rename_i hz
      rw [Bool.and_eq_true] at hz
      obtain ⟨C, c1, c2, c3, c4⟩ := rx
      have hfl : x.fl = [] := by simpa using hz.2
      exact h ι H' cls dd e.cut (s.cut hz.1) ⟨C, c1, c2, c3, fun q => absurd hfl q⟩
    · exact h.elim
  | bk ρ S' => rw [hb2] at h; exact h.elim
  | ct ρ S' => rw [hb2] at h; exact h.elim
  | bad => rw [hb2] at h; exact h.elim
theorem mK_ok {ι Z : List Addr} {H : Hp} {S : Store} {E : XK} {Q : VK} {ds : List D} {nl : Nat} {g : G} (hS : SR K ι Z H S) (h : Pg K mg (RD K) ι Z H E Q (mK nl g ds S)) :
    Ps K mg (Wd E) ι Z H { nx := fun _ H' => Q .non H', rt := Q } (g (ds.map some ++ List.replicate (nl - ds.length) none) S) := by
  unfold mK at h
  cases hb2 : g (ds.map some ++ List.replicate (nl - ds.length) none) S with
  | nx ρ S' => rw [hb2] at h; exact fun ι' H' σ' e s _ => h ι' H' .non e s rfl
  | rt d S' => rw [hb2] at h; exact h
  | exc x ρ S' => rw [hb2] at h; exact h.elim
  | bk ρ S' => rw [hb2] at h; exact h.elim
  | ct ρ S' => rw [hb2] at h; exact h.elim
  | bad => rw [hb2] at h; exact h.elim
end

/-! ### calls -/
/-- a def as its callers know it -/
structure Df (P : Program) (w : World) (K : PySem.W.Frag) (mg : Str → Option Value) (base : Heap) (x : Str) (k : Nat) (f : Addr) (fd : FuncData) (ps : List Str) (m : List D → Store → R D) : Prop where
  fn : FnG P w K mg base (L2.CX P w) k f fd ps (spM K mg ps.length m)
  gm : mg x = some (.ref f)
  kp : PySem.W.keepIn K (.ref f) = true
  bd : Binds K fd ps []
def eF (np : Nat) (m : List D → Store → R D) (fs : F (List D)) : F D := fun ρ S => (fs ρ S).bind fun ds S1 => if ds.length = np then m ds S1 else .bad
/-- what the keywords' places are -/
def pkD (ix : List Nat) (a b : List D) : List D := ix.map fun i => (a ++ b).getD i .non
def pkV (ix : List Nat) (a b : List V) : List V := ix.map fun i => (a ++ b).getD i .non
def pkW (ix : List Nat) (a b : List Value) : List Value := ix.map fun i => (a ++ b).getD i .none
def eFk (np : Nat) (ix : List Nat) (n nk : Nat) (m : List D → Store → R D) (fs fk : F (List D)) : F D := fun ρ S => (fs ρ S).bind fun a S1 => (fk ρ S1).bind fun b S2 => if a.length = n ∧ b.length = nk ∧ ix.length = np then m (pkD ix a b) S2 else .bad
theorem pk_rel {K : PySem.W.Frag} {ι Z : List Addr} {H : Hp} {a b : List D} {u v : List V} (r : RDs K ι Z H a u) (q : RDs K ι Z H b v) : ∀ ix : List Nat, RDs K ι Z H (pkD ix a b) (pkV ix u v)
  | [] => rfl
  | i :: ix => by
    refine ⟨_, _, rfl, ?_, pk_rel r q ix⟩
    have rr := r.app q
    show RD K ι Z H ((a ++ b).getD i D.non) ((u ++ v).getD i V.non)
    rw [List.getD_eq_getElem?_getD, List.getD_eq_getElem?_getD]
    cases h : (a ++ b)[i]? with
    | none =>
      have : (u ++ v)[i]? = none := by
        rw [List.getElem?_eq_none_iff] at h ⊢
        rw [rr.length]; exact h
      rw [this]; exact rfl
    | some d =>
      obtain ⟨x, hx, rx⟩ := rr.get h
      rw [hx]; exact rx
theorem pk_val : ∀ (ix : List Nat) {vs : List V} {us : List Value} {zs : List V} {ws : List Value}, Vals vs us → Vals zs ws → Vals (pkV ix vs zs) (pkW ix us ws)
  | [], _, _, _, _, _, _ => .nil
  | i :: ix, vs, us, zs, ws, r, q => by
    refine .cons ?_ (pk_val ix r q)
    have rr := r.append q
    show L2.RelV ((vs ++ zs).getD i V.non) ((us ++ ws).getD i Value.none)
    rw [List.getD_eq_getElem?_getD, List.getD_eq_getElem?_getD]
    cases h : (vs ++ zs)[i]? with
    | none => rw [rr.none_of h]; exact rfl
    | some d =>
      obtain ⟨x, hx, rx⟩ := rr.get h
      rw [hx]; exact rx
section
variable {X : Cx} {W : WX} {k : Nat} {f : Addr} {fd : FuncData} {ps ks : List Str} {m : List D → Store → R D} {x : Str} {p pos : Pos} {e : Expr} {es : List Expr} {kws : List Keyword} {fs fk : F (List D)}
theorem run_g {pins : List (Addr × Obj)} {σ : L2.St} {H : Hp} {s : Shared} {Q : VK} {args : Args} {us : List Value} {vs : List V} {sp : Sp} (F : FnG X.prog X.w X.K X.mg X.base (L2.CX X.prog X.w) k f fd ps sp) (hg : X.A.guards = some []) (hr : Room k X.A) (tk : Takes X W)
    (hb : BindsTo s fd args (ps.zip us)) (I : Inv X pins σ H s) (r : Vals vs us) (h : sp vs H Q (fun c d H' => W c d σ H')) : codeAny (model X.prog X.w) X.A (.call (.ref f) args) (fun r s' => match r with
      | .ok (.ret u) => EP X pins σ Q u s'
      | .ok _ => False
      | .error e => X.xe e s') s := by
  refine codeAny_mono (F.run X.A X.stack s H args us vs Q _ hg hr I.env0 hb r h) fun r s' hq => ?_
  cases r with
  | error e => exact passAt tk σ pins H s e s' I hq
  | ok fl =>
    cases fl with
    | ret u => exact I.after hq
    | next => exact hq.elim
    | brk => exact hq.elim
    | cont => exact hq.elim
theorem se_f (Dd : Df X.prog X.w X.K X.mg X.base x k f fd ps m) (hg : X.A.guards = some []) (hr : Room k X.A) (tk : Takes X W) (ha : PA X (e :: es) (tA X.K X.mg W fs)) (hgl : Gl X x := by rfl) (hdb : (x == ("__debug__" : Str)) = false := by decide)
    (he : starEach (e :: es) X.env = (false, eval e X.env) :: starEach es X.env := by rfl) (hpl : (backTo pos (starEach es X.env)).any (·.1) = false := by rfl) :
    PE X (.Call (.Name x p) (e :: es) [] pos) (tE X.K X.mg W (eF ps.length m fs)) := by
  refine ⟨fun pins s σ H Q I h => ?_⟩
  refine wpAny_Call_Name_kw (ld_glob I hgl Dd.gm ?_ hdb)
  obtain ⟨ι, Z, ρ, S, hρ, hS, h⟩ := h
  have ht : tA X.K X.mg W fs σ H (fun vs H1 => spM X.K X.mg ps.length m vs H1 Q (fun c d H' => W c d σ H')) := ⟨ι, Z, ρ, S, hρ, hS, Pg.bnd h fun ds S1 ι1 H1 vs e1 s1 rds h1 => by
    by_cases hl : ds.length = ps.length
    · rw [if_pos hl] at h1
      exact ⟨ι1, Z, ds, S1, hl, rds, s1, h1⟩
    · rw [if_neg hl] at h1; exact h1.elim⟩
  refine PySem.W.callWith_K (h₀ := X.base) I.ok.mod.kin Dd.kp (thn (ha.run pos pins s σ H _ I ht) fun us s1 ⟨vs, H1, I1, r, q⟩ => ⟨I1.kIn, ?_⟩) he hpl
  have hl : us.length = ps.length := by rw [← r.length]; exact Dd.fn.len _ _ _ _ q
  have b := Dd.bd s1 us I1.kIn (by rw [List.append_nil]; exact hl)
  rw [List.append_nil] at b
  refine wpAny_call (codeAny_mono (run_g Dd.fn hg hr tk b I1 r q) fun r s' hq => ?_)
  cases r with
  | error e => exact hq
  | ok fl => cases fl with
    | ret u => exact hq
    | next => exact hq.elim
    | brk => exact hq.elim
    | cont => exact hq.elim
theorem sk_n : PK X [] (tA X.K X.mg W aN) := ⟨fun pos pins s σ H Q I h => pk_nil.run pos pins s σ H Q I (by
  obtain ⟨ι, Z, ρ, S, hρ, hS, h⟩ := h
  exact h ι H [] (Ext.refl _ _) hS rfl)⟩
theorem sk_c {nm : Option Str} {kpos : Pos} {fa : F D} {fr : F (List D)} (ha : PE X e (tE X.K X.mg W fa)) (hr : PK X kws (tA X.K X.mg W fr)) : PK X (⟨nm, e, kpos⟩ :: kws) (tA X.K X.mg W (aC fa fr)) := ⟨fun pos pins s σ H Q I h => (pk_cons ha hr).run pos pins s σ H Q I (by
  obtain ⟨ι, Z, ρ, S, hρ, hS, h⟩ := h
  refine ⟨ι, Z, ρ, S, hρ, hS, Pg.bnd h fun d S1 ι1 H1 v e1 s1 rd h1 => ?_⟩
  refine ⟨ι1, Z, ρ, S1, hρ.ext e1, s1, Pg.bnd h1 fun ds S2 ι2 H2 vs e2 s2 rds h2 => ?_⟩
  exact h2 ι2 H2 (v :: vs) (Ext.refl _ _) s2 ⟨v, vs, rfl, rd.ext e2, rds⟩)⟩
/-- f(k = v, ..) -/
theorem se_fk0 {ix : List Nat} (Dd : Df X.prog X.w X.K X.mg X.base x k f fd ps m) (hb : KBn X.K fd ps 0 ks (pkW ix) (pkV ix)) (hg : X.A.guards = some []) (hr : Room k X.A) (tk : Takes X W) (hkw : PK X kws (tA X.K X.mg W fk)) (hgl : Gl X x := by rfl)
    (hall : (backToKw pos (keywordEach kws X.env)).all (·.1.isSome) = true := by rfl) (hks : (backToKw pos (keywordEach kws X.env)).filterMap (·.1) = ks := by rfl) (hdb : (x == ("__debug__" : Str)) = false := by decide)
    (hpl : ((backTo pos (starEach [] X.env)).any (·.1) || (backToKw pos (keywordEach kws X.env)).any (·.1.isNone)) = false := by rfl) :
    PE X (.Call (.Name x p) [] kws pos) (tE X.K X.mg W (eFk ps.length ix 0 ks.length m aN fk)) := by
  refine ⟨fun pins s σ H Q I h => ?_⟩
  refine wpAny_Call_Name_kw (ld_glob I hgl Dd.gm ?_ hdb)
  obtain ⟨ι, Z, ρ, S, hρ, hS, h⟩ := h
  have h : Pg X.K X.mg (RD X.K) ι Z H (fun c d H' => W c d σ H') Q ((fk ρ S).bind fun b S2 => if ([] : List D).length = 0 ∧ b.length = ks.length ∧ ix.length = ps.length then m (pkD ix [] b) S2 else .bad) := h
  have ht : tA X.K X.mg W fk σ H (fun zs H2 => zs.length = ks.length ∧ spM X.K X.mg ps.length m (pkV ix [] zs) H2 Q (fun c d H' => W c d σ H')) := ⟨ι, Z, ρ, S, hρ, hS, Pg.bnd h fun b S2 ι2 H2 zs e2 s2 rzs h2 => by
    split at h2
    · rename_i hz
      exact ⟨by rw [rzs.length]; exact hz.2.1, ι2, Z, pkD ix [] b, S2, by rw [← hz.2.2]; simp [pkD], pk_rel (a := []) (u := []) (show RDs X.K ι2 Z H2 [] [] from rfl) rzs ix, s2, h2⟩
    · exact h2.elim⟩
  refine PySem.W.callWith_KW0 (h₀ := X.base) I.ok.mod.kin Dd.kp hall ?_ hpl
  refine thn (hkw.run pos pins s σ H _ I ht) fun ws s2 ⟨zs, H2, I2, rz, l2, q2⟩ => ⟨I2.kIn, ?_⟩
  rw [hks]
  refine wpAny_call (codeAny_mono (run_g Dd.fn hg hr tk (hb.to s2 [] ws I2.kIn rfl (by rw [← rz.length]; exact l2)) I2 (hb.rel .nil rz) q2) fun r s' hq => ?_)
  cases r with
  | error e => exact hq
  | ok fl => cases fl with
    | ret u => exact hq
    | next => exact hq.elim
    | brk => exact hq.elim
    | cont => exact hq.elim
end
end Sm


set_option Elab.async false
set_option linter.all false
set_option maxRecDepth 100000
set_option maxHeartbeats 1000000
namespace Sm
open PySem L2 PySem.Spec PyProof.Rows

/-! ### zip of two, each a list or a tuple -/
def SqB (K : PySem.W.Frag) (k : Bool) (H : Hp) (a : Addr) (xs : List V) : Prop := match k with
  | true => SqT K H a xs
  | false => SqL K H a xs
def ArB (k : Bool) (h : Heap) (a : Addr) (its : Array Value) : Prop := match k with
  | true => h.IsTuple a its
  | false => h.IsList a its
def TuB (k : Bool) (it a : Addr) (i : Nat) (h : Heap) : Prop := match k with
  | true => h.IsTupleIter it a i
  | false => h.IsListIter it a i
def obB (k : Bool) (a : Addr) : Obj := match k with
  | true => { cls := .type "tuple_iterator", data := .fields #[.ref a, .int 0 0] }
  | false => { cls := .type "list_iterator", data := .fields #[.ref a, .int 0 0] }
theorem SqB.at_ {X : Cx} {pins : List (Addr × Obj)} {σ : L2.St} {H : Hp} {s : Shared} {k : Bool} {a : Addr} {xs : List V} (I : Inv X pins σ H s) (h : SqB X.K k H a xs) : ∃ its : List Value, Vals xs its ∧ ArB k s.heap a its.toArray := by
  cases k with
  | true => obtain ⟨its, rv, p, _⟩ := I.tuple h; exact ⟨its, rv, p⟩
  | false => obtain ⟨its, rv, p, _⟩ := I.list h; exact ⟨its, rv, p.isList⟩
theorem SqB.inj {X : Cx} {pins : List (Addr × Obj)} {σ : L2.St} {H : Hp} {s : Shared} {k : Bool} {a : Addr} {xs ys : List V} (I : Inv X pins σ H s) (h : SqB X.K k H a xs) (g : SqB X.K k H a ys) : xs = ys := by
  cases k with
  | true => exact I.tuple_inj h g
  | false => exact I.list_inj h g
theorem ArB.lt {k : Bool} {h : Heap} {a : Addr} {its : Array Value} (p : ArB k h a its) : a < h.objs.size := by
  cases k with
  | true => obtain ⟨o, e, _⟩ := p; exact Heap.lt_size e
  | false => obtain ⟨o, e, _⟩ := p; exact Heap.lt_size e
theorem TuB.obj {k : Bool} {it a : Addr} {i : Nat} {h : Heap} (p : TuB k it a i h) : ∃ o, h.get? it = some o ∧ ∀ v, o.data ≠ .cell v := by
  cases k with
  | true => obtain ⟨o, e, _, d⟩ := p; exact ⟨o, e, fun v q => by rw [d] at q; cases q⟩
  | false => obtain ⟨o, e, _, d⟩ := p; exact ⟨o, e, fun v q => by rw [d] at q; cases q⟩
theorem TuB.keep {k : Bool} {it a : Addr} {i : Nat} {h h' : Heap} (p : TuB k it a i h) (q : ∀ o, h.get? it = some o → h'.get? it = some o) : TuB k it a i h' := by
  cases k with
  | true => exact Heap.IsTupleIter.at p q
  | false => exact Heap.IsListIter.at p q
theorem TuB.zero {k : Bool} {it a : Addr} {h : Heap} (e : h.get? it = some (obB k a)) : TuB k it a 0 h := by
  cases k with
  | true => exact ⟨_, e, rfl, rfl⟩
  | false => exact ⟨_, e, rfl, rfl⟩
theorem drB {prog : Program} {w : World} {A : Around} (hh : A.handled = none) (k : Bool) (it a : Addr) (hne : a ≠ it) (its : Array Value) : Draws prog w A it [it, a] its.size (fun i v => its[i]? = some v) (fun i h => TuB k it a i h ∧ ArB k h a its) := by
  cases k with
  | true => exact Draws.tuple hh it a hne its
  | false => exact Draws.list hh it a hne its
theorem beB (k : Bool) (a : Addr) (its : Array Value) : Begins (.ref a) (obB k a) fun h => ArB k h a its := by
  cases k with
  | true => exact begins_tuple a its
  | false => exact begins_list a its
/-- the walk of such a zip -/
def ItB (K : PySem.W.Frag) (j k : Bool) (a b : Addr) : It where
  go := fun i H => ∃ (xs ys : List V) (x y : V), SqB K j H a xs ∧ SqB K k H b ys ∧ xs[i]? = some x ∧ ys[i]? = some y
  yld := fun i H v H' => ∃ p x y, v = .ref p ∧ H p = none ∧ H' = upd H p (.tup [x, y]) ∧ (∀ xs, SqB K j H a xs → xs[i]? = some x) ∧ ∀ ys, SqB K k H b ys → ys[i]? = some y
  stop := fun i H => ∃ xs ys : List V, SqB K j H a xs ∧ SqB K k H b ys ∧ (xs.length = i ∧ i ≤ ys.length ∨ ys.length = i ∧ i ≤ xs.length)
theorem sepB {a b z c1 c2 i1 i2 : Addr} (D : ZipApart z c1 c2 i1 i2 a b) : ZipSep2 z c1 c2 i1 i2 [i1, a] [i2, b] where
  TIz := D.TIz
  TOz := D.TOz
  TITO := D.TITO
  TIi1 := D.TIi1
  TIi2 := D.TIi2
  mem1 := by simp
  mem2 := by simp
  zf1 := by simp [D.i1z.symm, D.l1z.symm]
  zf2 := by simp [D.i2z.symm, D.l2z.symm]
  Tf1 := by simp [D.TOi1, D.l1TO.symm]
  Tf2 := by simp [D.TOi2, D.l2TO.symm]
  sep1_2 := by simp [D.i12, D.l2i1.symm]
  sep2_1 := by simp [D.i12.symm, D.l1i2.symm]
theorem turnB {P : Program} {w : World} {K : PySem.W.Frag} {elts : List Expr} {kk : Nat} {tpos : Pos} {j k : Bool} {a b z c1 c2 i1 i2 : Addr} (D : ZipApart z c1 c2 i1 i2 a b) :
    Turn P w K (.Tuple elts kk tpos) (ItB K j k a b) [z, c1, c2, i1, i2] z (fun i h => IsZip h z c1 c2 .none ∧ IsTupOf2 h c1 (.ref i1) (.ref i2) ∧ (∃ x y, IsTupOf2 h c2 x y) ∧ TuB j i1 a i h ∧ TuB k i2 b i h) where
  mem := by simp
  obj := fun i h st c hc => by
    obtain ⟨q1, q2, ⟨x, y, q3⟩, q4, q5⟩ := st
    simp only [List.mem_cons, List.not_mem_nil, or_false] at hc
    rcases hc with e | e | e | e | e <;> rw [e]
    · exact ⟨_, q1, fun v q => nomatch q⟩
    · exact ⟨_, q2, fun v q => nomatch q⟩
    · exact ⟨_, q3, fun v q => nomatch q⟩
    · exact q4.obj
    · exact q5.obj
  keep := fun i h h' st kp => by
    obtain ⟨q1, q2, ⟨x, y, q3⟩, q4, q5⟩ := st
    exact ⟨kp z (by simp) _ q1, kp c1 (by simp) _ q2, ⟨x, y, kp c2 (by simp) _ q3⟩, q4.keep fun o q => kp i1 (by simp) o q, q5.keep fun o q => kp i2 (by simp) o q⟩
  item := by
    intro X hP hw hK hc i pins s σ H E I hf st hg
    subst hP hw hK
    obtain ⟨q1, q2, ⟨x0, y0, q3⟩, q4, q5⟩ := st
    obtain ⟨xs, ys, x, y, sx, sy, gx, gy⟩ := hg
    obtain ⟨us, rx, ax⟩ := sx.at_ I
    obtain ⟨ws, ry, ay⟩ := sy.at_ I
    obtain ⟨u, gu, ru⟩ := rx.get gx
    obtain ⟨v, gv, rv⟩ := ry.get gy
    have zlt : z < s.heap.objs.size := Heap.lt_size q1
    have hh : X.A.in1.handled = none := I.ok.hd hc
    refine wpAny_pyNext_zipD2_item (sepB D) (drB hh j i1 a D.l1i1 us.toArray) (drB hh k i2 b D.l2i2 ws.toArray) q1 q2 q3 ⟨q4, ax⟩ ⟨q5, ay⟩ (by simp; exact (List.getElem?_eq_some_iff.mp gu).1) (by simp; exact (List.getElem?_eq_some_iff.mp gv).1) fun x1 x2 h' tk p1 p2 z' t' s1' s2' new' hsz kp => ?_
    have e1 : x1 = u := by
      have : us[i]? = some x1 := by simpa using p1
      rw [gu] at this; cases this; rfl
    have e2 : x2 = v := by
      have : ws[i]? = some x2 := by simpa using p2
      rw [gv] at this; cases this; rfl
    subst e1 e2
    refine ⟨_, rfl, wpAny_letOwnedTupleGo_zip (s := { s with heap := h', toks := tk }) z' fun h2 z2 sb => ?_⟩
    have new2 : h2.get? s.heap.objs.size = some { cls := .type "tuple", data := .seq #[x1, x2] } := (sb.2 _ (Nat.ne_of_gt zlt)).trans new'
    have ob : ObjOk X.prog X.w (upd H s.heap.objs.size (.tup [x, y])) h2 s.heap.objs.size (.tup [x, y]) :=
      ⟨show 2 ≤ sizeLine by decide, [x1, x2], .cons ru (.cons rv .nil), ⟨_, new2, rfl, _, rfl⟩⟩
    have I2 : Inv X pins σ (upd H s.heap.objs.size (.tup [x, y])) { s with heap := h2, toks := tk } :=
      I.turnedNew (t' := tk) (ch := [z, c1, c2, i1, i2]) (fun c o n q => (sb.2 c (fun e => n (by simp [e]))).trans (kp c o (fun e => n (by simp [e])) (fun e => n (by simp [e])) (fun e => n (by simp [e])) (fun e => n (by simp [e])) q)) hf (Nat.le_refl _) ob
    refine ⟨.ref s.heap.objs.size, _, I2, rfl, ⟨_, x, y, rfl, I.hok.fresh (Nat.le_refl _), rfl, fun l hl => by rw [SqB.inj I hl sx]; exact gx, fun l hl => by rw [SqB.inj I hl sy]; exact gy⟩, ⟨z2, ?_, ⟨x1, x2, ?_⟩, ?_, ?_⟩, fun c cm => ?_⟩
    · exact (sb.2 _ D.TIz).trans (kp _ _ D.TIz D.TITO D.TIi1 D.TIi2 q2)
    · exact (sb.2 _ D.TOz).trans t'
    · exact s1'.1.keep fun o q => (sb.2 _ D.i1z).trans q
    · exact s2'.1.keep fun o q => (sb.2 _ D.i2z).trans q
    · have lt : c < s.heap.objs.size := by
        simp only [List.mem_cons, List.not_mem_nil, or_false] at cm
        rcases cm with e | e | e | e | e <;> rw [e]
        · exact zlt
        · exact Heap.lt_size q2
        · exact Heap.lt_size q3
        · obtain ⟨o, e, _⟩ := q4.obj; exact Heap.lt_size e
        · obtain ⟨o, e, _⟩ := q5.obj; exact Heap.lt_size e
      rw [upd_ne (Nat.ne_of_lt lt)]
      exact (hf c cm).1
  done := by
    intro X hP hw hK hc i pins s σ H E I hf st hg
    subst hP hw hK
    obtain ⟨q1, q2, ⟨x0, y0, q3⟩, q4, q5⟩ := st
    obtain ⟨xs, ys, sx, sy, hend⟩ := hg
    obtain ⟨us, rx, ax⟩ := sx.at_ I
    obtain ⟨ws, ry, ay⟩ := sy.at_ I
    have l1 := rx.length
    have l2 := ry.length
    have hh : X.A.in1.handled = none := I.ok.hd hc
    exact wpAny_pyNext_zipD2_end (sepB D) (drB hh j i1 a D.l1i1 us.toArray) (drB hh k i2 b D.l2i2 ws.toArray) q1 q2 q3 ⟨q4, ax⟩ ⟨q5, ay⟩ (by simp; omega) (by simp; omega) (by simp; omega)
      fun h' tk kp => ⟨rfl, I.turnedL (t' := tk) (ch := [z, c1, c2, i1, i2]) (fun c o n q => kp c o (fun e => n (by simp [e])) (fun e => n (by simp [e])) (fun e => n (by simp [e])) (fun e => n (by simp [e])) q) hf⟩
  self := fun A i s Q E st h => wpAny_pyIter_zip st.1 h
def iB (K : PySem.W.Frag) (ta : TA) : TI := fun σ H R => ta σ H fun vs H1 => ∃ a b j k xs ys, vs = [.ref a, .ref b] ∧ SqB K j H1 a xs ∧ SqB K k H1 b ys ∧ R (ItB K j k a b) H1
theorem pi_B {X : Cx} {e e2 : Expr} {ta : TA} {p pos tpos : Pos} {elts : List Expr} {kk : Nat} (hg : Gl X "zip") (hm : X.mg "zip" = none) (ha : PA X [e, e2] ta)
    (hs : starEach [e, e2] X.env = (false, eval e X.env) :: starEach [e2] X.env) (hpl : (backTo pos (starEach [e2] X.env)).any (·.1) = false) :
    PI X (.Tuple elts kk tpos) (.Call (.Name "zip" p) [e, e2] [] pos) (iB X.K ta) := by
  refine ⟨fun pins s σ H R I h => ?_⟩
  refine Call_ (ld_blt I hg hm PyProof.Rows.boot_zip (PyProof.Rows.callWith_type1 (thn (ha.run pos pins s σ H _ I h) fun us s1 ⟨vs, H1, I1, r1, q1⟩ => ?_) hs hpl))
  obtain ⟨a, b, j, k, xs, ys, rfl, sx, sy, q⟩ := q1
  obtain ⟨u1, r2, rfl, ra, rr⟩ : ∃ u r2, us = u :: r2 ∧ RelV (.ref a) u ∧ Vals [.ref b] r2 := by
    cases r1 with
    | cons r rr => exact ⟨_, _, rfl, r, rr⟩
  obtain ⟨u2, rfl, rb⟩ := vals1 rr
  obtain rfl : u1 = Value.ref a := ra
  obtain rfl : u2 = Value.ref b := rb
  obtain ⟨us, rx, ax⟩ := sx.at_ I1
  obtain ⟨ws, ry, ay⟩ := sy.at_ I1
  refine zip_begins2 (beB j a us.toArray) (beB k b ws.toArray) ax ay fun h' q1 q2 q3 q4 q5 hsz kp => wpAny_pyIter_zip q1 ?_
  have I2 : Inv X pins σ H1 { s1 with heap := h' } := I1.kept (t' := s1.toks) kp
  refine ⟨s1.heap.objs.size + 4, [s1.heap.objs.size + 4, s1.heap.objs.size + 2, s1.heap.objs.size + 3, s1.heap.objs.size, s1.heap.objs.size + 1], _, _, H1, rfl, I2, turnB (PySem.W.ktu_apart s1.heap.objs.size a b ax.lt ay.lt), ⟨q1, q2, ⟨_, _, q3⟩, .zero q4, .zero q5⟩, fun c cm => ?_, q⟩
  have le : s1.heap.objs.size ≤ c := by
    simp only [List.mem_cons, List.not_mem_nil, or_false] at cm
    have h0 : ∀ n : Nat, n ≤ n + 4 ∧ n ≤ n + 2 ∧ n ≤ n + 3 ∧ n ≤ n + 1 := fun n => by omega
    rcases cm with e | e | e | e | e <;> rw [e]
    · exact (h0 _).1
    · exact (h0 _).2.1
    · exact (h0 _).2.2.1
    · exact Nat.le_refl _
    · exact (h0 _).2.2.2
  exact I1.fpOk le (I1.hok.fresh le)
/-- the items of a value that nobody changes -/
def seqV : D → Option (List D)
  | .tup ds => some ds
  | .lst ds => some ds
  | .frl ds => some ds
  | _ => none
def pairD (x y : D) : D := .tup [x, y]
def iZip (fs : F (List D)) : F (List D) := fun ρ S => (fs ρ S).bind fun as S1 => match as with
  | [x, y] => match seqV x, seqV y with
    | some xs, some ys => .ok (List.zipWith pairD xs ys) S1
    | _, _ => .bad
  | _ => .bad
theorem seqB {K : PySem.W.Frag} {ι Z : List Addr} {H : Hp} {d : D} {v : V} {xs : List D} (r : RD K ι Z H d v) (h : seqV d = some xs) : ∃ (a : Addr) (k : Bool) (vs : List V), v = .ref a ∧ (∀ ι' H', Ext ι ι' H H' → SqB K k H' a vs) ∧ RDs K ι Z H xs vs := by
  cases d with
  | tup ds =>
    cases h
    obtain ⟨a, vs, rfl, g1, g2⟩ := r
    exact ⟨a, true, vs, rfl, fun ι' H' e => e.sqt g1, g2⟩
  | lst ds =>
    cases h
    obtain ⟨a, vs, rfl, g1, g2, g3, g4⟩ := r
    exact ⟨a, false, vs, rfl, fun ι' H' e => .inl (.inl (e.keep _ _ g3 g1)), g4⟩
  | frl ds =>
    cases h
    obtain ⟨a, vs, rfl, g1, g2⟩ := r
    exact ⟨a, false, vs, rfl, fun ι' H' e => (e.frl g1).sq, g2⟩
  | _ => cases h
theorem wkB {K : PySem.W.Frag} {ι Z : List Addr} {H : Hp} {j k : Bool} {a b : Addr} {vs us : List V} {xs ys : List D} (h1 : ∀ ι' H', Ext ι ι' H H' → SqB K j H' a vs) (h2 : ∀ ι' H', Ext ι ι' H H' → SqB K k H' b us) (r1 : RDs K ι Z H xs vs) (r2 : RDs K ι Z H ys us) : Wk K ι Z H (ItB K j k a b) (List.zipWith pairD xs ys) := fun ι' Z' H' e hz => by
  have l1 := r1.length
  have l2 := r2.length
  have s1 := h1 ι' H' e
  have s2 := h2 ι' H' e
  have q1 := r1.later e hz
  have q2 := r2.later e hz
  refine ⟨⟨vs, us, s1, s2, ?_⟩, fun i x hx => ?_⟩
  · rw [List.length_zipWith]; omega
  · obtain ⟨c, d, g1, g2, rfl⟩ := List.getElem?_zipWith_eq_some.mp hx
    obtain ⟨v1, e1, k1⟩ := q1.get g1
    obtain ⟨v2, e2, k2⟩ := q2.get g2
    refine ⟨⟨vs, us, v1, v2, s1, s2, e1, e2⟩, fun v H2 y => ?_⟩
    obtain ⟨p, x, z, rfl, hp, rfl, f1, f2⟩ := y
    have f1 := f1 vs s1
    have f2 := f2 us s2
    rw [e1] at f1
    rw [e2] at f2
    cases f1
    cases f2
    have ex := Ex.upd (o := .tup [v1, v2]) hp
    exact ⟨ex, ⟨p, _, rfl, .inl (.inl upd_same), v1, _, rfl, k1.ext (Ext.ex ex), v2, _, rfl, k2.ext (Ext.ex ex), rfl⟩⟩
theorem si_zip {X : Cx} {W : WX} {e e2 : Expr} {fs : F (List D)} {p pos tpos : Pos} {elts : List Expr} {kk : Nat} (hm : X.mg "zip" = none) (ha : PA X [e, e2] (tA X.K X.mg W fs)) (hg : Gl X "zip" := by rfl)
    (hs : starEach [e, e2] X.env = (false, eval e X.env) :: starEach [e2] X.env := by rfl) (hpl : (backTo pos (starEach [e2] X.env)).any (·.1) = false := by rfl) :
    PI X (.Tuple elts kk tpos) (.Call (.Name "zip" p) [e, e2] [] pos) (tI X.K X.mg W (iZip fs)) := piImp (pi_B hg hm ha hs hpl) fun σ H Rr h => by
  obtain ⟨ι, Z, ρ, S, hρ, hS, h⟩ := h.out
  refine ⟨ι, Z, ρ, S, hρ, hS, Pg.bndI h fun as S1 ι1 H1 vs e1 s1 ras h1 => ?_⟩
  rcases as with _ | ⟨x, _ | ⟨y, _ | ⟨z, r⟩⟩⟩
  · exact h1.elim
  · exact h1.elim
  · obtain ⟨v, u, rfl, rv, ru⟩ := ras.inv2
    cases hx : seqV x with
    | none => simp only [hx] at h1; exact h1.elim
    | some xs =>
      cases hy : seqV y with
      | none => simp only [hx, hy] at h1; exact h1.elim
      | some ys =>
        simp only [hx, hy] at h1
        obtain ⟨a, j, vs, rfl, c1, c2⟩ := seqB rv hx
        obtain ⟨b, k, us, rfl, d1, d2⟩ := seqB ru hy
        exact ⟨a, b, j, k, vs, us, rfl, c1 ι1 H1 (Ext.refl _ _), d1 ι1 H1 (Ext.refl _ _), h1 ι1 H1 _ (Ext.refl _ _) s1 (wkB c1 d1 c2 d2)⟩
  · exact h1.elim
end Sm


set_option Elab.async false
set_option linter.all false
set_option maxRecDepth 100000
set_option maxHeartbeats 1000000
namespace Sm
open PySem L2 PySem.Spec PyProof.Rows

/-! ### list(an iterator) -/
abbrev lob (acc : Array Value) (c : Nat) : Obj := { cls := .type "list", dict := none, data := .seq acc c, slots := #[] }
theorem drainJ {P : Program} {w : World} {B : Around} {R : Result → Shared → Prop} {S it : Addr} {res : Value} {n : Nat} (J : Nat → Shared → Prop)
    (step : ∀ i s (E : Value → Shared → Prop), i < n → J i s → wpAny (model P w) B.in1 (pyNext (.ref it)) (fun r s1 => ∃ u acc c, r = some u ∧ s1.heap.get? S = some (lob acc c) ∧ acc.size < sizeLine ∧ J (i + 1) { s1 with heap := s1.heap.update S (Obj.mapSeq (·.push u)) }) E s)
    (done : ∀ s (E : Value → Shared → Prop), J n s → wpAny (model P w) B.in1 (pyNext (.ref it)) (fun r s1 => r = none ∧ R (.ok (.ret res)) s1) E s) :
    ∀ (k i : Nat) (s : Shared), i + k = n → J i s → codeAny (model P w) B (.builtin "list.extend.loop" ⟨[.ref S, .ref it, res], []⟩) R s := by
  intro k
  induction k with
  | zero =>
    intro i s e j
    obtain rfl : i = n := e
    refine codeAny_builtin F.entry_extend_loop ?_
    rw [Around.under_plainId F.plain_extend_loop _]
    show wpAny _ B.in1 (pyNext (.ref it) >>= _) _ _ s
    refine wpAny_bind (wpAny_mono (done s _ j) (fun r s1 hr => ?_) fun e s1 he => he)
    obtain ⟨rfl, hr⟩ := hr
    exact wpAny_pure hr
  | succ k ih =>
    intro i s e j
    refine codeAny_builtin F.entry_extend_loop ?_
    rw [Around.under_plainId F.plain_extend_loop _]
    show wpAny _ B.in1 (pyNext (.ref it) >>= _) _ _ s
    refine wpAny_bind (wpAny_mono (step i s _ (by omega) j) (fun r s1 hr => ?_) fun e s1 he => he)
    obtain ⟨u, acc, c, rfl, hS, hz, j2⟩ := hr
    show wpAny _ B.in1 (updateSeq S (·.push u) >>= _) _ _ _
    refine wpAny_bind (wpAny_updateSeq hS rfl (wpAny_pure ⟨plainId_quiet F.plain_extend_loop _, ih (i + 1) _ (by omega) j2⟩) (Nat.le_of_lt hz) ?_)
    show (acc.push u).size ≤ sizeLine + 1
    rw [Array.size_push]; omega

/-- one turn of an iterator, where nothing is let go behind it -/
structure LT (P : Program) (w : World) (K : PySem.W.Frag) (J : It) (fp : List Addr) (it : Addr) (tn : Nat → Heap → Prop) : Prop where
  ty : ∀ i (s : Shared), tn i s.heap → ∃ T : String, s.TypeIs (.ref it) T ∧ (Value.type T == Value.type "list") = false ∧ (Value.type T == Value.type "tuple") = false
  mem : it ∈ fp
  obj : ∀ i h, tn i h → ∀ b ∈ fp, ∃ o, h.get? b = some o
  keep : ∀ i h h', tn i h → (∀ b ∈ fp, ∀ o, h.get? b = some o → h'.get? b = some o) → (∀ b o, h.get? b = some o → ∃ o', h'.get? b = some o') → tn i h'
  item : ∀ (X : Cx), X.prog = P → X.w = w → X.K = K → ∀ (A : Around), A.handled = none → ∀ (i : Nat) (pins : List (Addr × Obj)) (s : Shared) (σ : L2.St) (H : Hp) (E : Value → Shared → Prop), Inv X pins σ H s → (∀ b ∈ fp, FpOk X pins H b) → tn i s.heap → J.go i H →
    wpAny (model P w) A (pyNext (.ref it)) (fun r s1 => ∃ u x H', r = some u ∧ Inv X pins σ H' s1 ∧ RelV x u ∧ J.yld i H x H' ∧ tn (i + 1) s1.heap ∧ ∀ b ∈ fp, FpOk X pins H' b) E s
  done : ∀ (X : Cx), X.prog = P → X.w = w → X.K = K → ∀ (A : Around), A.handled = none → ∀ (i : Nat) (pins : List (Addr × Obj)) (s : Shared) (σ : L2.St) (H : Hp) (E : Value → Shared → Prop), Inv X pins σ H s → (∀ b ∈ fp, FpOk X pins H b) → tn i s.heap → J.stop i H →
    wpAny (model P w) A (pyNext (.ref it)) (fun r s1 => r = none ∧ Inv X pins σ H s1) E s
  self : ∀ (A : Around) (i : Nat) (s : Shared) (Q : Value → Shared → Prop) (E : Value → Shared → Prop), tn i s.heap → Q (.ref it) s → wpAny (model P w) A (pyIter (.ref it)) Q E s
  hint : ∀ (A : Around) (i : Nat) (s : Shared) (Q : Bool → Shared → Prop) (E : Value → Shared → Prop), tn i s.heap → (∀ k, Q k s) → wpAny (model P w) A (Builtin.List.listLengthHint (.ref it)) Q E s
/-- an expression that makes an iterator -/
structure PL (X : Cx) (e : Expr) (wi : TI) : Prop where
  run : ∀ (pins : List (Addr × Obj)) (s : Shared) (σ : L2.St) (H : Hp) (R : It → Hp → Prop), Inv X pins σ H s → wi σ H R →
    wpAny (model X.prog X.w) X.A (eval e X.env) (fun v s1 => ∃ it fp tn J H', v = .ref it ∧ Inv X pins σ H' s1 ∧ LT X.prog X.w X.K J fp it tn ∧ tn 0 s1.heap ∧ (∀ b ∈ fp, FpOk X pins H' b) ∧ R J H') X.xe s
theorem fp_upd {X : Cx} {pins : List (Addr × Obj)} {H : Hp} {b S : Addr} {o : HO} (f : FpOk X pins H b) (h : b ≠ S) : FpOk X pins (upd H S o) b := by
  obtain ⟨f0, fr⟩ := f
  exact ⟨by rw [upd_ne h]; exact f0, fr⟩
theorem fp_there {X : Cx} {pins : List (Addr × Obj)} {H : Hp} {b S : Addr} {o : HO} (f : FpOk X pins H b) (h : H S = some o) : b ≠ S := by
  rintro rfl
  rw [f.1] at h; cases h
/-- list(it): the items come one by one into a new list -/
theorem call_list_it {X : Cx} (hc : X.calm = true) {pins : List (Addr × Obj)} {s : Shared} {σ : L2.St} {H : Hp} {it : Addr} {fp : List Addr} {tn : Nat → Heap → Prop} {J : It} {Q : Value → Shared → Prop} (n : Nat) (hn : n ≤ 100000) (L : LT X.prog X.w X.K J fp it tn) (I : Inv X pins σ H s)
    (h0 : tn 0 s.heap) (hf : ∀ b ∈ fp, FpOk X pins H b) (Pv : Nat → Hp → List V → Prop) (p0 : Pv 0 (upd H s.heap.objs.size (.lst [])) [])
    (step : ∀ i H1 vs, i < n → H1 s.heap.objs.size = some (.lst vs) → vs.length = i → Pv i H1 vs → J.go i H1 ∧ ∀ x H2, J.yld i H1 x H2 → H2 s.heap.objs.size = some (.lst vs) ∧ Pv (i + 1) (upd H2 s.heap.objs.size (.lst (vs ++ [x]))) (vs ++ [x]))
    (stop : ∀ H1 vs, H1 s.heap.objs.size = some (.lst vs) → vs.length = n → Pv n H1 vs → J.stop n H1 ∧ ∀ s1, Inv X pins σ H1 s1 → Q (.ref s.heap.objs.size) s1) :
    wpAny (model X.prog X.w) X.A (call (.type "list") [.ref it]) Q X.xe s := by
  have hh : X.A.handled = none := I.ok.hd hc
  have lts : ∀ b ∈ fp, b ≠ s.heap.objs.size := fun b hb => by
    obtain ⟨o, e⟩ := L.obj 0 _ h0 b hb
    exact Nat.ne_of_lt (Heap.lt_size e)
  have itS : it ≠ s.heap.objs.size := lts it L.mem
  refine callType_codes (Q₁ := fun obj s₁ => obj = .ref s.heap.objs.size ∧ s₁ = { s with heap := s.heap.push { cls := .type "list", data := .seq #[] } }) F.called_list (F.typeCall_list_1 _) F.entry_list_init
    (code_list_new _ ⟨rfl, rfl⟩) fun obj s₁ h₁ => ?_
  obtain ⟨rfl, rfl⟩ := h₁
  have g1 : (s.heap.push { cls := .type "list", data := .seq #[] }).get? s.heap.objs.size = some { cls := .type "list", data := .seq #[] } := Heap.get?_push_size _ rfl
  refine ⟨⟨_, g1, rfl⟩, F.args_list_init_2 _ _, ?_⟩
  generalize hS : s.heap.objs.size = S at *
  have I1 : Inv X pins σ (upd H S (.lst [])) { s with heap := s.heap.push { cls := .type "list", data := .seq #[] } } := by
    have := I.lnew (its := []) (t' := s.toks) .nil (Nat.zero_le _)
    rw [hS] at this
    exact this
  have k1 : ∀ b o, s.heap.get? b = some o → (s.heap.push { cls := .type "list", data := .seq #[] }).get? b = some o := fun b o e => Heap.get?_push_of_some _ e
  have t1 : tn 0 (s.heap.push { cls := .type "list", data := .seq #[] }) := L.keep 0 _ _ h0 (fun b _ o e => k1 b o e) fun b o e => ⟨o, k1 b o e⟩
  have f1 : ∀ b ∈ fp, FpOk X pins (upd H S (.lst [])) b := fun b hb => fp_upd (hf b hb) (lts b hb)
  -- an update of the new list
  have up : ∀ {Hi : Hp} {s1 : Shared} {vs ys : List V} {i : Nat} {f : Array Value → Array Value} {its its' : List Value} {c : Nat}, Inv X pins σ Hi s1 → tn i s1.heap → (∀ b ∈ fp, FpOk X pins Hi b) → Hi S = some (.lst vs) → s1.heap.get? S = some { cls := .type "list", data := .seq its.toArray c } → f its.toArray = its'.toArray → Vals ys its' → ys.length ≤ sizeLine →
      Inv X pins σ (upd Hi S (.lst ys)) { s1 with heap := s1.heap.update S (Obj.mapSeq f) } ∧ tn i (s1.heap.update S (Obj.mapSeq f)) ∧ (∀ b ∈ fp, FpOk X pins (upd Hi S (.lst ys)) b) := by
    intro Hi s1 vs ys i f its its' c Ii ti fi hSi e hf hv hz
    refine ⟨Ii.lset (t' := s1.toks) hSi e hf hv hz, L.keep i _ _ ti (fun b hb o q => (Heap.get?_update_other _ _ (Ne.symm (lts b hb))).trans q) (fun b o q => ?_), fun b hb => fp_upd (fi b hb) (lts b hb)⟩
    by_cases hb : b = S
    · subst hb
      exact ⟨_, Heap.get?_update_self _ e rfl⟩
    · exact ⟨o, (Heap.get?_update_other _ _ (Ne.symm hb)).trans q⟩
  show wpAny _ _ (do let old ← Builtin.List.listItems (.ref S); Builtin.List.listUpdate (.ref S) (fun _ => #[]); letGo old.toList.reverse; Builtin.List.listExtendWith (.ref S) (.ref it) .none) _ _ _
  refine wpAny_bind ?_
  unfold Builtin.List.listItems
  refine wpAny_bind (wpAny_seqItems g1 rfl (wpAny_pure ?_))
  show wpAny _ _ (updateSeq S (fun _ => #[]) >>= fun _ => letGo (#[] : Array Value).toList.reverse >>= fun _ => Builtin.List.listExtendWith (.ref S) (.ref it) .none) _ _ _
  refine wpAny_bind (wpAny_updateSeq g1 rfl ?_)
  obtain ⟨I2, t2, f2⟩ := up (f := fun _ => #[]) (its := []) (its' := []) (ys := []) I1 t1 f1 upd_same g1 rfl .nil (Nat.zero_le _)
  rw [upd_upd] at I2 f2
  have g2 := Heap.get?_update_self (Obj.mapSeq (fun _ => (#[] : Array Value))) g1 rfl
  refine wpAny_bind (wpAny_letGo ?_)
  unfold Builtin.List.listExtendWith
  obtain ⟨T, hT, hT1, hT2⟩ := L.ty 0 { s with heap := (s.heap.push { cls := .type "list", data := .seq #[] }).update S (Obj.mapSeq (fun _ => (#[] : Array Value))) } t2
  refine wpAny_bind (wpAny_typeOf hT ?_)
  have h1 : Builtin.List.listSameRef (.ref S) (.ref it) = false := by simp [Builtin.List.listSameRef, Ne.symm itS]
  simp only [h1, hT1, hT2, Bool.or_false, Bool.false_eq_true, if_false]
  refine wpAny_bind (L.self _ 0 _ _ _ t2 ?_)
  refine wpAny_bind (wpAny_holding (L.hint _ 0 _ _ _ t2 fun room => ?_))
  have rest : ∀ (h4 : Heap), (∃ c, h4.get? S = some { cls := .type "list", data := .seq #[] c }) → Inv X pins σ (upd H S (.lst [])) { s with heap := h4 } → tn 0 h4 → (∀ b ∈ fp, FpOk X pins (upd H S (.lst [])) b) →
      codeAny (model X.prog X.w) X.A.in1 (.builtin "list.extend.loop" ⟨[.ref S, .ref it, .none], []⟩) (wants (fun r s₂ => r = .none ∧ Q (.ref S) s₂) X.xe) { s with heap := h4 } := by
    intro h4 _ I4 t4 f4
    refine drainJ (P := X.prog) (w := X.w) (n := n) (fun i s1 => ∃ Hi vs, Inv X pins σ Hi s1 ∧ tn i s1.heap ∧ (∀ b ∈ fp, FpOk X pins Hi b) ∧ Hi S = some (.lst vs) ∧ vs.length = i ∧ Pv i Hi vs) ?_ ?_ n 0 _ (Nat.zero_add _) ⟨_, [], I4, t4, f4, upd_same, rfl, p0⟩
    · rintro i s1 E hi ⟨Hi, vs, Ii, ti, fi, hSi, hl, pv⟩
      obtain ⟨go, yl⟩ := step i Hi vs hi hSi hl pv
      refine wpAny_mono (L.item X rfl rfl rfl X.A.in1.in1 hh i pins s1 σ Hi E Ii fi ti go) (fun r s2 hr => ?_) fun e s2 he => he
      obtain ⟨u, x, H2, rfl, I5, ru, hy, t5, f5⟩ := hr
      obtain ⟨hS2, pv2⟩ := yl x H2 hy
      obtain ⟨hz, its, c, rv, hle, g5⟩ := I5.lstM hS2
      have hsz : its.toArray.size < sizeLine := by
        have e1 : its.toArray.size = its.length := by simp
        rw [e1, sizeLine_eq]; omega
      obtain ⟨I6, t6, f6⟩ := up (f := (·.push u)) (its' := its ++ [u]) (ys := vs ++ [x]) I5 t5 f5 hS2 g5 (by simp) (rv.append (.cons ru .nil)) (by rw [List.length_append, sizeLine_eq]; simp; omega)
      exact ⟨u, its.toArray, c, rfl, g5, hsz, _, _, I6, t6, f6, upd_same, by simp [hl], pv2⟩
    · rintro s1 E ⟨Hi, vs, Ii, ti, fi, hSi, hl, pv⟩
      obtain ⟨st, q⟩ := stop Hi vs hSi hl pv
      refine wpAny_mono (L.done X rfl rfl rfl X.A.in1.in1 hh n pins s1 σ Hi E Ii fi ti st) (fun r s2 hr => ?_) fun e s2 he => he
      obtain ⟨rfl, I5⟩ := hr
      exact ⟨rfl, rfl, q s2 I5⟩
  try dsimp only
  split
  · show wpAny _ _ (rule "list.extend.makes-room" >>= fun _ => Builtin.List.listTouch (.ref S) >>= fun _ => again (.builtin "list.extend.loop" ⟨[.ref S, .ref it, .none], []⟩)) _ _ _
    refine wpAny_bind (wpAny_rule ?_)
    refine wpAny_bind ?_
    show wpAny _ _ (updateSeq S (·.push .none) >>= fun _ => updateSeq S (·.pop)) _ _ _
    refine wpAny_bind (wpAny_updateSeq g2 rfl ?_)
    obtain ⟨I3, t3, f3⟩ := up (f := (·.push .none)) (its := []) (its' := [.none]) (ys := [.non]) I2 t2 f2 upd_same g2 rfl (.cons rfl .nil) (show 1 ≤ sizeLine by decide)
    rw [upd_upd] at I3 f3
    have g3 := Heap.get?_update_self (Obj.mapSeq (·.push Value.none)) g2 rfl
    refine wpAny_updateSeq (hz := by seq_fits) g3 rfl ?_
    obtain ⟨I4, t4, f4⟩ := up (f := (·.pop)) (its := [.none]) (its' := []) (ys := []) I3 t3 f3 upd_same g3 rfl .nil (Nat.zero_le _)
    rw [upd_upd] at I4 f4
    have g4 := Heap.get?_update_self (Obj.mapSeq (·.pop)) g3 rfl
    exact wpAny_pure ⟨plainId_quiet F.plain_extend_loop _, rest _ ⟨_, g4⟩ I4 t4 f4⟩
  · exact wpAny_pure ⟨plainId_quiet F.plain_extend_loop _, rest _ ⟨_, g2⟩ I2 t2 f2⟩

/-! ### zip of two lists, its tuples kept -/
theorem nolenZ : typeLookup (.type "zip") "__len__" = pure none := by rw [typeLookup_type, builtinLookup_eq_fast]; kernel_rfl
theorem nohintZ : typeLookup (.type "zip") "__length_hint__" = pure none := by rw [typeLookup_type, builtinLookup_eq_fast]; kernel_rfl
def StZ (z c1 c2 i1 i2 a b : Addr) (i : Nat) (h : Heap) : Prop := ((IsZip h z c1 c2 .none ∧ ∃ x y, IsPair h c2 x y) ∨ (∃ p f o, IsZipHeld h z c1 c2 p f ∧ h.get? p = some o ∧ ∃ o2, h.get? c2 = some o2)) ∧ IsPair h c1 (.ref i1) (.ref i2) ∧ h.IsListIter i1 a i ∧ h.IsListIter i2 b i
theorem ltZ {P : Program} {w : World} {K : PySem.W.Frag} {a b z c1 c2 i1 i2 : Addr} (D : ZipApart z c1 c2 i1 i2 a b) : LT P w K (ItB K false false a b) [z, c1, c2, i1, i2] z (StZ z c1 c2 i1 i2 a b) where
  ty := fun i s st => by
    rcases st.1 with ⟨q, _⟩ | ⟨p, f, o, q, _⟩
    · exact ⟨"zip", ⟨_, q, rfl⟩, by decide, by decide⟩
    · exact ⟨"zip", ⟨_, q, rfl⟩, by decide, by decide⟩
  mem := by simp
  obj := fun i h st c hc => by
    obtain ⟨q, q2, ⟨o1, e1, _⟩, ⟨o2, e2, _⟩⟩ := st
    simp only [List.mem_cons, List.not_mem_nil, or_false] at hc
    rcases hc with e | e | e | e | e <;> rw [e]
    · rcases q with ⟨q, _⟩ | ⟨p, f, o, q, _⟩ <;> exact ⟨_, q⟩
    · exact ⟨_, q2⟩
    · rcases q with ⟨_, x, y, q⟩ | ⟨p, f, o, _, _, o2, q⟩ <;> exact ⟨_, q⟩
    · exact ⟨_, e1⟩
    · exact ⟨_, e2⟩
  keep := fun i h h' st kp ke => by
    obtain ⟨q, q2, q3, q4⟩ := st
    refine ⟨?_, kp c1 (by simp) _ q2, q3.at fun o e => kp i1 (by simp) o e, q4.at fun o e => kp i2 (by simp) o e⟩
    rcases q with ⟨q, x, y, e⟩ | ⟨p, f, o, q, e, o2, e2⟩
    · exact .inl ⟨kp z (by simp) _ q, x, y, kp c2 (by simp) _ e⟩
    · obtain ⟨o', e'⟩ := ke p o e
      exact .inr ⟨p, f, o', kp z (by simp) _ q, e', o2, kp c2 (by simp) _ e2⟩
  item := by
    intro X hP hw hK A hh i pins s σ H E I hf st hg
    subst hP hw hK
    obtain ⟨q, q2, q3, q4⟩ := st
    obtain ⟨xs, ys, x, y, sx, sy, gx, gy⟩ := hg
    obtain ⟨us, rx, ax⟩ := sx.at_ I
    obtain ⟨ws, ry, ay⟩ := sy.at_ I
    obtain ⟨u, gu, ru⟩ := rx.get gx
    obtain ⟨v, gv, rv⟩ := ry.get gy
    have ax : s.heap.IsList a us.toArray := ax
    have ay : s.heap.IsList b ws.toArray := ay
    have fin : ∀ (h' : Heap), ((∃ p f o, IsZipHeld h' z c1 c2 p f ∧ h'.get? p = some o ∧ ∃ o2, h'.get? c2 = some o2)) → h'.IsListIter i1 a (i + 1) → h'.IsListIter i2 b (i + 1) → IsPair h' s.heap.objs.size u v →
        (∀ c o, c ≠ z → c ≠ c2 → c ≠ i1 → c ≠ i2 → s.heap.get? c = some o → h'.get? c = some o) → ∃ (u' : Value) (x' : V) (H' : Hp), (some (Value.ref s.heap.objs.size) : Option Value) = some u' ∧ Inv X pins σ H' { s with heap := h' } ∧ RelV x' u' ∧ (ItB X.K false false a b).yld i H x' H' ∧ StZ z c1 c2 i1 i2 a b (i + 1) h' ∧ ∀ b ∈ [z, c1, c2, i1, i2], FpOk X pins H' b := by
      intro h' st' s1' s2' new' kp
      have ob : ObjOk X.prog X.w (upd H s.heap.objs.size (.tup [x, y])) h' s.heap.objs.size (.tup [x, y]) :=
        ⟨show 2 ≤ sizeLine by decide, [u, v], .cons ru (.cons rv .nil), ⟨_, new', rfl, _, rfl⟩⟩
      have I2 : Inv X pins σ (upd H s.heap.objs.size (.tup [x, y])) { s with heap := h' } :=
        I.turnedNew (t' := s.toks) (ch := [z, c1, c2, i1, i2]) (fun c o n q => kp c o (fun e => n (by simp [e])) (fun e => n (by simp [e])) (fun e => n (by simp [e])) (fun e => n (by simp [e])) q) hf (Nat.le_refl _) ob
      refine ⟨_, .ref s.heap.objs.size, _, rfl, I2, rfl, ⟨_, x, y, rfl, I.hok.fresh (Nat.le_refl _), rfl, fun l hl => by rw [SqB.inj I hl sx]; exact gx, fun l hl => by rw [SqB.inj I hl sy]; exact gy⟩, ⟨.inr st', kp _ _ D.TIz D.TITO D.TIi1 D.TIi2 q2, s1', s2'⟩, fun c cm => ?_⟩
      refine fp_upd (hf c cm) (Nat.ne_of_lt ?_)
      simp only [List.mem_cons, List.not_mem_nil, or_false] at cm
      rcases cm with e | e | e | e | e <;> rw [e]
      · rcases q with ⟨q, _⟩ | ⟨p, f, o, q, _⟩ <;> exact Heap.lt_size q
      · exact Heap.lt_size q2
      · rcases q with ⟨_, x, y, q⟩ | ⟨p, f, o, _, _, o2, q⟩ <;> exact Heap.lt_size q
      · obtain ⟨o, e, _⟩ := q3; exact Heap.lt_size e
      · obtain ⟨o, e, _⟩ := q4; exact Heap.lt_size e
    rcases q with ⟨q, x0, y0, e0⟩ | ⟨p, f, o, q, e0, o2, e2⟩
    · refine wpAny_pyNext_zip_item D q q2 e0 q3 q4 ax ay (x := u) (y := v) (by simpa using gu) (by simpa using gv) fun h' z' t' s1' s2' new' hsz kp => ?_
      exact fin h' ⟨_, false, _, z', new', _, t'⟩ s1' s2' new' kp
    · refine wpAny_pyNext_zip_item_held D q e0 q2 q3 q4 ax ay (x := u) (y := v) (by simpa using gu) (by simpa using gv) fun h' z' s1' s2' new' hsz kp => ?_
      have hlp : p < s.heap.objs.size := Heap.lt_size e0
      have key : ∃ o', h'.get? p = some o' := by
        by_cases h1 : p = z
        · rw [h1]; exact ⟨_, z'⟩
        by_cases h2 : p = i1
        · rw [h2]; obtain ⟨o, e, _⟩ := s1'; exact ⟨_, e⟩
        by_cases h3 : p = i2
        · rw [h3]; obtain ⟨o, e, _⟩ := s2'; exact ⟨_, e⟩
        exact ⟨o, kp p o h1 h2 h3 e0⟩
      obtain ⟨o', e'⟩ := key
      exact fin h' ⟨p, true, o', z', e', o2, kp c2 o2 D.TOz D.TOi1 D.TOi2 e2⟩ s1' s2' new' fun c o n1 _ n3 n4 q => kp c o n1 n3 n4 q
  done := by
    intro X hP hw hK A hh i pins s σ H E I hf st hg
    subst hP hw hK
    obtain ⟨q, q2, q3, q4⟩ := st
    obtain ⟨xs, ys, sx, sy, hend⟩ := hg
    obtain ⟨us, rx, ax⟩ := sx.at_ I
    obtain ⟨ws, ry, ay⟩ := sy.at_ I
    have ax : s.heap.IsList a us.toArray := ax
    have ay : s.heap.IsList b ws.toArray := ay
    have l1 := rx.length
    have l2 := ry.length
    have he : us.toArray[i]? = none ∨ ws.toArray[i]? = none := by
      rcases hend with ⟨e, _⟩ | ⟨e, _⟩
      · exact .inl (by simp; omega)
      · exact .inr (by simp; omega)
    rcases q with ⟨q, x0, y0, e0⟩ | ⟨p, f, o, q, e0, o2, e2⟩
    · exact wpAny_pyNext_zip_end hh D q q2 e0 q3 q4 ax ay he fun h' kp => ⟨rfl, I.turnedL (t' := s.toks) (ch := [z, c1, c2, i1, i2]) (fun c o n q => kp c o (fun e => n (by simp [e])) (fun e => n (by simp [e])) (fun e => n (by simp [e])) (fun e => n (by simp [e])) q) hf⟩
    · exact wpAny_pyNext_zip_end_held hh D q e0 q2 q3 q4 ax ay he fun h' kp => ⟨rfl, I.turnedL (t' := s.toks) (ch := [z, c1, c2, i1, i2]) (fun c o n q => kp c o (fun e => n (by simp [e])) (fun e => n (by simp [e])) (fun e => n (by simp [e])) q) hf⟩
  self := fun A i s Q E st h => by
    rcases st.1 with ⟨q, _⟩ | ⟨p, f, o, q, _⟩
    · exact wpAny_pyIter_zip q h
    · have hT : s.TypeIs (.ref z) "zip" := ⟨_, q, rfl⟩
      refine wpAny_pyIter_slot hT F.slot_zip_iter (wpAny_call_entry F.slot_zip_iter hT F.entry_zip_iter ?_ (F.args_zip_iter_1 _))
      show wpAny _ _ (ret (.ref z)) _ _ s
      exact wpAny_pure ⟨_, rfl, "zip", _, hT, F.slot_zip_next.lookup, h⟩
  hint := fun A i s Q E st h => by
    have hT : s.TypeIs (.ref z) "zip" := by
      rcases st.1 with ⟨q, _⟩ | ⟨p, f, o, q, _⟩ <;> exact ⟨_, q, rfl⟩
    unfold Builtin.List.listLengthHint
    refine wpAny_bind (wpAny_specialOf hT nolenZ ?_)
    show wpAny _ A (specialOf (Value.ref z) (Str.ofString "__length_hint__") >>= _) _ _ _
    refine wpAny_bind (wpAny_specialOf hT nohintZ ?_)
    exact wpAny_pure (h _)
theorem pl_zip {X : Cx} {e e2 : Expr} {ta : TA} {p pos : Pos} (hg : Gl X "zip") (hm : X.mg "zip" = none) (ha : PA X [e, e2] ta)
    (hs : starEach [e, e2] X.env = (false, eval e X.env) :: starEach [e2] X.env) (hpl : (backTo pos (starEach [e2] X.env)).any (·.1) = false) :
    PL X (.Call (.Name "zip" p) [e, e2] [] pos) (fun σ H R => ta σ H fun vs H1 => ∃ a b xs ys, vs = [.ref a, .ref b] ∧ SqB X.K false H1 a xs ∧ SqB X.K false H1 b ys ∧ R (ItB X.K false false a b) H1) := by
  refine ⟨fun pins s σ H R I h => ?_⟩
  refine Call_ (ld_blt I hg hm PyProof.Rows.boot_zip (PyProof.Rows.callWith_type1 (thn (ha.run pos pins s σ H _ I h) fun us s1 ⟨vs, H1, I1, r1, q1⟩ => ?_) hs hpl))
  obtain ⟨a, b, xs, ys, rfl, sx, sy, q⟩ := q1
  obtain ⟨u1, r2, rfl, ra, rr⟩ : ∃ u r2, us = u :: r2 ∧ RelV (.ref a) u ∧ Vals [.ref b] r2 := by
    cases r1 with
    | cons r rr => exact ⟨_, _, rfl, r, rr⟩
  obtain ⟨u2, rfl, rb⟩ := vals1 rr
  obtain rfl : u1 = Value.ref a := ra
  obtain rfl : u2 = Value.ref b := rb
  obtain ⟨us, rx, ax⟩ := sx.at_ I1
  obtain ⟨ws, ry, ay⟩ := sy.at_ I1
  refine zip_begins2 (beB false a us.toArray) (beB false b ws.toArray) ax ay fun h' q1 q2 q3 q4 q5 hsz kp => ?_
  have I2 : Inv X pins σ H1 { s1 with heap := h' } := I1.kept (t' := s1.toks) kp
  refine ⟨s1.heap.objs.size + 4, [s1.heap.objs.size + 4, s1.heap.objs.size + 2, s1.heap.objs.size + 3, s1.heap.objs.size, s1.heap.objs.size + 1], _, _, H1, rfl, I2, ltZ (PySem.W.ktu_apart s1.heap.objs.size a b ax.lt ay.lt), ⟨.inl ⟨q1, _, _, q3⟩, q2, TuB.zero (k := false) q4, TuB.zero (k := false) q5⟩, fun c cm => ?_, q⟩
  have le : s1.heap.objs.size ≤ c := by
    simp only [List.mem_cons, List.not_mem_nil, or_false] at cm
    have h0 : ∀ n : Nat, n ≤ n + 4 ∧ n ≤ n + 2 ∧ n ≤ n + 3 ∧ n ≤ n + 1 := fun n => by omega
    rcases cm with e | e | e | e | e <;> rw [e]
    · exact (h0 _).1
    · exact (h0 _).2.1
    · exact (h0 _).2.2.1
    · exact Nat.le_refl _
    · exact (h0 _).2.2.2
  exact I1.fpOk le (I1.hok.fresh le)

/-! ### reversed(a list) -/
theorem ltR {P : Program} {w : World} {K : PySem.W.Frag} (a it : Addr) (n : Nat) : LT P w K (Itv K a n) [it] it (fun i h => i ≤ n ∧ h.IsRevIter it a ((n : Int) - 1 - (i : Nat))) where
  ty := fun i s st => ⟨"list_reverseiterator", st.2.typeIs, by decide, by decide⟩
  mem := by simp
  obj := fun i h st c hc => by
    obtain ⟨_, o, e, _⟩ := st
    rw [List.mem_singleton.mp hc]
    exact ⟨o, e⟩
  keep := fun i h h' st kp _ => ⟨st.1, st.2.at fun o e => kp it (by simp) o e⟩
  item := by
    intro X hP hw hK A hh i pins s σ H E I hf st hg
    subst hP hw hK
    obtain ⟨lt, xs, x, sx, gx⟩ := hg
    obtain ⟨us, rx, ax⟩ := SqB.at_ (k := false) I sx
    have ax : s.heap.IsList a us.toArray := ax
    obtain ⟨u, gu, ru⟩ := rx.get gx
    obtain ⟨f0, f1, f2, f3, f4, f5⟩ := hf it (by simp)
    obtain ⟨_, q⟩ := st
    have e1 : (n : Int) - 1 - ((i : Nat) : Int) = ((n - 1 - i : Nat) : Int) := by omega
    rw [e1] at q
    refine wpAny_pyNext_rev_item q ax (x := u) (by simpa using gu) fun h' st' sb => ?_
    have e2 : ((n - 1 - i : Nat) : Int) - 1 = (n : Int) - 1 - ((i + 1 : Nat) : Int) := by omega
    rw [e2] at st'
    exact ⟨u, x, H, rfl, I.turned (t' := s.toks) (fun b o hb e => (sb.2 b hb).trans e) f0 f1 f3 f4 f5, ru, ⟨rfl, fun ys hy => by rw [I.list_inj hy sx]; exact gx⟩, ⟨lt, st'⟩, hf⟩
  done := by
    intro X hP hw hK A hh i pins s σ H E I hf st hg
    subst hP hw hK
    obtain ⟨f0, f1, f2, f3, f4, f5⟩ := hf it (by simp)
    obtain ⟨le, q⟩ := st
    have ge : n ≤ i := hg
    have e1 : (n : Int) - 1 - ((i : Nat) : Int) = -1 := by omega
    rw [e1] at q
    exact wpAny_pyNext_rev_end hh q fun h' eb => ⟨rfl, I.turned (t' := s.toks) (fun b o hb e => eb b o hb e) f0 f1 f3 f4 f5⟩
  self := fun A i s Q E st h => wpAny_pyIter_revIter st.2 h
  hint := fun A i s Q E st h => by
    have hT : s.TypeIs (.ref it) "list_reverseiterator" := st.2.typeIs
    unfold Builtin.List.listLengthHint
    refine wpAny_bind (wpAny_specialOf hT RT.nolen_lri ?_)
    show wpAny _ A (specialOf (Value.ref it) (Str.ofString "__length_hint__") >>= _) _ _ _
    refine wpAny_bind (wpAny_specialOf hT RT.hint_lri ?_)
    generalize hid : ("list_reverseiterator.__length_hint__" : String) = id0
    wp_delta
    rw [show splitId id0 = some ("list_reverseiterator", "__length_hint__") from by subst hid; decide +kernel]
    subst hid
    refine wpAny_bind (wpAny_isInstance (b := true) hT (by rw [isSubtype_type]; kernel_rfl) ?_)
    refine wpAny_pure ?_
    exact h _
theorem pl_rev {X : Cx} {e : Expr} {te : TE} {p pos : Pos} (hg : Gl X "reversed") (hm : X.mg "reversed" = none) (he : PE X e te) (hs : starEach [e] X.env = (false, eval e X.env) :: starEach [] X.env) :
    PL X (.Call (.Name "reversed" p) [e] [] pos) (fun σ H R => te σ H fun v H1 => ∃ (a : Addr) (xs : List V), v = .ref a ∧ SqL X.K H1 a xs ∧ R (Itv X.K a xs.length) H1) := by
  refine ⟨fun pins s σ H R I h => ?_⟩
  refine Call_ (ld_blt I hg hm PyProof.Rows.boot_reversed (PyProof.Rows.callWith_type1 (args_cons (thn (he.run pins s σ H _ I h) fun u s1 ⟨v, H1, I1, r1, q1⟩ => args_nil ?_) hs) hs rfl))
  obtain ⟨a, xs, rfl, sx, q⟩ := q1
  obtain rfl : u = Value.ref a := r1
  obtain ⟨us, rx, ax⟩ := SqB.at_ (k := false) I1 sx
  have ax : s1.heap.IsList a us.toArray := ax
  have hl := rx.length
  refine call_reversed_list ax ?_
  have e1 : ((us.toArray.size : Nat) : Int) - 1 = (xs.length : Int) - 1 - ((0 : Nat) : Int) := by simp only [List.size_toArray]; omega
  have kp : ∀ b o, s1.heap.get? b = some o → (s1.heap.push (revObj a ((us.toArray.size : Int) - 1))).get? b = some o := fun b o e => Heap.get?_push_of_some _ e
  refine ⟨s1.heap.objs.size, [s1.heap.objs.size], _, _, H1, rfl, I1.kept (t' := s1.toks) kp, ltR a _ xs.length, ⟨Nat.zero_le _, ?_⟩, fun c cm => ?_, q⟩
  · rw [← e1]
    exact ⟨_, Heap.get?_push_size _ rfl, rfl, rfl⟩
  · rw [List.mem_singleton.mp cm]
    exact I1.fpOk (Nat.le_refl _) (I1.hok.fresh (Nat.le_refl _))
end Sm


set_option Elab.async false
set_option linter.all false
set_option maxRecDepth 100000
set_option maxHeartbeats 1000000
namespace Sm
open PySem L2 PySem.Spec PyProof.Rows
theorem plImp {X : Cx} {e : Expr} {t t' : TI} (h : PL X e t) (q : ∀ σ H R, t' σ H R → t σ H R) : PL X e t' := ⟨fun pins s σ H R I w => h.run pins s σ H R I (q σ H R w)⟩
def seqL : D → Option (List D)
  | .lst ds => some ds
  | .frl ds => some ds
  | _ => none
theorem seqL_ok {K : PySem.W.Frag} {ι Z : List Addr} {H : Hp} {d : D} {v : V} {xs : List D} (r : RD K ι Z H d v) (h : seqL d = some xs) : ∃ (a : Addr) (vs : List V), v = .ref a ∧ (∀ ι' H', Ext ι ι' H H' → SqL K H' a vs) ∧ RDs K ι Z H xs vs := by
  cases d with
  | lst ds =>
    cases h
    obtain ⟨a, vs, rfl, g1, g2, g3, g4⟩ := r
    exact ⟨a, vs, rfl, fun ι' H' e => .inl (.inl (e.keep _ _ g3 g1)), g4⟩
  | frl ds =>
    cases h
    obtain ⟨a, vs, rfl, g1, g2⟩ := r
    exact ⟨a, vs, rfl, fun ι' H' e => (e.frl g1).sq, g2⟩
  | _ => cases h
def iZipL (fs : F (List D)) : F (List D) := fun ρ S => (fs ρ S).bind fun as S1 => match as with
  | [x, y] => match seqL x, seqL y with
    | some xs, some ys => .ok (List.zipWith pairD xs ys) S1
    | _, _ => .bad
  | _ => .bad
def iRevL (f : F D) : F (List D) := fun ρ S => (f ρ S).bind fun d S1 => match seqL d with
  | some ds => .ok ds.reverse S1
  | none => .bad
def lW (f : F (List D)) : F (List D) := fun ρ S => (f ρ S).bind fun xs S1 => if xs.length ≤ 100000 then .ok xs S1 else .bad
theorem wk_rev {K : PySem.W.Frag} {ι Z : List Addr} {H : Hp} {a : Addr} {vs : List V} {ds : List D} (h : ∀ ι' H', Ext ι ι' H H' → SqL K H' a vs) (r : RDs K ι Z H ds vs) : Wk K ι Z H (Itv K a vs.length) ds.reverse := fun ι' Z' H' e hz => by
  have h' := h ι' H' e
  have r' := r.later e hz
  have hl := r.length
  refine ⟨by rw [List.length_reverse]; exact Nat.le_of_eq hl, fun i x hx => ?_⟩
  have hi : i < ds.length := by
    have := (List.getElem?_eq_some_iff.mp hx).1
    simpa using this
  rw [List.getElem?_reverse hi] at hx
  obtain ⟨v, hv, rv⟩ := r'.get hx
  have e1 : ds.length - 1 - i = vs.length - 1 - i := by omega
  rw [e1] at hv
  refine ⟨⟨by omega, vs, v, h', hv⟩, fun u H2 y => ?_⟩
  obtain ⟨rfl, y⟩ := y
  have := y vs h'
  rw [hv] at this
  cases this
  exact ⟨Ex.refl _, rv⟩
section
variable {X : Cx} {W : WX} {e e2 : Expr} {f : F D} {fs fi : F (List D)} {p pos : Pos}
theorem sp_zip (hm : X.mg "zip" = none) (ha : PA X [e, e2] (tA X.K X.mg W fs)) (hg : Gl X "zip" := by rfl)
    (hs : starEach [e, e2] X.env = (false, eval e X.env) :: starEach [e2] X.env := by rfl) (hpl : (backTo pos (starEach [e2] X.env)).any (·.1) = false := by rfl) :
    PL X (.Call (.Name "zip" p) [e, e2] [] pos) (tI X.K X.mg W (iZipL fs)) := plImp (pl_zip hg hm ha hs hpl) fun σ H Rr h => by
  obtain ⟨ι, Z, ρ, S, hρ, hS, h⟩ := h.out
  refine ⟨ι, Z, ρ, S, hρ, hS, Pg.bndI h fun as S1 ι1 H1 vs e1 s1 ras h1 => ?_⟩
  rcases as with _ | ⟨x, _ | ⟨y, _ | ⟨z, r⟩⟩⟩
  · exact h1.elim
  · exact h1.elim
  · obtain ⟨v, u, rfl, rv, ru⟩ := ras.inv2
    cases hx : seqL x with
    | none => simp only [hx] at h1; exact h1.elim
    | some xs =>
      cases hy : seqL y with
      | none => simp only [hx, hy] at h1; exact h1.elim
      | some ys =>
        simp only [hx, hy] at h1
        obtain ⟨a, vs, rfl, c1, c2⟩ := seqL_ok rv hx
        obtain ⟨b, us, rfl, d1, d2⟩ := seqL_ok ru hy
        exact ⟨a, b, vs, us, rfl, c1 ι1 H1 (Ext.refl _ _), d1 ι1 H1 (Ext.refl _ _), h1 ι1 H1 _ (Ext.refl _ _) s1 (wkB (j := false) (k := false) c1 d1 c2 d2)⟩
  · exact h1.elim
theorem sp_rev (hm : X.mg "reversed" = none) (he : PE X e (tE X.K X.mg W f)) (hg : Gl X "reversed" := by rfl) (hs : starEach [e] X.env = (false, eval e X.env) :: starEach [] X.env := by rfl) :
    PL X (.Call (.Name "reversed" p) [e] [] pos) (tI X.K X.mg W (iRevL f)) := plImp (pl_rev hg hm he hs) fun σ H Rr h => by
  obtain ⟨ι, Z, ρ, S, hρ, hS, h⟩ := h.out
  refine ⟨ι, Z, ρ, S, hρ, hS, Pg.bndI h fun d S1 ι1 H1 v e1 s1 rd h1 => ?_⟩
  cases hx : seqL d with
  | none => simp only [hx] at h1; exact h1.elim
  | some xs =>
    simp only [hx] at h1
    obtain ⟨a, vs, rfl, c1, c2⟩ := seqL_ok rd hx
    exact ⟨a, vs, rfl, c1 ι1 H1 (Ext.refl _ _), h1 ι1 H1 _ (Ext.refl _ _) s1 (wk_rev c1 c2)⟩
/-- list(what is walked): a new list -/
theorem sl_w (hc : X.calm = true) (hm : X.mg "list" = none) (hp : PL X e (tI X.K X.mg W fi)) (hg : Gl X "list" := by rfl) (hs : starEach [e] X.env = (false, eval e X.env) :: starEach [] X.env := by rfl) :
    PE X (.Call (.Name "list" p) [e] [] pos) (tL X.K X.mg W (lW fi)) := by
  refine ⟨fun pins s σ H Q I h => ?_⟩
  let Rr : It → Hp → Prop := fun J H1 => ∃ ι Z S' xs, xs.length ≤ 100000 ∧ SR X.K ι Z H1 S' ∧ Wk X.K ι Z H1 J xs ∧
    ∀ ι' H' p vs, Ext ι ι' H1 H' → H1 p = none → SR X.K ι' (p :: Z) H' S' → p ∉ Z → H' p = some (.lst vs) → RDs X.K ι' (p :: Z) H' xs vs → Q (.ref p) H'
  have hw : tI X.K X.mg W fi σ H Rr := by
    obtain ⟨ι, Z, ρ, S, hρ, hS, h⟩ := h
    refine ⟨ι, Z, ρ, S, hρ, hS, ?_⟩
    unfold lW at h
    cases hf : fi ρ S with
    | bad => rw [hf] at h; exact h
    | exc x S1 => rw [hf] at h; exact h
    | ok xs S1 =>
      rw [hf] at h
      simp only [R.bind] at h
      by_cases hz : xs.length ≤ 100000
      · rw [if_pos hz] at h
        intro ι1 H1 J e1 s1 wk
        exact ⟨ι1, Z, S1, xs, hz, s1, wk, fun ι' H' p vs e hp s nz g r => h ι' H' p vs (e1.trans e) (free_back e1 s1 hp) s nz g r⟩
      · rw [if_neg hz] at h; exact h.elim
  refine Call_ (ld_blt I hg hm boot_list (PyProof.Rows.callWith_type1 (args_cons (thn (hp.run pins s σ H Rr I hw) fun u s1 hr => args_nil ?_) hs) hs rfl))
  obtain ⟨it, fp, tn, J, H1, rfl, I1, L, t0, f0, ι, Z, S', xs, hz, sr, wk, hq⟩ := hr
  have hp0 : H1 s1.heap.objs.size = none := I1.hok.fresh (Nat.le_refl _)
  refine call_list_it hc xs.length hz L I1 t0 f0 (fun i H2 vs => Ext ι ι H1 H2 ∧ SR X.K ι (s1.heap.objs.size :: Z) H2 S' ∧ RDs X.K ι (s1.heap.objs.size :: Z) H2 (xs.take i) vs) ⟨Ext.ex (Ex.upd hp0), sr.forbid hp0, by simp; rfl⟩ ?_ ?_
  · rintro i H2 vs hi g hl ⟨e1, s2, r⟩
    obtain ⟨_, w2⟩ := wk ι (s1.heap.objs.size :: Z) H2 e1 fun z hz => by
      rcases List.mem_cons.mp hz with rfl | hz
      · exact .inr hp0
      · exact .inl hz
    obtain ⟨go, yl⟩ := w2 i xs[i] (List.getElem?_eq_getElem hi)
    refine ⟨go, fun x H3 y => ?_⟩
    obtain ⟨ex, rx⟩ := yl x H3 y
    have g3 := ex _ _ g
    refine ⟨g3, (e1.trans (Ext.ex ex)).mutD hp0, (s2.ex ex).mutD g3, ?_⟩
    rw [List.take_add_one, List.getElem?_eq_getElem hi]
    exact RDs.mutD g3 ((r.ext (Ext.ex ex)).app (RDs.one rx))
  · rintro H2 vs g hl ⟨e1, s2, r⟩
    obtain ⟨w1, _⟩ := wk ι (s1.heap.objs.size :: Z) H2 e1 fun z hz => by
      rcases List.mem_cons.mp hz with rfl | hz
      · exact .inr hp0
      · exact .inl hz
    refine ⟨w1, fun s3 I3 => ⟨.ref _, H2, I3, rfl, ?_⟩⟩
    rw [List.take_length] at r
    exact hq ι H2 _ vs e1 hp0 s2 (sr.freeZ hp0) g r
end
end Sm


set_option Elab.async false
set_option linter.all false
set_option maxRecDepth 100000
set_option maxHeartbeats 1000000
namespace Sm
open PySem L2 PySem.Spec PyProof.Rows

/-! ### raise X() -/
theorem pmk_own0 {X : Cx} {C : Addr} {bmB : List Value} {B newId initId : String} {x : Str} {p pos : Pos} (Fx : ExcBaseFacts B newId initId bmB) (q : PySem.W.excIn X.K C bmB newId = true) (gC : X.mg x = some (.ref C)) (kC : PySem.W.keepIn X.K (.ref C) = true) (r : Raises X (.ref C)) (hg : Gl X x)
    (hdb : (x == ("__debug__" : Str)) = false := by decide) : PMk X (.Call (.Name x p) [] [] pos) (fun _ H Q => Q (.ref C) none H) := by
  intro pins s σ H Q I h
  refine wpAny_Call_Name_kw (ld_glob I hg gC ?_ hdb)
  refine PySem.W.callWith_K0 (K := X.K) I.kIn kC ?_
  show wpAny _ _ (call (.ref C) []) _ _ _
  obtain ⟨bm, N, nm, qn, bs, hdct, sn, sub, ab, col, dd, k0, k1, k2, k3, k5, mN, hC, hN, hni, T⟩ := exc_obj I.kIn q
  refine wpAny_call_exc_subT Fx T hC hN hni (fun h' e hm => ?_) (Nat.zero_le _)
  exact mk_of I hm r h (I.hok.gone hm.new)
/-- what the text says of an own exception class -/
structure Ecl (K : PySem.W.Frag) (mg : Str → Option Value) (x : Str) (C : Addr) : Prop where
  gm : mg x = some (.ref C)
  kp : PySem.W.keepIn K (.ref C) = true
  ex : PySem.W.subIn K (.ref C) (.type "BaseException") = some true
  ty : PySem.W.typeIn K (.ref C) = some (.type "type")
def gRaise (x : Str) : G := fun ρ S => .exc ⟨x, []⟩ ρ S
theorem ss_raise {X : Cx} {W : WX} {C : Addr} {bmB : List Value} {B newId initId : String} {x : Str} {p pos pos2 : Pos} (hc : X.calm = true) (tk : Takes X W) (Fx : ExcBaseFacts B newId initId bmB) (q : PySem.W.excIn X.K C bmB newId = true) (E : Ecl X.K X.mg x C)
    (hg : Gl X x := by rfl) (hdb : (x == ("__debug__" : Str)) = false := by decide) : PS X (.Raise (some (.Call (.Name x p) [] [] pos)) none pos2) (tS X.K X.mg W (gRaise x)) :=
  psImp (ps_raise hc tk (pmk_own0 Fx q E.gm E.kp (raises_own E.ex E.ty) hg hdb)) fun Dn σ H ⟨ι, Z, ρ, S, hρ, hS, h⟩ => h ι H σ _ _ (Ext.refl _ _) hS hρ ⟨C, E.gm, rfl, fun _ => rfl, fun h => absurd rfl h⟩

/-! ### try: a body that raises nothing -/
def gTry0 (g : G) : G := fun ρ S => match g ρ S with
  | .exc _ _ _ => .bad
  | r => r
theorem ss_try0 {X : Cx} {W : WX} {g : G} {body : List Stmt} {h₀ : ExceptHandler} {hs : List ExceptHandler} {pos : Pos} (hb : PSs X.nox body (tS X.K X.mg W0 g)) : PS X (.Try body (h₀ :: hs) [] [] pos) (tS X.K X.mg W (gTry0 g)) :=
  psImp (ps_try_thru0 hb) fun Dn σ H ⟨ι, Z, ρ, S, hρ, hS, h⟩ => by
    refine ⟨ι, Z, ρ, S, hρ, hS, ?_⟩
    unfold gTry0 at h
    cases hg : g ρ S with
    | nx ρ' S' => rw [hg] at h; exact h
    | rt d S' => rw [hg] at h; exact h
    | bk d S' => rw [hg] at h; exact h
    | ct d S' => rw [hg] at h; exact h
    | exc x d S' => rw [hg] at h; exact h.elim
    | bad => rw [hg] at h; exact h
theorem tk00 {X : Cx} : Takes X W0 := fun u s' h => by
  obtain ⟨a, B, sI, pins', σ', H', cls, d, _, _, _, _, _, _, _, _, hw⟩ := h
  exact hw.elim

/-! ### try: an error that is told by a def -/
theorem call_isP {X : Cx} {a C : Addr} {oe : Obj} (E : ExcC X.K C) (hp : (a, oe) ∈ X.pn) (hz : Zc (.ref C) none oe) (hf : ∃ vs, oe.data = .fields vs) : CallR X (.builtin "isinstance") (rIsE X.K C a) := by
  intro pins s σ H xs us Q I r h
  obtain ⟨c, cv, b, rfl, hcv, e, q⟩ := h
  obtain ⟨u1, r2, rfl, ra, rr⟩ : ∃ u r2, us = u :: r2 ∧ RelV (.ref a) u ∧ Vals [c] r2 := by
    cases r with
    | cons r rr => exact ⟨_, _, rfl, r, rr⟩
  obtain ⟨u2, rfl, rc⟩ := vals1 rr
  obtain rfl : u1 = Value.ref a := ra
  obtain rfl := hcv _ rc
  obtain ⟨at_, _⟩ := I.pin (a, oe) (List.mem_append_left _ hp)
  obtain ⟨vs, hv⟩ := hf
  have J : PySem.W.InstAt s.heap a oe C none := by
    obtain ⟨oc, od, oda, osl⟩ := oe
    obtain ⟨h1, h2⟩ := hz
    dsimp only at h1 h2 hv
    subst h1 h2 hv
    exact ⟨at_, rfl, rfl, trivial⟩
  exact PySem.W.kia_one (PySem.W.handS_kitx_exc E.hg E.hk E.hs E.hd E.ha E.hn E.ht E.hm) I.kIn J e (fun z => nomatch z) fun tk => ⟨.bl b, H, I.kept (t' := tk) fun _ _ z => z, rfl, q⟩
def tIs (i : Nat) (a : Addr) (b : Bool) : TE := fun σ H Q => σ[i]? = some (some (.ref a)) ∧ Q (.bl b) H
def tIsL (i : Nat) (a : Addr) (bs : List Bool) : TA := fun σ H Q => σ[i]? = some (some (.ref a)) ∧ Q (bs.map V.bl) H
section
variable {X : Cx} {a C : Addr} {oe : Obj} {i : Nat}
theorem is_1 {n c : Str} {Cc : Addr} {b : Bool} {p p1 p2 pos : Pos} (E : ExcC X.K C) (hp : (a, oe) ∈ X.pn) (hz : Zc (.ref C) none oe) (hf : ∃ vs, oe.data = .fields vs) (hm : X.mg "isinstance" = none) (hc : X.mg c = some (.ref Cc)) (hk : PySem.W.kitOne X.K (.ref C) (.ref Cc) = some b)
    (hN : X.N[i]? = some n := by rfl) (hv : Vis X.env.scope n := by first | exact Or.inl rfl | exact Or.inr (Or.inl rfl)) (hg : Gl X "isinstance" := by rfl) (hgc : Gl X c := by rfl) (hd : (n == ("__debug__" : Str)) = false := by decide) (hcd : (n == ("__classdict__" : Str)) = false := by decide) (hdc : (c == ("__debug__" : Str)) = false := by decide)
    (s1 : starEach [.Name n p1, .Name c p2] X.env = (false, eval (.Name n p1) X.env) :: starEach [.Name c p2] X.env := by rfl) (s2 : starEach [.Name c p2] X.env = (false, eval (.Name c p2) X.env) :: starEach [] X.env := by rfl)
    (hpl : (backTo pos (starEach [.Name c p2] X.env)).any (·.1) = false := by rfl) : PE X (.Call (.Name "isinstance" p) [.Name n p1, .Name c p2] [] pos) (tIs i a b) :=
  peImp (pe_callB (call_isP E hp hz hf) hg hm (by decide +kernel) (pa_cons (pe_var hN hv hd hcd) (pa_cons (pe_glob (v := .ref Cc) hgc hc rfl hdc) pa_nil s2) s1) (by decide) (by decide) s1 hpl) fun σ H Q ⟨h1, h2⟩ =>
    ⟨.ref a, h1, .ref Cc, .ref Cc, b, rfl, fun u r => r, hk, h2⟩
theorem isl_n : PA X [] (tIsL i a []) := paImp pa_nil fun σ H Q h => h.2
theorem isl_c {e : Expr} {es : List Expr} {b : Bool} {bs : List Bool} (h1 : PE X e (tIs i a b)) (h2 : PA X es (tIsL i a bs)) (hs : starEach (e :: es) X.env = (false, eval e X.env) :: starEach es X.env := by rfl) : PA X (e :: es) (tIsL i a (b :: bs)) :=
  paImp (pa_cons h1 h2 hs) fun σ H Q h => ⟨h.1, h.1, h.2⟩
def erH (bs : List Bool) (H : Hp) (p1 p2 : Addr) : Hp := upd (upd H p1 (.lst (bs.map .bl))) p2 (.lst [.ref p1, .non])
def erQ (bs : List Bool) (H : Hp) (Q : VK) : Prop := ∀ p1 p2, H p1 = none → upd H p1 (.lst (bs.map .bl)) p2 = none → Q (.ref p2) (erH bs H p1 p2)
/-- the body of such a def -/
theorem er_body {some_ : Str} {es : List Expr} {bs : List Bool} {tst att : Expr} {q0 q1 q2 q3 q4 q5 q6 q7 : Pos} {jj : Nat} (hN : X.N.Nodup) (h0 : PA X es (tIsL 0 a bs)) (h1 : PE X tst (tIs 0 a false)) (hbs : bs.length ≤ 1000) (hi : X.N[1]? = some some_ := by rfl) (hx : X.env.scope.names.lookup some_ = some .local := by rfl)
    (hs : swapsWith (.List es q1) (some (.Name some_ q0)) q2.line X.env = pure false := by rfl) (hd : (some_ == ("__debug__" : Str)) = false := by decide) (hcd : (some_ == ("__classdict__" : Str)) = false := by decide)
    (ht : ∀ whole, isTrue tst X.env whole = (do let v ← whole; standAt tst.pos; holding [v] (truthy v)) := by intro _; rfl)
    (s1 : starEach [.Name some_ q3, .IfExp tst att (.Constant .none jj q4) q5] X.env = (false, eval (.Name some_ q3) X.env) :: starEach [.IfExp tst att (.Constant .none jj q4) q5] X.env := by rfl)
    (s2 : starEach [.IfExp tst att (.Constant .none jj q4) q5] X.env = (false, eval (.IfExp tst att (.Constant .none jj q4) q5) X.env) :: starEach [] X.env := by rfl) :
    PSs X [.Assign [.Name some_ q0] (.List es q1) q2, .Return (some (.List [.Name some_ q3, .IfExp tst att (.Constant .none jj q4) q5] q6)) q7] (fun Dn σ H => σ[0]? = some (some (.ref a)) ∧ 1 < σ.length ∧ erQ bs H Dn.rt) := by
  have hatt : PE X att (fun _ _ _ => False) := ⟨fun _ _ _ _ _ _ h => h.elim⟩
  refine pssImp (pss_cons (ps_set hN hi (.inl hx) (pe_lst h0) hs (.inr hx)) (pss_one (ps_ret (pe_lst (pa_cons (pe_var hi (.inl hx) hd hcd) (pa_cons (pe_ifExp (pt_val h1 ht) hatt pe_non) pa_nil s2) s1))))) fun Dn σ H ⟨e0, hl, h⟩ => ?_
  refine ⟨e0, by rw [List.length_map, sizeLine_eq]; omega, fun p1 n1 => ?_⟩
  refine ⟨.ref p1, by rw [List.getElem?_set_self hl], ?_⟩
  refine ⟨by rw [List.getElem?_set_ne (by decide)]; exact e0, false, rfl, ?_⟩
  show 2 ≤ sizeLine ∧ _
  exact ⟨by decide, fun p2 n2 => h p1 p2 n1 n2⟩
end
/-- a def that tells an error, called within an except suite -/
structure FnW (P : Program) (w : World) (K : PySem.W.Frag) (mg : Str → Option Value) (base : Heap) (k : Nat) (f : Addr) (fd : FuncData) (ps : List Str) (C : Addr) (bs : List Bool) : Prop where
  run : ∀ (A : Around) (outer : List Env) (s : Shared) (H : Hp) (args : Args) (us : List Value) (Q : VK) (p : Addr × Obj), L2H.RoomH k A → L2H.PinOk outer H s p → Zc (.ref C) none p.2 → (∃ vs, p.2.data = .fields vs) → Env0 P w K mg base A outer s H → BindsTo s fd args (ps.zip us) → Vals [.ref p.1] us →
    erQ bs H Q → codeAny (model P w) A (.call (.ref f) args) (CR (L2.CX P w) outer P w H s Q fun _ _ _ => False) s
theorem fw_of {P : Program} {w : World} {K : PySem.W.Frag} {mg : Str → Option Value} {base : Heap} {x qual : Str} {st : Stmt} {f : Addr} {fd : FuncData} {N : List Str} {n1 : Str} {k : Nat} {C : Addr} {bs : List Bool} (Fu : Fun K x qual st f fd) (SC : FnScope N [n1] (defScope st)) (hN2 : 1 < N.length)
    (hb : ∀ (A : Around) (outer : List Env) (s : Shared) (H : Hp) (cd : Value) (p : Addr × Obj), Zc (.ref C) none p.2 → (∃ vs, p.2.data = .fields vs) →
      PSs (L2H.cxH (L2.CX P w) P w K mg base N qual (defScope st) f cd A outer s H (fun _ _ _ => False) p) (defBody st) (fun Dn σ H => σ[0]? = some (some (.ref p.1)) ∧ 1 < σ.length ∧ erQ bs H Dn.rt)) : FnW P w K mg base (k + 1) f fd [n1] C bs := by
  obtain ⟨oc, od, kV, doc, pm, an, cdv, ct, osl, rfl, lk, hcd⟩ := Fu.ex
  refine ⟨fun A outer s H args us Q p hr hpin hz hf env0 hbind rv hq => ?_⟩
  have lim : s.heap.NoLimit := env0.mod.nolimit.keeps fun b o q => (env0.bs b o q).1
  have inK : K.In s.heap := env0.mod.kin.keeps fun b o q => (env0.bs b o q).1
  have hps : ∀ y ∈ [n1].zip us, (defScope st).names.lookup y.1 = some .local ∨ ((defScope st).names.lookup y.1 = some .cell ∧ ((cellsFrom (s.heap.objs.size + 1) (defScope st).names []).lookup y.1).isSome = true) := by
    rintro ⟨nm, vv⟩ hy
    rcases SC.par nm (List.of_mem_zip hy).1 with c | c
    · exact Or.inl c
    · exact Or.inr ⟨c, PySem.W.cellsFrom_some _ _ _ (Or.inl c)⟩
  refine codeAny_call_function hr.depth (inK _ _ lk) rfl SC.co SC.gen rfl (PySem.W.codeRec_of inK hcd) (hbind _ _ _ _ ?_)
  refine wpAny_newFunctionEnv_cells SC.kind hps ?_
  intro env he s1 x
  subst he
  have I0 : Inv (L2H.cxH (L2.CX P w) P w K mg base N qual (defScope st) f cdv A outer s H (fun _ _ _ => False) p) [] (L2.start N [.ref p.1]) H s1 := L2H.inv_startH SC hpin env0 rfl rv x
  have ht := hb A outer s H cdv p hz hf
  have hlen : (L2.start N [V.ref p.1]).length = N.length := by unfold L2.start; simp; omega
  refine ⟨lim.keeps x.toInCall.keep, codeAny_func (wpAny_mono (ht.run [] s1 _ H { nx := fun _ H' => Q .non H', rt := Q } I0 ⟨by unfold L2.start; rfl, by rw [hlen]; exact hN2, hq⟩) (fun fl s2 hs => ?_) fun e s2 hs => hs)⟩
  cases fl with
  | ret u => obtain ⟨v, σ2, H2, J, rv2, q⟩ := hs; exact ⟨v, H2, J.os, J.bare, J.base, J.hok, rv2, q⟩
  | next => obtain ⟨σ2, H2, J, q⟩ := hs; exact ⟨V.non, H2, J.os, J.bare, J.base, J.hok, rfl, q⟩
  | brk => obtain ⟨_, _, _, q⟩ := hs; exact q.elim
  | cont => obtain ⟨_, _, _, q⟩ := hs; exact q.elim
/-- .. as its callers know it -/
structure DfW (P : Program) (w : World) (K : PySem.W.Frag) (mg : Str → Option Value) (base : Heap) (x : Str) (k : Nat) (f : Addr) (fd : FuncData) (ps : List Str) (C : Addr) (bs : List Bool) : Prop where
  fn : FnW P w K mg base k f fd ps C bs
  gm : mg x = some (.ref f)
  kp : PySem.W.keepIn K (.ref f) = true
  bd : Binds K fd ps []
theorem se_er {X : Cx} {a C f : Addr} {oe : Obj} {fd : FuncData} {x n n1 : Str} {k i : Nat} {bs : List Bool} {p p1 pos : Pos} (Dd : DfW X.prog X.w X.K X.mg X.base x k f fd [n1] C bs) (hr : L2H.RoomH k X.A) (hp : (a, oe) ∈ X.pn) (hz : Zc (.ref C) none oe) (hf : ∃ vs, oe.data = .fields vs)
    (hN : X.N[i]? = some n := by rfl) (hv : Vis X.env.scope n := by first | exact Or.inl rfl | exact Or.inr (Or.inl rfl)) (hgl : Gl X x := by rfl) (hd : (n == ("__debug__" : Str)) = false := by decide) (hcd : (n == ("__classdict__" : Str)) = false := by decide) (hdb : (x == ("__debug__" : Str)) = false := by decide)
    (he : starEach [.Name n p1] X.env = (false, eval (.Name n p1) X.env) :: starEach [] X.env := by rfl) (hpl : (backTo pos (starEach [] X.env)).any (·.1) = false := by rfl) :
    PE X (.Call (.Name x p) [.Name n p1] [] pos) (fun σ H Q => σ[i]? = some (some (.ref a)) ∧ erQ bs H Q) := by
  refine ⟨fun pins s σ H Q I h => ?_⟩
  refine wpAny_Call_Name_kw (ld_glob I hgl Dd.gm ?_ hdb)
  have ha : PA X [.Name n p1] (tCons (tVar i) tNil) := pa_cons (pe_var hN hv hd hcd) pa_nil he
  refine PySem.W.callWith_K (h₀ := X.base) I.ok.mod.kin Dd.kp (thn (ha.run pos pins s σ H (fun vs H1 => vs = [.ref a] ∧ H1 = H) I ⟨.ref a, h.1, rfl, rfl⟩) fun us s1 ⟨vs, H1, I1, r, q⟩ => ⟨I1.kIn, ?_⟩) he hpl
  obtain ⟨rfl, rfl⟩ := q
  have hl : us.length = [n1].length := by rw [← r.length]; rfl
  have b := Dd.bd s1 us I1.kIn (by rw [List.append_nil]; exact hl)
  rw [List.append_nil] at b
  have P1 := I1.pin (a, oe) (List.mem_append_left _ hp)
  have hpin : L2H.PinOk X.stack H1 s1 (a, oe) := ⟨P1.1, P1.2.1, fun hm => (List.mem_cons.mp (I1.stkSub a hm)).elim P1.2.2.1 P1.2.2.2.1, P1.2.2.2.2⟩
  refine wpAny_call (codeAny_mono (Dd.fn.run X.A X.stack s1 H1 ⟨us, []⟩ us Q (a, oe) hr hpin hz hf I1.env0 b r h.2) fun r s' hq => ?_)
  cases r with
  | error e =>
    obtain ⟨_, _, _, _, _, _, _, _, _, _, _, _, hW⟩ := hq
    exact hW.elim
  | ok fl =>
    cases fl with
    | ret u => exact I1.after hq
    | next => exact hq.elim
    | brk => exact hq.elim
    | cont => exact hq.elim
def dueE (bs : List Bool) : D := .lst [.lst (bs.map .bl), .non]
/-- try: .. except T as n: return x(n) -/
def gTryE (nm : Str) (i : Nat) (due : D) (g : G) : G := fun ρ S => match g ρ S with
  | .exc x ρ' S' => if x.nm = nm ∧ x.fl = [] ∧ i < ρ'.length then .rt due S' else .bad
  | r => r
theorem rd_bls {K : PySem.W.Frag} {ι Z : List Addr} {H : Hp} : ∀ bs : List Bool, RDs K ι Z H (bs.map D.bl) (bs.map V.bl)
  | [] => rfl
  | b :: bs => ⟨.bl b, _, rfl, rfl, rd_bls bs⟩
theorem ss_tryE {X : Cx} {W : WX} {g : G} {body : List Stmt} {T : Addr} {x n nm xt n1 : Str} {i k : Nat} {C f : Addr} {fd : FuncData} {bs : List Bool} {p p1 p2 pos pos1 pos2 np : Pos} (hN : X.N.Nodup) (tk : Takes X W) (Dd : DfW X.prog X.w X.K X.mg X.base x k f fd [n1] C bs) (hr : Room k X.A) (hnm : X.mg nm = some (.ref C))
    (hT : X.mg xt = some (.ref T)) (hex : PySem.W.exmOne X.K (.ref C) (.ref T) = some true) (hs : X.stack = X.env :: X.outer) (hf : X.env.frame = some X.env.locals)
    (hb : ∀ (W : WX) (pn : List (Addr × Obj)) (xe : Value → Shared → Prop), Takes (X.tr pn xe) W → PassesOwn (model X.prog X.w) X.A X.env xe → PSs (X.tr pn xe) body (tS X.K X.mg W g))
    (hi : X.N[i]? = some n := by rfl) (hln : X.env.scope.names.lookup n = some .local := by rfl) (hgx : Gl X x := by rfl) (hgt : Gl X xt := by rfl) (hd : (n == ("__debug__" : Str)) = false := by decide) (hcd : (n == ("__classdict__" : Str)) = false := by decide) (hdb : (x == ("__debug__" : Str)) = false := by decide) (hdt : (xt == ("__debug__" : Str)) = false := by decide)
    (he : starEach [.Name n p1] X.env = (false, eval (.Name n p1) X.env) :: starEach [] X.env := by rfl) (hpl : (backTo pos (starEach [] X.env)).any (·.1) = false := by rfl) :
    PS X (.Try body [.ExceptHandler (some (.Name xt np)) (some n) [.Return (some (.Call (.Name x p) [.Name n p1] [] pos)) pos1] pos2] [] [] p2) (tS X.K X.mg W (gTryE nm i (dueE bs) g)) := by
  refine psImp (ps_try_as (c := .ref T) (ts := fun a cls d Dn σ H => cls = .ref C ∧ d = none ∧ σ[i]? = some (some (.ref a)) ∧ erQ bs H Dn.rt) hs hf hN hi hln ⟨hgt, hdt, .inl hT⟩ tk hb (fun a oe cls d pn hz hfl => ?_)) fun Dn σ H h => ?_
  · by_cases hc : cls = .ref C ∧ d = none
    · obtain ⟨rfl, rfl⟩ := hc
      have := se_er (X := X.suite a ((a, oe) :: pn)) (p := p) (p1 := p1) (pos := pos) (i := i) (n := n) Dd ⟨hr.dp, hr.un⟩ List.mem_cons_self hz hfl hi (.inl hln) hgx hd hcd hdb he hpl
      exact pssImp (pss_one (ps_ret this)) fun Dn σ H h => ⟨h.2.2.1, h.2.2.2⟩
    · exact ⟨fun pins s σ H D I h => absurd ⟨h.1, h.2.1⟩ hc⟩
  · obtain ⟨ι, Z, ρ, S, hρ, hS, h⟩ := h
    refine ⟨ι, Z, ρ, S, hρ, hS, ?_⟩
    unfold gTryE at h
    cases hg : g ρ S with
    | nx ρ' S' => rw [hg] at h; exact h
    | rt d S' => rw [hg] at h; exact h
    | bk d S' => rw [hg] at h; exact h
    | ct d S' => rw [hg] at h; exact h
    | bad => rw [hg] at h; exact h
    | exc y ρ' S' =>
      rw [hg] at h
      simp only at h
      split at h
      · rename_i hz
        obtain ⟨z1, z2, z3⟩ := hz
        intro ι' H' σ' cls dd e s r rx
        obtain ⟨C', c1, rfl, c3, _⟩ := rx
        rw [z1, hnm] at c1
        cases c1
        obtain rfl := c3 z2
        refine ⟨true, hex, fun _ a na => ⟨rfl, rfl, ?_, fun q1 q2 n1 n2 => ?_⟩, fun q => absurd q (by decide)⟩
        · have := r.1
          rw [List.getElem?_set_self (by omega)]
        · have x1 : Ex H' (upd H' q1 (.lst (bs.map .bl))) := Ex.upd n1
          have x2 : Ex (upd H' q1 (.lst (bs.map .bl))) (erH bs H' q1 q2) := Ex.upd n2
          have s1 := s.ex x1
          refine h ι' _ (.ref q2) (e.trans (Ext.ex (x1.trans x2))) (s1.ex x2) ⟨q2, [.ref q1, .non], rfl, s1.free n2, s1.freeZ n2, upd_same, ?_⟩
          exact ⟨.ref q1, _, rfl, ⟨q1, bs.map .bl, rfl, s.free n1, s.freeZ n1, x2 _ _ upd_same, rd_bls bs⟩, .non, [], rfl, rfl, rfl⟩
      · exact h.elim
end Sm


set_option Elab.async false
set_option linter.all false
set_option maxRecDepth 100000
set_option maxHeartbeats 1000000
namespace Sm
open PySem L2 PySem.Spec PyProof.Rows

/-! ### the law at the top -/
theorem frl_only {K : PySem.W.Frag} {H : Hp} {a : Addr} {xs : List V} (hO : Only H) (h : SqL K H a xs) : FrL K H a xs := by
  rcases h with (h | h) | h
  · rcases hO a with z | ⟨o, ys, z⟩
    · rw [h] at z; cases z
    · rw [h] at z; cases z
  · exact .inl h
  · exact .inr h
theorem lawG {P : Program} {w : World} {K : PySem.W.Frag} {mg bm : Str → Option Value} {k : Nat} {f a : Addr} {fd : FuncData} {x : Str} {m : List D → Store → R D} {st : Shared} {us : List Value} {ns : List Int}
    (inK : K.In st.heap) (gns : st.heap.Ns mainGlobals mg) (bns : st.heap.Ns builtinsNs bm) (bbm : ∀ x : Str, x ≠ "__name__" → bm x = bootBuiltins x) (nolim : st.heap.NoLimit) (gens : st.gens = #[])
    (at_ : st.heap.get? a = some { cls := .type "list", data := .seq us.toArray }) (iar : IntsAre us ns) (le : ns.length ≤ sizeLine) (room : Room k callerA) (hg : callerA.guards = some [])
    (Fn : ∀ base : Heap, K.In base → base.Ns mainGlobals mg → FnG P w K mg base (L2.CX P w) k f fd [x] (spM K mg 1 m)) (bind : ∀ (s : Shared) (u : Value), BindsTo s fd ⟨[u], []⟩ [(x, u)])
    (hm : m [.frl (ns.map .int)] [] = .ok (.bl true) []) :
    codeAny (model P w) callerA (.call (.ref f) ⟨[.ref a], []⟩) (fun r s' => r = .ok (.ret (.bool true)) ∧ OldK st.heap s'.heap ∧ s'.os = st.os ∧ AllBare s'.gens) st := by
  have vv := vals_ints iar
  have ll := iar.length
  have mid : ∀ H : Hp, Only H → SqL K H a (ns.map V.int) → HOk P w H st.heap → (∀ b, H b ≠ none → b = a) → (H a ≠ none → K.lookup a = none) →
      codeAny (model P w) callerA (.call (.ref f) ⟨[.ref a], []⟩) (fun r s' => r = .ok (.ret (.bool true)) ∧ OldK st.heap s'.heap ∧ s'.os = st.os ∧ AllBare s'.gens) st := by
    intro H only sq hok isA notK
    have eqA : ∀ {b : Addr} {u : HO}, H b = some u → b = a := fun {b u} e => isA b (by rw [e]; exact fun z => nomatch z)
    have dictN : ∀ {b : Addr} {o : Obj} {es : Array DictEntry} {ep : Nat}, st.heap.get? b = some o → o.data = .dict es ep → H b = none := fun {b o es ep} e d => by
      cases q : H b with
      | none => rfl
      | some u =>
        obtain rfl := eqA q
        rw [at_] at e; cases e
        exact absurd (show Data.seq us.toArray _ = Data.dict es ep from d) (fun z => nomatch z)
    have nsB : ∀ {b : Addr} {mm : Str → Option Value}, st.heap.Ns b mm → (hidT st.heap H).Ns b mm := fun {b mm} ⟨o, es, ep, e, d, r⟩ => ⟨o, es, ep, hidT_get e (dictN e d), d, r⟩
    have inB : K.In (hidT st.heap H) := fun b o e => by
      refine hidT_get (inK b o e) ?_
      cases q : H b with
      | none => rfl
      | some u =>
        obtain rfl := eqA q
        rw [notK (by rw [q]; exact fun z => nomatch z)] at e; cases e
    obtain ⟨mc, lim1, lim2⟩ := nolim
    have env0 : Env0 P w K mg (hidT st.heap H) callerA [] st H :=
      ⟨rfl, ⟨inB, nsB gns, ⟨bm, nsB bns, bbm⟩, ⟨mc, nsB lim1, lim2⟩⟩, fun b o e => of_hidT e, Nat.le_of_eq (hidT_size _ _), trivial, fun b hb => (nomatch (show b ∈ ([] : List Addr) from hb)), hok, .of_eq gens⟩
    have sp0 : spM K mg 1 m [.ref a] H (fun v _ => v = .bl true) fun _ _ _ => False := by
      refine ⟨[], [], [.frl (ns.map .int)], [], rfl, ⟨.ref a, [], rfl, ⟨a, ns.map V.int, rfl, frl_only only sq, RDs.ints ns⟩, rfl⟩, ⟨rfl, List.nodup_nil, fun z hz => (nomatch hz), fun n b hb => (nomatch hb)⟩, ?_⟩
      rw [hm]
      exact fun ι' H' v _ _ r => r
    refine codeAny_mono ((Fn _ inB (nsB gns)).run callerA [] st H ⟨[.ref a], []⟩ [.ref a] [.ref a] _ _ hg room env0 (bind st (.ref a)) (.cons rfl .nil) sp0) fun r s' h => ?_
    match r, h with
    | .error e, h =>
      obtain ⟨_, _, _, _, _, _, _, _, _, _, _, _, hW⟩ := h
      exact hW.elim
    | .ok (.ret u), h =>
      obtain ⟨v, H', os, bare, un, hok', rv, q⟩ := h
      obtain rfl : v = .bl true := q
      obtain rfl : u = Value.bool true := rv
      refine ⟨rfl, OldK.of_keep fun b o e => ?_, os, bare⟩
      rcases only b with q | ⟨ob, xs, q⟩
      · exact un.keep b o e q (fun z => nomatch (show b ∈ ([] : List Addr) from z)) (by simp)
      · obtain ⟨e1, _⟩ := hok b _ q
        obtain ⟨e2, _⟩ := hok' b _ (un.frzs b ob _ q)
        rw [e] at e1; cases e1
        exact e2
    | .ok .next, h => exact h.elim
    | .ok .brk, h => exact h.elim
    | .ok .cont, h => exact h.elim
  cases ka : K.lookup a with
  | some o =>
    have e := inK a o ka
    rw [at_] at e
    cases e
    exact mid (fun _ => none) (fun _ => .inl rfl) (.inr ⟨_, us.toArray, _, ka, rfl, rfl, rfl, by rw [List.size_toArray, ll]; exact le, by simpa using vv⟩) (fun b u z => nomatch z) (fun b z => absurd rfl z) fun z => absurd rfl z
  | none =>
    have one : ∀ b, (if b = a then some (HO.frz { cls := .type "list", data := .seq us.toArray } (.lst (ns.map V.int))) else none) ≠ none → b = a := fun b z => by
      by_cases hb : b = a
      · exact hb
      · exact absurd (if_neg hb) z
    refine mid (fun b => if b = a then some (.frz { cls := .type "list", data := .seq us.toArray } (.lst (ns.map V.int))) else none) (fun b => ?_) (.inl (.inr ⟨{ cls := .type "list", data := .seq us.toArray }, if_pos rfl⟩)) (fun b u z => ?_) one fun _ => ka
    · by_cases hb : b = a
      · exact .inr ⟨_, _, if_pos hb⟩
      · exact .inl (if_neg hb)
    · obtain rfl := one b (fun y => nomatch y.symm.trans z)
      have z := (if_pos rfl).symm.trans z
      cases z
      exact ⟨at_, by rw [List.length_map]; exact le, us, _, vv, at_⟩
theorem walkG {l : PySem.W.OpenLaw} {n k : Nat} {q : Program} {loose : List Str} {XP : (Str → Option Value) → Heap → Prop} {YP : World → Heap → Prop} {d : DefRec} {K : Params → PySem.W.Frag} {x : Str} {m : List D → Store → R D}
    (most : l.most = some n) (le : n ≤ sizeLine) (dfl : d.params.defaults = []) (room : Room k callerA) (hg : callerA.guards = some [])
    (hY : ∀ (w : World) (h : Heap), YP w h → (K w.params).In h)
    (Fn : ∀ (w : World) (mg : Str → Option Value) (f : Addr) (h : Heap), (K w.params).In h → h.Ns mainGlobals mg → mg d.name = some (.ref f) →
      ∃ fd : FuncData, (∀ (s : Shared) (u : Value), BindsTo s fd ⟨[u], []⟩ [(x, u)]) ∧
        ∀ base : Heap, (K w.params).In base → base.Ns mainGlobals mg → FnG l.prog w (K w.params) mg base (L2.CX l.prog w) k f fd [x] (spM (K w.params) mg 1 m))
    (hm : ∀ ns : List Int, ns.length ≤ n → m [.frl (ns.map .int)] [] = .ok (.bl true) []) :
    PySem.W.WalkO q loose XP YP l.row.toRowW d [] (fun f vs => PySem.call f vs) := by
  refine Att.attach_call most dfl fun w s₀ st mg bm f o pm cd doc a us ns G Y fo fdat fcd fmg fobj fints flen fgens => ?_
  have inK := hY w _ Y
  obtain ⟨fd, bd, Fb⟩ := Fn w mg f _ inK G.T.g fmg
  exact lawG inK G.T.g G.T.b G.T.builtins G.T.nolimit fgens fobj fints (Nat.le_trans flen le) room hg Fb bd (hm ns flen)
end Sm


set_option Elab.async false
set_option linter.all false
set_option maxRecDepth 100000
set_option maxHeartbeats 1000000
namespace Sm
open PySem L2 PySem.Spec PyProof.Rows

/-! ### words in short -/
section
variable {X : Cx} {W : WX} {a b c e : Expr} {fa fb f : F D} {fs : F (List D)} {pos p : Pos} {es : List Expr}
theorem x_add (ha : PE X a (tE X.K X.mg W fa)) (hb : PE X b (tE X.K X.mg W fb)) : PE X (.BinOp a .Add b pos) (tE X.K X.mg W (eO2 dAdd fa fb)) := se_op o_add s_add ha hb
theorem x_sub (ha : PE X a (tE X.K X.mg W fa)) (hb : PE X b (tE X.K X.mg W fb)) : PE X (.BinOp a .Sub b pos) (tE X.K X.mg W (eO2 dSub fa fb)) := se_op op_sub s_sub ha hb
theorem x_mul (ha : PE X a (tE X.K X.mg W fa)) (hb : PE X b (tE X.K X.mg W fb)) : PE X (.BinOp a .Mult b pos) (tE X.K X.mg W (eO2 dMulA fa fb)) := se_op o_mul s_mulA ha hb
theorem x_div (ha : PE X a (tE X.K X.mg W fa)) (hb : PE X b (tE X.K X.mg W fb)) : PE X (.BinOp a .FloorDiv b pos) (tE X.K X.mg W (eO2 dDiv fa fb)) := se_op op_fdivW s_div ha hb
theorem x_mod (ha : PE X a (tE X.K X.mg W fa)) (hb : PE X b (tE X.K X.mg W fb)) : PE X (.BinOp a .Mod b pos) (tE X.K X.mg W (eO2 dMod fa fb)) := se_op op_mod s_mod ha hb
theorem x_pow (ha : PE X a (tE X.K X.mg W fa)) (hb : PE X b (tE X.K X.mg W fb)) : PE X (.BinOp a .Pow b pos) (tE X.K X.mg W (eO2 dPow fa fb)) := se_op op_pow s_pow ha hb
theorem x_and (ha : PE X a (tE X.K X.mg W fa)) (hb : PE X b (tE X.K X.mg W fb)) : PE X (.BinOp a .BitAnd b pos) (tE X.K X.mg W (eO2 dBand fa fb)) := se_op op_and s_band ha hb
theorem x_neg (ha : PE X a (tE X.K X.mg W fa)) : PE X (.UnaryOp .USub a pos) (tE X.K X.mg W (eO1 dNeg fa)) := se_un un_neg s_neg ha
theorem x_lt (ha : PE X a (tE X.K X.mg W fa)) (hb : PE X b (tE X.K X.mg W fb)) : PE X (.Compare a [.Lt] [b] pos) (tE X.K X.mg W (eO2 (dCmp fun i j => decide (i < j)) fa fb)) := se_cmp op_lt (s_cmp _) ha hb (nobehind _ (by decide) (by decide))
theorem x_le (ha : PE X a (tE X.K X.mg W fa)) (hb : PE X b (tE X.K X.mg W fb)) : PE X (.Compare a [.LtE] [b] pos) (tE X.K X.mg W (eO2 (dCmp fun i j => decide (i ≤ j)) fa fb)) := se_cmp op_le (s_cmp _) ha hb (nobehind _ (by decide) (by decide))
theorem x_gt (ha : PE X a (tE X.K X.mg W fa)) (hb : PE X b (tE X.K X.mg W fb)) : PE X (.Compare a [.Gt] [b] pos) (tE X.K X.mg W (eO2 (dCmp fun i j => decide (j < i)) fa fb)) := se_cmp op_gt (s_cmp _) ha hb (nobehind _ (by decide) (by decide))
theorem x_ge (ha : PE X a (tE X.K X.mg W fa)) (hb : PE X b (tE X.K X.mg W fb)) : PE X (.Compare a [.GtE] [b] pos) (tE X.K X.mg W (eO2 (dCmp fun i j => decide (j ≤ i)) fa fb)) := se_cmp op_ge (s_cmp _) ha hb (nobehind _ (by decide) (by decide))
theorem x_eq {k : Nat} (hr : Room k X.A) (ha : PE X a (tE X.K X.mg W fa)) (hb : PE X b (tE X.K X.mg W fb)) : PE X (.Compare a [.Eq] [b] pos) (tE X.K X.mg W (eO2 dEq fa fb)) := se_cmp (op_eqD (by have := hr.un; omega)) s_eq ha hb (nobehind _ (by decide) (by decide))
theorem x_ne {k : Nat} (hr : Room k X.A) (ha : PE X a (tE X.K X.mg W fa)) (hb : PE X b (tE X.K X.mg W fb)) : PE X (.Compare a [.NotEq] [b] pos) (tE X.K X.mg W (eO2 dNe fa fb)) := se_cmp (op_neD (by have := hr.un; omega)) s_ne ha hb (nobehind _ (by decide) (by decide))
theorem x_in (ha : PE X a (tE X.K X.mg W fa)) (hb : PE X b (tE X.K X.mg W fb)) (hm : behindInMarks .In b = false := by rfl) : PE X (.Compare a [.In] [b] pos) (tE X.K X.mg W (eO2 (dIn false) fa fb)) := se_cmp op_in_seq (s_in _) ha hb hm
theorem x_ni (ha : PE X a (tE X.K X.mg W fa)) (hb : PE X b (tE X.K X.mg W fb)) (hm : behindInMarks .NotIn b = false := by rfl) : PE X (.Compare a [.NotIn] [b] pos) (tE X.K X.mg W (eO2 (dIn true) fa fb)) := se_cmp op_notIn_seq (s_in _) ha hb hm
def isNon : D → Bool
  | .non => true
  | _ => false
def dIsN (_ : Store) (a b : D) : Option D := match b with
  | .non => some (.bl (isNon a))
  | _ => none
theorem rd_non {K : PySem.W.Frag} {ι Z : List Addr} {H : Hp} {d : D} {v : V} (r : RD K ι Z H d v) : decide (v = .non) = isNon d := by
  cases d with
  | non => have r : v = .non := r; subst r; rfl
  | bl b => have r : v = .bl b := r; subst r; rfl
  | int b => have r : v = .int b := r; subst r; rfl
  | str b => have r : v = .str b := r; subst r; rfl
  | tup ds => obtain ⟨a, _, rfl, _⟩ := r; rfl
  | lst ds => obtain ⟨a, _, rfl, _⟩ := r; rfl
  | frl ds => obtain ⟨a, _, rfl, _⟩ := r; rfl
  | ptr n => obtain ⟨a, rfl, _⟩ := r; rfl
theorem s_isN {K : PySem.W.Frag} : OpS K (fun x y H Q => y = .non ∧ Q (.bl (decide (x = .non))) H) dIsN := by
  intro ι Z H S a b d va vb Q s ra rb h k
  cases b with
  | non =>
    cases h
    refine ⟨rb, k H _ (Ex.refl _) ?_⟩
    rw [rd_non ra]
    rfl
  | _ => cases h
theorem x_isn (ha : PE X a (tE X.K X.mg W fa)) (hb : PE X b (tE X.K X.mg W fb)) : PE X (.Compare a [.Is] [b] pos) (tE X.K X.mg W (eO2 dIsN fa fb)) := se_cmp op_isN s_isN ha hb (nobehind _ (by decide) (by decide))
theorem y_lt (ha : PE X a (tE X.K X.mg W fa)) (hb : PE X b (tE X.K X.mg W fb)) : PT X (.Compare a [.Lt] [b] pos) (tT X.K X.mg W (tV (eO2 (dCmp fun i j => decide (i < j)) fa fb))) := st_cmp op_lt (s_cmp _) ha hb (nobehind _ (by decide) (by decide))
theorem y_le (ha : PE X a (tE X.K X.mg W fa)) (hb : PE X b (tE X.K X.mg W fb)) : PT X (.Compare a [.LtE] [b] pos) (tT X.K X.mg W (tV (eO2 (dCmp fun i j => decide (i ≤ j)) fa fb))) := st_cmp op_le (s_cmp _) ha hb (nobehind _ (by decide) (by decide))
theorem y_gt (ha : PE X a (tE X.K X.mg W fa)) (hb : PE X b (tE X.K X.mg W fb)) : PT X (.Compare a [.Gt] [b] pos) (tT X.K X.mg W (tV (eO2 (dCmp fun i j => decide (j < i)) fa fb))) := st_cmp op_gt (s_cmp _) ha hb (nobehind _ (by decide) (by decide))
theorem y_ge (ha : PE X a (tE X.K X.mg W fa)) (hb : PE X b (tE X.K X.mg W fb)) : PT X (.Compare a [.GtE] [b] pos) (tT X.K X.mg W (tV (eO2 (dCmp fun i j => decide (j ≤ i)) fa fb))) := st_cmp op_ge (s_cmp _) ha hb (nobehind _ (by decide) (by decide))
theorem y_eq {k : Nat} (hr : Room k X.A) (ha : PE X a (tE X.K X.mg W fa)) (hb : PE X b (tE X.K X.mg W fb)) : PT X (.Compare a [.Eq] [b] pos) (tT X.K X.mg W (tV (eO2 dEq fa fb))) := st_cmp (op_eqD (by have := hr.un; omega)) s_eq ha hb (nobehind _ (by decide) (by decide))
theorem y_ne {k : Nat} (hr : Room k X.A) (ha : PE X a (tE X.K X.mg W fa)) (hb : PE X b (tE X.K X.mg W fb)) : PT X (.Compare a [.NotEq] [b] pos) (tT X.K X.mg W (tV (eO2 dNe fa fb))) := st_cmp (op_neD (by have := hr.un; omega)) s_ne ha hb (nobehind _ (by decide) (by decide))
theorem y_in (ha : PE X a (tE X.K X.mg W fa)) (hb : PE X b (tE X.K X.mg W fb)) (hm : behindInMarks .In b = false := by rfl) : PT X (.Compare a [.In] [b] pos) (tT X.K X.mg W (tV (eO2 (dIn false) fa fb))) := st_cmp op_in_seq (s_in _) ha hb hm
theorem y_ni (ha : PE X a (tE X.K X.mg W fa)) (hb : PE X b (tE X.K X.mg W fb)) (hm : behindInMarks .NotIn b = false := by rfl) : PT X (.Compare a [.NotIn] [b] pos) (tT X.K X.mg W (tV (eO2 (dIn true) fa fb))) := st_cmp op_notIn_seq (s_in _) ha hb hm
theorem y_isn (ha : PE X a (tE X.K X.mg W fa)) (hb : PE X b (tE X.K X.mg W fb)) : PT X (.Compare a [.Is] [b] pos) (tT X.K X.mg W (tV (eO2 dIsN fa fb))) := st_cmp op_isN s_isN ha hb (nobehind _ (by decide) (by decide))
theorem x_ix (ha : PE X a (tE X.K X.mg W fa)) (hb : PE X b (tE X.K X.mg W fb)) (hp : PlainIx b := by intro _ _; rfl) : PE X (.Subscript a b pos) (tE X.K X.mg W (eO2 dIx fa fb)) := se_ix ix_seq s_ix ha hb hp
theorem x_len (hm : X.mg "len" = none) (ha : PA X [e] (tA X.K X.mg W fs)) (hg : Gl X "len" := by rfl) (he : starEach [e] X.env = (false, eval e X.env) :: starEach [] X.env := by rfl) (hpl : (backTo pos (starEach [] X.env)).any (·.1) = false := by rfl) :
    PE X (.Call (.Name "len" p) [e] [] pos) (tE X.K X.mg W (eB dLen fs)) := se_cb call_len_seq s_len hg hm PySem.boot_len ha (by decide) (by decide) he hpl
theorem x_abs (hm : X.mg "abs" = none) (ha : PA X [e] (tA X.K X.mg W fs)) (hg : Gl X "abs" := by rfl) (he : starEach [e] X.env = (false, eval e X.env) :: starEach [] X.env := by rfl) (hpl : (backTo pos (starEach [] X.env)).any (·.1) = false := by rfl) :
    PE X (.Call (.Name "abs" p) [e] [] pos) (tE X.K X.mg W (eB dAbs fs)) := se_cb call_abs s_abs hg hm (by decide +kernel) ha (by decide) (by decide) he hpl
theorem x_sum (hc : X.calm = true) (hm : X.mg "sum" = none) (ha : PA X [e] (tA X.K X.mg W fs)) (hg : Gl X "sum" := by rfl) (he : starEach [e] X.env = (false, eval e X.env) :: starEach [] X.env := by rfl) (hpl : (backTo pos (starEach [] X.env)).any (·.1) = false := by rfl) :
    PE X (.Call (.Name "sum" p) [e] [] pos) (tE X.K X.mg W (eB dSum fs)) := se_cb (cr_sum hc) s_sum hg hm (by decide +kernel) ha (by decide) (by decide) he hpl
theorem x_max (hc : X.calm = true) (hm : X.mg "max" = none) (ha : PA X [e] (tA X.K X.mg W fs)) (hg : Gl X "max" := by rfl) (he : starEach [e] X.env = (false, eval e X.env) :: starEach [] X.env := by rfl) (hpl : (backTo pos (starEach [] X.env)).any (·.1) = false := by rfl) :
    PE X (.Call (.Name "max" p) [e] [] pos) (tE X.K X.mg W (eB dMax fs)) := se_cb (cr_max hc) s_max hg hm (by decide +kernel) ha (by decide) (by decide) he hpl
theorem x_int (hm : X.mg "int" = none) (ha : PA X [e] (tA X.K X.mg W fs)) (hg : Gl X "int" := by rfl) (he : starEach [e] X.env = (false, eval e X.env) :: starEach [] X.env := by rfl) (hpl : (backTo pos (starEach [] X.env)).any (·.1) = false := by rfl) :
    PE X (.Call (.Name "int" p) [e] [] pos) (tE X.K X.mg W (eB dInt fs)) := se_ct call_int1 s_toint hg hm (by decide +kernel) ha (by decide) (by decide) he hpl
theorem x_tup (hm : X.mg "tuple" = none) (ha : PA X [e] (tA X.K X.mg W fs)) (hg : Gl X "tuple" := by rfl) (he : starEach [e] X.env = (false, eval e X.env) :: starEach [] X.env := by rfl) (hpl : (backTo pos (starEach [] X.env)).any (·.1) = false := by rfl) :
    PE X (.Call (.Name "tuple" p) [e] [] pos) (tE X.K X.mg W (eB dTup fs)) := se_ct call_tuple_of s_tup hg hm (by decide +kernel) ha (by decide) (by decide) he hpl
theorem x_list (hm : X.mg "list" = none) (ha : PA X [e] (tA X.K X.mg W fs)) (hg : Gl X "list" := by rfl) (he : starEach [e] X.env = (false, eval e X.env) :: starEach [] X.env := by rfl) (hpl : (backTo pos (starEach [] X.env)).any (·.1) = false := by rfl) :
    PE X (.Call (.Name "list" p) [e] [] pos) (tL X.K X.mg W (lB lList fs)) := sl_ct call_list_of s_list hg hm (by decide +kernel) ha (by decide) (by decide) he hpl
theorem x_repr (hg0 : X.A.guards = some []) {k : Nat} (hr : Room k X.A) (hm : X.mg "repr" = none) (ha : PA X [e] (tA X.K X.mg W fs)) (hg : Gl X "repr" := by rfl) (he : starEach [e] X.env = (false, eval e X.env) :: starEach [] X.env := by rfl) (hpl : (backTo pos (starEach [] X.env)).any (·.1) = false := by rfl) :
    PE X (.Call (.Name "repr" p) [e] [] pos) (tE X.K X.mg W (eB dRepr fs)) := se_cb (call_reprD hg0 (by have := hr.un; omega)) s_repr hg hm (by decide +kernel) ha (by decide) (by decide) he hpl
theorem x_addL (ha : PE X a (tE X.K X.mg W fa)) (hb : PE X b (tE X.K X.mg W fb)) : PE X (.BinOp a .Add b pos) (tL X.K X.mg W (lO2 lAdd fa fb)) := sl_op op_cat s_addL ha hb
theorem x_mulL (ha : PE X a (tE X.K X.mg W fa)) (hb : PE X b (tE X.K X.mg W fb)) : PE X (.BinOp a .Mult b pos) (tL X.K X.mg W (lO2 lMul fa fb)) := sl_op op_rep s_mulL ha hb
theorem x_app {o : Expr} {apos : Pos} (ho : PE X o (tE X.K X.mg W fa)) (ha : PA X [e] (tA X.K X.mg W fs)) (h1 : attributeBase o "append" X.env (eval o X.env) = eval o X.env := by rfl)
    (h2 : ((backTo pos (starEach [e] X.env)).all (fun q => !q.1) && (backToKw pos (keywordEach [] X.env)).all (fun q => q.1.isSome) && decide ([e].length + ([] : List Keyword).length + (if ([] : List Keyword).isEmpty then 0 else 1) < 30)) = true := by rfl)
    (h3 : (apos.endLine == pos.line) = true := by rfl) (h4 : starEach [e] X.env = (false, eval e X.env) :: starEach [] X.env := by rfl) (h5 : (backTo pos (starEach [] X.env)).any (·.1) = false := by rfl) :
    PE X (.Call (.Attribute o "append" apos) [e] [] pos) (tE X.K X.mg W (eM isTrk mApp fa fs)) := se_m PySem.F.plainAttrs_list PySem.F.slot_list_append PySem.F.type_list_append mt_append m_app ho ha h1 h2 h3 h4 h5
theorem x_pop {o : Expr} {apos : Pos} (ho : PE X o (tE X.K X.mg W fa)) (h1 : attributeBase o "pop" X.env (eval o X.env) = eval o X.env := by rfl) (h3 : (apos.endLine == pos.line) = true := by rfl) :
    PE X (.Call (.Attribute o "pop" apos) [] [] pos) (tE X.K X.mg W (eM isTrk mPop fa aN)) := se_m0 PySem.F.plainAttrs_list PySem.F.slot_list_pop PySem.F.type_list_pop mt_pop m_pop ho h1 h3
end

theorem blk_of {X : Cx} {N : List Str} {sc scope : Scope} {own : List (Str × Nat)} (hN : X.N = N) (hs : X.env.scope = sc) (b : BlkOk N sc scope own) : BlkOk X.N X.env.scope scope own := by
  rw [hN, hs]; exact b

inductive FrOk (sc : Scope) : List (Str × NameKind) → Prop
  | nil : FrOk sc []
  | no {x : Str} {k : NameKind} {r : List (Str × NameKind)} (h : k ≠ .free) (t : FrOk sc r) : FrOk sc ((x, k) :: r)
  | c {x : Str} {k : NameKind} {r : List (Str × NameKind)} (h : sc.names.lookup x = some .cell) (t : FrOk sc r) : FrOk sc ((x, k) :: r)
  | f {x : Str} {k : NameKind} {r : List (Str × NameKind)} (h : sc.names.lookup x = some .free) (t : FrOk sc r) : FrOk sc ((x, k) :: r)
theorem FrOk.all {sc : Scope} : ∀ {l : List (Str × NameKind)}, FrOk sc l → ∀ y ∈ l, y.2 = .free → sc.names.lookup y.1 = some .cell ∨ sc.names.lookup y.1 = some .free
  | _, .nil, _, hy, _ => nomatch hy
  | _, .no h t, y, hy, e => by
    rcases List.mem_cons.mp hy with rfl | hy
    · exact absurd e h
    · exact t.all y hy e
  | _, .c h t, y, hy, e => by
    rcases List.mem_cons.mp hy with rfl | hy
    · exact .inl h
    · exact t.all y hy e
  | _, .f h t, y, hy, e => by
    rcases List.mem_cons.mp hy with rfl | hy
    · exact .inr h
    · exact t.all y hy e
/-- a block within a block -/
theorem blk_in {X : Cx} {N : List Str} {scope : Scope} {own : List (Str × Nat)} (hN : X.N = N) (h1 : scope.kind = .function) (h2 : ∀ y ∈ scope.names, scope.names.lookup y.1 = some y.2) (h3 : ∀ p ∈ own, N[p.2]? = some p.1) (h4 : FrOk X.env.scope scope.names)
    (h5 : ∀ y ∈ scope.names, y.2 = .local ∨ y.2 = .cell → y.1 ∈ own.map (·.1) ∨ y.1 ∉ N) : BlkOk X.N X.env.scope scope own := ⟨h1, h2, by rw [hN]; exact h3, h4.all, by rw [hN]; exact h5⟩

/-! ### a def by its context -/
section
variable {P : Program} {w : World} {K : PySem.W.Frag} {mg : Str → Option Value} {base : Heap}
abbrev bX (P : Program) (w : World) (K : PySem.W.Frag) (mg : Str → Option Value) (base : Heap) (N : List Str) (qual : Str) (scope : Scope) (f : Addr) (cd : Value) (A : Around) (outer : List Env) (s : Shared) (H : Hp) (E : XK) : Cx := cxOf (L2.CX P w) P w K mg base N qual scope f cd A outer s H E
theorem fn_X {x qual : Str} {st : Stmt} {f : Addr} {fd : FuncData} {N ps : List Str} {k : Nat} (Fu : Fun K x qual st f fd) (SC : FnScope N ps (defScope st)) (g : G)
    (hb : ∀ (A : Around) (outer : List Env) (s : Shared) (H : Hp) (E : XK) (cd : Value), (bX P w K mg base N qual (defScope st) f cd A outer s H E).A.guards = some [] → Room k (bX P w K mg base N qual (defScope st) f cd A outer s H E).A →
      Takes (bX P w K mg base N qual (defScope st) f cd A outer s H E) (Wd E) → PassesOwn (model P w) (bX P w K mg base N qual (defScope st) f cd A outer s H E).A (bX P w K mg base N qual (defScope st) f cd A outer s H E).env (bX P w K mg base N qual (defScope st) f cd A outer s H E).xe →
      PSs (bX P w K mg base N qual (defScope st) f cd A outer s H E) (defBody st) (tS K mg (Wd E) g)) : FnG P w K mg base (L2.CX P w) (k + 1) f fd ps (spM K mg ps.length (mF N.length g)) := by
  obtain ⟨oc, od, kV, doc, pm, an, cdv, ct, osl, rfl, lk, hcd⟩ := Fu.ex
  refine fg_of lk hcd SC (fun vs H Q E ⟨ι, Z, ds, S, hl, r, _⟩ => by rw [r.length, hl]) fun A outer s H vs Q E hg hr ⟨ι, Z, ds, S, hl, r, hS, h⟩ => ⟨_, hb A outer s H E cdv hg hr (takes_of rfl rfl rfl rfl) (passes_of rfl), ?_⟩
  exact ⟨ι, Z, _, S, re_start r, hS, mF_ok hS h⟩
theorem fn_XK {x qual : Str} {st : Stmt} {f : Addr} {fd : FuncData} {N ps : List Str} {k : Nat} (Fu : Fun K x qual st f fd) (SC : FnScope N ps (defScope st)) (g : G)
    (hb : ∀ (A : Around) (outer : List Env) (s : Shared) (H : Hp) (E : XK) (cd : Value), (bX P w K mg base N qual (defScope st) f cd A outer s H E).A.guards = some [] → Room k (bX P w K mg base N qual (defScope st) f cd A outer s H E).A →
      Takes (bX P w K mg base N qual (defScope st) f cd A outer s H E) (Wd E) → PassesOwn (model P w) (bX P w K mg base N qual (defScope st) f cd A outer s H E).A (bX P w K mg base N qual (defScope st) f cd A outer s H E).env (bX P w K mg base N qual (defScope st) f cd A outer s H E).xe →
      PSs (bX P w K mg base N qual (defScope st) f cd A outer s H E) (defBody st) (tS K mg (Wd E) g)) : FnG P w K mg base (L2.CX P w) (k + 1) f fd ps (spM K mg ps.length (mK N.length g)) := by
  obtain ⟨oc, od, kV, doc, pm, an, cdv, ct, osl, rfl, lk, hcd⟩ := Fu.ex
  refine fg_of lk hcd SC (fun vs H Q E ⟨ι, Z, ds, S, hl, r, _⟩ => by rw [r.length, hl]) fun A outer s H vs Q E hg hr ⟨ι, Z, ds, S, hl, r, hS, h⟩ => ⟨_, hb A outer s H E cdv hg hr (takes_of rfl rfl rfl rfl) (passes_of rfl), ?_⟩
  exact ⟨ι, Z, _, S, re_start r, hS, mK_ok hS h⟩
theorem kb_of {x qual : Str} {st : Stmt} {f : Addr} {fd : FuncData} {ps ks : List Str} {ix : List Nat} (Fu : Fun K x qual st f fd)
    (h : ∀ (kV doc pm : Value) (an : Option Addr) (cdv ct : Value) (ws : List Value), ws.length = ks.length → bindArgs (PySem.W.fnOf x qual (defArgs st) (defBody st) (defScope st) .none kV doc pm an cdv ct) ⟨[], ks.zip ws⟩ = pure (ps.zip (pkW ix [] ws))) : KBn K fd ps 0 ks (pkW ix) (pkV ix) := by
  obtain ⟨oc, od, kV, doc, pm, an, cdv, ct, osl, rfl, lk, hcd⟩ := Fu.ex
  refine ⟨fun s us ws _ l1 l2 => .of_eq ?_, fun r q => pk_val ix r q⟩
  obtain rfl := List.length_eq_zero_iff.mp l1
  exact h kV doc pm an cdv ct ws l2
end
end Sm


set_option linter.all false
/-! Ser: power series with whole numbers as items, plainly: products, composition, Lagrange's law. -/
namespace Ser
abbrev S := Nat → Int
def tl (a : S) : S := fun n => a (n + 1)
def add (a b : S) : S := fun n => a n + b n
def sc (c : Int) (a : S) : S := fun n => c * a n
def one : S := fun n => if n = 0 then 1 else 0
def zero : S := fun _ => 0
def X : S := fun n => if n = 1 then 1 else 0
def mulN : Nat → S → S → Int
  | 0, a, b => a 0 * b 0
  | n + 1, a, b => a 0 * b (n + 1) + mulN n (tl a) b
def mul (a b : S) : S := fun n => mulN n a b
theorem mul0 (a b : S) : mul a b 0 = a 0 * b 0 := rfl
theorem mulS (a b : S) (n : Nat) : mul a b (n + 1) = a 0 * b (n + 1) + mul (tl a) b n := rfl
theorem congrN : ∀ (n : Nat) {a a' b b' : S}, (∀ i, i ≤ n → a i = a' i) → (∀ i, i ≤ n → b i = b' i) → mulN n a b = mulN n a' b'
  | 0, a, a', b, b', h, g => by
    show a 0 * b 0 = a' 0 * b' 0
    rw [h 0 (Nat.le_refl _), g 0 (Nat.le_refl _)]
  | n + 1, a, a', b, b', h, g => by
    show a 0 * b (n + 1) + mulN n (tl a) b = a' 0 * b' (n + 1) + mulN n (tl a') b'
    rw [h 0 (Nat.zero_le _), g (n + 1) (Nat.le_refl _), congrN n (a := tl a) (a' := tl a') (fun i hi => h (i + 1) (by omega)) (fun i hi => g i (by omega))]
theorem mul_addl : ∀ (n : Nat) (a a' b : S), mulN n (add a a') b = mulN n a b + mulN n a' b
  | 0, a, a', b => by show (a 0 + a' 0) * b 0 = a 0 * b 0 + a' 0 * b 0; grind
  | n + 1, a, a', b => by
    show (a 0 + a' 0) * b (n + 1) + mulN n (add (tl a) (tl a')) b = (a 0 * b (n + 1) + mulN n (tl a) b) + (a' 0 * b (n + 1) + mulN n (tl a') b)
    rw [mul_addl n]; grind
theorem mul_scl : ∀ (n : Nat) (c : Int) (a b : S), mulN n (sc c a) b = c * mulN n a b
  | 0, c, a, b => by show c * a 0 * b 0 = c * (a 0 * b 0); grind
  | n + 1, c, a, b => by
    show c * a 0 * b (n + 1) + mulN n (sc c (tl a)) b = c * (a 0 * b (n + 1) + mulN n (tl a) b)
    rw [mul_scl n]; grind
theorem mul_tlr : ∀ (n : Nat) (a b : S), mulN (n + 1) a b = b 0 * a (n + 1) + mulN n a (tl b)
  | 0, a, b => by show a 0 * b 1 + a 1 * b 0 = b 0 * a 1 + a 0 * b 1; grind
  | n + 1, a, b => by
    show a 0 * b (n + 2) + mulN (n + 1) (tl a) b = b 0 * a (n + 2) + (a 0 * b (n + 2) + mulN n (tl a) (tl b))
    rw [mul_tlr n (tl a) b]
    show _ + (b 0 * a (n + 2) + _) = _
    grind
theorem comm : ∀ (n : Nat) (a b : S), mulN n a b = mulN n b a
  | 0, a, b => by show a 0 * b 0 = b 0 * a 0; grind
  | n + 1, a, b => by
    rw [mul_tlr n b a, ← comm n]
    rfl
theorem mul_comm (a b : S) : mul a b = mul b a := funext fun n => comm n a b
theorem mul_addr (n : Nat) (a b b' : S) : mulN n a (add b b') = mulN n a b + mulN n a b' := by
  rw [comm, mul_addl, comm n b, comm n b']
theorem mul_scr (n : Nat) (c : Int) (a b : S) : mulN n a (sc c b) = c * mulN n a b := by
  rw [comm, mul_scl, comm]
theorem tl_mul (a b : S) : tl (mul a b) = add (sc (a 0) (tl b)) (mul (tl a) b) := rfl
theorem assocN : ∀ (n : Nat) (a b c : S), mulN n (mul a b) c = mulN n a (mul b c)
  | 0, a, b, c => by show a 0 * b 0 * c 0 = a 0 * (b 0 * c 0); grind
  | n + 1, a, b, c => by
    show a 0 * b 0 * c (n + 1) + mulN n (tl (mul a b)) c = a 0 * (b 0 * c (n + 1) + mulN n (tl b) c) + mulN n (tl a) (mul b c)
    rw [tl_mul, mul_addl, mul_scl, assocN n]; grind
theorem assoc (a b c : S) : mul (mul a b) c = mul a (mul b c) := funext fun n => assocN n a b c
theorem zero_mulN : ∀ (n : Nat) (b : S), mulN n zero b = 0
  | 0, b => by show (0 : Int) * b 0 = 0; grind
  | n + 1, b => by
    show 0 * b (n + 1) + mulN n zero b = 0
    rw [zero_mulN n]; grind
theorem one_mul (a : S) : mul one a = a := funext fun n => by
  cases n with
  | zero => show (1 : Int) * a 0 = a 0; grind
  | succ n =>
    show (1 : Int) * a (n + 1) + mulN n zero a = a (n + 1)
    rw [zero_mulN]; grind
theorem mul_one (a : S) : mul a one = a := by rw [mul_comm, one_mul]
theorem mul_add (a b c : S) : mul a (add b c) = add (mul a b) (mul a c) := funext fun n => mul_addr n a b c
theorem add_mul (a b c : S) : mul (add a b) c = add (mul a c) (mul b c) := funext fun n => mul_addl n a b c
theorem mul_sc (c : Int) (a b : S) : mul a (sc c b) = sc c (mul a b) := funext fun n => mul_scr n c a b
theorem sc_mul (c : Int) (a b : S) : mul (sc c a) b = sc c (mul a b) := funext fun n => mul_scl n c a b
/-- the product by a series whose first item is nought -/
theorem mul_low {b : S} (h : b 0 = 0) (f : S) (n : Nat) : mul b f (n + 1) = mulN n (tl b) f := by
  show b 0 * f (n + 1) + mulN n (tl b) f = _
  rw [h]; grind
theorem mul_low0 {b : S} (h : b 0 = 0) (f : S) : mul b f 0 = 0 := by show b 0 * f 0 = 0; rw [h]; grind
theorem X_mul (a : S) (n : Nat) : mul X a (n + 1) = a n := by
  rw [mul_low (b := X) rfl]
  have : tl X = one := funext fun n => by unfold tl X one; grind
  rw [this]
  exact congrFun (one_mul a) n
def pw (a : S) : Nat → S
  | 0 => one
  | k + 1 => mul (pw a k) a
theorem pw_mul (a b : S) : ∀ k, pw (mul a b) k = mul (pw a k) (pw b k)
  | 0 => (one_mul one).symm
  | k + 1 => by
    show mul (pw (mul a b) k) (mul a b) = mul (mul (pw a k) a) (mul (pw b k) b)
    rw [pw_mul a b k, assoc, assoc, ← assoc (pw b k) a b, mul_comm (pw b k) a, assoc a]
theorem pw_one : ∀ k, pw one k = one
  | 0 => rfl
  | k + 1 => by show mul (pw one k) one = one; rw [mul_one, pw_one k]
theorem pw_s (a : S) (k : Nat) : pw a (k + 1) = mul a (pw a k) := mul_comm _ _

/-! ### Euler's operator -/
def th (a : S) : S := fun n => (n : Int) * a n
theorem tl_th (a : S) : tl (th a) = add (th (tl a)) (tl a) := funext fun n => by
  show ((n + 1 : Nat) : Int) * a (n + 1) = (n : Int) * a (n + 1) + a (n + 1)
  rw [Int.natCast_add]; grind
theorem th_mulN : ∀ (n : Nat) (a b : S), (n : Int) * mulN n a b = mulN n (th a) b + mulN n a (th b)
  | 0, a, b => by
    show ((0 : Nat) : Int) * (a 0 * b 0) = ((0 : Nat) : Int) * a 0 * b 0 + a 0 * (((0 : Nat) : Int) * b 0)
    grind
  | n + 1, a, b => by
    show ((n + 1 : Nat) : Int) * (a 0 * b (n + 1) + mulN n (tl a) b) = (((0 : Nat) : Int) * a 0 * b (n + 1) + mulN n (tl (th a)) b) + (a 0 * (((n + 1 : Nat) : Int) * b (n + 1)) + mulN n (tl a) (th b))
    have ih := th_mulN n (tl a) b
    rw [tl_th, mul_addl]
    rw [Int.natCast_add]
    grind
theorem th_mul (a b : S) : th (mul a b) = add (mul (th a) b) (mul a (th b)) := funext fun n => th_mulN n a b
theorem th_one : th one = zero := funext fun n => by
  show (n : Int) * one n = 0
  unfold one
  by_cases h : n = 0
  · subst h; rfl
  · rw [if_neg h]; grind
theorem zero_mul (a : S) : mul zero a = zero := funext fun n => zero_mulN n a
theorem th_pw (a : S) : ∀ k, th (pw a (k + 1)) = sc ((k : Int) + 1) (mul (pw a k) (th a))
  | 0 => by
    show th (mul one a) = sc (((0 : Nat) : Int) + 1) (mul one (th a))
    rw [one_mul, one_mul]
    funext n
    show th a n = (((0 : Nat) : Int) + 1) * th a n
    grind
  | k + 1 => by
    show th (mul (pw a (k + 1)) a) = _
    rw [th_mul, th_pw a k, sc_mul, assoc, mul_comm (th a) a, ← assoc]
    funext n
    show ((k : Int) + 1) * mul (pw a (k + 1)) (th a) n + mul (pw a (k + 1)) (th a) n = (((k + 1 : Nat) : Int) + 1) * mul (pw a (k + 1)) (th a) n
    rw [Int.natCast_add]
    grind

/-! ### composition -/
def C : Nat → S → S → S
  | 0, _, _ => zero
  | N + 1, a, b => fun n => (if n = 0 then a 0 else 0) + mul b (C N (tl a) b) n
def cp (a b : S) : S := fun n => C (n + 1) a b n
theorem C_stab {b : S} (h : b 0 = 0) : ∀ (N N' n : Nat) (a : S), n < N → n < N' → C N a b n = C N' a b n
  | 0, _, _, _, h1, _ => absurd h1 (Nat.not_lt_zero _)
  | _, 0, _, _, _, h2 => absurd h2 (Nat.not_lt_zero _)
  | N + 1, N' + 1, n, a, h1, h2 => by
    show (if n = 0 then a 0 else 0) + mul b (C N (tl a) b) n = (if n = 0 then a 0 else 0) + mul b (C N' (tl a) b) n
    cases n with
    | zero => rw [mul_low0 h, mul_low0 h]
    | succ n =>
      rw [mul_low h, mul_low h, congrN n (fun _ _ => rfl) (fun i hi => C_stab h N N' i (tl a) (by omega) (by omega))]
theorem C_cp {b : S} (h : b 0 = 0) {N n : Nat} (hn : n < N) (a : S) : C N a b n = cp a b n := C_stab h N (n + 1) n a hn (Nat.lt_succ_self _)
theorem cp_eq {b : S} (h : b 0 = 0) (a : S) (n : Nat) : cp a b n = (if n = 0 then a 0 else 0) + mul b (cp (tl a) b) n := by
  show (if n = 0 then a 0 else 0) + mul b (C n (tl a) b) n = _
  cases n with
  | zero => rw [mul_low0 h, mul_low0 h]
  | succ n => rw [mul_low h, mul_low h, congrN n (fun _ _ => rfl) (fun i hi => C_cp h (by omega) (tl a))]
theorem cp_0 {b : S} (h : b 0 = 0) (a : S) : cp a b 0 = a 0 := by
  rw [cp_eq h, mul_low0 h]; simp
theorem cp_s {b : S} (h : b 0 = 0) (a : S) (n : Nat) : cp a b (n + 1) = mulN n (tl b) (cp (tl a) b) := by
  rw [cp_eq h, mul_low h]; simp
/-- as an equation of series -/
theorem cp_fun {b : S} (h : b 0 = 0) (a : S) : cp a b = add (sc (a 0) one) (mul b (cp (tl a) b)) := funext fun n => by
  rw [cp_eq h]
  show _ = a 0 * one n + _
  unfold one
  by_cases hn : n = 0
  · simp [hn]
  · simp [hn]
theorem cp_add {b : S} (h : b 0 = 0) : ∀ (n : Nat) (f g : S), cp (add f g) b n = cp f b n + cp g b n
  | 0, f, g => by rw [cp_0 h, cp_0 h, cp_0 h]; rfl
  | n + 1, f, g => by
    rw [cp_s h, cp_s h, cp_s h, ← mul_addr]
    exact congrN n (fun _ _ => rfl) (fun i hi => cp_add h i (tl f) (tl g))
theorem cp_sc {b : S} (h : b 0 = 0) (c : Int) : ∀ (n : Nat) (f : S), cp (sc c f) b n = c * cp f b n
  | 0, f => by rw [cp_0 h, cp_0 h]; rfl
  | n + 1, f => by
    rw [cp_s h, cp_s h, ← mul_scr]
    exact congrN n (fun _ _ => rfl) (fun i hi => cp_sc h c i (tl f))
theorem cp_mul {b : S} (h : b 0 = 0) : ∀ (n : Nat) (f g : S), cp (mul f g) b n = mul (cp f b) (cp g b) n
  | 0, f, g => by rw [cp_0 h, mul0, mul0, cp_0 h, cp_0 h]
  | n + 1, f, g => by
    rw [cp_s h, tl_mul]
    have e1 : mulN n (tl b) (cp (add (sc (f 0) (tl g)) (mul (tl f) g)) b) = mulN n (tl b) (add (sc (f 0) (cp (tl g) b)) (mul (cp (tl f) b) (cp g b))) :=
      congrN n (fun _ _ => rfl) fun i hi => by
        rw [cp_add h, cp_sc h, cp_mul h i (tl f) g]; rfl
    rw [e1, mul_addr, mul_scr, ← cp_s h]
    have e2 : mulN n (tl b) (mul (cp (tl f) b) (cp g b)) = mulN n (mul (tl b) (cp (tl f) b)) (cp g b) := (assocN n _ _ _).symm
    rw [e2]
    show f 0 * cp g b (n + 1) + _ = cp f b 0 * cp g b (n + 1) + mulN n (tl (cp f b)) (cp g b)
    rw [cp_0 h]
    have e3 : mulN n (tl (cp f b)) (cp g b) = mulN n (mul (tl b) (cp (tl f) b)) (cp g b) := congrN n (fun i hi => cp_s h f i) fun _ _ => rfl
    rw [e3]
theorem cp_assoc {b c : S} (hb : b 0 = 0) (hc : c 0 = 0) : ∀ (n : Nat) (a : S), cp (cp a b) c n = cp a (cp b c) n
  | 0, a => by
    have h2 : cp b c 0 = 0 := by rw [cp_0 hc, hb]
    rw [cp_0 hc, cp_0 hb, cp_0 h2]
  | n + 1, a => by
    have h2 : cp b c 0 = 0 := by rw [cp_0 hc, hb]
    have e0 : cp (cp a b) c (n + 1) = cp (add (sc (a 0) one) (mul b (cp (tl a) b))) c (n + 1) := by rw [← cp_fun hb]
    have e1 : cp one c (n + 1) = 0 := by
      rw [cp_s hc]
      have : tl one = zero := funext fun n => by unfold tl one zero; simp
      rw [this]
      have z : ∀ i, cp zero c i = 0 := fun i => by
        have : zero = sc 0 zero := funext fun n => by unfold zero sc; grind
        rw [this, cp_sc hc]; grind
      have : cp zero c = zero := funext z
      rw [this, comm, zero_mulN]
    rw [e0, cp_add hc, cp_sc hc, e1, cp_mul hc, mul_low h2, cp_s h2]
    rw [congrN n (fun _ _ => rfl) (fun i hi => cp_assoc hb hc i (tl a))]
    grind
theorem cp_X {b : S} (h : b 0 = 0) (n : Nat) : cp X b n = b n := by
  cases n with
  | zero => rw [cp_0 h, h]; rfl
  | succ n =>
    rw [cp_s h]
    have : tl X = one := funext fun n => by unfold tl X one; grind
    rw [this]
    have e : cp one b = one := funext fun i => by
      cases i with
      | zero => rw [cp_0 h]
      | succ i =>
        rw [cp_s h]
        have : tl one = zero := funext fun n => by unfold tl one zero; simp
        rw [this]
        have z : cp zero b = zero := funext fun i => by
          have : zero = sc 0 zero := funext fun n => by unfold zero sc; grind
          rw [this, cp_sc h]; unfold sc; grind
        rw [z, comm, zero_mulN]; unfold one; simp
    rw [e]
    exact congrFun (mul_one (tl b)) n
theorem X_cp (a : S) (n : Nat) : cp a X n = a n := by
  induction n generalizing a with
  | zero => rw [cp_0 (b := X) rfl]
  | succ n ih =>
    rw [cp_s (b := X) rfl]
    have : tl X = one := funext fun n => by unfold tl X one; grind
    rw [this]
    have : mulN n one (cp (tl a) X) = mulN n one (tl a) := congrN n (fun _ _ => rfl) fun i hi => by
      have key : ∀ (i : Nat) (a : S), cp a X i = a i := fun i => by
        induction i with
        | zero => intro a; rw [cp_0 (b := X) rfl]
        | succ i ih2 =>
          intro a
          rw [cp_s (b := X) rfl, ‹tl X = one›]
          have e := congrFun (one_mul (cp (tl a) X)) i
          have e : mulN i one (cp (tl a) X) = cp (tl a) X i := e
          rw [e, ih2]; rfl
      exact key i (tl a)
    rw [this]
    exact congrFun (one_mul (tl a)) n
theorem cp_congr {M : Nat} {b b' : S} (h : b 0 = 0) (h' : b' 0 = 0) (e : ∀ i, i < M → b i = b' i) : ∀ (n : Nat) (a a' : S), n < M → (∀ i, i < M → a i = a' i) → cp a b n = cp a' b' n
  | 0, a, a', hn, ea => by rw [cp_0 h, cp_0 h', ea 0 hn]
  | n + 1, a, a', hn, ea => by
    rw [cp_s h, cp_s h']
    refine congrN n (fun i hi => e (i + 1) (by omega)) fun i hi => ?_
    refine cp_congrI h h' (M := n + 1) (fun j hj => e j (by omega)) i (tl a) (tl a') (by omega) fun j hj => ea (j + 1) (by omega)
where
  cp_congrI {M : Nat} {b b' : S} (h : b 0 = 0) (h' : b' 0 = 0) (e : ∀ i, i < M → b i = b' i) : ∀ (n : Nat) (a a' : S), n < M → (∀ i, i ≤ n → a i = a' i) → cp a b n = cp a' b' n
    | 0, a, a', hn, ea => by rw [cp_0 h, cp_0 h', ea 0 (Nat.le_refl _)]
    | n + 1, a, a', hn, ea => by
      rw [cp_s h, cp_s h']
      exact congrN n (fun i hi => e (i + 1) (by omega)) fun i hi => cp_congrI h h' e i (tl a) (tl a') (by omega) fun j hj => ea (j + 1) (by omega)
end Ser
namespace Ser
/-- the sum of a_j b^j, j below N -/
def fs (a b : S) : Nat → S
  | 0 => zero
  | k + 1 => add (fs a b k) (sc (a k) (pw b k))
theorem fs_s (b : S) : ∀ (N : Nat) (a : S), fs a b (N + 1) = add (sc (a 0) one) (mul b (fs (tl a) b N))
  | 0, a => by
    funext n
    show zero n + a 0 * one n = a 0 * one n + mulN n b zero
    rw [comm, zero_mulN]; unfold zero; omega
  | N + 1, a => by
    have ih := fs_s b N a
    show add (fs a b (N + 1)) (sc (a (N + 1)) (pw b (N + 1))) = _
    rw [ih, pw_s]
    funext n
    show a 0 * one n + mulN n b (fs (tl a) b N) + a (N + 1) * mulN n b (pw b N) = a 0 * one n + mulN n b (add (fs (tl a) b N) (sc (a (N + 1)) (pw b N)))
    rw [mul_addr, mul_scr]; omega
theorem fs_C (b : S) : ∀ (N : Nat) (a : S), fs a b N = C N a b
  | 0, _ => rfl
  | N + 1, a => by
    rw [fs_s, fs_C b N (tl a)]
    funext n
    show a 0 * one n + mul b (C N (tl a) b) n = (if n = 0 then a 0 else 0) + mul b (C N (tl a) b) n
    unfold one
    by_cases h : n = 0
    · simp [h]
    · simp [h]
theorem fs_cp {b : S} (h : b 0 = 0) {N n : Nat} (hn : n < N) (a : S) : fs a b N n = cp a b n := by
  rw [fs_C, C_cp h hn]
/-- powers below M know the items below M only -/
theorem pw_congr {M : Nat} {b b' : S} (e : ∀ i, i < M → b i = b' i) : ∀ (k i : Nat), i < M → pw b k i = pw b' k i
  | 0, _, _ => rfl
  | k + 1, i, hi => congrN i (fun j hj => pw_congr e k j (by omega)) fun j hj => e j (by omega)
theorem fs_congr {M : Nat} {a a' b b' : S} (ea : ∀ i, i < M → a i = a' i) (e : ∀ i, i < M → b i = b' i) : ∀ (N i : Nat), N ≤ M → i < M → fs a b N i = fs a' b' N i
  | 0, _, _, _ => rfl
  | N + 1, i, hN, hi => by
    show fs a b N i + a N * pw b N i = fs a' b' N i + a' N * pw b' N i
    rw [fs_congr ea e N i (by omega) hi, ea N (by omega), pw_congr e N i hi]
end Ser


set_option linter.all false
namespace Ser
/-! ### the series that is 1 over another; Lagrange's law -/
def ones : S := fun _ => 1
def zz (w : S) : S := add one (sc (-(w 0)) w)
def inv (w : S) : S := sc (w 0) (cp ones (zz w))
theorem zz0 {w : S} (h : w 0 * w 0 = 1) : zz w 0 = 0 := by
  show 1 + -(w 0) * w 0 = 0
  grind
theorem mul_inv {w : S} (h : w 0 * w 0 = 1) : mul w (inv w) = one := by
  have e := cp_fun (zz0 h) ones
  have e2 : tl ones = ones := rfl
  rw [e2] at e
  funext n
  have e3 := congrFun e n
  have z : mul (zz w) (cp ones (zz w)) n = cp ones (zz w) n + -(w 0) * mul w (cp ones (zz w)) n := by
    show mulN n (add one (sc (-(w 0)) w)) _ = _
    rw [mul_addl, mul_scl]
    have := congrFun (one_mul (cp ones (zz w))) n
    show mul one _ n + _ = _
    rw [this]; rfl
  have e3 : cp ones (zz w) n = 1 * one n + mul (zz w) (cp ones (zz w)) n := e3
  unfold inv
  rw [mul_sc]
  show w 0 * mul w (cp ones (zz w)) n = one n
  rw [z] at e3
  grind
theorem inv0 {w : S} (h : w 0 * w 0 = 1) : inv w 0 = w 0 := by
  show w 0 * cp ones (zz w) 0 = w 0
  rw [cp_0 (zz0 h)]
  show w 0 * 1 = w 0
  grind
def DD (w φ : S) : S := add one (mul φ (th w))
theorem u0 (w : S) : mul X w 0 = 0 := mul_low0 (b := X) rfl w
theorem th_X : th X = X := funext fun n => by
  show (n : Int) * X n = X n
  unfold X
  by_cases hn : n = 1
  · subst hn; rfl
  · rw [if_neg hn]; grind
section
variable {w φ : S} (h : mul w φ = one)
include h
theorem th_swap : mul φ (th w) = sc (-1) (mul w (th φ)) := by
  have e : th (mul w φ) = zero := by rw [h, th_one]
  rw [th_mul] at e
  funext n
  have e1 := congrFun e n
  have e2 : mul (th w) φ n + mul w (th φ) n = 0 := e1
  rw [mul_comm (th w) φ] at e2
  show mul φ (th w) n = -1 * mul w (th φ) n
  grind
theorem lagB : ∀ m, mul (pw φ m) (DD w φ) m = if m = 0 then 1 else 0
  | 0 => by
    show mul one (DD w φ) 0 = 1
    rw [one_mul]
    show 1 + φ 0 * (((0 : Nat) : Int) * w 0) = 1
    grind
  | k + 1 => by
    unfold DD
    rw [mul_add, mul_one, th_swap h, mul_sc]
    have e1 : mul (pw φ (k + 1)) (mul w (th φ)) = mul (pw φ k) (th φ) := by
      show mul (mul (pw φ k) φ) (mul w (th φ)) = _
      rw [assoc, ← assoc φ w, mul_comm φ w, h, one_mul]
    rw [e1]
    have e2 := congrFun (th_pw φ k) (k + 1)
    have e2 : ((k + 1 : Nat) : Int) * pw φ (k + 1) (k + 1) = ((k : Int) + 1) * mul (pw φ k) (th φ) (k + 1) := e2
    rw [Int.natCast_add] at e2
    have e3 : pw φ (k + 1) (k + 1) = mul (pw φ k) (th φ) (k + 1) := by
      have : ((k : Int) + ((1 : Nat) : Int)) ≠ 0 := by omega
      exact Int.eq_of_mul_eq_mul_left this e2
    show pw φ (k + 1) (k + 1) + -1 * mul (pw φ k) (th φ) (k + 1) = _
    rw [if_neg (Nat.succ_ne_zero k)]
    omega
theorem lagA : ∀ (n : Nat) (c : S), mulN n (cp c (mul X w)) (mul (pw φ n) (DD w φ)) = c n
  | 0, c => by
    show cp c (mul X w) 0 * mul (pw φ 0) (DD w φ) 0 = c 0
    rw [cp_0 (u0 w), lagB h 0]; simp
  | m + 1, c => by
    rw [cp_fun (u0 w), mul_addl, mul_scl]
    have e1 : mulN (m + 1) one (mul (pw φ (m + 1)) (DD w φ)) = 0 := by
      have := congrFun (one_mul (mul (pw φ (m + 1)) (DD w φ))) (m + 1)
      have e : mulN (m + 1) one (mul (pw φ (m + 1)) (DD w φ)) = mul (pw φ (m + 1)) (DD w φ) (m + 1) := this
      rw [e, lagB h, if_neg (Nat.succ_ne_zero m)]
    rw [e1]
    have e2 : mul (mul (mul X w) (cp (tl c) (mul X w))) (mul (pw φ (m + 1)) (DD w φ)) = mul X (mul (cp (tl c) (mul X w)) (mul (pw φ m) (DD w φ))) := by
      have q : mul w (mul (cp (tl c) (mul X w)) (mul (mul (pw φ m) φ) (DD w φ))) = mul (cp (tl c) (mul X w)) (mul (pw φ m) (DD w φ)) := by
        rw [mul_comm (pw φ m) φ, assoc φ, ← assoc w, mul_comm w, assoc (cp (tl c) (mul X w)) w, ← assoc w φ, h, one_mul]
      rw [assoc X w, assoc X, assoc w]
      show mul X (mul w (mul _ (mul (mul (pw φ m) φ) (DD w φ)))) = _
      rw [q]
    have e3 := congrFun e2 (m + 1)
    rw [X_mul] at e3
    have e3 : mulN (m + 1) (mul (mul X w) (cp (tl c) (mul X w))) (mul (pw φ (m + 1)) (DD w φ)) = mulN m (cp (tl c) (mul X w)) (mul (pw φ m) (DD w φ)) := e3
    rw [e3, lagA m (tl c)]
    show c 0 * 0 + c (m + 1) = c (m + 1)
    grind
theorem th_u : th (mul X w) = mul (mul X w) (DD w φ) := by
  rw [th_mul, th_X]
  unfold DD
  rw [mul_add, mul_one, assoc X w, ← assoc w φ, h, one_mul]
theorem lagC : ∀ (n : Nat) (g : S), th (cp g (mul X w)) n = mul (cp (th g) (mul X w)) (DD w φ) n
  | 0, g => by
    rw [mul0, cp_0 (u0 w)]
    show ((0 : Nat) : Int) * _ = ((0 : Nat) : Int) * g 0 * _
    grind
  | n + 1, g => by
    have e1 : th (cp g (mul X w)) (n + 1) = mul (th (mul X w)) (cp (tl g) (mul X w)) (n + 1) + mul (mul X w) (th (cp (tl g) (mul X w))) (n + 1) := by
      have e : cp g (mul X w) (n + 1) = mul (mul X w) (cp (tl g) (mul X w)) (n + 1) := by
        rw [cp_s (u0 w), mul_low (u0 w)]
      have q := congrFun (th_mul (mul X w) (cp (tl g) (mul X w))) (n + 1)
      have q : ((n + 1 : Nat) : Int) * mul (mul X w) (cp (tl g) (mul X w)) (n + 1) = mul (th (mul X w)) (cp (tl g) (mul X w)) (n + 1) + mul (mul X w) (th (cp (tl g) (mul X w))) (n + 1) := q
      show ((n + 1 : Nat) : Int) * cp g (mul X w) (n + 1) = _
      rw [e, q]
    have e2 : mul (mul X w) (th (cp (tl g) (mul X w))) (n + 1) = mul (mul X w) (mul (cp (th (tl g)) (mul X w)) (DD w φ)) (n + 1) := by
      rw [mul_low (u0 w), mul_low (u0 w)]
      exact congrN n (fun _ _ => rfl) fun i hi => lagC i (tl g)
    have e3 : cp (th g) (mul X w) = mul (mul X w) (add (cp (th (tl g)) (mul X w)) (cp (tl g) (mul X w))) := by
      rw [cp_fun (u0 w), tl_th]
      have a1 : cp (add (th (tl g)) (tl g)) (mul X w) = add (cp (th (tl g)) (mul X w)) (cp (tl g) (mul X w)) := funext fun i => cp_add (u0 w) i _ _
      rw [a1]
      funext i
      show th g 0 * one i + _ = _
      have : th g 0 = 0 := by show ((0 : Nat) : Int) * g 0 = 0; grind
      rw [this]; grind
    rw [e1, e2, e3, th_u h]
    have e4 : mul (mul (mul X w) (add (cp (th (tl g)) (mul X w)) (cp (tl g) (mul X w)))) (DD w φ) = add (mul (mul (mul X w) (DD w φ)) (cp (tl g) (mul X w))) (mul (mul X w) (mul (cp (th (tl g)) (mul X w)) (DD w φ))) := by
      rw [assoc, add_mul, mul_add, assoc (mul X w) (DD w φ), mul_comm (DD w φ)]
      funext i
      show _ + _ = _ + _
      grind
    rw [e4]; rfl
/-- Lagrange -/
theorem lagrange {M : Nat} {g : S} (hg : ∀ i, i < M → cp g (mul X w) i = X i) {n : Nat} (hn : n + 1 < M) : ((n + 1 : Nat) : Int) * g (n + 1) = pw φ (n + 1) n := by
  have a := lagA h (n + 1) (th g)
  have e1 : mulN (n + 1) (cp (th g) (mul X w)) (mul (pw φ (n + 1)) (DD w φ)) = mulN (n + 1) (mul (cp (th g) (mul X w)) (DD w φ)) (pw φ (n + 1)) := by
    have := congrFun (assoc (cp (th g) (mul X w)) (DD w φ) (pw φ (n + 1))) (n + 1)
    rw [mul_comm (pw φ (n + 1))]
    exact this.symm
  have e2 : mulN (n + 1) (mul (cp (th g) (mul X w)) (DD w φ)) (pw φ (n + 1)) = mulN (n + 1) X (pw φ (n + 1)) := congrN (n + 1) (fun i hi => by
    rw [← lagC h i g]
    show (i : Int) * cp g (mul X w) i = X i
    rw [hg i (by omega)]
    exact congrFun (th_X) i) fun _ _ => rfl
  rw [e1, e2] at a
  have e3 : mulN (n + 1) X (pw φ (n + 1)) = pw φ (n + 1) n := X_mul _ _
  rw [e3] at a
  exact a.symm
end
end Ser


set_option linter.all false
namespace Ser
/-! ### the series that undoes another -/
def nextg (u : S) : Nat → S → Int
  | 0, _ => 0
  | 1, _ => u 1
  | n + 2, a => -(cp u a (n + 2)) * u 1
def A (u : S) : Nat → S
  | 0 => zero
  | n + 1 => fun i => if i = n then nextg u n (A u n) else A u n i
def G (u : S) : S := fun i => A u (i + 1) i
theorem A_at (u : S) : ∀ (n i : Nat), A u n i = if i < n then G u i else 0
  | 0, i => by rw [if_neg (Nat.not_lt_zero i)]; rfl
  | n + 1, i => by
    show (if i = n then nextg u n (A u n) else A u n i) = _
    by_cases h : i = n
    · subst h
      rw [if_pos rfl, if_pos (Nat.lt_succ_self i)]
      show _ = (if i = i then nextg u i (A u i) else A u i i)
      rw [if_pos rfl]
    · rw [if_neg h, A_at u n i]
      by_cases h2 : i < n
      · rw [if_pos h2, if_pos (by omega)]
      · rw [if_neg h2, if_neg (by omega)]
theorem G_at (u : S) (n : Nat) : G u n = nextg u n (A u n) := if_pos rfl
theorem G0 (u : S) : G u 0 = 0 := rfl
theorem G1 (u : S) : G u 1 = u 1 := G_at u 1
theorem A0 (u : S) (n : Nat) : A u n 0 = 0 := by
  rw [A_at]
  split <;> rfl
/-- composition knows the items up to the place only -/
theorem cp_loc {b b' : S} (h : b 0 = 0) (h' : b' 0 = 0) {n : Nat} {a a' : S} (e : ∀ i, i ≤ n → b i = b' i) (ea : ∀ i, i ≤ n → a i = a' i) : cp a b n = cp a' b' n :=
  cp_congr h h' (M := n + 1) (fun i hi => e i (by omega)) n a a' (Nat.lt_succ_self n) fun i hi => ea i (by omega)
/-- the newest item counts by the first of the outer series -/
theorem cp_bump {u b b' : S} (h : b 0 = 0) (h' : b' 0 = 0) {n : Nat} (e : ∀ i, i < n + 1 → b i = b' i) : cp u b' (n + 1) = cp u b (n + 1) + u 1 * (b' (n + 1) - b (n + 1)) := by
  rw [cp_s h, cp_s h', comm n (tl b'), comm n (tl b)]
  have hi : ∀ i, i ≤ n → cp (tl u) b' i = cp (tl u) b i := fun i hi => cp_loc h' h (fun j hj => (e j (by omega)).symm) fun _ _ => rfl
  have e0 : cp (tl u) b 0 = u 1 := cp_0 h _
  cases n with
  | zero =>
    show cp (tl u) b' 0 * b' 1 = cp (tl u) b 0 * b 1 + u 1 * (b' 1 - b 1)
    rw [hi 0 (Nat.le_refl _), e0]; grind
  | succ k =>
    show cp (tl u) b' 0 * b' (k + 2) + mulN k (tl (cp (tl u) b')) (tl b') = (cp (tl u) b 0 * b (k + 2) + mulN k (tl (cp (tl u) b)) (tl b)) + u 1 * (b' (k + 2) - b (k + 2))
    rw [hi 0 (Nat.zero_le _), e0]
    have q : mulN k (tl (cp (tl u) b')) (tl b') = mulN k (tl (cp (tl u) b)) (tl b) := congrN k (fun i hi2 => hi (i + 1) (by omega)) fun i hi2 => (e (i + 1) (by omega)).symm
    rw [q]; grind
theorem G_right {u : S} (h0 : u 0 = 0) (h1 : u 1 * u 1 = 1) : ∀ n, cp u (G u) n = X n
  | 0 => by rw [cp_0 (G0 u), h0]; rfl
  | 1 => by
    rw [cp_s (G0 u)]
    show G u 1 * cp (tl u) (G u) 0 = 1
    rw [cp_0 (G0 u), G1]
    exact h1
  | n + 2 => by
    have b := cp_bump (u := u) (A0 u (n + 2)) (G0 u) (n := n + 1) fun i hi => by rw [A_at, if_pos (by omega)]
    rw [b, G_at u (n + 2)]
    have e : A u (n + 2) (n + 2) = 0 := by rw [A_at, if_neg (by omega)]
    show cp u (A u (n + 2)) (n + 2) + u 1 * (-(cp u (A u (n + 2)) (n + 2)) * u 1 - A u (n + 2) (n + 2)) = _
    rw [e]
    have : X (n + 2) = 0 := if_neg (by omega)
    rw [this]
    grind
theorem G_two {u : S} (h0 : u 0 = 0) (h1 : u 1 * u 1 = 1) : G (G u) = u := by
  have a1 : cp u (G u) = X := funext (G_right h0 h1)
  have a2 : cp (G u) (G (G u)) = X := funext (G_right (G0 u) (by rw [G1]; exact h1))
  have e : u = G (G u) := by
    calc u = cp u X := (funext fun n => X_cp u n).symm
      _ = cp u (cp (G u) (G (G u))) := by rw [a2]
      _ = cp (cp u (G u)) (G (G u)) := (funext fun n => cp_assoc (G0 u) (G0 (G u)) n u).symm
      _ = cp X (G (G u)) := by rw [a1]
      _ = G (G u) := funext fun n => cp_X (G0 (G u)) n
  exact e.symm
theorem G_left {u : S} (h0 : u 0 = 0) (h1 : u 1 * u 1 = 1) : cp (G u) u = X := by
  have a2 : cp (G u) (G (G u)) = X := funext (G_right (G0 u) (by rw [G1]; exact h1))
  rwa [G_two h0 h1] at a2
theorem G_uniq {v b : S} (h0 : v 0 = 0) (h1 : v 1 * v 1 = 1) (hb : b 0 = 0) (e : cp v b = X) : b = G v := by
  calc b = cp X b := (funext fun n => cp_X hb n).symm
    _ = cp (cp (G v) v) b := by rw [G_left h0 h1]
    _ = cp (G v) (cp v b) := funext fun n => cp_assoc h0 hb n (G v)
    _ = cp (G v) X := by rw [e]
    _ = G v := funext fun n => X_cp (G v) n
theorem cp1 {a b : S} (h : b 0 = 0) : cp a b 1 = b 1 * a 1 := by
  rw [cp_s h]
  show b 1 * cp (tl a) b 0 = _
  rw [cp_0 h]; rfl
theorem G_comp {a b : S} (ha : a 0 = 0) (ha1 : a 1 * a 1 = 1) (hb : b 0 = 0) (hb1 : b 1 * b 1 = 1) : G (cp a b) = cp (G b) (G a) := by
  refine (G_uniq ?_ ?_ ?_ ?_).symm
  · rw [cp_0 hb, ha]
  · rw [cp1 hb]; grind
  · rw [cp_0 (G0 a)]; rfl
  · have h2 : cp (G b) (G a) 0 = 0 := by rw [cp_0 (G0 a)]; rfl
    calc cp (cp a b) (cp (G b) (G a)) = cp a (cp b (cp (G b) (G a))) := funext fun n => cp_assoc hb h2 n a
      _ = cp a (cp (cp b (G b)) (G a)) := by rw [(funext fun n => cp_assoc (G0 b) (G0 a) n b : cp (cp b (G b)) (G a) = cp b (cp (G b) (G a)))]
      _ = cp a (cp X (G a)) := by rw [(funext (G_right hb hb1) : cp b (G b) = X)]
      _ = cp a (G a) := by rw [(funext fun n => cp_X (G0 a) n : cp X (G a) = G a)]
      _ = X := funext (G_right ha ha1)
theorem X_tl {u : S} (h : u 0 = 0) : mul X (tl u) = u := funext fun n => by
  cases n with
  | zero => rw [mul0, h]; show (0 : Int) * _ = 0; grind
  | succ n => exact X_mul (tl u) n
theorem G_lag {u : S} (h0 : u 0 = 0) (h1 : u 1 * u 1 = 1) (n : Nat) : ((n + 1 : Nat) : Int) * G u (n + 1) = pw (inv (tl u)) (n + 1) n :=
  lagrange (w := tl u) (φ := inv (tl u)) (mul_inv h1) (M := n + 2) (g := G u) (fun i _ => by rw [X_tl h0, G_left h0 h1]) (Nat.lt_succ_self _)
end Ser


set_option linter.all false
namespace Ser
/-! ### sizes: items below powers of two, of the first 32 -/
def MJ (a k : Nat) (f : S) : Prop := ∀ i, i < 32 → (f i).natAbs ≤ 2 ^ (a + k * i)
theorem pow_mono {a b : Nat} (h : a ≤ b) : 2 ^ a ≤ 2 ^ b := Nat.pow_le_pow_right (by decide) h
theorem MJ.weak {a b k l : Nat} {f : S} (h : MJ a k f) (hab : a ≤ b) (hkl : k ≤ l) : MJ b l f := fun i hi =>
  Nat.le_trans (h i hi) (pow_mono (Nat.add_le_add hab (Nat.mul_le_mul_right i hkl)))
theorem mulN_bd {k : Nat} : ∀ (n a b : Nat) (f g : S), (∀ i, i ≤ n → (f i).natAbs ≤ 2 ^ (a + k * i)) → (∀ i, i ≤ n → (g i).natAbs ≤ 2 ^ (b + k * i)) → (mulN n f g).natAbs ≤ (n + 1) * 2 ^ (a + b + k * n)
  | 0, a, b, f, g, hf, hg => by
    show (f 0 * g 0).natAbs ≤ _
    rw [Int.natAbs_mul]
    have h1 := hf 0 (Nat.le_refl _)
    have h2 := hg 0 (Nat.le_refl _)
    have h3 := Nat.mul_le_mul h1 h2
    rw [← Nat.pow_add] at h3
    simpa using h3
  | n + 1, a, b, f, g, hf, hg => by
    show (f 0 * g (n + 1) + mulN n (tl f) g).natAbs ≤ _
    have ih := mulN_bd n (a + k) b (tl f) g (fun i hi => by
      have := hf (i + 1) (by omega)
      rw [Nat.mul_add, Nat.mul_one] at this
      show (f (i + 1)).natAbs ≤ _
      rw [show a + k + k * i = a + (k * i + k) by omega]; exact this) fun i hi => hg i (by omega)
    have h1 := Nat.mul_le_mul (hf 0 (Nat.zero_le _)) (hg (n + 1) (Nat.le_refl _))
    rw [← Nat.pow_add, ← Int.natAbs_mul] at h1
    have e1 : a + k * 0 + (b + k * (n + 1)) = a + b + k * (n + 1) := by omega
    have e2 : a + k + b + k * n = a + b + k * (n + 1) := by rw [Nat.mul_add]; omega
    rw [e1] at h1
    rw [e2] at ih
    refine Nat.le_trans (Int.natAbs_add_le _ _) ?_
    have : (n + 1 + 1) * 2 ^ (a + b + k * (n + 1)) = 2 ^ (a + b + k * (n + 1)) + (n + 1) * 2 ^ (a + b + k * (n + 1)) := by
      rw [Nat.add_mul (n + 1) 1, Nat.one_mul]; omega
    omega
theorem MJ.mul {a b k : Nat} {f g : S} (hf : MJ a k f) (hg : MJ b k g) : MJ (a + b + 5) k (mul f g) := fun n hn => by
  refine Nat.le_trans (mulN_bd n a b f g (fun i hi => hf i (by omega)) fun i hi => hg i (by omega)) ?_
  have h1 : (n + 1) * 2 ^ (a + b + k * n) ≤ 2 ^ 5 * 2 ^ (a + b + k * n) := Nat.mul_le_mul_right _ (by omega)
  rw [← Nat.pow_add] at h1
  rw [show a + b + 5 + k * n = 5 + (a + b + k * n) by omega]
  exact h1
theorem MJ.one (k : Nat) : MJ 0 k one := fun i _ => by
  unfold Ser.one
  split
  · exact Nat.one_le_two_pow
  · exact Nat.zero_le _
theorem MJ.pw {a k : Nat} {f : S} (hf : MJ a k f) : ∀ j, MJ (j * (a + 5)) k (pw f j)
  | 0 => by rw [Nat.zero_mul]; exact MJ.one k
  | j + 1 => by
    have := (MJ.pw hf j).mul hf
    rw [Nat.add_mul, Nat.one_mul]
    exact this.weak (by omega) (Nat.le_refl _)
theorem inv_rec {w : S} (h : w 0 * w 0 = 1) (n : Nat) : inv w (n + 1) = -(w 0) * mulN n (tl w) (inv w) := by
  have e := congrFun (mul_inv h) (n + 1)
  have e : w 0 * inv w (n + 1) + mulN n (tl w) (inv w) = 0 := e
  grind
theorem mulN_20 : ∀ (n : Nat) (f φ : S), (∀ i, i ≤ n → (f i).natAbs ≤ 2 ^ 20) → (∀ i, i ≤ n → (φ i).natAbs ≤ 2 ^ (21 * i)) → (mulN n f φ).natAbs ≤ 2 ^ (21 * n + 21)
  | 0, f, φ, hf, hp => by
    show (f 0 * φ 0).natAbs ≤ _
    rw [Int.natAbs_mul]
    have := Nat.mul_le_mul (hf 0 (Nat.le_refl _)) (hp 0 (Nat.le_refl _))
    refine Nat.le_trans this ?_
    decide
  | n + 1, f, φ, hf, hp => by
    show (f 0 * φ (n + 1) + mulN n (tl f) φ).natAbs ≤ _
    have ih := mulN_20 n (tl f) φ (fun i hi => hf (i + 1) (by omega)) fun i hi => hp i (by omega)
    have h1 := Nat.mul_le_mul (hf 0 (Nat.zero_le _)) (hp (n + 1) (Nat.le_refl _))
    rw [← Int.natAbs_mul] at h1
    refine Nat.le_trans (Int.natAbs_add_le _ _) ?_
    rw [show 21 * n + 21 = 21 * (n + 1) by omega] at ih
    have e : 2 ^ (21 * (n + 1) + 21) = 2 ^ 21 * 2 ^ (21 * (n + 1)) := by rw [← Nat.pow_add]; congr 1; omega
    rw [e]
    have h2 : 2 ^ 20 * 2 ^ (21 * (n + 1)) + 2 ^ (21 * (n + 1)) ≤ 2 ^ 21 * 2 ^ (21 * (n + 1)) := by
      have : 2 ^ 20 * 2 ^ (21 * (n + 1)) + 2 ^ (21 * (n + 1)) = (2 ^ 20 + 1) * 2 ^ (21 * (n + 1)) := by rw [Nat.add_mul, Nat.one_mul]
      rw [this]
      exact Nat.mul_le_mul_right _ (by decide)
    omega
theorem abs_unit {x : Int} (h : x * x = 1) : x.natAbs = 1 := by
  have := congrArg Int.natAbs h
  rw [Int.natAbs_mul] at this
  exact Nat.eq_one_of_mul_eq_one_left this
theorem inv_bd {w : S} (h : w 0 * w 0 = 1) (hw : ∀ i, i < 33 → (w i).natAbs ≤ 2 ^ 20) : ∀ n, n < 32 → (inv w n).natAbs ≤ 2 ^ (21 * n) := by
  intro n
  induction n using Nat.strongRecOn with
  | _ n ih =>
    intro hn
    cases n with
    | zero => rw [inv0 h, abs_unit h]; exact Nat.one_le_two_pow
    | succ n =>
      rw [inv_rec h, Int.natAbs_mul, Int.natAbs_neg, abs_unit h, Nat.one_mul]
      have := mulN_20 n (tl w) (inv w) (fun i hi => hw (i + 1) (by omega)) fun i hi => ih i (by omega) (by omega)
      rw [show 21 * (n + 1) = 21 * n + 21 by omega]
      exact this
theorem MJ.inv {w : S} (h : w 0 * w 0 = 1) (hw : ∀ i, i < 33 → (w i).natAbs ≤ 2 ^ 20) : MJ 0 21 (inv w) := fun n hn => by
  rw [Nat.zero_add]; exact inv_bd h hw n hn
/-- rows of our law -/
structure Row (u : S) : Prop where
  z : u 0 = 0
  o : u 1 * u 1 = 1
  b : ∀ i, (u i).natAbs ≤ 2 ^ 20
theorem Row.inv {u : S} (h : Row u) : MJ 0 21 (inv (tl u)) := MJ.inv h.o fun i _ => h.b (i + 1)
theorem Row.G {u : S} (h : Row u) : MJ 0 26 (G u) := fun n hn => by
  cases n with
  | zero => rw [G0]; exact Nat.zero_le _
  | succ n =>
    have e := G_lag h.z h.o n
    have e2 := congrArg Int.natAbs e
    rw [Int.natAbs_mul, Int.natAbs_natCast] at e2
    have b := (h.inv.pw (n + 1)) n (by omega)
    rw [← e2] at b
    have : (Ser.G u (n + 1)).natAbs ≤ (n + 1) * (Ser.G u (n + 1)).natAbs := Nat.le_mul_of_pos_left _ (Nat.succ_pos n)
    refine Nat.le_trans this (Nat.le_trans b (pow_mono ?_))
    omega
theorem Row.A {u : S} (h : Row u) (n : Nat) : MJ 0 26 (A u n) := fun i hi => by
  rw [A_at]
  split
  · exact h.G i hi
  · exact Nat.zero_le _
theorem Row.cpA {u : S} (h : Row u) (n : Nat) (hn : n + 2 < 32) : (cp u (Ser.A u (n + 2)) (n + 2)).natAbs ≤ 2 ^ (26 * (n + 2)) := by
  have e := congrArg Int.natAbs (G_at u (n + 2))
  have e : (Ser.G u (n + 2)).natAbs = (-(cp u (Ser.A u (n + 2)) (n + 2)) * u 1).natAbs := e
  rw [Int.natAbs_mul, Int.natAbs_neg, abs_unit h.o, Nat.mul_one] at e
  rw [← e]
  have := h.G (n + 2) hn
  rwa [Nat.zero_add] at this
/-- inverses are alone -/
theorem inv_uniq {M : Nat} {w f : S} (h : w 0 * w 0 = 1) (e : ∀ i, i < M → mul w f i = one i) : ∀ i, i < M → f i = inv w i := fun i hi => by
  have a1 : mul (inv w) (mul w f) i = mul (inv w) one i := congrN i (fun _ _ => rfl) fun j hj => e j (by omega)
  rw [mul_one, ← assoc, mul_comm (inv w) w, mul_inv h, one_mul] at a1
  exact a1
end Ser
namespace Ser
theorem fs_bd {a b : S} {E n : Nat} : ∀ N, (∀ j, j < N → (a j).natAbs * (pw b j n).natAbs ≤ 2 ^ E) → (fs a b N n).natAbs ≤ N * 2 ^ E
  | 0, _ => by show (0 : Int).natAbs ≤ _; simp
  | N + 1, h => by
    show (fs a b N n + a N * pw b N n).natAbs ≤ _
    have ih := fs_bd N fun j hj => h j (by omega)
    have h1 := h N (Nat.lt_succ_self N)
    rw [← Int.natAbs_mul] at h1
    have := Int.natAbs_add_le (fs a b N n) (a N * pw b N n)
    rw [Nat.add_mul, Nat.one_mul]
    omega
theorem cp_bd {a b : S} {p q k n : Nat} (hn : n < 32) (h0 : b 0 = 0) (ha : ∀ j, j ≤ n → (a j).natAbs ≤ 2 ^ (p + k * j)) (hb : MJ q k b) : (cp a b n).natAbs ≤ 2 ^ (p + (k + q + 5) * n + 5 + k * n) := by
  rw [← fs_cp h0 (Nat.lt_succ_self n)]
  have h1 : (fs a b (n + 1) n).natAbs ≤ (n + 1) * 2 ^ (p + (k + q + 5) * n + k * n) := fs_bd (n + 1) fun j hj => by
    have e := Nat.mul_le_mul (ha j (by omega)) ((hb.pw j) n hn)
    rw [← Nat.pow_add] at e
    refine Nat.le_trans e (pow_mono ?_)
    have h2 : (k + q + 5) * j ≤ (k + q + 5) * n := Nat.mul_le_mul_left _ (by omega)
    have h3 : (k + q + 5) * j = k * j + j * (q + 5) := by rw [Nat.add_assoc, Nat.add_mul, Nat.mul_comm (q + 5) j]
    omega
  refine Nat.le_trans h1 ?_
  have h2 : (n + 1) * 2 ^ (p + (k + q + 5) * n + k * n) ≤ 2 ^ 5 * 2 ^ (p + (k + q + 5) * n + k * n) := Nat.mul_le_mul_right _ (by omega)
  rw [← Nat.pow_add] at h2
  refine Nat.le_trans h2 (pow_mono (by omega))
end Ser


set_option linter.all false
set_option maxRecDepth 10000
namespace Ser
/-! ### square roots -/
def inn (f : S) (n : Nat) : Int := ((List.range (n - 1)).map fun j => f (j + 1) * f (n - 1 - j)).sum
def lft (q f : S) (n : Nat) : Int := q n - inn f n
def nextr (q : S) : Nat → S → Int
  | 0, _ => 1
  | n + 1, b => lft q b (n + 1) / 2
def B (q : S) : Nat → S
  | 0 => zero
  | n + 1 => fun i => if i = n then nextr q n (B q n) else B q n i
def T (q : S) : S := fun i => B q (i + 1) i
theorem B_at (q : S) : ∀ (n i : Nat), i < n → B q n i = T q i
  | 0, i, h => absurd h (Nat.not_lt_zero i)
  | n + 1, i, h => by
    show (if i = n then nextr q n (B q n) else B q n i) = _
    by_cases e : i = n
    · subst e
      rw [if_pos rfl]
      show _ = (if i = i then nextr q i (B q i) else B q i i)
      rw [if_pos rfl]
    · rw [if_neg e]
      exact B_at q n i (by omega)
theorem inn_congr {f g : S} {n : Nat} (h : ∀ i, i < n → f i = g i) : inn f n = inn g n := by
  unfold inn
  congr 1
  apply List.map_congr_left
  intro j hj
  have := List.mem_range.mp hj
  rw [h (j + 1) (by omega), h (n - 1 - j) (by omega)]
theorem T0 (q : S) : T q 0 = 1 := rfl
theorem T_at (q : S) (n : Nat) : T q (n + 1) = lft q (T q) (n + 1) / 2 := by
  show (if n + 1 = n + 1 then lft q (B q (n + 1)) (n + 1) / 2 else _) = _
  rw [if_pos rfl]
  unfold lft
  rw [inn_congr fun i hi => B_at q (n + 1) i hi]
theorem sum_tl (p : Nat) (f : S) (h : f 0 = 1) : mul f f (p + 1) = 2 * f (p + 1) + inn f (p + 1) := by
  have key : ∀ (n : Nat) (a b : S), ((List.range (n + 1)).map fun i => a i * b (n - i)).sum = mulN n a b := by
    intro n
    induction n with
    | zero => intro a b; simp [mulN]
    | succ n ih =>
      intro a b
      rw [List.range_succ_eq_map, List.map_cons, List.sum_cons, List.map_map]
      have := ih (tl a) b
      rw [mulN, ← this]
      congr 2
      apply List.map_congr_left
      intro i hi
      show a (i + 1) * b (n + 1 - (i + 1)) = tl a i * b (n - i)
      rw [show n + 1 - (i + 1) = n - i by omega]
      rfl
  have e := key p (tl f) f
  rw [List.range_succ, List.map_append, List.sum_append] at e
  show f 0 * f (p + 1) + mulN p (tl f) f = _
  rw [← e, h]
  unfold inn
  simp only [List.map_cons, List.map_nil, List.sum_cons, List.sum_nil, Nat.sub_self, Nat.add_sub_cancel]
  show _ + (((List.range p).map fun j => tl f j * f (p - j)).sum + (f (p + 1) * f 0 + 0)) = _
  have e2 : ((List.range p).map fun j => tl f j * f (p - j)).sum = ((List.range p).map fun j => f (j + 1) * f (p - j)).sum := rfl
  rw [e2, h]
  omega
/-- the root of a square is the root -/
theorem T_sq {r q : S} {M : Nat} (h0 : r 0 = 1) (hq : ∀ i, i < M → q i = mul r r i) : ∀ n, n < M → T q n = r n ∧ (1 ≤ n → lft q (T q) n = 2 * r n) := by
  intro n
  induction n using Nat.strongRecOn with
  | _ n ih =>
    intro hn
    cases n with
    | zero => exact ⟨by rw [T0, h0], fun h => absurd h (by decide)⟩
    | succ p =>
      have e : lft q (T q) (p + 1) = 2 * r (p + 1) := by
        unfold lft
        rw [inn_congr fun i hi => (ih i hi (by omega)).1, hq (p + 1) hn, sum_tl p r h0]
        omega
      exact ⟨by rw [T_at, e]; omega, fun _ => e⟩
theorem inn_bd {f : S} {X : Nat} {n : Nat} (h : ∀ i, i < n - 1 → (f (i + 1) * f (n - 1 - i)).natAbs * 256 ≤ X) : (inn f n).natAbs * 256 ≤ (n - 1) * X := by
  unfold inn
  have key : ∀ m, m ≤ n - 1 → (((List.range m).map fun j => f (j + 1) * f (n - 1 - j)).sum).natAbs * 256 ≤ m * X := by
    intro m
    induction m with
    | zero => intro _; simp
    | succ m ih =>
      intro hm
      have i1 := ih (by omega)
      have i2 := h m (by omega)
      rw [List.range_succ, List.map_append, List.sum_append]
      simp only [List.map_cons, List.map_nil, List.sum_cons, List.sum_nil, Int.add_zero]
      have := Int.natAbs_add_le ((List.range m).map fun j => f (j + 1) * f (n - 1 - j)).sum (f (m + 1) * f (n - 1 - m))
      rw [Nat.add_mul, Nat.one_mul]
      omega
  exact key (n - 1) (Nat.le_refl _)
theorem T_bd {q : S} (hq : ∀ i, (q i).natAbs ≤ 2 ^ 46) : ∀ n, 1 ≤ n → n < 16 → (T q n).natAbs * 16 ≤ 2 ^ (52 * n) := by
  intro n
  induction n using Nat.strongRecOn with
  | _ n ih =>
    intro h1 h2
    obtain ⟨p, rfl⟩ : ∃ p, n = p + 1 := ⟨n - 1, by omega⟩
    rw [T_at]
    have hin := inn_bd (f := T q) (X := 2 ^ (52 * (p + 1))) (n := p + 1) fun i hi => by
      have a := ih (i + 1) (by omega) (by omega) (by omega)
      have b := ih (p + 1 - 1 - i) (by omega) (by omega) (by omega)
      have := Nat.mul_le_mul a b
      rw [← Nat.pow_add, show 52 * (i + 1) + 52 * (p + 1 - 1 - i) = 52 * (p + 1) by omega] at this
      rw [Int.natAbs_mul]
      have e : (T q (i + 1)).natAbs * 16 * ((T q (p + 1 - 1 - i)).natAbs * 16) = (T q (i + 1)).natAbs * (T q (p + 1 - 1 - i)).natAbs * 256 := by
        rw [Nat.mul_mul_mul_comm]
      omega
    have hq1 := hq (p + 1)
    have hX : 2 ^ 52 ≤ 2 ^ (52 * (p + 1)) := pow_mono (by omega)
    generalize 2 ^ (52 * (p + 1)) = X at *
    unfold lft
    have hp : (p + 1 - 1) * X ≤ 14 * X := Nat.mul_le_mul_right X (by omega)
    generalize hI : inn (T q) (p + 1) = I at *
    have e46 : (2 : Nat) ^ 46 = 70368744177664 := by decide
    have e52 : (2 : Nat) ^ 52 = 4503599627370496 := by decide
    generalize q (p + 1) = Q at *
    omega
end Ser


set_option Elab.async false
set_option linter.all false
set_option maxRecDepth 100000
set_option maxHeartbeats 1000000
namespace Sm
open PySem L2 Ser

/-! ### running the plain functions -/
theorem bind_ok {α β : Type} (a : α) (S : Store) (k : α → Store → R β) : (R.ok a S).bind k = k a S := rfl
theorem bind_exc {α β : Type} (x : Xd) (S : Store) (k : α → Store → R β) : (R.exc x S : R α).bind k = .exc x S := rfl
theorem toS_ok {α : Type} (ρ : Envm) (a : α) (S : Store) (k : α → Store → RS) : toS ρ (.ok a S) k = k a S := rfl
theorem toS_exc {α : Type} (ρ : Envm) (x : Xd) (S : Store) (k : α → Store → RS) : toS ρ (.exc x S : R α) k = .exc x ρ S := rfl
section
variable {ρ : Envm} {S S1 S2 : Store}
theorem v_V {i : Nat} {d : D} (h : ρ[i]? = some (some d)) : eV i ρ S = .ok d S := by unfold eV; rw [h]
theorem v_O2 {g : Store → D → D → Option D} {fa fb : F D} {a b d : D} (h1 : fa ρ S = .ok a S1) (h2 : fb ρ S1 = .ok b S2) (h : g S2 a b = some d) : eO2 g fa fb ρ S = .ok d S2 := by
  unfold eO2; rw [h1, bind_ok, h2, bind_ok, h]
theorem v_O1 {g : Store → D → Option D} {fa : F D} {a d : D} (h1 : fa ρ S = .ok a S1) (h : g S1 a = some d) : eO1 g fa ρ S = .ok d S1 := by
  unfold eO1; rw [h1, bind_ok, h]
theorem v_B {g : Store → List D → Option D} {fs : F (List D)} {as : List D} {d : D} (h1 : fs ρ S = .ok as S1) (h : g S1 as = some d) : eB g fs ρ S = .ok d S1 := by
  unfold eB; rw [h1, bind_ok, h]
theorem v_aN : aN ρ S = .ok [] S := rfl
theorem v_aC {fa : F D} {fr : F (List D)} {d : D} {ds : List D} (h1 : fa ρ S = .ok d S1) (h2 : fr ρ S1 = .ok ds S2) : aC fa fr ρ S = .ok (d :: ds) S2 := by
  unfold aC; rw [h1, bind_ok, h2, bind_ok]
theorem v_L {f : F (List D)} {ds : List D} (h : f ρ S = .ok ds S1) : eL f ρ S = .ok (.lst ds) S1 := by unfold eL; rw [h]; rfl
theorem v_N {f : F (List D)} {ds : List D} (h : f ρ S = .ok ds S1) : eN f ρ S = .ok (.ptr S1.length) (S1 ++ [O.lst ds]) := by unfold eN; rw [h]; rfl
theorem v_lD {f : F (List D)} {ds : List D} (h : f ρ S = .ok ds S1) (hl : ds.length ≤ 100000) : lD f ρ S = .ok ds S1 := by unfold lD; rw [h, bind_ok, if_pos hl]
theorem v_T {f : F (List D)} {ds : List D} (h : f ρ S = .ok ds S1) (hl : ds.length ≤ 100000) : eT f ρ S = .ok (.tup ds) S1 := by unfold eT; rw [h, bind_ok, if_pos hl]
theorem v_If {ft : F Bool} {fa fb : F D} {b : Bool} (h : ft ρ S = .ok b S1) : eIf ft fa fb ρ S = if b then fa ρ S1 else fb ρ S1 := by unfold eIf; rw [h, bind_ok]
theorem v_tV {f : F D} {b : Bool} (h : f ρ S = .ok (.bl b) S1) : tV f ρ S = .ok b S1 := by unfold tV; rw [h, bind_ok]
theorem v_tNo {f : F Bool} {b : Bool} (h : f ρ S = .ok b S1) : tNo f ρ S = .ok (!b) S1 := by unfold tNo; rw [h, bind_ok]
theorem v_tAn {f g : F Bool} {b : Bool} (h : f ρ S = .ok b S1) : tAn f g ρ S = if b then g ρ S1 else .ok false S1 := by unfold tAn; rw [h, bind_ok]
theorem v_tOr {f g : F Bool} {b : Bool} (h : f ρ S = .ok b S1) : tOr_ f g ρ S = if b then .ok true S1 else g ρ S1 := by unfold tOr_; rw [h, bind_ok]
theorem v_An {f g : F D} {b : Bool} (h : f ρ S = .ok (.bl b) S1) : eAn f g ρ S = if b then g ρ S1 else .ok (.bl false) S1 := by unfold eAn; rw [h, bind_ok]
theorem v_lO2 {g : Store → D → D → Option (List D)} {fa fb : F D} {a b : D} {ds : List D} (h1 : fa ρ S = .ok a S1) (h2 : fb ρ S1 = .ok b S2) (h : g S2 a b = some ds) : lO2 g fa fb ρ S = .ok ds S2 := by
  unfold lO2; rw [h1, bind_ok, h2, bind_ok, h]
theorem v_lB {g : Store → List D → Option (List D)} {fs : F (List D)} {as ds : List D} (h1 : fs ρ S = .ok as S1) (h : g S1 as = some ds) : lB g fs ρ S = .ok ds S1 := by
  unfold lB; rw [h1, bind_ok, h]
theorem v_F {np : Nat} {m : List D → Store → R D} {fs : F (List D)} {as : List D} (h1 : fs ρ S = .ok as S1) (hl : as.length = np) : eF np m fs ρ S = m as S1 := by
  unfold eF; rw [h1, bind_ok, if_pos hl]
theorem v_Fk {np nk : Nat} {ix : List Nat} {m : List D → Store → R D} {fk : F (List D)} {b : List D} (h1 : fk ρ S = .ok b S1) (hl : b.length = nk) (hx : ix.length = np) : eFk np ix 0 nk m aN fk ρ S = m (pkD ix [] b) S1 := by
  unfold eFk
  rw [v_aN, bind_ok, h1, bind_ok, if_pos ⟨rfl, hl, hx⟩]
theorem v_M {c : Store → D → Bool} {g : Store → D → List D → Option (D × Store)} {fo : F D} {fa : F (List D)} {o d : D} {as : List D} {S3 : Store} (h1 : fo ρ S = .ok o S1) (hc : c S1 o = true) (h2 : fa ρ S1 = .ok as S2) (h : g S2 o as = some (d, S3)) : eM c g fo fa ρ S = .ok d S3 := by
  unfold eM; rw [h1, bind_ok, if_pos hc, h2, bind_ok, h]
theorem v_Sl {f : F D} {lo hi : F (Option Int)} {ds : List D} {l h : Option Int} {S3 : Store} (h1 : f ρ S = .ok (.tup ds) S1) (h2 : lo ρ S1 = .ok l S2) (h3 : hi ρ S2 = .ok h S3) : eSl f lo hi ρ S = .ok (.tup (cutD ds l h)) S3 := by
  unfold eSl; rw [h1, bind_ok, h2, bind_ok, h3, bind_ok]
theorem v_oN : oN ρ S = .ok none S := rfl
theorem v_oS {f : F D} {i : Int} (h : f ρ S = .ok (.int i) S1) : oS f ρ S = .ok (some i) S1 := by unfold oS; rw [h, bind_ok]
theorem v_R1 {fa : F (List D)} {j : Int} (h : fa ρ S = .ok [.int j] S1) (h1 : -100000 ≤ j) (h2 : j ≤ 100000) : iR1 fa ρ S = .ok (rngD 0 j.toNat) S1 := by
  unfold iR1; rw [h, bind_ok]
  simp only [decide_eq_true h1, decide_eq_true h2, Bool.and_true, if_true]
theorem v_R2 {fa : F (List D)} {i j : Int} (h : fa ρ S = .ok [.int i, .int j] S1) (h1 : -100000 ≤ j) (h2 : j ≤ 100000) (h3 : -100000 ≤ i) (h4 : i ≤ 100000) : iR2 fa ρ S = .ok (rngD i (j - i).toNat) S1 := by
  unfold iR2; rw [h, bind_ok]
  simp only [decide_eq_true h1, decide_eq_true h2, decide_eq_true h3, decide_eq_true h4, Bool.and_true, if_true]
theorem v_iSeq {f : F D} {d : D} {ds : List D} (h : f ρ S = .ok d S1) (hd : seqV d = some ds) : iSeq f ρ S = .ok ds S1 := by
  unfold iSeq; rw [h, bind_ok]
  cases d <;> first | (cases hd; rfl) | cases hd
theorem v_lC {vs : List Nat} {τ : Tg} {fi : F (List D)} {ft : F Bool} {fe : F D} {xs : List D} (h : fi ρ S = .ok xs S1) : lC vs τ fi ft fe ρ S = compL τ ft fe xs (wipeE ρ vs) S1 := by unfold lC; rw [h, bind_ok]
-- statements
theorem w_Seq {g1 g2 : G} {ρ' : Envm} (h : g1 ρ S = .nx ρ' S1) : gSeq g1 g2 ρ S = g2 ρ' S1 := by unfold gSeq; rw [h]
theorem w_SeqR {g1 g2 : G} {d : D} (h : g1 ρ S = .rt d S1) : gSeq g1 g2 ρ S = .rt d S1 := by unfold gSeq; rw [h]
theorem w_SeqX {g1 g2 : G} {x : Xd} {ρ' : Envm} (h : g1 ρ S = .exc x ρ' S1) : gSeq g1 g2 ρ S = .exc x ρ' S1 := by unfold gSeq; rw [h]
theorem w_A {i : Nat} {f : F D} {d : D} (h : f ρ S = .ok d S1) : gA i f ρ S = .nx (ρ.set i (some d)) S1 := by unfold gA; rw [h, toS_ok]
theorem w_P {i j : Nat} {fs : F (List D)} {d e : D} (h : fs ρ S = .ok [d, e] S1) : gP i j fs ρ S = .nx ((ρ.set i (some d)).set j (some e)) S1 := by unfold gP; rw [h, toS_ok]
theorem w_R {f : F D} {d : D} (h : f ρ S = .ok d S1) : gR f ρ S = .rt d S1 := by unfold gR; rw [h, toS_ok]
theorem w_X {f : F D} {d : D} (h : f ρ S = .ok d S1) : gX f ρ S = .nx ρ S1 := by unfold gX; rw [h, toS_ok]
theorem w_I {ft : F Bool} {g1 g2 : G} {b : Bool} (h : ft ρ S = .ok b S1) : gI ft g1 g2 ρ S = if b then g1 ρ S1 else g2 ρ S1 := by unfold gI; rw [h, toS_ok]
theorem w_F {τ : Tg} {fi : F (List D)} {g : G} {xs : List D} (h : fi ρ S = .ok xs S1) : gF τ fi g ρ S = loopL τ g xs ρ S1 := by unfold gF; rw [h, toS_ok]
theorem w_T {τ : Tg} {f : F D} {d : D} {ρ' : Envm} (h : f ρ S = .ok d S1) (ht : τ d ρ = some ρ') : gT τ f ρ S = .nx ρ' S1 := by
  unfold gT; rw [h, toS_ok]
  simp only [ht]
end
/-- a walk over a range, its items -/
theorem loop_inv {τ : Tg} {g : G} (P : Nat → Envm → Store → Prop) : ∀ (xs : List D) (k : Nat) (ρ : Envm) (S : Store), P k ρ S →
    (∀ i ρ S x, xs[i]? = some x → P (k + i) ρ S → ∃ ρ1 ρ2 S2, τ x ρ = some ρ1 ∧ g ρ1 S = .nx ρ2 S2 ∧ P (k + i + 1) ρ2 S2) → ∃ ρ2 S2, loopL τ g xs ρ S = .nx ρ2 S2 ∧ P (k + xs.length) ρ2 S2
  | [], k, ρ, S, h, _ => ⟨ρ, S, rfl, h⟩
  | x :: xs, k, ρ, S, h, st => by
    obtain ⟨ρ1, ρ2, S2, e1, e2, p⟩ := st 0 ρ S x rfl h
    obtain ⟨ρ3, S3, e3, p3⟩ := loop_inv P xs (k + 1) ρ2 S2 p fun i ρ S y hy hp => by
      obtain ⟨a, b, c, q1, q2, q3⟩ := st (i + 1) ρ S y (by simpa using hy) (by rw [show k + (i + 1) = k + 1 + i by omega]; exact hp)
      exact ⟨a, b, c, q1, q2, by rw [show k + 1 + i + 1 = k + (i + 1) + 1 by omega]; exact q3⟩
    refine ⟨ρ3, S3, ?_, by rw [List.length_cons, show k + (xs.length + 1) = k + 1 + xs.length by omega]; exact p3⟩
    simp only [loopL, e1, e2]
    exact e3
theorem rng_get {lo : Int} {n i : Nat} {x : D} (h : (rngD lo n)[i]? = some x) : i < n ∧ x = .int (lo + (i : Int)) := by
  unfold rngD at h
  rw [List.getElem?_map] at h
  by_cases hi : i < n
  · rw [List.getElem?_range hi] at h
    cases h
    exact ⟨hi, rfl⟩
  · rw [List.getElem?_eq_none (by simpa using hi)] at h
    cases h
theorem rng_len (lo : Int) (n : Nat) : (rngD lo n).length = n := by simp [rngD]
theorem loop_rng {τ : Tg} {g : G} (P : Nat → Envm → Store → Prop) (lo : Int) (n : Nat) (ρ : Envm) (S : Store) (h0 : P 0 ρ S)
    (st : ∀ i ρ S, i < n → P i ρ S → ∃ ρ1 ρ2 S2, τ (.int (lo + (i : Int))) ρ = some ρ1 ∧ g ρ1 S = .nx ρ2 S2 ∧ P (i + 1) ρ2 S2) : ∃ ρ2 S2, loopL τ g (rngD lo n) ρ S = .nx ρ2 S2 ∧ P n ρ2 S2 := by
  obtain ⟨a, b, e, p⟩ := loop_inv (τ := τ) (g := g) P (rngD lo n) 0 ρ S h0 fun i ρ S x hx hp => by
    obtain ⟨hi, rfl⟩ := rng_get hx
    rw [Nat.zero_add] at hp ⊢
    exact st i ρ S hi hp
  rw [rng_len, Nat.zero_add] at p
  exact ⟨a, b, e, p⟩
/-- a comprehension whose items leave the store as it is -/
theorem comp_all {τ : Tg} {fe : F D} {ρ : Envm} {S : Store} (h : D → D) : ∀ (xs : List D), xs.length ≤ 100000 → (∀ x, x ∈ xs → ∃ ρ1, τ x ρ = some ρ1 ∧ fe ρ1 S = .ok (h x) S) → compL τ tAll fe xs ρ S = .ok (xs.map h) S
  | [], _, _ => rfl
  | x :: xs, hl, st => by
    obtain ⟨ρ1, e1, e2⟩ := st x List.mem_cons_self
    have ih := comp_all h xs (by simp at hl; omega) fun y hy => st y (List.mem_cons_of_mem _ hy)
    have hl2 : (xs.map h).length ≤ 100000 := by simp at hl ⊢; omega
    simp only [compL, e1, tAll, noX, bind_ok, if_true, e2, ih, if_pos hl2, List.map_cons]
theorem comp_rng {τ : Tg} {fe : F D} {ρ : Envm} {S : Store} (h : Nat → D) (lo : Int) (n : Nat) (hn : n ≤ 100000) (st : ∀ i, i < n → ∃ ρ1, τ (.int (lo + (i : Int))) ρ = some ρ1 ∧ fe ρ1 S = .ok (h i) S) : compL τ tAll fe (rngD lo n) ρ S = .ok ((List.range n).map h) S := by
  have key : ∀ (l : List Nat), l.length ≤ 100000 → (∀ i, i ∈ l → i < n) → compL τ tAll fe (l.map fun i : Nat => D.int (lo + (i : Int))) ρ S = .ok (l.map h) S := by
    intro l
    induction l with
    | nil => intro _ _; rfl
    | cons i l ih =>
      intro hl hm
      obtain ⟨ρ1, e1, e2⟩ := st i (hm i List.mem_cons_self)
      have ih := ih (by simp at hl; omega) fun j hj => hm j (List.mem_cons_of_mem _ hj)
      have hl2 : (l.map h).length ≤ 100000 := by simp at hl ⊢; omega
      simp only [List.map_cons, compL, e1, tAll, noX, bind_ok, if_true, e2, ih, if_pos hl2]
  exact key (List.range n) (by simpa using hn) fun i hi => List.mem_range.mp hi

/-! ### rows of whole numbers -/
/-- the first M items of a series, as data -/
def LI (M : Nat) (f : S) : List D := (List.range M).map fun i => D.int (f i)
theorem LI_len (M : Nat) (f : Ser.S) : (LI M f).length = M := by simp [LI]
theorem LI_get {M : Nat} {f : Ser.S} {i : Nat} (h : i < M) : (LI M f)[i]? = some (.int (f i)) := by
  unfold LI
  rw [List.getElem?_map, List.getElem?_range h]; rfl
theorem LI_congr {M : Nat} {f g : Ser.S} (h : ∀ i, i < M → f i = g i) : LI M f = LI M g := by
  unfold LI
  exact List.map_congr_left fun i hi => by rw [h i (List.mem_range.mp hi)]
theorem LI_snoc (M : Nat) (f : Ser.S) : LI (M + 1) f = LI M f ++ [.int (f M)] := by
  unfold LI
  rw [List.range_succ, List.map_append]; rfl
theorem LI_cons (M : Nat) (f : Ser.S) : LI (M + 1) f = .int (f 0) :: LI M (tl f) := by
  unfold LI
  rw [List.range_succ_eq_map, List.map_cons, List.map_map]; rfl
theorem LI_take {M N : Nat} (f : Ser.S) (h : N ≤ M) : (LI M f).take N = LI N f := by
  unfold LI
  rw [← List.map_take, List.take_range, Nat.min_eq_left h]
theorem LI_ints (M : Nat) (f : Ser.S) : intsD (LI M f) = some ((List.range M).map f) := by
  have key : ∀ l : List Nat, intsD (l.map fun i => D.int (f i)) = some (l.map f) := by
    intro l
    induction l with
    | nil => rfl
    | cons a l ih => simp only [List.map_cons, intsD, ih]; rfl
  exact key _
/-- any list of whole numbers is such a row -/
def at_ (xs : List Int) : Ser.S := fun i => xs.getD i 0
theorem LI_at (xs : List Int) : LI xs.length (at_ xs) = xs.map .int := by
  apply List.ext_getElem?
  intro i
  by_cases h : i < xs.length
  · rw [LI_get h, List.getElem?_map, List.getElem?_eq_getElem h]
    simp [at_, h]
  · rw [List.getElem?_eq_none (by rw [LI_len]; omega), List.getElem?_eq_none (by simpa using h)]
theorem atI_nat {α : Type} {xs : List α} {i : Nat} (h : i < xs.length) : atI xs (i : Int) = xs[i]? := by
  unfold atI ixN
  rw [if_pos (Int.natCast_nonneg i), if_pos (by omega)]
  simp
theorem ix_LI {S : Store} {d : D} {M : Nat} {f : Ser.S} (h : seqD S d = some (LI M f)) {i : Nat} {k : Int} (hk : k = (i : Int)) (hi : i < M) : dIx S d (.int k) = some (.int (f i)) := by
  unfold dIx
  rw [h]
  show atI (LI M f) k = _
  rw [hk, atI_nat (by rw [LI_len]; exact hi), LI_get hi]
theorem len_seq {S : Store} {d : D} {ds : List D} (h : seqD S d = some ds) : dLen S [d] = some (.int (ds.length : Nat)) := by
  show Option.map _ (seqD S d) = _
  rw [h]; rfl
theorem tup_seq {S : Store} {d : D} {ds : List D} (h : seqD S d = some ds) : dTup S [d] = some (.tup ds) := by
  show Option.map _ (seqD S d) = _
  rw [h]; rfl
theorem sum_LI {S : Store} {M : Nat} {f : Ser.S} : dSum S [.lst (LI M f)] = some (.int ((List.range M).map f).sum) := by
  unfold dSum
  show (some (LI M f)).bind _ = _
  rw [Option.bind_some, LI_ints]; rfl
theorem sum_range (n : Nat) (a b : Ser.S) : ((List.range (n + 1)).map fun i => a i * b (n - i)).sum = mulN n a b := by
  induction n generalizing a with
  | zero => simp [mulN]
  | succ n ih =>
    rw [List.range_succ_eq_map, List.map_cons, List.sum_cons, List.map_map]
    have := ih (tl a)
    rw [mulN, ← this]
    congr 2
    apply List.map_congr_left
    intro i hi
    show a (i + 1) * b (n + 1 - (i + 1)) = tl a i * b (n - i)
    rw [show n + 1 - (i + 1) = n - i by omega]
    rfl
/-- items small enough for products -/
def Sz (M : Nat) (f : Ser.S) : Prop := ∀ i, i < M → (f i).natAbs.log2 < 400000
theorem mulA_int {S : Store} {i j : Int} (h1 : i.natAbs.log2 < 400000) (h2 : j.natAbs.log2 < 400000) : dMulA S (.int i) (.int j) = some (.int (i * j)) := by
  show dMul S (.int i) (.int j) = _
  show (if smI i && smI j then some (D.int (i * j)) else none) = _
  unfold smI
  rw [decide_eq_true h1, decide_eq_true h2]; rfl
/-- the store's own pointers are in it -/
def OkS (S : Store) : Prop := S.all (loO S.length) = true
theorem fz_ok_ {S : Store} {d : D} (h : OkS S) (hd : lo S.length d = true) (more : Store) : fz S.length d (S ++ more) = .ok d S := by
  unfold fz
  rw [List.take_left]
  have h' : S.all (loO S.length) = true := h
  rw [if_pos h', if_pos hd]
theorem fz_self {S : Store} {d : D} (h : OkS S) (hd : lo S.length d = true) : fz S.length d S = .ok d S := by
  have := fz_ok_ h hd []
  rwa [List.append_nil] at this
theorem los_LI (n M : Nat) (f : Ser.S) : los n (LI M f) = true := by
  have key : ∀ l : List Nat, los n (l.map fun i => D.int (f i)) = true := by
    intro l
    induction l with
    | nil => rfl
    | cons a l ih => simp only [List.map_cons, los, lo, ih, Bool.and_self]
  exact key _
theorem lo_tup (n M : Nat) (f : Ser.S) : lo n (.tup (LI M f)) = true := by simp only [lo, los_LI]
theorem lo_lst (n M : Nat) (f : Ser.S) : lo n (.lst (LI M f)) = true := by simp only [lo, los_LI]
mutual
theorem lo_mono {n m : Nat} (h : n ≤ m) : ∀ d : D, lo n d = true → lo m d = true
  | .ptr k, e => by simp only [lo, decide_eq_true_eq] at e ⊢; omega
  | .tup ds, e => by simp only [lo] at e ⊢; exact los_mono h ds e
  | .lst ds, e => by simp only [lo] at e ⊢; exact los_mono h ds e
  | .frl ds, e => by simp only [lo] at e ⊢; exact los_mono h ds e
  | .non, _ => rfl
  | .bl _, _ => rfl
  | .int _, _ => rfl
  | .str _, _ => rfl
theorem los_mono {n m : Nat} (h : n ≤ m) : ∀ ds : List D, los n ds = true → los m ds = true
  | [], _ => rfl
  | d :: ds, e => by
    simp only [los, Bool.and_eq_true] at e ⊢
    exact ⟨lo_mono h d e.1, los_mono h ds e.2⟩
end
theorem OkS.snoc {S : Store} (h : OkS S) {ds : List D} (hd : los (S.length + 1) ds = true) : OkS (S ++ [O.lst ds]) := by
  unfold OkS at h ⊢
  rw [List.all_append, List.length_append]
  simp only [List.length_cons, List.length_nil, List.all_cons, List.all_nil, Bool.and_true, Bool.and_eq_true]
  refine ⟨List.all_eq_true.mpr fun o ho => ?_, hd⟩
  have := List.all_eq_true.mp h o ho
  cases o with
  | lst ds => exact los_mono (Nat.le_succ _) ds this
theorem get_new (S : Store) (x : O) : (S ++ [x])[S.length]? = some x := by simp
theorem set_new (S : Store) (x y : O) : (S ++ [x]).set S.length y = S ++ [y] := by
  apply List.ext_getElem?
  intro i
  by_cases h : i = S.length
  · subst h
    rw [List.getElem?_set_self (by simp)]; simp
  · rw [List.getElem?_set_ne (Ne.symm h)]
    by_cases hl : i < S.length
    · rw [List.getElem?_append_left hl, List.getElem?_append_left hl]
    · rw [List.getElem?_eq_none (by simp; omega), List.getElem?_eq_none (by simp; omega)]
theorem seq_new (S : Store) (ds : List D) : seqD (S ++ [O.lst ds]) (.ptr S.length) = some ds := by
  show (match (S ++ [O.lst ds])[S.length]? with | some (.lst ds) => some ds | none => none) = some ds
  rw [get_new]
theorem app_new (S : Store) (ds : List D) (d : D) (h : ds.length < 100000) : mApp (S ++ [O.lst ds]) (.ptr S.length) [d] = some (.non, S ++ [O.lst (ds ++ [d])]) := by
  show (match (S ++ [O.lst ds])[S.length]? with | some (.lst ds') => if ds'.length < 100000 then some (D.non, (S ++ [O.lst ds]).set S.length (.lst (ds' ++ [d]))) else none | none => none) = _
  rw [get_new]
  simp only [if_pos h, set_new]
theorem trk_new (S : Store) (ds : List D) : isTrk (S ++ [O.lst ds]) (.ptr S.length) = true := by
  unfold isTrk trkD
  simp only [get_new]
  rfl
end Sm
namespace Sm
open PySem L2 Ser
theorem m_rt {nl : Nat} {g : G} {ds : List D} {S : Store} {d : D} (more : Store) (hS : OkS S) (hd : lo S.length d = true) (e : g (ds.map some ++ List.replicate (nl - ds.length) none) S = .rt d (S ++ more)) : mF nl g ds S = .ok d S := by
  unfold mF; rw [e]
  exact fz_ok_ hS hd more
theorem m_rt0 {nl : Nat} {g : G} {ds : List D} {S : Store} {d : D} (hS : OkS S) (hd : lo S.length d = true) (e : g (ds.map some ++ List.replicate (nl - ds.length) none) S = .rt d S) : mF nl g ds S = .ok d S := by
  unfold mF; rw [e]
  exact fz_self hS hd
/-- the store was changed, but not made longer -/
theorem m_rtS {nl : Nat} {g : G} {ds : List D} {S S' : Store} {d : D} (more : Store) (hl : S'.length = S.length) (hS : OkS S') (hd : lo S'.length d = true) (e : g (ds.map some ++ List.replicate (nl - ds.length) none) S = .rt d (S' ++ more)) : mF nl g ds S = .ok d S' := by
  unfold mF; rw [e]
  show fz S.length d (S' ++ more) = _
  rw [← hl]
  exact fz_ok_ hS hd more
theorem m_rtp {nl : Nat} {g : G} {ds xs : List D} {S : Store} (hS : OkS S) (hd : los S.length xs = true) (e : g (ds.map some ++ List.replicate (nl - ds.length) none) S = .rt (.ptr S.length) (S ++ [O.lst xs])) : mF nl g ds S = .ok (.lst xs) S := by
  unfold mF; rw [e]
  show fz S.length (.ptr S.length) (S ++ [O.lst xs]) = _
  unfold fz
  rw [List.take_left]
  have h' : S.all (loO S.length) = true := hS
  rw [if_pos h']
  have h2 : lo S.length (.ptr S.length) = false := by simp [lo]
  rw [h2]
  show (match (S ++ [O.lst xs])[S.length]? with | some (.lst ds) => if los S.length ds = true then R.ok (D.lst ds) S else R.bad | none => R.bad) = _
  rw [get_new]
  simp [hd]
theorem m_exc {nl : Nat} {g : G} {ds : List D} {S : Store} {x : Str} {ρ : Envm} (more : Store) (hS : OkS S) (e : g (ds.map some ++ List.replicate (nl - ds.length) none) S = .exc ⟨x, []⟩ ρ (S ++ more)) : mF nl g ds S = .exc ⟨x, []⟩ S := by
  unfold mF; rw [e]
  show fzx S.length ⟨x, []⟩ (S ++ more) = _
  unfold fzx
  rw [List.take_left]
  have h' : S.all (loO S.length) = true := hS
  rw [h']; rfl
end Sm
namespace Sm
open PySem L2 Ser
theorem v_Fr {ρ : Envm} {S S1 : Store} {np : Nat} {m : List D → Store → R D} {fs : F (List D)} {as : List D} {r : R D} (h1 : fs ρ S = .ok as S1) (hl : as.length = np) (hm : m as S1 = r) : eF np m fs ρ S = r := (v_F h1 hl).trans hm
theorem v_Fkr {ρ : Envm} {S S1 : Store} {np nk : Nat} {ix : List Nat} {m : List D → Store → R D} {fk : F (List D)} {b : List D} {r : R D} (h1 : fk ρ S = .ok b S1) (hl : b.length = nk) (hx : ix.length = np) (hm : m (pkD ix [] b) S1 = r) : eFk np ix 0 nk m aN fk ρ S = r := (v_Fk h1 hl hx).trans hm
theorem v_lCr {ρ : Envm} {S S1 : Store} {vs : List Nat} {τ : Tg} {fi : F (List D)} {ft : F Bool} {fe : F D} {xs : List D} {r : R (List D)} (h : fi ρ S = .ok xs S1) (hr : compL τ ft fe xs (wipeE ρ vs) S1 = r) : lC vs τ fi ft fe ρ S = r := (v_lC h).trans hr
theorem w_Sq {ρ ρ' : Envm} {S S1 : Store} {g1 g2 : G} {r : RS} (h : g1 ρ S = .nx ρ' S1) (h2 : g2 ρ' S1 = r) : gSeq g1 g2 ρ S = r := (w_Seq h).trans h2
theorem w_If {ρ : Envm} {S S1 : Store} {ft : F Bool} {g1 g2 : G} {r : RS} (h : ft ρ S = .ok true S1) (h2 : g1 ρ S1 = r) : gI ft g1 g2 ρ S = r := by rw [w_I h]; exact h2
theorem w_Else {ρ : Envm} {S S1 : Store} {ft : F Bool} {g1 g2 : G} {r : RS} (h : ft ρ S = .ok false S1) (h2 : g2 ρ S1 = r) : gI ft g1 g2 ρ S = r := by rw [w_I h]; exact h2
theorem v_Rn {ρ : Envm} {S S1 : Store} {fa : F (List D)} {n : Nat} {j : Int} (h : fa ρ S = .ok [.int j] S1) (e : j = (n : Int)) (hn : n ≤ 100000) : iR1 fa ρ S = .ok (rngD 0 n) S1 := by
  subst e
  rw [v_R1 h (by omega) (by omega)]
  rfl
theorem v_Rm {ρ : Envm} {S S1 : Store} {fa : F (List D)} {m n : Nat} {i j : Int} (h : fa ρ S = .ok [.int i, .int j] S1) (ei : i = (m : Int)) (ej : j = (n : Int)) (hm : m ≤ 100000) (hn : n ≤ 100000) : iR2 fa ρ S = .ok (rngD (m : Int) (n - m)) S1 := by
  subst ei ej
  rw [v_R2 h (by omega) (by omega) (by omega) (by omega), show ((n : Int) - (m : Int)).toNat = n - m by omega]
theorem dIn01 {S : Store} {x : Int} : dIn true S (.int x) (.tup [.int 1, .int (-1)]) = some (.bl (!(decide (x = 1) || decide (x = -1)))) := by
  have e : dIn true S (.int x) (.tup [.int 1, .int (-1)]) = some (.bl (!((1 == x) || ((-1 == x) || false)))) := rfl
  rw [e, Bool.or_false]
  have h1 : ((1 : Int) == x) = decide (x = 1) := by
    by_cases h : x = 1
    · subst h; rfl
    · rw [decide_eq_false h]; exact beq_false_of_ne (Ne.symm h)
  have h2 : ((-1 : Int) == x) = decide (x = -1) := by
    by_cases h : x = -1
    · subst h; rfl
    · rw [decide_eq_false h]; exact beq_false_of_ne (Ne.symm h)
  rw [h1, h2]
theorem mulT1 {S : Store} {i : Int} {k : Nat} (hk : k ≤ 1000) : dMulA S (.tup [.int i]) (.int (k : Int)) = some (.tup (LI k fun _ => i)) := by
  show (if decide (-1000 ≤ (k : Int)) && decide ((k : Int) ≤ 1000) && decide ([D.int i].length ≤ 1000) then some (D.tup (List.replicate (k : Int).toNat [D.int i]).flatten) else none) = _
  rw [decide_eq_true (by omega : -1000 ≤ (k : Int)), decide_eq_true (by omega : (k : Int) ≤ 1000)]
  show some (D.tup (List.replicate k [D.int i]).flatten) = _
  congr 2
  unfold LI
  clear hk
  induction k with
  | zero => rfl
  | succ k ih => rw [List.replicate_succ, List.flatten_cons, ih, List.range_succ_eq_map, List.map_cons, List.map_map]; rfl
end Sm
namespace Sm
open PySem L2 Ser
theorem ne_int {S : Store} {a b : Int} : dNe S (.int a) (.int b) = some (.bl (!(a == b))) := rfl
theorem eq_int {S : Store} {a b : Int} : dEq S (.int a) (.int b) = some (.bl (a == b)) := rfl
theorem cut_to {xs : List D} {k : Nat} (h : k ≤ xs.length) : cutD xs none (some (k : Int)) = xs.take k := by
  unfold cutD
  rw [HT.sIx_nat, HT.sIx_none, Nat.min_eq_left h]
  simp
theorem cut_from {xs : List D} {k : Nat} (h : k ≤ xs.length) : cutD xs (some (k : Int)) none = xs.drop k := by
  unfold cutD
  rw [HT.sIx_nat, HT.sIx_none, Nat.min_eq_left h]
  rw [List.take_of_length_le (by simp)]
theorem LI_drop1 (M : Nat) (f : Ser.S) : (LI (M + 1) f).drop 1 = LI M (tl f) := by
  rw [LI_cons]; rfl
theorem Sz_of {a k M : Nat} {f : Ser.S} (h : MJ a k f) (hM : M ≤ 32) (ha : a + k * 32 < 399990) : Sz M f := fun i hi => by
  by_cases hz : (f i).natAbs = 0
  · rw [hz]; decide
  · rw [Nat.log2_lt hz]
    refine Nat.lt_of_le_of_lt (h i (by omega)) ?_
    refine Nat.pow_lt_pow_right (by decide) ?_
    have : k * i ≤ k * 32 := Nat.mul_le_mul_left k (by omega)
    omega
theorem sz_of {x : Int} {e : Nat} (h : x.natAbs ≤ 2 ^ e) (he : e < 399990) : x.natAbs.log2 < 400000 := by
  by_cases hz : x.natAbs = 0
  · rw [hz]; decide
  · rw [Nat.log2_lt hz]
    exact Nat.lt_of_le_of_lt h (Nat.pow_lt_pow_right (by decide) (by omega))
end Sm
namespace Sm
open PySem L2 Ser
section
variable {ρ : Envm} {S : Store}
theorem u_aC {fa : F D} {fr : F (List D)} {d : D} {ds : List D} (h1 : fa ρ S = .ok d S) (h2 : fr ρ S = .ok ds S) : aC fa fr ρ S = .ok (d :: ds) S := v_aC h1 h2
theorem u_O2 {g : Store → D → D → Option D} {fa fb : F D} {a b d : D} (h1 : fa ρ S = .ok a S) (h2 : fb ρ S = .ok b S) (h : g S a b = some d) : eO2 g fa fb ρ S = .ok d S := v_O2 h1 h2 h
theorem u_O1 {g : Store → D → Option D} {fa : F D} {a d : D} (h1 : fa ρ S = .ok a S) (h : g S a = some d) : eO1 g fa ρ S = .ok d S := v_O1 h1 h
theorem u_B {g : Store → List D → Option D} {fs : F (List D)} {as : List D} {d : D} (h1 : fs ρ S = .ok as S) (h : g S as = some d) : eB g fs ρ S = .ok d S := v_B h1 h
theorem u_Fr {np : Nat} {m : List D → Store → R D} {fs : F (List D)} {as : List D} {r : R D} (h1 : fs ρ S = .ok as S) (hl : as.length = np) (hm : m as S = r) : eF np m fs ρ S = r := v_Fr h1 hl hm
theorem u_Fkr {np nk : Nat} {ix : List Nat} {m : List D → Store → R D} {fk : F (List D)} {b : List D} {r : R D} (h1 : fk ρ S = .ok b S) (hl : b.length = nk) (hx : ix.length = np) (hm : m (pkD ix [] b) S = r) : eFk np ix 0 nk m aN fk ρ S = r := v_Fkr h1 hl hx hm
theorem u_T {f : F (List D)} {ds : List D} (h : f ρ S = .ok ds S) (hl : ds.length ≤ 100000) : eT f ρ S = .ok (.tup ds) S := v_T h hl
theorem u_L {f : F (List D)} {ds : List D} (h : f ρ S = .ok ds S) : eL f ρ S = .ok (.lst ds) S := v_L h
theorem u_lD {f : F (List D)} {ds : List D} (h : f ρ S = .ok ds S) (hl : ds.length ≤ 100000) : lD f ρ S = .ok ds S := v_lD h hl
theorem u_tV {f : F D} {b : Bool} (h : f ρ S = .ok (.bl b) S) : tV f ρ S = .ok b S := v_tV h
/-- a row's head, its tail -/
theorem u_to {f g : F D} {ds : List D} {k : Nat} {j : Int} (h1 : f ρ S = .ok (.tup ds) S) (h2 : g ρ S = .ok (.int j) S) (e : j = (k : Int)) (hk : k ≤ ds.length) : eSl f oN (oS g) ρ S = .ok (.tup (ds.take k)) S := by
  subst e
  rw [v_Sl h1 v_oN (v_oS h2), cut_to hk]
theorem u_from {f g : F D} {ds : List D} {k : Nat} {j : Int} (h1 : f ρ S = .ok (.tup ds) S) (h2 : g ρ S = .ok (.int j) S) (e : j = (k : Int)) (hk : k ≤ ds.length) : eSl f (oS g) oN ρ S = .ok (.tup (ds.drop k)) S := by
  subst e
  rw [v_Sl h1 (v_oS h2) v_oN, cut_from hk]
theorem u_add {fa fb : F D} {xs ys zs : List D} (h1 : fa ρ S = .ok (.tup xs) S) (h2 : fb ρ S = .ok (.tup ys) S) (hl : xs.length + ys.length ≤ 100000) (e : xs ++ ys = zs) : eO2 dAdd fa fb ρ S = .ok (.tup zs) S := by
  subst e
  refine v_O2 h1 h2 ?_
  show (if _ then some (D.tup (xs ++ ys)) else none) = _
  rw [if_pos hl]
end
end Sm
namespace Sm
open PySem L2 Ser
theorem seqD_V {d : D} {ds : List D} (h : seqV d = some ds) (S : Store) : seqD S d = some ds := by
  cases d <;> first | exact h | cases h
/-- whole numbers that some test lets pass -/
theorem comp_if {τ : Tg} {ft : F Bool} {fe : F D} {ρ : Envm} {S : Store} (p : Nat → Bool) (h : Nat → D) (lo : Int) (n : Nat) (hn : n ≤ 100000)
    (st : ∀ i, i < n → ∃ ρ1, τ (.int (lo + (i : Int))) ρ = some ρ1 ∧ ft ρ1 S = .ok (p i) S ∧ (p i = true → fe ρ1 S = .ok (h i) S)) : compL τ ft fe (rngD lo n) ρ S = .ok (((List.range n).filter p).map h) S := by
  have key : ∀ (l : List Nat), l.length ≤ 100000 → (∀ i, i ∈ l → i < n) → compL τ ft fe (l.map fun i : Nat => D.int (lo + (i : Int))) ρ S = .ok ((l.filter p).map h) S := by
    intro l
    induction l with
    | nil => intro _ _; rfl
    | cons i l ih =>
      intro hl hm
      obtain ⟨ρ1, e1, e2, e3⟩ := st i (hm i List.mem_cons_self)
      have ih := ih (by simp at hl; omega) fun j hj => hm j (List.mem_cons_of_mem _ hj)
      have hl2 : ((l.filter p).map h).length ≤ 100000 := by
        have := List.length_filter_le p l
        simp at hl ⊢; omega
      cases hp : p i with
      | true =>
        rw [hp] at e2
        simp only [List.map_cons, compL, e1, e2, noX, bind_ok, if_true, e3 hp, ih, if_pos hl2, List.filter_cons, hp]
      | false =>
        rw [hp] at e2
        simp only [List.map_cons, compL, e1, e2, noX, bind_ok, ih, List.filter_cons, hp, Bool.false_eq_true, if_false]
  exact key (List.range n) (by simpa using hn) fun i hi => List.mem_range.mp hi
theorem ints_map (l : List Nat) (f : Nat → Int) : intsD (l.map fun i => D.int (f i)) = some (l.map f) := by
  induction l with
  | nil => rfl
  | cons a l ih => simp only [List.map_cons, intsD, ih]; rfl
theorem sum_ints {S : Store} (l : List Nat) (f : Nat → Int) : dSum S [.lst (l.map fun i => D.int (f i))] = some (.int (l.map f).sum) := by
  unfold dSum
  show (some (l.map fun i => D.int (f i))).bind _ = _
  rw [Option.bind_some, ints_map]; rfl
theorem sum_filter (l : List Nat) (p : Nat → Bool) (f : Nat → Int) (h : ∀ i, p i = false → f i = 0) : ((l.filter p).map f).sum = (l.map f).sum := by
  induction l with
  | nil => rfl
  | cons a l ih =>
    cases hp : p a with
    | true => simp only [List.filter_cons, hp, if_true, List.map_cons, List.sum_cons, ih]
    | false => simp only [List.filter_cons, hp, Bool.false_eq_true, if_false, List.map_cons, List.sum_cons, ih, h a hp]; omega
theorem mulL1 {S : Store} {i : Int} {k : Nat} (hk : k ≤ 1000) : lMul S (.lst [.int i]) (.int (k : Int)) = some (LI k fun _ => i) := by
  have e : (List.replicate k [D.int i]).flatten = LI k fun _ => i := by
    unfold LI
    clear hk
    induction k with
    | zero => rfl
    | succ k ih => rw [List.replicate_succ, List.flatten_cons, ih, List.range_succ_eq_map, List.map_cons, List.map_map]; rfl
  rw [← e]
  show (if decide (-1000 ≤ (k : Int)) && decide ((k : Int) ≤ 1000) && decide ([D.int i].length ≤ 1000) then some (List.replicate (k : Int).toNat [D.int i]).flatten else none) = _
  rw [decide_eq_true (by omega : -1000 ≤ (k : Int)), decide_eq_true (by omega : (k : Int) ≤ 1000)]
  rfl
end Sm
namespace Sm
theorem v_And {ρ : Envm} {S S1 : Store} {f g : F D} {r : R D} (h : f ρ S = .ok (.bl true) S1) (h2 : g ρ S1 = r) : eAn f g ρ S = r := by
  rw [v_An h, if_pos rfl]; exact h2
end Sm


set_option Elab.async false
set_option linter.all false
set_option maxRecDepth 100000
set_option maxHeartbeats 1000000
namespace Sm
open PySem L2
/-! ### texts of data are in order -/
theorem ok_of (s : String) : PyData.strOk (Str.ofString s) = true := by
  unfold PyData.strOk
  rw [Str.ofString_eq_toList]
  simp only [List.all_toArray, List.all_map, List.all_eq_true]
  intro c _
  have h : c.val.toNat < 0xD800 ∨ (0xDFFF < c.val.toNat ∧ c.val.toNat < 0x110000) := c.valid
  show decide (c.val.toNat < 0x110000) = true
  rw [decide_eq_true_eq]
  omega
theorem ok_app {a b : Str} (h : PyData.strOk a = true) (g : PyData.strOk b = true) : PyData.strOk (a ++ b) = true := by
  unfold PyData.strOk at *
  show (a.cps ++ b.cps).all _ = true
  rw [Array.all_append, h, g]; rfl
theorem ok_from : ∀ (ts : List Str) (k : Nat) (acc : Str), PyData.strOk acc = true → (∀ t, t ∈ ts → PyData.strOk t = true) → PyData.strOk (textFrom k acc ts) = true
  | [], k, acc, h, _ => h
  | t :: r, k, acc, h, g => by
    show PyData.strOk (textFrom (k + 1) (acc ++ (if k > 0 then ", " else "" : String) ++ t) r) = true
    exact ok_from r (k + 1) _ (ok_app (ok_app h (ok_of _)) (g t List.mem_cons_self)) fun t ht => g t (List.mem_cons_of_mem _ ht)
/-- no text, no dict in it -/
inductive Bare : PyData → Prop
  | none : Bare .none
  | bool (b : Bool) : Bare (.bool b)
  | int (i : Int) : Bare (.int i)
  | list {xs : List PyData} (h : ∀ x, x ∈ xs → Bare x) : Bare (.list xs)
  | tuple {xs : List PyData} (h : ∀ x, x ∈ xs → Bare x) : Bare (.tuple xs)
theorem shownAll_mem : ∀ {xs : List PyData} {t : Str}, t ∈ PyData.shownAll xs → ∃ x, x ∈ xs ∧ t = x.shown
  | [], _, h => by simp [PyData.shownAll] at h
  | x :: xs, t, h => by
    simp only [PyData.shownAll, List.mem_cons] at h
    rcases h with rfl | h
    · exact ⟨x, List.mem_cons_self, rfl⟩
    · obtain ⟨y, h1, h2⟩ := shownAll_mem h
      exact ⟨y, List.mem_cons_of_mem _ h1, h2⟩
theorem ok_join : ∀ ts : List Str, (∀ t, t ∈ ts → PyData.strOk t = true) → PyData.strOk (Str.join ", " ts) = true
  | [], _ => by decide +kernel
  | [t], h => h t List.mem_cons_self
  | t :: u :: r, h => by
    show PyData.strOk (t ++ Str.ofString ", " ++ Str.join ", " (u :: r)) = true
    exact ok_app (ok_app (h t List.mem_cons_self) (ok_of _)) (ok_join (u :: r) fun x hx => h x (List.mem_cons_of_mem _ hx))
theorem ok_shown : ∀ {x : PyData}, Bare x → PyData.strOk x.shown = true
  | _, .none => by simp only [PyData.shown]; exact ok_of _
  | _, .bool b => by simp only [PyData.shown]; cases b <;> exact ok_of _
  | _, .int i => by simp only [PyData.shown]; exact ok_of _
  | _, .list h => by
    simp only [PyData.shown]
    unfold listText
    exact ok_app (ok_from _ _ _ (ok_of _) fun t ht => by
      obtain ⟨y, h1, rfl⟩ := shownAll_mem ht
      exact ok_shown (h y h1)) (ok_of _)
  | _, .tuple h => by
    simp only [PyData.shown]
    unfold tupleText
    refine ok_app (ok_app (ok_of _) (ok_join _ fun t ht => ?_)) (ok_of _)
    obtain ⟨y, h1, rfl⟩ := shownAll_mem ht
    exact ok_shown (h y h1)
/-- data that may be shown: n its depth, B its bulk -/
structure Nc (n B : Nat) (d : D) (x : PyData) : Prop where
  py : ∀ S, pyD S n d = some x
  lay : x.canLay0 = true
  sh : x.showable = true
  dp : x.depth ≤ n
  bk : x.bulk ≤ B
  br : Bare x
theorem Nc.int {n : Nat} {i : Int} (h : i.natAbs.log2 < 1920) : Nc n 0 (.int i) (.int i) :=
  ⟨fun S => by cases n <;> rfl, rfl, by simp only [PyData.showable, decide_eq_true_eq]; exact h, by simp only [PyData.depth]; exact Nat.zero_le _, by simp only [PyData.bulk]; exact Nat.le_refl _, .int i⟩
theorem Nc.non {n : Nat} : Nc n 0 .non .none := ⟨fun S => by cases n <;> rfl, rfl, rfl, by simp only [PyData.depth]; exact Nat.zero_le _, by simp only [PyData.bulk]; exact Nat.le_refl _, .none⟩
theorem Nc.bl {n : Nat} {b : Bool} : Nc n 0 (.bl b) (.bool b) := ⟨fun S => by cases n <;> rfl, rfl, rfl, by simp only [PyData.depth]; exact Nat.zero_le _, by simp only [PyData.bulk]; exact Nat.le_refl _, .bool b⟩
theorem Nc.deep {n m B : Nat} {d : D} {x : PyData} (h : Nc n B d x) (e : ∀ S, pyD S m d = some x) (hm : n ≤ m) : Nc m B d x := ⟨e, h.lay, h.sh, Nat.le_trans h.dp hm, h.bk, h.br⟩
/-- all the items of a list -/
inductive NcA (n : Nat) : Nat → List D → List PyData → Prop
  | nil : NcA n 0 [] []
  | cons {B C : Nat} {d : D} {x : PyData} {ds : List D} {xs : List PyData} (h : Nc n B d x) (t : NcA n C ds xs) : NcA n (B + 1 + C) (d :: ds) (x :: xs)
theorem NcA.py {n B : Nat} {ds : List D} {xs : List PyData} (h : NcA n B ds xs) (S : Store) : ds.mapM (pyD S n) = some xs := by
  induction h with
  | nil => rfl
  | cons h t ih => rw [mapM_cons, h.py, Option.bind_some, ih]; rfl
theorem NcA.all {n B : Nat} {ds : List D} {xs : List PyData} (h : NcA n B ds xs) : PyData.canLayAll0 xs = true ∧ PyData.showableAll xs = true ∧ PyData.depthAll xs ≤ n ∧ PyData.bulkAll xs ≤ B ∧ ∀ x, x ∈ xs → Bare x := by
  induction h with
  | nil => exact ⟨rfl, rfl, by simp only [PyData.depthAll]; exact Nat.zero_le _, by simp only [PyData.bulkAll]; exact Nat.le_refl _, fun x hx => nomatch hx⟩
  | cons h t ih =>
    obtain ⟨h1, h2, h3, h4, h5⟩ := ih
    refine ⟨?_, ?_, ?_, ?_, fun x hx => ?_⟩
    · simp only [PyData.canLayAll0, h.lay, h1, Bool.and_self]
    · simp only [PyData.showableAll, h.sh, h2, Bool.and_self]
    · simp only [PyData.depthAll]
      have := h.dp
      omega
    · simp only [PyData.bulkAll]
      have := h.bk
      omega
    · rcases List.mem_cons.mp hx with rfl | hx
      · exact h.br
      · exact h5 x hx
theorem NcA.tup {n B : Nat} {ds : List D} {xs : List PyData} (h : NcA n B ds xs) : Nc (n + 1) B (.tup ds) (.tuple xs) := by
  obtain ⟨h1, h2, h3, h4, h5⟩ := h.all
  exact ⟨fun S => by show (ds.mapM (pyD S n)).map PyData.tuple = _; rw [h.py]; rfl, by simp only [PyData.canLay0]; exact h1, by simp only [PyData.showable]; exact h2, by simp only [PyData.depth]; omega, by simp only [PyData.bulk]; exact h4, .tuple h5⟩
theorem NcA.lst {n B : Nat} {ds : List D} {xs : List PyData} (h : NcA n B ds xs) : Nc (n + 1) B (.lst ds) (.list xs) := by
  obtain ⟨h1, h2, h3, h4, h5⟩ := h.all
  exact ⟨fun S => by show (ds.mapM (pyD S n)).map PyData.list = _; rw [h.py]; rfl, by simp only [PyData.canLay0]; exact h1, by simp only [PyData.showable]; exact h2, by simp only [PyData.depth]; omega, by simp only [PyData.bulk]; exact h4, .list h5⟩
theorem NcA.ints {n : Nat} {f : Ser.S} : ∀ {M : Nat}, (∀ i, i < M → (f i).natAbs.log2 < 1920) → ∃ xs, NcA n M (LI M f) xs := by
  intro M h
  have key : ∀ l : List Nat, (∀ i, i ∈ l → (f i).natAbs.log2 < 1920) → ∃ xs, NcA n l.length (l.map fun i => D.int (f i)) xs := by
    intro l
    induction l with
    | nil => exact fun _ => ⟨_, .nil⟩
    | cons a l ih =>
      intro hl
      obtain ⟨xs, hx⟩ := ih fun i hi => hl i (List.mem_cons_of_mem _ hi)
      refine ⟨.int (f a) :: xs, ?_⟩
      show NcA n (l.length + 1) _ _
      have := NcA.cons (n := n) (Nc.int (hl a List.mem_cons_self)) hx
      rwa [Nat.zero_add, Nat.add_comm 1] at this
  have := key (List.range M) fun i hi => h i (List.mem_range.mp hi)
  rwa [List.length_range] at this
theorem Nc.shaped {B : Nat} {d : D} {x : PyData} (h : Nc Sm.dp B d x) : SeqAt.shaped x = true := by
  unfold SeqAt.shaped
  rw [h.lay, decide_eq_true (Nat.le_trans h.dp (by decide))]; rfl
theorem Nc.eq {B : Nat} {d : D} {x : PyData} (h : Nc Sm.dp B d x) (S : Store) : dEq S d d = some (.bl true) := by
  unfold dEq
  rw [h.py]
  show (if SeqAt.shaped x && SeqAt.shaped x then some (D.bl (PyData.eqv x x)) else none) = _
  rw [h.shaped, SeqAt.eqv_refl x h.lay]; rfl
theorem Nc.repr {B : Nat} {d : D} {x : PyData} (h : Nc Sm.dp B d x) (hB : B ≤ 20000) (S : Store) (hd : (∃ i, d = .int i ∧ i.natAbs.log2 < 1920) ∨ (∃ ds, d = .tup ds) ∨ ∃ ds, d = .lst ds) : ∃ t, dRepr S [d] = some (.str t) ∧ PyData.strOk t = true := by
  have ok : okR x = true := by
    unfold okR
    rw [h.sh, h.shaped, decide_eq_true (Nat.le_trans h.bk hB)]; rfl
  rcases hd with ⟨i, rfl, hi⟩ | ⟨ds, rfl⟩ | ⟨ds, rfl⟩
  · refine ⟨toString i, ?_, ok_of _⟩
    show (if i.natAbs.log2 < 1920 then some (D.str (toString i)) else none) = _
    rw [if_pos hi]
  · refine ⟨x.shown, ?_, ok_shown h.br⟩
    show (pyD S Sm.dp (.tup ds)).bind (fun x => if okR x then some (D.str x.shown) else none) = _
    rw [h.py, Option.bind_some, if_pos ok]
  · refine ⟨x.shown, ?_, ok_shown h.br⟩
    show (pyD S Sm.dp (.lst ds)).bind (fun x => if okR x then some (D.str x.shown) else none) = _
    rw [h.py, Option.bind_some, if_pos ok]
theorem str_eq {S : Store} {t : Str} (h : PyData.strOk t = true) : dEq S (.str t) (.str t) = some (.bl true) := by
  show (if SeqAt.shaped (.str t) && SeqAt.shaped (.str t) then some (D.bl (PyData.eqv (.str t) (.str t))) else none) = _
  have e : SeqAt.shaped (.str t) = true := by
    unfold SeqAt.shaped
    simp only [PyData.canLay0, h, PyData.depth]
    rfl
  rw [e, SeqAt.eqv_refl (.str t) (by simp only [PyData.canLay0]; exact h)]; rfl
end Sm
namespace Sm
theorem w_RX {ρ : Envm} {S S1 : Store} {f : F D} {x : Xd} (h : f ρ S = .exc x S1) : gR f ρ S = .exc x ρ S1 := by unfold gR; rw [h, toS_exc]
theorem v_O2X {ρ : Envm} {S S1 : Store} {g : Store → D → D → Option D} {fa fb : F D} {x : Xd} (h : fa ρ S = .exc x S1) : eO2 g fa fb ρ S = .exc x S1 := by unfold eO2; rw [h, bind_exc]
theorem v_IfT {ρ : Envm} {S S1 : Store} {ft : F Bool} {fa fb : F D} {r : R D} (h : ft ρ S = .ok true S1) (h2 : fa ρ S1 = r) : eIf ft fa fb ρ S = r := by rw [v_If h, if_pos rfl]; exact h2
theorem v_IfF {ρ : Envm} {S S1 : Store} {ft : F Bool} {fa fb : F D} {r : R D} (h : ft ρ S = .ok false S1) (h2 : fb ρ S1 = r) : eIf ft fa fb ρ S = r := by rw [v_If h, if_neg (by decide)]; exact h2
end Sm


set_option Elab.async false
set_option linter.all false
set_option maxRecDepth 100000
set_option maxHeartbeats 4000000
namespace K75
open PySem L2 Sm
def g_law_own_bag : G := (gSeq (gA 1 (eL (lC [3] (tgN 3) (iSeq (eL (lSl (eV 0) oN (oS (eC (.int 63)))))) tAll (eB dAbs (aC (eV 3) aN))))) (gSeq (gA 2 (eO2 dAdd (eC (.int 1357)) (eB dLen (aC (eV 1) aN)))) (gSeq (gF (tgN 3) (iSeq (eV 1)) (gA 2 (eO2 dMod (eB dInt (aC (eO2 dAdd (eO2 dAdd (eO2 dMulA (eV 2) (eC (.int 48271))) (eO2 dMod (eB dInt (aC (eV 3) aN)) (eC (.int 2147483629)))) (eC (.int 7))) aN)) (eC (.int 2147483647))))) (gR (eN (lD (aC (eN (lW (iRevL (eL (lB lList (aC (eV 1) aN)))))) (aC (eC (.int 0)) (aC (eV 2) aN)))))))))
def m_law_own_bag : List D → Store → R D := mK 4 g_law_own_bag
def g_law_draw : G := (gSeq (gWh (tAn (tV (eO2 dEq (eO2 dIx (eV 0) (eC (.int 1))) (eC (.int 0)))) (tV (eO2 dNe (eO2 dIx (eV 0) (eC (.int 0))) (eL (lD aN))))) (gSeq (gA 2 (eM isTrk mPop (eO2 dIx (eV 0) (eC (.int 0))) aN)) (gSet (eIf (tV (eO2 (dCmp fun i j => decide (j < i)) (eV 2) (eO2 dPow (eC (.int 10)) (eC (.int 9))))) (eV 2) (eC (.int 0))) (eV 0) (eC (.int 1)))) 100) (gSeq (gI (tV (eO2 (dCmp fun i j => decide (j < i)) (eO2 dIx (eV 0) (eC (.int 1))) (eC (.int 0)))) (gSeq (gA 3 (eO2 dMod (eB dInt (aC (eO2 dIx (eV 0) (eC (.int 1))) aN)) (eV 1))) (gSeq (gSet (eO2 dDiv (eO2 dIx (eV 0) (eC (.int 1))) (eV 1)) (eV 0) (eC (.int 1))) (gR (eV 3)))) gNx) (gSeq (gSet (eO2 dMod (eB dInt (aC (eO2 dAdd (eO2 dMulA (eO2 dIx (eV 0) (eC (.int 2))) (eC (.int 48271))) (eC (.int 11))) aN)) (eC (.int 2147483647))) (eV 0) (eC (.int 2))) (gR (eO2 dMod (eB dInt (aC (eO2 dDiv (eO2 dMod (eB dInt (aC (eO2 dMulA (eO2 dIx (eV 0) (eC (.int 2))) (eO2 dIx (eV 0) (eC (.int 2)))) aN)) (eC (.int 2147483629))) (eC (.int 7))) aN)) (eV 1))))))
def m_law_draw : List D → Store → R D := mF 4 g_law_draw
def g_law_pick : G := (gR (eO2 dIx (eV 1) (eF 2 m_law_draw (aC (eV 0) (aC (eB dLen (aC (eV 1) aN)) aN)))))
def m_law_pick : List D → Store → R D := mF 2 g_law_pick
def g_law_own_row : G := (gSeq (gA 3 (eN (lD (aC (eC (.int 0)) (aC (eF 2 m_law_pick (aC (eV 0) (aC (eL (lD (aC (eC (.int 1)) (aC (eO1 dNeg (eC (.int 1))) aN)))) aN))) aN))))) (gSeq (gF (tgN 4) (iR1 (aC (eO2 dSub (eV 1) (eC (.int 2))) aN)) (gSeq (gA 5 (eF 2 m_law_pick (aC (eV 0) (aC (eL (lD (aC (eC (.int 0)) (aC (eC (.int 1)) (aC (eC (.int 3)) (aC (eV 2) aN)))))) aN)))) (gX (eM isTrk mApp (eV 3) (aC (eO2 dSub (eF 2 m_law_draw (aC (eV 0) (aC (eO2 dAdd (eO2 dMulA (eC (.int 2)) (eV 5)) (eC (.int 1))) aN))) (eV 5)) aN))))) (gR (eB dTup (aC (eV 3) aN)))))
def m_law_own_row : List D → Store → R D := mF 6 g_law_own_row
def g_product_item : G := (gR (eB dSum (aC (eL (lC [3] (tgN 3) (iR1 (aC (eO2 dAdd (eV 2) (eC (.int 1))) aN)) tAll (eO2 dMulA (eO2 dIx (eV 0) (eV 3)) (eO2 dIx (eV 1) (eO2 dSub (eV 2) (eV 3)))))) aN)))
def m_product_item : List D → Store → R D := mF 4 g_product_item
def g_series_product : G := (gR (eB dTup (aC (eL (lC [2] (tgN 2) (iR1 (aC (eB dLen (aC (eV 0) aN)) aN)) tAll (eF 3 m_product_item (aC (eV 0) (aC (eV 1) (aC (eV 2) aN)))))) aN)))
def m_series_product : List D → Store → R D := mF 3 g_series_product
def g_unit_series : G := (gR (eO2 dAdd (eT (aC (eC (.int 1)) aN)) (eO2 dMulA (eT (aC (eC (.int 0)) aN)) (eO2 dSub (eV 0) (eC (.int 1))))))
def m_unit_series : List D → Store → R D := mF 1 g_unit_series
def g_put_into : G := (gSeq (gP 2 3 (aC (eO2 dMulA (eT (aC (eC (.int 0)) aN)) (eB dLen (aC (eV 0) aN))) (aC (eF 1 m_unit_series (aC (eB dLen (aC (eV 0) aN)) aN)) aN))) (gSeq (gF (tgN 4) (iSeq (eV 0)) (gSeq (gA 2 (eB dTup (aC (eL (lC [5, 6] (tgT ((tgN 5) :: (tgN 6) :: [])) (iZip (aC (eV 2) (aC (eV 3) aN))) tAll (eO2 dAdd (eV 5) (eO2 dMulA (eV 4) (eV 6))))) aN))) (gA 3 (eF 2 m_series_product (aC (eV 3) (aC (eV 1) aN)))))) (gR (eV 2))))
def m_put_into : List D → Store → R D := mF 7 g_put_into
def g_series_put : G := (gSeq (gI (tV (eO2 dNe (eO2 dIx (eV 1) (eC (.int 0))) (eC (.int 0)))) (gRaise "Unfit") gNx) (gR (eF 2 m_put_into (aC (eV 0) (aC (eV 1) aN)))))
def m_series_put : List D → Store → R D := mF 2 g_series_put
def g_turned_about : G := (gSeq (gI (tOr_ (tV (eO2 (dCmp fun i j => decide (i < j)) (eB dLen (aC (eV 0) aN)) (eC (.int 2)))) (tOr_ (tV (eO2 dNe (eO2 dIx (eV 0) (eC (.int 0))) (eC (.int 0)))) (tV (eO2 (dIn true) (eO2 dIx (eV 0) (eC (.int 1))) (eT (aC (eC (.int 1)) (aC (eO1 dNeg (eC (.int 1))) aN))))))) (gRaise "Unfit") gNx) (gSeq (gA 1 (eN (lD (aC (eC (.int 0)) (aC (eO2 dIx (eV 0) (eC (.int 1))) aN))))) (gSeq (gF (tgN 2) (iR2 (aC (eC (.int 2)) (aC (eB dLen (aC (eV 0) aN)) aN))) (gSeq (gA 3 (eO2 dIx (eF 2 m_put_into (aC (eSl (eV 0) oN (oS (eO2 dAdd (eV 2) (eC (.int 1))))) (aC (eO2 dAdd (eB dTup (aC (eV 1) aN)) (eT (aC (eC (.int 0)) aN))) aN))) (eV 2))) (gX (eM isTrk mApp (eV 1) (aC (eO2 dMulA (eO1 dNeg (eV 3)) (eO2 dIx (eV 0) (eC (.int 1)))) aN))))) (gR (eB dTup (aC (eV 1) aN))))))
def m_turned_about : List D → Store → R D := mF 4 g_turned_about
def g_law_same : G := (gR (eAn (eO2 dEq (eV 0) (eV 1)) (eO2 dEq (eB dRepr (aC (eV 0) aN)) (eB dRepr (aC (eV 1) aN)))))
def m_law_same : List D → Store → R D := mF 2 g_law_same
def g_law_product : G := (gSeq (gA 2 (eB dLen (aC (eV 0) aN))) (gR (eL (lC [3] (tgN 3) (iR1 (aC (eV 2) aN)) tAll (eB dSum (aC (eL (lC [4] (tgN 4) (iR1 (aC (eO2 dAdd (eV 3) (eC (.int 1))) aN)) (tV (eO2 dNe (eO2 dIx (eV 0) (eV 4)) (eC (.int 0)))) (eO2 dMulA (eO2 dIx (eV 0) (eV 4)) (eO2 dIx (eV 1) (eO2 dSub (eV 3) (eV 4)))))) aN))))))
def m_law_product : List D → Store → R D := mF 5 g_law_product
def g_law_unit : G := (gR (eL (lO2 lAdd (eL (lD (aC (eC (.int 1)) aN))) (eL (lO2 lMul (eL (lD (aC (eC (.int 0)) aN))) (eO2 dSub (eV 0) (eC (.int 1))))))))
def m_law_unit : List D → Store → R D := mF 1 g_law_unit
def g_law_own_put : G := (gSeq (gA 2 (eB dLen (aC (eV 0) aN))) (gSeq (gP 3 4 (aC (eL (lO2 lMul (eL (lD (aC (eC (.int 0)) aN))) (eV 2))) (aC (eF 1 m_law_unit (aC (eV 2) aN)) aN))) (gSeq (gF (tgN 5) (iSeq (eV 0)) (gSeq (gA 3 (eL (lC [6, 7] (tgT ((tgN 6) :: (tgN 7) :: [])) (iSeq (eL (lW (iZipL (aC (eV 3) (aC (eV 4) aN)))))) tAll (eO2 dAdd (eV 6) (eO2 dMulA (eV 5) (eV 7)))))) (gA 4 (eF 2 m_law_product (aC (eV 4) (aC (eV 1) aN)))))) (gR (eV 3)))))
def m_law_own_put : List D → Store → R D := mF 8 g_law_own_put
def g_law_own_other : G := (gSeq (gA 1 (eN (lD (aC (eO2 dIx (eV 0) (eC (.int 0))) aN)))) (gSeq (gF (tgN 2) (iR2 (aC (eC (.int 1)) (aC (eB dLen (aC (eV 0) aN)) aN))) (gX (eM isTrk mApp (eV 1) (aC (eO2 dSub (eC (.int 0)) (eO2 dMulA (eO2 dIx (eV 0) (eC (.int 0))) (eB dSum (aC (eL (lC [3] (tgN 3) (iR2 (aC (eC (.int 1)) (aC (eO2 dAdd (eV 2) (eC (.int 1))) aN))) tAll (eO2 dMulA (eO2 dIx (eV 0) (eV 3)) (eO2 dIx (eV 1) (eO2 dSub (eV 2) (eV 3)))))) aN)))) aN)))) (gR (eV 1))))
def m_law_own_other : List D → Store → R D := mF 4 g_law_own_other
def g_law_own_turned : G := (gSeq (gA 1 (eB dLen (aC (eV 0) aN))) (gSeq (gP 2 3 (aC (eF 1 m_law_own_other (aC (eL (lB lList (aC (eSl (eV 0) (oS (eC (.int 1))) oN) aN))) aN)) (aC (eN (lD (aC (eC (.int 0)) aN))) aN))) (gSeq (gA 4 (eF 1 m_law_unit (aC (eO2 dSub (eV 1) (eC (.int 1))) aN))) (gSeq (gF (tgN 5) (iR2 (aC (eC (.int 1)) (aC (eV 1) aN))) (gSeq (gA 4 (eF 2 m_law_product (aC (eV 4) (aC (eV 2) aN)))) (gX (eM isTrk mApp (eV 3) (aC (eO2 dDiv (eO2 dIx (eV 4) (eO2 dSub (eV 5) (eC (.int 1)))) (eV 5)) aN))))) (gR (eB dTup (aC (eV 3) aN)))))))
def m_law_own_turned : List D → Store → R D := mF 6 g_law_own_turned
def g_turned_item : G := (gR (eO2 dIx (eF 1 m_turned_about (aC (eV 0) aN)) (eV 1)))
def m_turned_item : List D → Store → R D := mF 2 g_turned_item
def g_law_are_items_right : G := (gSeq (gA 3 (eB dLen (aC (eV 1) aN))) (gSeq (gF (tgN 4) (iSeq (eIf (tV (eO2 (dCmp fun i j => decide (i < j)) (eV 3) (eC (.int 11)))) (eL (lD (aC (eC (.int 0)) (aC (eO2 dAdd (eC (.int 1)) (eF 2 m_law_draw (aC (eV 0) (aC (eO2 dSub (eV 3) (eC (.int 1))) aN)))) (aC (eO2 dSub (eV 3) (eC (.int 1))) aN))))) (eL (lD (aC (eO2 dAdd (eC (.int 1)) (eF 2 m_law_draw (aC (eV 0) (aC (eO2 dSub (eV 3) (eC (.int 1))) aN)))) aN))))) (gI (tNo (tV (eF 2 m_law_same (aC (eF 2 m_turned_item (aC (eV 1) (aC (eV 4) aN))) (aC (eO2 dIx (eV 2) (eV 4)) aN))))) (gR (eC (.bl false))) gNx)) (gSeq (gA 5 (eF 2 m_law_draw (aC (eV 0) (aC (eV 3) aN)))) (gR (eF 2 m_law_same (aC (eFk 2 [1, 0] 0 2 m_turned_item aN (aC (eV 5) (aC (eV 1) aN))) (aC (eO2 dIx (eV 2) (eV 5)) aN)))))))
def m_law_are_items_right : List D → Store → R D := mF 6 g_law_are_items_right
def g_law_is_turned_right : G := (gSeq (gP 2 3 (aC (eF 1 m_law_own_turned (aC (eV 1) aN)) (aC (eB dLen (aC (eV 1) aN)) aN))) (gSeq (gP 4 5 (aC (eSl (eO2 dAdd (eT (aC (eC (.int 0)) (aC (eC (.int 1)) aN))) (eO2 dMulA (eT (aC (eC (.int 0)) aN)) (eC (.int 14)))) oN (oS (eV 3))) (aC (eF 1 m_turned_about (aC (eV 1) aN)) aN))) (gSeq (gI (tNo (tV (eF 2 m_law_same (aC (eL (lD (aC (eV 5) (aC (eFk 1 [0] 0 1 m_turned_about aN (aC (eV 1) aN)) aN)))) (aC (eL (lD (aC (eV 2) (aC (eV 2) aN)))) aN))))) (gR (eC (.bl false))) gNx) (gSeq (gI (tV (eO2 dNe (eF 2 m_law_own_put (aC (eL (lB lList (aC (eV 1) aN))) (aC (eL (lB lList (aC (eV 5) aN))) aN))) (eL (lB lList (aC (eV 4) aN))))) (gR (eC (.bl false))) gNx) (gSeq (gI (tNo (tV (eF 2 m_law_same (aC (eL (lD (aC (eF 2 m_series_put (aC (eV 1) (aC (eV 5) aN))) (aC (eFk 2 [1, 0] 0 2 m_series_put aN (aC (eV 1) (aC (eV 5) aN))) aN)))) (aC (eL (lD (aC (eV 4) (aC (eV 4) aN)))) aN))))) (gR (eC (.bl false))) gNx) (gR (eAn (eF 2 m_law_same (aC (eF 1 m_turned_about (aC (eV 5) aN)) (aC (eV 1) aN))) (eF 3 m_law_are_items_right (aC (eV 0) (aC (eV 1) (aC (eV 2) aN)))))))))))
def m_law_is_turned_right : List D → Store → R D := mF 6 g_law_is_turned_right
def g_series_other : G := (gSeq (gI (tV (eO2 (dIn true) (eO2 dIx (eV 0) (eC (.int 0))) (eT (aC (eC (.int 1)) (aC (eO1 dNeg (eC (.int 1))) aN))))) (gRaise "Unfit") gNx) (gSeq (gA 1 (eN (lD (aC (eO2 dIx (eV 0) (eC (.int 0))) aN)))) (gSeq (gF (tgN 2) (iR2 (aC (eC (.int 1)) (aC (eB dLen (aC (eV 0) aN)) aN))) (gX (eM isTrk mApp (eV 1) (aC (eO2 dMulA (eO1 dNeg (eO2 dIx (eV 0) (eC (.int 0)))) (eB dSum (aC (eL (lC [3] (tgN 3) (iR2 (aC (eC (.int 1)) (aC (eO2 dAdd (eV 2) (eC (.int 1))) aN))) tAll (eO2 dMulA (eO2 dIx (eV 0) (eV 3)) (eO2 dIx (eV 1) (eO2 dSub (eV 2) (eV 3)))))) aN))) aN)))) (gR (eB dTup (aC (eV 1) aN))))))
def m_series_other : List D → Store → R D := mF 4 g_series_other
def g_series_power : G := (gSeq (gA 2 (eF 1 m_unit_series (aC (eB dLen (aC (eV 0) aN)) aN))) (gSeq (gF (tgN 3) (iR1 (aC (eV 1) aN)) (gA 2 (eF 2 m_series_product (aC (eV 2) (aC (eV 0) aN))))) (gR (eV 2))))
def m_series_power : List D → Store → R D := mF 4 g_series_power
def g_law_own_power : G := (gSeq (gA 2 (eF 1 m_law_unit (aC (eB dLen (aC (eV 0) aN)) aN))) (gSeq (gF (tgN 3) (iR1 (aC (eV 1) aN)) (gA 2 (eF 2 m_law_product (aC (eV 2) (aC (eV 0) aN))))) (gR (eV 2))))
def m_law_own_power : List D → Store → R D := mF 4 g_law_own_power
def g_law_are_powers_right : G := (gSeq (gP 2 3 (aC (eB dLen (aC (eV 1) aN)) (aC (eF 1 m_law_own_turned (aC (eV 1) aN)) aN))) (gSeq (gA 4 (eO2 dAdd (eSl (eV 1) (oS (eC (.int 1))) oN) (eT (aC (eO2 dSub (eF 2 m_law_draw (aC (eV 0) (aC (eO2 dAdd (eO2 dMulA (eC (.int 2)) (eO2 dPow (eC (.int 10)) (eC (.int 6)))) (eC (.int 1))) aN))) (eO2 dPow (eC (.int 10)) (eC (.int 6)))) aN)))) (gSeq (gA 5 (eF 1 m_law_own_other (aC (eL (lB lList (aC (eV 4) aN))) aN))) (gSeq (gA 6 (eF 1 m_series_other (aC (eV 4) aN))) (gSeq (gI (tNo (tV (eF 2 m_law_same (aC (eL (lD (aC (eV 6) (aC (eFk 1 [0] 0 1 m_series_other aN (aC (eV 4) aN)) aN)))) (aC (eL (lD (aC (eB dTup (aC (eV 5) aN)) (aC (eB dTup (aC (eV 5) aN)) aN)))) aN))))) (gR (eC (.bl false))) gNx) (gSeq (gA 7 (eF 2 m_law_pick (aC (eV 0) (aC (eL (lD (aC (eO2 dAdd (eC (.int 1)) (eF 2 m_law_draw (aC (eV 0) (aC (eO2 dSub (eV 2) (eC (.int 1))) aN)))) (aC (eO2 dSub (eV 2) (eC (.int 1))) aN)))) aN)))) (gSeq (gP 8 9 (aC (eB dTup (aC (eF 2 m_law_own_power (aC (eV 5) (aC (eV 7) aN))) aN)) (aC (eF 2 m_series_power (aC (eV 6) (aC (eV 7) aN))) aN))) (gSeq (gI (tNo (tV (eF 2 m_law_same (aC (eL (lD (aC (eV 9) (aC (eFk 2 [1, 0] 0 2 m_series_power aN (aC (eV 7) (aC (eV 6) aN))) aN)))) (aC (eL (lD (aC (eV 8) (aC (eV 8) aN)))) aN))))) (gR (eC (.bl false))) gNx) (gR (eAn (eO2 dEq (eO2 dIx (eV 8) (eO2 dSub (eV 7) (eC (.int 1)))) (eO2 dMulA (eV 7) (eO2 dIx (eV 3) (eV 7)))) (eF 2 m_law_same (aC (eO2 dMulA (eV 7) (eF 2 m_turned_item (aC (eV 1) (aC (eV 7) aN)))) (aC (eO2 dIx (eV 9) (eO2 dSub (eV 7) (eC (.int 1)))) aN)))))))))))))
def m_law_are_powers_right : List D → Store → R D := mF 10 g_law_are_powers_right
def g_choices_row : G := (gSeq (gA 2 (eN (lD (aC (eC (.int 1)) aN)))) (gSeq (gF (tgN 3) (iR1 (aC (eO2 dSub (eV 1) (eC (.int 1))) aN)) (gX (eM isTrk mApp (eV 2) (aC (eO2 dDiv (eO2 dMulA (eO2 dIx (eV 2) (eV 3)) (eO2 dSub (eV 0) (eV 3))) (eO2 dAdd (eV 3) (eC (.int 1)))) aN)))) (gR (eV 2))))
def m_choices_row : List D → Store → R D := mF 4 g_choices_row
def g_fall_value : G := (gR (eB dSum (aC (eL (lC [2, 3] (tgT ((tgN 2) :: (tgN 3) :: [])) (iZip (aC (eV 0) (aC (eF 2 m_choices_row (aC (eV 1) (aC (eB dLen (aC (eV 0) aN)) aN))) aN))) tAll (eO2 dMulA (eV 2) (eV 3)))) aN)))
def m_fall_value : List D → Store → R D := mF 4 g_fall_value
def g_row_of_fall : G := (gR (eB dTup (aC (eL (lC [2] (tgN 2) (iR1 (aC (eV 1) aN)) tAll (eF 2 m_fall_value (aC (eV 0) (aC (eV 2) aN))))) aN)))
def m_row_of_fall : List D → Store → R D := mF 3 g_row_of_fall
def g_fall_trimmed : G := (gSeq (gA 1 (eB dLen (aC (eV 0) aN))) (gSeq (gWh (tAn (tV (eO2 (dCmp fun i j => decide (j < i)) (eV 1) (eC (.int 0)))) (tV (eO2 dEq (eO2 dIx (eV 0) (eO2 dSub (eV 1) (eC (.int 1)))) (eC (.int 0))))) (gA 1 (eO2 dSub (eV 1) (eC (.int 1)))) 100) (gR (eB dTup (aC (eL (lSl (eV 0) oN (oS (eV 1)))) aN)))))
def m_fall_trimmed : List D → Store → R D := mF 2 g_fall_trimmed
def g_fall_shifted : G := (gSeq (gP 2 3 (aC (eF 2 m_choices_row (aC (eV 1) (aC (eB dLen (aC (eV 0) aN)) aN))) (aC (eN (lD aN)) aN))) (gSeq (gF (tgN 4) (iR1 (aC (eB dLen (aC (eV 0) aN)) aN)) (gX (eM isTrk mApp (eV 3) (aC (eB dSum (aC (eL (lC [5, 6] (tgT ((tgN 5) :: (tgN 6) :: [])) (iZip (aC (eSl (eV 0) (oS (eV 4)) oN) (aC (eV 2) aN))) tAll (eO2 dMulA (eV 5) (eV 6)))) aN)) aN)))) (gR (eF 1 m_fall_trimmed (aC (eV 3) aN)))))
def m_fall_shifted : List D → Store → R D := mF 7 g_fall_shifted
def g_law_choose : G := (gSeq (gA 2 (eC (.int 1))) (gSeq (gF (tgN 3) (iR1 (aC (eV 1) aN)) (gA 2 (eO2 dDiv (eO2 dMulA (eV 2) (eO2 dSub (eV 0) (eV 3))) (eO2 dAdd (eV 3) (eC (.int 1)))))) (gR (eV 2))))
def m_law_choose : List D → Store → R D := mF 4 g_law_choose
def g_law_own_family : G := (gSeq (gP 3 4 (aC (eN (lD (aC (eC (.int 0)) aN))) (aC (eC (.int 1)) aN))) (gSeq (gF (tgN 5) (iR1 (aC (eO2 dSub (eV 0) (eC (.int 1))) aN)) (gSeq (gX (eM isTrk mApp (eV 3) (aC (eO2 dMulA (eF 2 m_law_choose (aC (eV 2) (aC (eV 5) aN))) (eV 4)) aN))) (gA 4 (eO2 dMulA (eV 4) (eV 1))))) (gR (eB dTup (aC (eV 3) aN)))))
def m_law_own_family : List D → Store → R D := mF 6 g_law_own_family
def g_law_are_families_right : G := (gSeq (gP 2 3 (aC (eF 2 m_law_pick (aC (eV 0) (aC (eL (lD (aC (eC (.int 1)) (aC (eO1 dNeg (eC (.int 1))) (aC (eC (.int 1)) (aC (eO1 dNeg (eC (.int 1))) (aC (eC (.int 2)) (aC (eO1 dNeg (eC (.int 2))) aN)))))))) aN))) (aC (eO2 dSub (eF 2 m_law_draw (aC (eV 0) (aC (eC (.int 11)) aN))) (eC (.int 5))) aN))) (gSeq (gA 4 (eF 3 m_law_own_family (aC (eV 1) (aC (eV 2) (aC (eV 3) aN))))) (gSeq (gI (tV (eO2 (dCmp fun i j => decide (j < i)) (eB dMax (aC (eL (lC [14] (tgN 14) (iSeq (eV 4)) tAll (eB dAbs (aC (eV 14) aN)))) aN)) (eO2 dPow (eC (.int 10)) (eC (.int 6))))) (gSeq (gA 2 (eIf (tV (eO2 (dCmp fun i j => decide (j < i)) (eV 2) (eC (.int 0)))) (eC (.int 1)) (eO1 dNeg (eC (.int 1))))) (gA 4 (eF 3 m_law_own_family (aC (eV 1) (aC (eV 2) (aC (eV 3) aN)))))) gNx) (gSeq (gA 5 (eSl (eO2 dAdd (eT (aC (eC (.int 1)) (aC (eV 2) aN))) (eO2 dMulA (eT (aC (eC (.int 0)) aN)) (eC (.int 14)))) oN (oS (eV 1)))) (gSeq (gP 6 7 (aC (eF 2 m_series_power (aC (eV 5) (aC (eB dAbs (aC (eV 3) aN)) aN))) (aC (eF 3 m_law_own_family (aC (eO2 dAdd (eV 1) (eC (.int 1))) (aC (eV 2) (aC (eB dAbs (aC (eV 3) aN)) aN)))) aN))) (gSeq (gI (tNo (tV (eF 2 m_law_same (aC (eL (lD (aC (eV 6) (aC (eFk 2 [1, 0] 0 2 m_series_power aN (aC (eB dAbs (aC (eV 3) aN)) (aC (eV 5) aN))) aN)))) (aC (eL (lD (aC (eSl (eV 7) (oS (eC (.int 1))) oN) (aC (eSl (eV 7) (oS (eC (.int 1))) oN) aN)))) aN))))) (gR (eC (.bl false))) gNx) (gSeq (gA 6 (eIf (tV (eO2 (dCmp fun i j => decide (j ≤ i)) (eV 3) (eC (.int 0)))) (eV 6) (eF 1 m_series_other (aC (eV 6) aN)))) (gSeq (gA 7 (eF 3 m_law_own_family (aC (eO2 dAdd (eV 1) (eC (.int 1))) (aC (eV 2) (aC (eV 3) aN))))) (gSeq (gA 8 (eO2 dAdd (eC (.int 6)) (eF 2 m_law_draw (aC (eV 0) (aC (eC (.int 11)) aN))))) (gSeq (gI (tNo (tV (eF 2 m_law_same (aC (eL (lD (aC (eV 6) (aC (eF 2 m_series_power (aC (eV 5) (aC (eV 8) aN))) aN)))) (aC (eL (lD (aC (eSl (eV 7) (oS (eC (.int 1))) oN) (aC (eSl (eF 3 m_law_own_family (aC (eO2 dAdd (eV 1) (eC (.int 1))) (aC (eV 2) (aC (eV 8) aN)))) (oS (eC (.int 1))) oN) aN)))) aN))))) (gR (eC (.bl false))) gNx) (gSeq (gI (tAn (tV (eO2 (dCmp fun i j => decide (i < j)) (eV 3) (eC (.int 0)))) (tV (eO2 dEq (eV 2) (eO1 dNeg (eC (.int 1)))))) (gSeq (gA 9 (eF 2 m_fall_shifted (aC (eO2 dAdd (eO2 dMulA (eT (aC (eC (.int 0)) aN)) (eO2 dSub (eO1 dNeg (eV 3)) (eC (.int 1)))) (eT (aC (eC (.int 1)) aN))) (aC (eO2 dSub (eO1 dNeg (eV 3)) (eC (.int 1))) aN)))) (gSeq (gA 7 (eFk 2 [1, 0] 0 2 m_fall_shifted aN (aC (eO2 dSub (eO1 dNeg (eV 3)) (eC (.int 1))) (aC (eO2 dAdd (eO2 dMulA (eT (aC (eC (.int 0)) aN)) (eO2 dSub (eO1 dNeg (eV 3)) (eC (.int 1)))) (eT (aC (eC (.int 1)) aN))) aN)))) (gI (tOr_ (tNo (tV (eF 2 m_law_same (aC (eF 2 m_row_of_fall (aC (eV 9) (aC (eO2 dSub (eV 1) (eC (.int 1))) aN))) (aC (eSl (eV 4) (oS (eC (.int 1))) oN) aN))))) (tNo (tV (eF 2 m_law_same (aC (eV 7) (aC (eV 9) aN)))))) (gR (eC (.bl false))) gNx))) gNx) (gSeq (gP 10 11 (aC (eN (lD (aC (eC (.int 0)) aN))) (aC (eC (.int 1)) aN))) (gSeq (gF (tgN 12) (iR2 (aC (eC (.int 1)) (aC (eV 1) aN))) (gSeq (gA 13 (eF 2 m_law_choose (aC (eO2 dSub (eC (.int 0)) (eO2 dMulA (eV 3) (eV 12))) (aC (eO2 dSub (eV 12) (eC (.int 1))) aN)))) (gSeq (gI (tNo (tV (eF 2 m_law_same (aC (eF 2 m_fall_value (aC (eO2 dAdd (eO2 dMulA (eT (aC (eC (.int 0)) aN)) (eO2 dSub (eV 12) (eC (.int 1)))) (eT (aC (eC (.int 1)) aN))) (aC (eO2 dSub (eC (.int 0)) (eO2 dMulA (eV 3) (eV 12))) aN))) (aC (eV 13) aN))))) (gR (eC (.bl false))) gNx) (gSeq (gX (eM isTrk mApp (eV 10) (aC (eO2 dDiv (eO2 dMulA (eV 13) (eV 11)) (eV 12)) aN))) (gA 11 (eO2 dMulA (eV 11) (eV 2))))))) (gSeq (gI (tNo (tV (eF 2 m_law_same (aC (eF 1 m_turned_about (aC (eV 4) aN)) (aC (eB dTup (aC (eV 10) aN)) aN))))) (gR (eC (.bl false))) gNx) (gSeq (gA 12 (eO2 dAdd (eC (.int 1)) (eF 2 m_law_draw (aC (eV 0) (aC (eO2 dSub (eV 1) (eC (.int 1))) aN))))) (gR (eF 2 m_law_same (aC (eF 2 m_turned_item (aC (eV 4) (aC (eV 12) aN))) (aC (eO2 dIx (eV 10) (eV 12)) aN)))))))))))))))))))
def m_law_are_families_right : List D → Store → R D := mF 15 g_law_are_families_right
def g_root_series : G := (gSeq (gI (tV (eO2 dNe (eO2 dIx (eV 0) (eC (.int 0))) (eC (.int 1)))) (gRaise "Unfit") gNx) (gSeq (gA 1 (eN (lD (aC (eC (.int 1)) aN)))) (gSeq (gF (tgN 2) (iR2 (aC (eC (.int 1)) (aC (eB dLen (aC (eV 0) aN)) aN))) (gSeq (gA 3 (eO2 dSub (eO2 dIx (eV 0) (eV 2)) (eB dSum (aC (eL (lC [4] (tgN 4) (iR2 (aC (eC (.int 1)) (aC (eV 2) aN))) tAll (eO2 dMulA (eO2 dIx (eV 1) (eV 4)) (eO2 dIx (eV 1) (eO2 dSub (eV 2) (eV 4)))))) aN)))) (gSeq (gI (tV (eO2 dEq (eO2 dBand (eV 3) (eC (.int 1))) (eC (.int 1)))) (gRaise "Unfit") gNx) (gX (eM isTrk mApp (eV 1) (aC (eO2 dDiv (eV 3) (eC (.int 2))) aN)))))) (gR (eB dTup (aC (eV 1) aN))))))
def m_root_series : List D → Store → R D := mF 5 g_root_series
def g_law_are_trees_right : G := (gSeq (gA 1 (eN (lD (aC (eC (.int 0)) (aC (eC (.int 1)) aN))))) (gSeq (gF (tgN 2) (iR2 (aC (eC (.int 2)) (aC (eV 0) aN))) (gX (eM isTrk mApp (eV 1) (aC (eB dSum (aC (eL (lC [8] (tgN 8) (iR2 (aC (eC (.int 1)) (aC (eV 2) aN))) tAll (eO2 dMulA (eO2 dIx (eV 1) (eV 8)) (eO2 dIx (eV 1) (eO2 dSub (eV 2) (eV 8)))))) aN)) aN)))) (gSeq (gA 3 (eB dTup (aC (eV 1) aN))) (gSeq (gA 4 (eSl (eO2 dAdd (eT (aC (eC (.int 0)) (aC (eC (.int 1)) (aC (eO1 dNeg (eC (.int 1))) aN)))) (eO2 dMulA (eT (aC (eC (.int 0)) aN)) (eC (.int 13)))) oN (oS (eV 0)))) (gSeq (gI (tNo (tV (eF 2 m_law_same (aC (eL (lD (aC (eF 1 m_turned_about (aC (eV 4) aN)) (aC (eF 2 m_turned_item (aC (eV 4) (aC (eO2 dSub (eV 0) (eC (.int 1))) aN))) aN)))) (aC (eL (lD (aC (eV 3) (aC (eO2 dIx (eV 3) (eO2 dSub (eV 0) (eC (.int 1)))) aN)))) aN))))) (gR (eC (.bl false))) gNx) (gSeq (gF (tgN 2) (iR2 (aC (eC (.int 1)) (aC (eV 0) aN))) (gI (tNo (tV (eF 2 m_law_same (aC (eFk 2 [0, 1] 0 2 m_fall_value aN (aC (eO2 dAdd (eO2 dMulA (eT (aC (eC (.int 0)) aN)) (eO2 dSub (eV 2) (eC (.int 1)))) (eT (aC (eC (.int 1)) aN))) (aC (eO2 dSub (eO2 dMulA (eC (.int 2)) (eV 2)) (eC (.int 2))) aN))) (aC (eO2 dMulA (eV 2) (eO2 dIx (eV 3) (eV 2))) aN))))) (gR (eC (.bl false))) gNx)) (gSeq (gA 5 (eF 1 m_root_series (aC (eSl (eO2 dAdd (eT (aC (eC (.int 1)) (aC (eO1 dNeg (eC (.int 4))) aN))) (eO2 dMulA (eT (aC (eC (.int 0)) aN)) (eC (.int 14)))) oN (oS (eV 0))) aN))) (gSeq (gI (tNo (tV (eF 2 m_law_same (aC (eV 5) (aC (eB dTup (aC (eL (lO2 lAdd (eL (lD (aC (eC (.int 1)) aN))) (eL (lC [9] (tgN 9) (iSeq (eSl (eV 3) (oS (eC (.int 1))) oN)) tAll (eO2 dMulA (eO1 dNeg (eC (.int 2))) (eV 9)))))) aN)) aN))))) (gR (eC (.bl false))) gNx) (gSeq (gI (tNo (tV (eF 2 m_law_same (aC (eF 2 m_series_product (aC (eV 5) (aC (eV 5) aN))) (aC (eSl (eO2 dAdd (eT (aC (eC (.int 1)) (aC (eO1 dNeg (eC (.int 4))) aN))) (eO2 dMulA (eT (aC (eC (.int 0)) aN)) (eC (.int 14)))) oN (oS (eV 0))) aN))))) (gR (eC (.bl false))) gNx) (gSeq (gA 6 (eB dTup (aC (eL (lO2 lAdd (eL (lD (aC (eC (.int 0)) aN))) (eL (lC [8] (tgN 8) (iR1 (aC (eO2 dSub (eV 0) (eC (.int 1))) aN)) tAll (eIf (tV (eO2 dEq (eO2 dMod (eB dInt (aC (eV 8) aN)) (eC (.int 2))) (eC (.int 0)))) (eC (.int 1)) (eO1 dNeg (eC (.int 1)))))))) aN))) (gSeq (gA 7 (eO2 dMulA (eT (aC (eC (.int 1)) aN)) (eO2 dSub (eV 0) (eC (.int 1))))) (gSeq (gI (tNo (tV (eF 2 m_law_same (aC (eL (lD (aC (eF 2 m_row_of_fall (aC (eT (aC (eC (.int 1)) aN)) (aC (eO2 dSub (eV 0) (eC (.int 1))) aN))) (aC (eFk 2 [1, 0] 0 2 m_row_of_fall aN (aC (eO2 dSub (eV 0) (eC (.int 1))) (aC (eT (aC (eC (.int 1)) aN)) aN))) aN)))) (aC (eL (lD (aC (eV 7) (aC (eV 7) aN)))) aN))))) (gR (eC (.bl false))) gNx) (gR (eF 2 m_law_same (aC (eL (lD (aC (eFk 1 [0] 0 1 m_turned_about aN (aC (eV 6) aN)) (aC (eF 1 m_turned_about (aC (eO2 dAdd (eT (aC (eC (.int 0)) aN)) (eV 7)) aN)) aN)))) (aC (eL (lD (aC (eO2 dAdd (eT (aC (eC (.int 0)) aN)) (eV 7)) (aC (eV 6) aN)))) aN))))))))))))))))
def m_law_are_trees_right : List D → Store → R D := mF 10 g_law_are_trees_right
def g_law_are_both_right : G := (gSeq (gP 2 3 (aC (eF 3 m_law_own_row (aC (eV 0) (aC (eV 1) (aC (eC (.int 4)) aN)))) (aC (eF 3 m_law_own_row (aC (eV 0) (aC (eV 1) (aC (eC (.int 4)) aN)))) aN))) (gSeq (gP 4 5 (aC (eB dTup (aC (eF 2 m_law_own_put (aC (eV 2) (aC (eV 3) aN))) aN)) (aC (eF 2 m_series_put (aC (eV 2) (aC (eV 3) aN))) aN))) (gSeq (gI (tNo (tV (eF 2 m_law_same (aC (eV 5) (aC (eV 4) aN))))) (gR (eC (.bl false))) gNx) (gSeq (gP 6 7 (aC (eF 1 m_law_own_turned (aC (eV 2) aN)) (aC (eF 1 m_law_own_turned (aC (eV 3) aN)) aN))) (gSeq (gA 8 (eB dTup (aC (eF 2 m_law_own_put (aC (eV 7) (aC (eV 6) aN))) aN))) (gSeq (gP 9 10 (aC (eF 1 m_turned_about (aC (eV 2) aN)) (aC (eF 1 m_turned_about (aC (eV 3) aN)) aN))) (gSeq (gI (tNo (tV (eF 2 m_law_same (aC (eL (lD (aC (eV 9) (aC (eV 10) aN)))) (aC (eL (lD (aC (eV 6) (aC (eV 7) aN)))) aN))))) (gR (eC (.bl false))) gNx) (gR (eF 2 m_law_same (aC (eL (lD (aC (eF 1 m_turned_about (aC (eV 5) aN)) (aC (eF 2 m_series_put (aC (eV 10) (aC (eV 9) aN))) aN)))) (aC (eL (lD (aC (eV 8) (aC (eV 8) aN)))) aN)))))))))))
def m_law_are_both_right : List D → Store → R D := mF 11 g_law_are_both_right
def g_law_own_root : G := (gSeq (gI (tV (eO2 dNe (eO2 dIx (eV 0) (eC (.int 0))) (eC (.int 1)))) (gR (eC .non)) gNx) (gSeq (gA 1 (eN (lD (aC (eC (.int 1)) aN)))) (gSeq (gF (tgN 2) (iR2 (aC (eC (.int 1)) (aC (eB dLen (aC (eV 0) aN)) aN))) (gSeq (gA 3 (eO2 dSub (eO2 dIx (eV 0) (eV 2)) (eB dSum (aC (eL (lC [4] (tgN 4) (iR2 (aC (eC (.int 1)) (aC (eV 2) aN))) tAll (eO2 dMulA (eO2 dIx (eV 1) (eV 4)) (eO2 dIx (eV 1) (eO2 dSub (eV 2) (eV 4)))))) aN)))) (gSeq (gI (tV (eO2 dEq (eO2 dMod (eB dInt (aC (eV 3) aN)) (eC (.int 2))) (eC (.int 1)))) (gR (eC .non)) gNx) (gX (eM isTrk mApp (eV 1) (aC (eO2 dDiv (eV 3) (eC (.int 2))) aN)))))) (gR (eB dTup (aC (eV 1) aN))))))
def m_law_own_root : List D → Store → R D := mF 5 g_law_own_root
def g_law_asked : G := (gTryE "Unfit" 3 (dueE [true, false, false, false, false, false, false, false, false, false]) (gSeq (gI (tV (eO2 dEq (eV 0) (eC (.int 0)))) (gR (eF 1 m_root_series (aC (eV 1) aN))) gNx) (gR (eIf (tV (eO2 dEq (eV 0) (eC (.int 1)))) (eF 1 m_turned_about (aC (eV 1) aN)) (eF 2 m_turned_item (aC (eV 1) (aC (eV 2) aN)))))))
def m_law_asked : List D → Store → R D := mF 4 g_law_asked
def g_law_are_roots_right : G := (gSeq (gT (tgT ((tgN 1) :: (tgN 2) :: [])) (eT (aC (eO2 dAdd (eC (.int 1)) (eF 2 m_law_draw (aC (eV 0) (aC (eC (.int 16)) aN)))) (aC (eF 2 m_law_pick (aC (eV 0) (aC (eL (lD (aC (eC (.int 2)) (aC (eC (.int 9)) (aC (eC (.int 200)) (aC (eC (.int 200)) aN)))))) aN))) aN)))) (gSeq (gA 3 (eB dTup (aC (eL (lO2 lAdd (eL (lD (aC (eC (.int 1)) aN))) (eL (lC [12] (tgN 12) (iR1 (aC (eO2 dSub (eV 1) (eC (.int 1))) aN)) tAll (eO2 dSub (eF 2 m_law_draw (aC (eV 0) (aC (eO2 dAdd (eO2 dMulA (eC (.int 2)) (eV 2)) (eC (.int 1))) aN))) (eV 2)))))) aN))) (gSeq (gA 4 (eB dTup (aC (eF 2 m_law_product (aC (eV 3) (aC (eV 3) aN))) aN))) (gSeq (gP 5 6 (aC (eF 1 m_root_series (aC (eV 4) aN)) (aC (eL (lD (aC (eL (lC [12] (tgN 12) (iR1 (aC (eC (.int 10)) aN)) tAll (eO2 dEq (eV 12) (eC (.int 0))))) (aC (eC .non) aN)))) aN))) (gSeq (gI (tNo (tV (eF 2 m_law_same (aC (eL (lD (aC (eV 5) (aC (eFk 1 [0] 0 1 m_root_series aN (aC (eV 4) aN)) aN)))) (aC (eL (lD (aC (eV 3) (aC (eV 3) aN)))) aN))))) (gR (eC (.bl false))) gNx) (gSeq (gI (tNo (tV (eF 2 m_law_same (aC (eL (lD (aC (eF 2 m_series_power (aC (eV 5) (aC (eC (.int 2)) aN))) (aC (eFk 2 [0, 1] 0 2 m_series_product aN (aC (eV 5) (aC (eV 5) aN))) aN)))) (aC (eL (lD (aC (eV 4) (aC (eV 4) aN)))) aN))))) (gR (eC (.bl false))) gNx) (gSeq (gF (tgT ((tgN 7) :: (tgN 8) :: [])) (iSeq (eL (lD (aC (eT (aC (eO2 dSub (eV 1) (eC (.int 1))) (aC (eC (.int 1)) aN))) (aC (eT (aC (eO2 dSub (eV 1) (eC (.int 1))) (aC (eO1 dNeg (eC (.int 1))) aN))) (aC (eT (aC (eF 2 m_law_draw (aC (eV 0) (aC (eV 1) aN))) (aC (eC (.int 1)) aN))) (aC (eT (aC (eF 2 m_law_draw (aC (eV 0) (aC (eV 1) aN))) (aC (eC (.int 2)) aN))) (aC (eT (aC (eC (.int 0)) (aC (eO1 dNeg (eC (.int 1))) aN))) (aC (eT (aC (eF 2 m_law_draw (aC (eV 0) (aC (eV 1) aN))) (aC (eO1 dNeg (eC (.int 2))) aN))) (aC (eT (aC (eC (.int 0)) (aC (eF 2 m_law_pick (aC (eV 0) (aC (eL (lD (aC (eC (.int 3)) (aC (eO1 dNeg (eC (.int 2))) (aC (eC (.int 8)) (aC (eC (.int 15)) aN)))))) aN))) aN))) (aC (eT (aC (eO2 dSub (eV 1) (eC (.int 1))) (aC (eC (.int 2)) aN))) aN))))))))))) (gSeq (gA 9 (eO2 dAdd (eO2 dAdd (eSl (eV 4) oN (oS (eV 7))) (eT (aC (eO2 dAdd (eO2 dIx (eV 4) (eV 7)) (eV 8)) aN))) (eSl (eV 4) (oS (eO2 dAdd (eV 7) (eC (.int 1)))) oN))) (gSeq (gA 10 (eF 1 m_law_own_root (aC (eV 9) aN))) (gI (tNo (tV (eF 2 m_law_same (aC (eF 3 m_law_asked (aC (eC (.int 0)) (aC (eV 9) (aC (eC (.int 0)) aN)))) (aC (eIf (tV (eO2 dIsN (eV 10) (eC .non))) (eV 6) (eV 10)) aN))))) (gR (eC (.bl false))) gNx)))) (gSeq (gA 3 (eB dTup (aC (eL (lO2 lAdd (eL (lD (aC (eC (.int 1)) aN))) (eL (lC [12] (tgN 12) (iR1 (aC (eO2 dSub (eV 1) (eC (.int 1))) aN)) tAll (eO2 dSub (eF 2 m_law_draw (aC (eV 0) (aC (eO2 dAdd (eO2 dMulA (eC (.int 2)) (eO2 dPow (eC (.int 10)) (eC (.int 6)))) (eC (.int 1))) aN))) (eO2 dPow (eC (.int 10)) (eC (.int 6)))))))) aN))) (gSeq (gA 11 (eF 2 m_series_product (aC (eV 3) (aC (eV 3) aN)))) (gR (eAn (eF 2 m_law_same (aC (eV 11) (aC (eB dTup (aC (eF 2 m_law_product (aC (eV 3) (aC (eV 3) aN))) aN)) aN))) (eF 2 m_law_same (aC (eF 1 m_root_series (aC (eV 11) aN)) (aC (eV 3) aN))))))))))))))
def m_law_are_roots_right : List D → Store → R D := mF 13 g_law_are_roots_right
def g_law_are_refused : G := (gSeq (gA 2 (eO2 dAdd (eC (.int 2)) (eF 2 m_law_draw (aC (eV 0) (aC (eO2 dSub (eO2 dPow (eC (.int 10)) (eC (.int 6))) (eC (.int 1))) aN))))) (gSeq (gP 3 4 (aC (eL (lD (aC (eL (lC [7] (tgN 7) (iR1 (aC (eC (.int 10)) aN)) tAll (eO2 dEq (eV 7) (eC (.int 0))))) (aC (eC .non) aN)))) (aC (eF 2 m_law_pick (aC (eV 0) (aC (eL (lD (aC (eC (.int 1)) (aC (eO1 dNeg (eC (.int 1))) (aC (eV 2) (aC (eO1 dNeg (eV 2)) aN)))))) aN))) aN))) (gSeq (gF (tgN 5) (iSeq (eL (lD (aC (eT (aC (eC (.int 0)) aN)) (aC (eT (aC (eV 4) aN)) (aC (eO2 dAdd (eT (aC (eV 4) aN)) (eSl (eV 1) (oS (eC (.int 1))) oN)) (aC (eO2 dAdd (eT (aC (eC (.int 0)) (aC (eC (.int 0)) aN))) (eSl (eV 1) (oS (eC (.int 2))) oN)) (aC (eO2 dAdd (eT (aC (eC (.int 0)) (aC (eV 2) aN))) (eSl (eV 1) (oS (eC (.int 2))) oN)) (aC (eO2 dAdd (eT (aC (eC (.int 0)) (aC (eO1 dNeg (eV 2)) aN))) (eSl (eV 1) (oS (eC (.int 2))) oN)) (aC (eO2 dAdd (eT (aC (eC (.int 0)) (aC (eF 2 m_law_pick (aC (eV 0) (aC (eL (lD (aC (eC (.int 2)) (aC (eO1 dNeg (eC (.int 2))) aN)))) aN))) aN))) (eSl (eV 1) (oS (eC (.int 2))) oN)) (aC (eO2 dAdd (eT (aC (eV 4) (aC (eV 2) aN))) (eSl (eV 1) (oS (eC (.int 2))) oN)) aN))))))))))) (gSeq (gA 6 (eF 2 m_law_draw (aC (eV 0) (aC (eB dLen (aC (eV 5) aN)) aN)))) (gI (tNo (tV (eF 2 m_law_same (aC (eL (lD (aC (eF 3 m_law_asked (aC (eC (.int 1)) (aC (eV 5) (aC (eC (.int 0)) aN)))) (aC (eF 3 m_law_asked (aC (eC (.int 2)) (aC (eV 5) (aC (eV 6) aN)))) aN)))) (aC (eL (lD (aC (eV 3) (aC (eV 3) aN)))) aN))))) (gR (eC (.bl false))) gNx))) (gR (eC (.bl true))))))
def m_law_are_refused : List D → Store → R D := mF 8 g_law_are_refused
def g_law_are_all_right : G := (gSeq (gA 1 (eF 1 m_law_own_bag (aC (eV 0) aN))) (gSeq (gA 2 (eO2 dAdd (eC (.int 2)) (eIf (tV (eO2 dEq (eF 2 m_law_draw (aC (eV 1) (aC (eC (.int 5)) aN))) (eC (.int 0)))) (eF 2 m_law_draw (aC (eV 1) (aC (eC (.int 15)) aN))) (eF 2 m_law_draw (aC (eV 1) (aC (eC (.int 9)) aN)))))) (gSeq (gA 3 (eF 3 m_law_own_row (aC (eV 1) (aC (eV 2) (aC (eF 2 m_law_pick (aC (eV 1) (aC (eL (lD (aC (eC (.int 3)) (aC (eC (.int 9)) (aC (eO2 dPow (eC (.int 10)) (eC (.int 6))) aN))))) aN))) aN))))) (gSeq (gA 4 (eB dRepr (aC (eV 3) aN))) (gSeq (gI (tOr_ (tNo (tV (eF 2 m_law_is_turned_right (aC (eV 1) (aC (eV 3) aN))))) (tNo (tV (eF 2 m_law_are_powers_right (aC (eV 1) (aC (eV 3) aN)))))) (gR (eC (.bl false))) gNx) (gSeq (gA 5 (eIf (tV (eO2 (dCmp fun i j => decide (i < j)) (eV 2) (eC (.int 11)))) (eO2 dAdd (eC (.int 2)) (eF 2 m_law_draw (aC (eV 1) (aC (eC (.int 8)) aN)))) (eO2 dAdd (eC (.int 2)) (eF 2 m_law_draw (aC (eV 1) (aC (eC (.int 4)) aN)))))) (gSeq (gI (tOr_ (tNo (tV (eF 2 m_law_are_families_right (aC (eV 1) (aC (eV 5) aN))))) (tNo (tV (eF 2 m_law_are_both_right (aC (eV 1) (aC (eO2 dAdd (eC (.int 2)) (eF 2 m_law_draw (aC (eV 1) (aC (eC (.int 6)) aN)))) aN)))))) (gR (eC (.bl false))) gNx) (gSeq (gI (tNo (tV (eF 1 m_law_are_trees_right (aC (eIf (tAn (tV (eO2 dEq (eF 2 m_law_draw (aC (eV 1) (aC (eC (.int 9)) aN))) (eC (.int 0)))) (tV (eO2 (dCmp fun i j => decide (i < j)) (eV 2) (eC (.int 8))))) (eC (.int 16)) (eO2 dAdd (eC (.int 2)) (eF 2 m_law_draw (aC (eV 1) (aC (eC (.int 8)) aN))))) aN)))) (gR (eC (.bl false))) gNx) (gSeq (gI (tOr_ (tNo (tV (eF 1 m_law_are_roots_right (aC (eV 1) aN)))) (tNo (tV (eF 2 m_law_are_refused (aC (eV 1) (aC (eV 3) aN)))))) (gR (eC (.bl false))) gNx) (gR (eO2 dEq (eB dRepr (aC (eV 3) aN)) (eV 4))))))))))))
def m_law_are_all_right : List D → Store → R D := mF 6 g_law_are_all_right
def g_law : G := (gTry0 (gR (eF 1 m_law_are_all_right (aC (eV 0) aN))))
def m_law : List D → Store → R D := mF 1 g_law
/-- what the text says of names -/
structure Txt (K : PySem.W.Frag) (mg : Str → Option Value) : Prop where
  n_abs : mg "abs" = none
  n_int : mg "int" = none
  n_isinstance : mg "isinstance" = none
  n_len : mg "len" = none
  n_list : mg "list" = none
  n_max : mg "max" = none
  n_range : mg "range" = none
  n_repr : mg "repr" = none
  n_reversed : mg "reversed" = none
  n_sum : mg "sum" = none
  n_tuple : mg "tuple" = none
  n_zip : mg "zip" = none
end K75


set_option Elab.async false
set_option linter.all false
set_option maxRecDepth 100000
set_option maxHeartbeats 4000000
namespace K75
open PySem L2 Sm
/-! the text by places, the scopes, the plain functions -/
def top (i : Nat) : Stmt := PySem.Challenge.pw_leadterms_k75_whole_turned_rows_and_tree.main.body.getD i (.Pass ⟨0, 0, 0, 0⟩)
abbrev s_law_own_bag : Stmt := top 32
abbrev s_law_draw : Stmt := top 33
abbrev s_law_pick : Stmt := top 34
abbrev s_law_own_row : Stmt := top 44
abbrev s_product_item : Stmt := top 20
abbrev s_series_product : Stmt := top 21
abbrev s_unit_series : Stmt := top 23
abbrev s_put_into : Stmt := top 25
abbrev s_series_put : Stmt := top 26
abbrev s_turned_about : Stmt := top 28
abbrev s_law_same : Stmt := top 35
abbrev s_law_product : Stmt := top 38
abbrev s_law_unit : Stmt := top 39
abbrev s_law_own_put : Stmt := top 42
abbrev s_law_own_other : Stmt := top 40
abbrev s_law_own_turned : Stmt := top 43
abbrev s_turned_item : Stmt := top 29
abbrev s_law_are_items_right : Stmt := top 45
abbrev s_law_is_turned_right : Stmt := top 46
abbrev s_series_other : Stmt := top 22
abbrev s_series_power : Stmt := top 24
abbrev s_law_own_power : Stmt := top 41
abbrev s_law_are_powers_right : Stmt := top 47
abbrev s_choices_row : Stmt := top 2
abbrev s_fall_value : Stmt := top 3
abbrev s_row_of_fall : Stmt := top 4
abbrev s_fall_trimmed : Stmt := top 1
abbrev s_fall_shifted : Stmt := top 18
abbrev s_law_choose : Stmt := top 37
abbrev s_law_own_family : Stmt := top 48
abbrev s_law_are_families_right : Stmt := top 49
abbrev s_root_series : Stmt := top 30
abbrev s_law_are_trees_right : Stmt := top 50
abbrev s_law_are_both_right : Stmt := top 51
abbrev s_law_own_root : Stmt := top 52
abbrev s_law_error : Stmt := top 36
abbrev s_law_asked : Stmt := top 53
abbrev s_law_are_roots_right : Stmt := top 54
abbrev s_law_are_refused : Stmt := top 55
abbrev s_law_are_all_right : Stmt := top 56
abbrev s_law : Stmt := top 57
abbrev N_law_own_bag : List Str := ["script", "cells", "mixed", "cell"]
theorem sc_law_own_bag : FnScope N_law_own_bag ["script"] (defScope s_law_own_bag) := ⟨rfl, rfl, rfl, by decide +kernel, rfl, by decide +kernel, by decide +kernel⟩
abbrev N_law_draw : List Str := ["bag", "below", "cell", "found"]
theorem sc_law_draw : FnScope N_law_draw ["bag", "below"] (defScope s_law_draw) := ⟨rfl, rfl, rfl, by decide +kernel, rfl, by decide +kernel, by decide +kernel⟩
abbrev N_law_pick : List Str := ["bag", "some"]
theorem sc_law_pick : FnScope N_law_pick ["bag", "some"] (defScope s_law_pick) := ⟨rfl, rfl, rfl, by decide +kernel, rfl, by decide +kernel, by decide +kernel⟩
abbrev N_law_own_row : List Str := ["bag", "many", "most", "found", "k", "top"]
theorem sc_law_own_row : FnScope N_law_own_row ["bag", "many", "most"] (defScope s_law_own_row) := ⟨rfl, rfl, rfl, by decide +kernel, rfl, by decide +kernel, by decide +kernel⟩
abbrev N_product_item : List Str := ["one", "other", "n", "i"]
theorem sc_product_item : FnScope N_product_item ["one", "other", "n"] (defScope s_product_item) := ⟨rfl, rfl, rfl, by decide +kernel, rfl, by decide +kernel, by decide +kernel⟩
abbrev N_series_product : List Str := ["one", "other", "n"]
theorem sc_series_product : FnScope N_series_product ["one", "other"] (defScope s_series_product) := ⟨rfl, rfl, rfl, by decide +kernel, rfl, by decide +kernel, by decide +kernel⟩
abbrev N_unit_series : List Str := ["many"]
theorem sc_unit_series : FnScope N_unit_series ["many"] (defScope s_unit_series) := ⟨rfl, rfl, rfl, by decide +kernel, rfl, by decide +kernel, by decide +kernel⟩
abbrev N_put_into : List Str := ["one", "other", "found", "power", "item", "here", "more"]
theorem sc_put_into : FnScope N_put_into ["one", "other"] (defScope s_put_into) := ⟨rfl, rfl, rfl, by decide +kernel, rfl, by decide +kernel, by decide +kernel⟩
abbrev N_series_put : List Str := ["one", "other"]
theorem sc_series_put : FnScope N_series_put ["one", "other"] (defScope s_series_put) := ⟨rfl, rfl, rfl, by decide +kernel, rfl, by decide +kernel, by decide +kernel⟩
abbrev N_turned_about : List Str := ["row", "found", "n", "item"]
theorem sc_turned_about : FnScope N_turned_about ["row"] (defScope s_turned_about) := ⟨rfl, rfl, rfl, by decide +kernel, rfl, by decide +kernel, by decide +kernel⟩
abbrev N_law_same : List Str := ["told", "due"]
theorem sc_law_same : FnScope N_law_same ["told", "due"] (defScope s_law_same) := ⟨rfl, rfl, rfl, by decide +kernel, rfl, by decide +kernel, by decide +kernel⟩
abbrev N_law_product : List Str := ["one", "other", "many", "i", "j"]
theorem sc_law_product : FnScope N_law_product ["one", "other"] (defScope s_law_product) := ⟨rfl, rfl, rfl, by decide +kernel, rfl, by decide +kernel, by decide +kernel⟩
abbrev N_law_unit : List Str := ["many"]
theorem sc_law_unit : FnScope N_law_unit ["many"] (defScope s_law_unit) := ⟨rfl, rfl, rfl, by decide +kernel, rfl, by decide +kernel, by decide +kernel⟩
abbrev N_law_own_put : List Str := ["one", "other", "many", "found", "power", "c", "a", "b"]
theorem sc_law_own_put : FnScope N_law_own_put ["one", "other"] (defScope s_law_own_put) := ⟨rfl, rfl, rfl, by decide +kernel, rfl, by decide +kernel, by decide +kernel⟩
abbrev N_law_own_other : List Str := ["row", "found", "i", "j"]
theorem sc_law_own_other : FnScope N_law_own_other ["row"] (defScope s_law_own_other) := ⟨rfl, rfl, rfl, by decide +kernel, rfl, by decide +kernel, by decide +kernel⟩
abbrev N_law_own_turned : List Str := ["row", "many", "base", "found", "power", "n"]
theorem sc_law_own_turned : FnScope N_law_own_turned ["row"] (defScope s_law_own_turned) := ⟨rfl, rfl, rfl, by decide +kernel, rfl, by decide +kernel, by decide +kernel⟩
abbrev N_turned_item : List Str := ["row", "n"]
theorem sc_turned_item : FnScope N_turned_item ["row", "n"] (defScope s_turned_item) := ⟨rfl, rfl, rfl, by decide +kernel, rfl, by decide +kernel, by decide +kernel⟩
abbrev N_law_are_items_right : List Str := ["bag", "row", "due", "many", "n", "at"]
theorem sc_law_are_items_right : FnScope N_law_are_items_right ["bag", "row", "due"] (defScope s_law_are_items_right) := ⟨rfl, rfl, rfl, by decide +kernel, rfl, by decide +kernel, by decide +kernel⟩
abbrev N_law_is_turned_right : List Str := ["bag", "row", "due", "many", "letter", "told"]
theorem sc_law_is_turned_right : FnScope N_law_is_turned_right ["bag", "row"] (defScope s_law_is_turned_right) := ⟨rfl, rfl, rfl, by decide +kernel, rfl, by decide +kernel, by decide +kernel⟩
abbrev N_series_other : List Str := ["row", "found", "n", "i"]
theorem sc_series_other : FnScope N_series_other ["row"] (defScope s_series_other) := ⟨rfl, rfl, rfl, by decide +kernel, rfl, by decide +kernel, by decide +kernel⟩
abbrev N_series_power : List Str := ["row", "k", "found", "turn"]
theorem sc_series_power : FnScope N_series_power ["row", "k"] (defScope s_series_power) := ⟨rfl, rfl, rfl, by decide +kernel, rfl, by decide +kernel, by decide +kernel⟩
abbrev N_law_own_power : List Str := ["row", "k", "found", "turn"]
theorem sc_law_own_power : FnScope N_law_own_power ["row", "k"] (defScope s_law_own_power) := ⟨rfl, rfl, rfl, by decide +kernel, rfl, by decide +kernel, by decide +kernel⟩
abbrev N_law_are_powers_right : List Str := ["bag", "row", "many", "due", "u", "base", "told", "n", "power", "found"]
theorem sc_law_are_powers_right : FnScope N_law_are_powers_right ["bag", "row"] (defScope s_law_are_powers_right) := ⟨rfl, rfl, rfl, by decide +kernel, rfl, by decide +kernel, by decide +kernel⟩
abbrev N_choices_row : List Str := ["x", "many", "found", "i"]
theorem sc_choices_row : FnScope N_choices_row ["x", "many"] (defScope s_choices_row) := ⟨rfl, rfl, rfl, by decide +kernel, rfl, by decide +kernel, by decide +kernel⟩
abbrev N_fall_value : List Str := ["fall", "x", "item", "number"]
theorem sc_fall_value : FnScope N_fall_value ["fall", "x"] (defScope s_fall_value) := ⟨rfl, rfl, rfl, by decide +kernel, rfl, by decide +kernel, by decide +kernel⟩
abbrev N_row_of_fall : List Str := ["fall", "many", "x"]
theorem sc_row_of_fall : FnScope N_row_of_fall ["fall", "many"] (defScope s_row_of_fall) := ⟨rfl, rfl, rfl, by decide +kernel, rfl, by decide +kernel, by decide +kernel⟩
abbrev N_fall_trimmed : List Str := ["row", "many"]
theorem sc_fall_trimmed : FnScope N_fall_trimmed ["row"] (defScope s_fall_trimmed) := ⟨rfl, rfl, rfl, by decide +kernel, rfl, by decide +kernel, by decide +kernel⟩
abbrev N_fall_shifted : List Str := ["fall", "s", "numbers", "found", "i", "item", "number"]
theorem sc_fall_shifted : FnScope N_fall_shifted ["fall", "s"] (defScope s_fall_shifted) := ⟨rfl, rfl, rfl, by decide +kernel, rfl, by decide +kernel, by decide +kernel⟩
abbrev N_law_choose : List Str := ["x", "i", "found", "k"]
theorem sc_law_choose : FnScope N_law_choose ["x", "i"] (defScope s_law_choose) := ⟨rfl, rfl, rfl, by decide +kernel, rfl, by decide +kernel, by decide +kernel⟩
abbrev N_law_own_family : List Str := ["many", "a", "j", "found", "place", "k"]
theorem sc_law_own_family : FnScope N_law_own_family ["many", "a", "j"] (defScope s_law_own_family) := ⟨rfl, rfl, rfl, by decide +kernel, rfl, by decide +kernel, by decide +kernel⟩
abbrev N_law_are_families_right : List Str := ["bag", "many", "a", "j", "row", "base", "power", "again", "k", "moved", "due", "place", "n", "worth", "item"]
theorem sc_law_are_families_right : FnScope N_law_are_families_right ["bag", "many"] (defScope s_law_are_families_right) := ⟨rfl, rfl, rfl, by decide +kernel, rfl, by decide +kernel, by decide +kernel⟩
abbrev N_root_series : List Str := ["row", "found", "n", "twice", "i"]
theorem sc_root_series : FnScope N_root_series ["row"] (defScope s_root_series) := ⟨rfl, rfl, rfl, by decide +kernel, rfl, by decide +kernel, by decide +kernel⟩
abbrev N_law_are_trees_right : List Str := ["many", "trees", "n", "due", "row", "root", "turns", "ones", "k", "item"]
theorem sc_law_are_trees_right : FnScope N_law_are_trees_right ["many"] (defScope s_law_are_trees_right) := ⟨rfl, rfl, rfl, by decide +kernel, rfl, by decide +kernel, by decide +kernel⟩
abbrev N_law_are_both_right : List Str := ["bag", "many", "one", "other", "due", "told", "left", "right", "back", "first", "second"]
theorem sc_law_are_both_right : FnScope N_law_are_both_right ["bag", "many"] (defScope s_law_are_both_right) := ⟨rfl, rfl, rfl, by decide +kernel, rfl, by decide +kernel, by decide +kernel⟩
abbrev N_law_own_root : List Str := ["row", "found", "n", "left", "k"]
theorem sc_law_own_root : FnScope N_law_own_root ["row"] (defScope s_law_own_root) := ⟨rfl, rfl, rfl, by decide +kernel, rfl, by decide +kernel, by decide +kernel⟩
abbrev N_law_error : List Str := ["error", "some"]
theorem sc_law_error : FnScope N_law_error ["error"] (defScope s_law_error) := ⟨rfl, rfl, rfl, by decide +kernel, rfl, by decide +kernel, by decide +kernel⟩
abbrev N_law_asked : List Str := ["way", "row", "n", "error"]
theorem sc_law_asked : FnScope N_law_asked ["way", "row", "n"] (defScope s_law_asked) := ⟨rfl, rfl, rfl, by decide +kernel, rfl, by decide +kernel, by decide +kernel⟩
abbrev N_law_are_roots_right : List Str := ["bag", "many", "top", "root", "row", "told", "unfit", "at", "more", "some", "due", "found", "k"]
theorem sc_law_are_roots_right : FnScope N_law_are_roots_right ["bag"] (defScope s_law_are_roots_right) := ⟨rfl, rfl, rfl, by decide +kernel, rfl, by decide +kernel, by decide +kernel⟩
abbrev N_law_are_refused : List Str := ["bag", "row", "bad", "unfit", "one", "some", "n", "k"]
theorem sc_law_are_refused : FnScope N_law_are_refused ["bag", "row"] (defScope s_law_are_refused) := ⟨rfl, rfl, rfl, by decide +kernel, rfl, by decide +kernel, by decide +kernel⟩
abbrev N_law_are_all_right : List Str := ["script", "bag", "many", "row", "kept", "few"]
theorem sc_law_are_all_right : FnScope N_law_are_all_right ["script"] (defScope s_law_are_all_right) := ⟨rfl, rfl, rfl, by decide +kernel, rfl, by decide +kernel, by decide +kernel⟩
abbrev N_law : List Str := ["script"]
theorem sc_law : FnScope N_law ["script"] (defScope s_law) := ⟨rfl, rfl, rfl, by decide +kernel, rfl, by decide +kernel, by decide +kernel⟩
end K75


set_option Elab.async false
set_option linter.all false
set_option maxRecDepth 100000
set_option maxHeartbeats 4000000
namespace K75
open PySem L2 Sm PySem.Spec PyProof.Rows
structure Txt2 (K : PySem.W.Frag) (mg : Str → Option Value) (cC cT : Addr) : Prop extends Txt K mg where
  x_Unfit : PySem.W.excIn K cC [.type "ValueError", .type "Exception", .type "BaseException", .type "object"] "ValueError.__new__" = true
  e_Unfit : Ecl K mg "Unfit" cC
  e_TermError : Ecl K mg "TermError" cT
  t_Unfit : PySem.W.exmOne K (.ref cC) (.ref cT) = some true
/-- a class that an error is asked for -/
structure Ask (K : PySem.W.Frag) (mg : Str → Option Value) (cC : Addr) (x : Str) (b : Bool) (c : Addr) : Prop where
  gm : mg x = some (.ref c)
  is_ : PySem.W.kitOne K (.ref cC) (.ref c) = some b
abbrev bsE : List Bool := [true, false, false, false, false, false, false, false, false, false]
theorem ok_law_error {P : Program} {w : World} {K : PySem.W.Frag} {mg : Str → Option Value} {base : Heap} {cC cT : Addr} (T : Txt2 K mg cC cT) (X : ExcC K cC) {c0 c1 c2 c3 c4 c5 c6 c7 c8 c9 : Addr}
    (q0 : Ask K mg cC "Unfit" true c0) (q1 : Ask K mg cC "TooMany" false c1) (q2 : Ask K mg cC "BadText" false c2) (q3 : Ask K mg cC "BadPolynomial" false c3) (q4 : Ask K mg cC "BadLog" false c4) (q5 : Ask K mg cC "Refused" false c5)
    (q6 : Ask K mg cC "NothingToUndo" false c6) (q7 : Ask K mg cC "NothingToRedo" false c7) (q8 : Ask K mg cC "NoName" false c8) (q9 : Ask K mg cC "NoVersion" false c9)
    {a : Addr} {f : FuncData} (Fu : Fun K "_law_error" "_law_error" s_law_error a f) (gm : mg "_law_error" = some (.ref a)) : DfW P w K mg base "_law_error" 1 a f ["error"] cC bsE :=
  ⟨fw_of Fu sc_law_error (by decide) fun A outer s H cd p hz hf => er_body sc_law_error.nd
      (isl_c (is_1 X (List.mem_singleton.mpr rfl) hz hf T.n_isinstance q0.gm q0.is_) (isl_c (is_1 X (List.mem_singleton.mpr rfl) hz hf T.n_isinstance q1.gm q1.is_) (isl_c (is_1 X (List.mem_singleton.mpr rfl) hz hf T.n_isinstance q2.gm q2.is_)
      (isl_c (is_1 X (List.mem_singleton.mpr rfl) hz hf T.n_isinstance q3.gm q3.is_) (isl_c (is_1 X (List.mem_singleton.mpr rfl) hz hf T.n_isinstance q4.gm q4.is_) (isl_c (is_1 X (List.mem_singleton.mpr rfl) hz hf T.n_isinstance q5.gm q5.is_)
      (isl_c (is_1 X (List.mem_singleton.mpr rfl) hz hf T.n_isinstance q6.gm q6.is_) (isl_c (is_1 X (List.mem_singleton.mpr rfl) hz hf T.n_isinstance q7.gm q7.is_) (isl_c (is_1 X (List.mem_singleton.mpr rfl) hz hf T.n_isinstance q8.gm q8.is_)
      (isl_c (is_1 X (List.mem_singleton.mpr rfl) hz hf T.n_isinstance q9.gm q9.is_) isl_n))))))))))
      (is_1 X (List.mem_singleton.mpr rfl) hz hf T.n_isinstance q1.gm q1.is_) (by decide), gm, Fu.kp, Fu.binds fun _ _ _ _ _ _ us hl => match us, hl with | [_], _ => rfl⟩
end K75


set_option Elab.async false
set_option linter.all false
set_option maxRecDepth 100000
set_option maxHeartbeats 4000000
namespace K75
open PySem L2 Sm
theorem ok_law_own_bag {P : Program} {w : World} {K : PySem.W.Frag} {mg : Str → Option Value} {base : Heap} {cC cT : Addr} (T : Txt2 K mg cC cT) {a : Addr} {f : FuncData} (Fu : Fun K "_law_own_bag" "_law_own_bag" s_law_own_bag a f) (gm : mg "_law_own_bag" = some (.ref a)) : Df P w K mg base "_law_own_bag" 1 a f ["script"] m_law_own_bag :=
  ⟨fn_XK Fu sc_law_own_bag g_law_own_bag fun A outer s H E cd hg hr tk po => (ss_c (ss_ac (own := [("cell", 3)]) rfl sc_law_own_bag.nd (si_seq (se_l (sl_sl (se_v 0) so_n (so_s se_int)))) (blk_of (N := N_law_own_bag) (sc := defScope s_law_own_bag) rfl rfl (by refine ⟨rfl, ?_, ?_, ?_, ?_⟩ <;> decide +kernel)) (fun _ _ _ _ _ => (sg_n sc_law_own_bag.nd)) (fun _ _ _ _ _ => sts_n) (fun _ _ _ _ _ => (x_abs T.n_abs (sa_c (se_v 3) sa_n))) rfl) (ss_c (ss_a sc_law_own_bag.nd (x_add se_int (x_len T.n_len (sa_c (se_v 1) sa_n)))) (ss_c (ss_f po rfl (si_seq (se_v 1)) (sg_n sc_law_own_bag.nd) (ss_1 (ss_a sc_law_own_bag.nd (x_mod (x_int T.n_int (sa_c (x_add (x_add (x_mul (se_v 2) se_int) (x_mod (x_int T.n_int (sa_c (se_v 3) sa_n)) se_int)) se_int) sa_n)) se_int)))) (ss_1 (ss_r (se_n (sl_d (sa_c (se_n (sl_w rfl T.n_list (sp_rev T.n_reversed (se_l (x_list T.n_list (sa_c (se_v 1) sa_n)))))) (sa_c se_int (sa_c (se_v 2) sa_n)))))))))), gm, Fu.kp, Fu.binds fun _ _ _ _ _ _ us hl => match us, hl with | [_], _ => rfl⟩
theorem ok_law_draw {P : Program} {w : World} {K : PySem.W.Frag} {mg : Str → Option Value} {base : Heap} {cC cT : Addr} (T : Txt2 K mg cC cT) {a : Addr} {f : FuncData} (Fu : Fun K "_law_draw" "_law_draw" s_law_draw a f) (gm : mg "_law_draw" = some (.ref a)) : Df P w K mg base "_law_draw" 1 a f ["bag", "below"] m_law_draw :=
  ⟨fn_X Fu sc_law_draw g_law_draw fun A outer s H E cd hg hr tk po => (ss_c (ss_wh 100 po (PW.pt (sw_and (y_eq hr (x_ix (se_v 0) se_int) se_int) (sw_and1 (y_ne hr (x_ix (se_v 0) se_int) (se_l (sl_d sa_n)))))) (ss_c (ss_a sc_law_draw.nd (x_pop (x_ix (se_v 0) se_int))) (ss_1 (ss_set (se_if (y_gt (se_v 2) (x_pow se_int se_int)) (se_v 2) se_int) (se_v 0) se_int)))) (ss_c (ss_i (y_gt (x_ix (se_v 0) se_int) se_int) (ss_c (ss_a sc_law_draw.nd (x_mod (x_int T.n_int (sa_c (x_ix (se_v 0) se_int) sa_n)) (se_v 1))) (ss_c (ss_set (x_div (x_ix (se_v 0) se_int) (se_v 1)) (se_v 0) se_int) (ss_1 (ss_r (se_v 3))))) ss_nil) (ss_c (ss_set (x_mod (x_int T.n_int (sa_c (x_add (x_mul (x_ix (se_v 0) se_int) se_int) se_int) sa_n)) se_int) (se_v 0) se_int) (ss_1 (ss_r (x_mod (x_int T.n_int (sa_c (x_div (x_mod (x_int T.n_int (sa_c (x_mul (x_ix (se_v 0) se_int) (x_ix (se_v 0) se_int)) sa_n)) se_int) se_int) sa_n)) (se_v 1))))))), gm, Fu.kp, Fu.binds fun _ _ _ _ _ _ us hl => match us, hl with | [_, _], _ => rfl⟩
theorem ok_law_pick {P : Program} {w : World} {K : PySem.W.Frag} {mg : Str → Option Value} {base : Heap} {cC cT : Addr} (T : Txt2 K mg cC cT) {a : Addr} {f : FuncData} (Fu : Fun K "_law_pick" "_law_pick" s_law_pick a f) (gm : mg "_law_pick" = some (.ref a)) {a_law_draw : Addr} {f_law_draw : FuncData} (d_law_draw : Df P w K mg base "_law_draw" 1 a_law_draw f_law_draw ["bag", "below"] m_law_draw) : Df P w K mg base "_law_pick" 2 a f ["bag", "some"] m_law_pick :=
  ⟨fn_X Fu sc_law_pick g_law_pick fun A outer s H E cd hg hr tk po => (ss_1 (ss_r (x_ix (se_v 1) (se_f d_law_draw hg (hr.mono (by decide)) tk (sa_c (se_v 0) (sa_c (x_len T.n_len (sa_c (se_v 1) sa_n)) sa_n)) (by rfl) (by decide) (by rfl) (by rfl))))), gm, Fu.kp, Fu.binds fun _ _ _ _ _ _ us hl => match us, hl with | [_, _], _ => rfl⟩
theorem ok_law_own_row {P : Program} {w : World} {K : PySem.W.Frag} {mg : Str → Option Value} {base : Heap} {cC cT : Addr} (T : Txt2 K mg cC cT) {a : Addr} {f : FuncData} (Fu : Fun K "_law_own_row" "_law_own_row" s_law_own_row a f) (gm : mg "_law_own_row" = some (.ref a)) {a_law_pick : Addr} {f_law_pick : FuncData} (d_law_pick : Df P w K mg base "_law_pick" 2 a_law_pick f_law_pick ["bag", "some"] m_law_pick) {a_law_draw : Addr} {f_law_draw : FuncData} (d_law_draw : Df P w K mg base "_law_draw" 1 a_law_draw f_law_draw ["bag", "below"] m_law_draw) : Df P w K mg base "_law_own_row" 3 a f ["bag", "many", "most"] m_law_own_row :=
  ⟨fn_X Fu sc_law_own_row g_law_own_row fun A outer s H E cd hg hr tk po => (ss_c (ss_a sc_law_own_row.nd (se_n (sl_d (sa_c se_int (sa_c (se_f d_law_pick hg (hr.mono (by decide)) tk (sa_c (se_v 0) (sa_c (se_l (sl_d (sa_c se_int (sa_c (x_neg se_int) sa_n)))) sa_n)) (by rfl) (by decide) (by rfl) (by rfl)) sa_n))))) (ss_c (ss_f po rfl (si_r1 T.n_range (sa_c (x_sub (se_v 1) se_int) sa_n)) (sg_n sc_law_own_row.nd) (ss_c (ss_a sc_law_own_row.nd (se_f d_law_pick hg (hr.mono (by decide)) tk (sa_c (se_v 0) (sa_c (se_l (sl_d (sa_c se_int (sa_c se_int (sa_c se_int (sa_c (se_v 2) sa_n)))))) sa_n)) (by rfl) (by decide) (by rfl) (by rfl))) (ss_1 (ss_x (x_app (se_v 3) (sa_c (x_sub (se_f d_law_draw hg (hr.mono (by decide)) tk (sa_c (se_v 0) (sa_c (x_add (x_mul se_int (se_v 5)) se_int) sa_n)) (by rfl) (by decide) (by rfl) (by rfl)) (se_v 5)) sa_n)))))) (ss_1 (ss_r (x_tup T.n_tuple (sa_c (se_v 3) sa_n)))))), gm, Fu.kp, Fu.binds fun _ _ _ _ _ _ us hl => match us, hl with | [_, _, _], _ => rfl⟩
theorem ok_product_item {P : Program} {w : World} {K : PySem.W.Frag} {mg : Str → Option Value} {base : Heap} {cC cT : Addr} (T : Txt2 K mg cC cT) {a : Addr} {f : FuncData} (Fu : Fun K "product_item" "product_item" s_product_item a f) (gm : mg "product_item" = some (.ref a)) : Df P w K mg base "product_item" 1 a f ["one", "other", "n"] m_product_item :=
  ⟨fn_X Fu sc_product_item g_product_item fun A outer s H E cd hg hr tk po => (ss_1 (ss_r (x_sum rfl T.n_sum (sa_c (se_l (sl_c (own := [("i", 3)]) rfl sc_product_item.nd (si_r1 T.n_range (sa_c (x_add (se_v 2) se_int) sa_n)) (blk_of (N := N_product_item) (sc := defScope s_product_item) rfl rfl (by refine ⟨rfl, ?_, ?_, ?_, ?_⟩ <;> decide +kernel)) (fun _ _ _ _ _ => (sg_n sc_product_item.nd)) (fun _ _ _ _ _ => (x_mul (x_ix (se_v 0) (se_v 3)) (x_ix (se_v 1) (x_sub (se_v 2) (se_v 3))))) (by decide) (by intro _; rfl))) sa_n)))), gm, Fu.kp, Fu.binds fun _ _ _ _ _ _ us hl => match us, hl with | [_, _, _], _ => rfl⟩
theorem ok_series_product {P : Program} {w : World} {K : PySem.W.Frag} {mg : Str → Option Value} {base : Heap} {cC cT : Addr} (T : Txt2 K mg cC cT) {a : Addr} {f : FuncData} (Fu : Fun K "series_product" "series_product" s_series_product a f) (gm : mg "series_product" = some (.ref a)) {a_product_item : Addr} {f_product_item : FuncData} (d_product_item : Df P w K mg base "product_item" 1 a_product_item f_product_item ["one", "other", "n"] m_product_item) : Df P w K mg base "series_product" 2 a f ["one", "other"] m_series_product :=
  ⟨fn_X Fu sc_series_product g_series_product fun A outer s H E cd hg hr tk po => (ss_1 (ss_r (x_tup T.n_tuple (sa_c (se_l (sl_c (own := [("n", 2)]) rfl sc_series_product.nd (si_r1 T.n_range (sa_c (x_len T.n_len (sa_c (se_v 0) sa_n)) sa_n)) (blk_of (N := N_series_product) (sc := defScope s_series_product) rfl rfl (by refine ⟨rfl, ?_, ?_, ?_, ?_⟩ <;> decide +kernel)) (fun _ _ _ _ _ => (sg_n sc_series_product.nd)) (fun _ _ _ _ _ => (se_f (ps := ["one", "other", "n"]) (k := 1) (m := m_product_item) (by exact d_product_item) (by exact hg) (by exact hr.mono (by decide)) tk00 (sa_c (se_v 0) (sa_c (se_v 1) (sa_c (se_v 2) sa_n))) (by rfl) (by decide) (by rfl) (by rfl))) (by decide) (by intro _; rfl))) sa_n)))), gm, Fu.kp, Fu.binds fun _ _ _ _ _ _ us hl => match us, hl with | [_, _], _ => rfl⟩
theorem ok_unit_series {P : Program} {w : World} {K : PySem.W.Frag} {mg : Str → Option Value} {base : Heap} {cC cT : Addr} (T : Txt2 K mg cC cT) {a : Addr} {f : FuncData} (Fu : Fun K "unit_series" "unit_series" s_unit_series a f) (gm : mg "unit_series" = some (.ref a)) : Df P w K mg base "unit_series" 1 a f ["many"] m_unit_series :=
  ⟨fn_X Fu sc_unit_series g_unit_series fun A outer s H E cd hg hr tk po => (ss_1 (ss_r (x_add (se_t (sa_c se_int sa_n)) (x_mul (se_t (sa_c se_int sa_n)) (x_sub (se_v 0) se_int))))), gm, Fu.kp, Fu.binds fun _ _ _ _ _ _ us hl => match us, hl with | [_], _ => rfl⟩
end K75


set_option Elab.async false
set_option linter.all false
set_option maxRecDepth 100000
set_option maxHeartbeats 4000000
namespace K75
open PySem L2 Sm
theorem ok_put_into {P : Program} {w : World} {K : PySem.W.Frag} {mg : Str → Option Value} {base : Heap} {cC cT : Addr} (T : Txt2 K mg cC cT) {a : Addr} {f : FuncData} (Fu : Fun K "put_into" "put_into" s_put_into a f) (gm : mg "put_into" = some (.ref a)) {a_unit_series : Addr} {f_unit_series : FuncData} (d_unit_series : Df P w K mg base "unit_series" 1 a_unit_series f_unit_series ["many"] m_unit_series) {a_series_product : Addr} {f_series_product : FuncData} (d_series_product : Df P w K mg base "series_product" 2 a_series_product f_series_product ["one", "other"] m_series_product) : Df P w K mg base "put_into" 3 a f ["one", "other"] m_put_into :=
  ⟨fn_X Fu sc_put_into g_put_into fun A outer s H E cd hg hr tk po => (ss_c (ss_p rfl sc_put_into.nd (sa_c (x_mul (se_t (sa_c se_int sa_n)) (x_len T.n_len (sa_c (se_v 0) sa_n))) (sa_c (se_f d_unit_series hg (hr.mono (by decide)) tk (sa_c (x_len T.n_len (sa_c (se_v 0) sa_n)) sa_n) (by rfl) (by decide) (by rfl) (by rfl)) sa_n))) (ss_c (ss_f po rfl (si_seq (se_v 0)) (sg_n sc_put_into.nd) (ss_c (ss_a sc_put_into.nd (x_tup T.n_tuple (sa_c (se_l (sl_c (own := [("here", 5), ("more", 6)]) rfl sc_put_into.nd (si_zip T.n_zip (sa_c (se_v 2) (sa_c (se_v 3) sa_n))) (blk_of (N := N_put_into) (sc := defScope s_put_into) rfl rfl (by refine ⟨rfl, ?_, ?_, ?_, ?_⟩ <;> decide +kernel)) (fun _ _ _ _ _ => (sg_t rfl (sgs_c (sg_n sc_put_into.nd) (sgs_c (sg_n sc_put_into.nd) sgs_n)))) (fun _ _ _ _ _ => (x_add (se_v 5) (x_mul (se_v 4) (se_v 6)))) (by decide) (by intro _; rfl))) sa_n))) (ss_1 (ss_a sc_put_into.nd (se_f d_series_product hg (hr.mono (by decide)) tk (sa_c (se_v 3) (sa_c (se_v 1) sa_n)) (by rfl) (by decide) (by rfl) (by rfl)))))) (ss_1 (ss_r (se_v 2))))), gm, Fu.kp, Fu.binds fun _ _ _ _ _ _ us hl => match us, hl with | [_, _], _ => rfl⟩
theorem ok_series_put {P : Program} {w : World} {K : PySem.W.Frag} {mg : Str → Option Value} {base : Heap} {cC cT : Addr} (T : Txt2 K mg cC cT) {a : Addr} {f : FuncData} (Fu : Fun K "series_put" "series_put" s_series_put a f) (gm : mg "series_put" = some (.ref a)) {a_put_into : Addr} {f_put_into : FuncData} (d_put_into : Df P w K mg base "put_into" 3 a_put_into f_put_into ["one", "other"] m_put_into) : Df P w K mg base "series_put" 4 a f ["one", "other"] m_series_put :=
  ⟨fn_X Fu sc_series_put g_series_put fun A outer s H E cd hg hr tk po => (ss_c (ss_i (y_ne hr (x_ix (se_v 1) se_int) se_int) (ss_1 (ss_raise rfl tk F.excBase_ValueError T.x_Unfit T.e_Unfit)) ss_nil) (ss_1 (ss_r (se_f d_put_into hg (hr.mono (by decide)) tk (sa_c (se_v 0) (sa_c (se_v 1) sa_n)) (by rfl) (by decide) (by rfl) (by rfl))))), gm, Fu.kp, Fu.binds fun _ _ _ _ _ _ us hl => match us, hl with | [_, _], _ => rfl⟩
theorem ok_turned_about {P : Program} {w : World} {K : PySem.W.Frag} {mg : Str → Option Value} {base : Heap} {cC cT : Addr} (T : Txt2 K mg cC cT) {a : Addr} {f : FuncData} (Fu : Fun K "turned_about" "turned_about" s_turned_about a f) (gm : mg "turned_about" = some (.ref a)) {a_put_into : Addr} {f_put_into : FuncData} (d_put_into : Df P w K mg base "put_into" 3 a_put_into f_put_into ["one", "other"] m_put_into) : Df P w K mg base "turned_about" 4 a f ["row"] m_turned_about :=
  ⟨fn_X Fu sc_turned_about g_turned_about fun A outer s H E cd hg hr tk po => (ss_c (ss_i (PW.pt (sw_or (y_lt (x_len T.n_len (sa_c (se_v 0) sa_n)) se_int) (sw_or (y_ne hr (x_ix (se_v 0) se_int) se_int) (sw_or1 (y_ni (x_ix (se_v 0) se_int) (se_t (sa_c se_int (sa_c (x_neg se_int) sa_n)))))))) (ss_1 (ss_raise rfl tk F.excBase_ValueError T.x_Unfit T.e_Unfit)) ss_nil) (ss_c (ss_a sc_turned_about.nd (se_n (sl_d (sa_c se_int (sa_c (x_ix (se_v 0) se_int) sa_n))))) (ss_c (ss_f po rfl (si_r2 T.n_range (sa_c se_int (sa_c (x_len T.n_len (sa_c (se_v 0) sa_n)) sa_n))) (sg_n sc_turned_about.nd) (ss_c (ss_a sc_turned_about.nd (x_ix (se_f d_put_into hg (hr.mono (by decide)) tk (sa_c (se_sl (se_v 0) so_n (so_s (x_add (se_v 2) se_int))) (sa_c (x_add (x_tup T.n_tuple (sa_c (se_v 1) sa_n)) (se_t (sa_c se_int sa_n))) sa_n)) (by rfl) (by decide) (by rfl) (by rfl)) (se_v 2))) (ss_1 (ss_x (x_app (se_v 1) (sa_c (x_mul (x_neg (se_v 3)) (x_ix (se_v 0) se_int)) sa_n)))))) (ss_1 (ss_r (x_tup T.n_tuple (sa_c (se_v 1) sa_n))))))), gm, Fu.kp, Fu.binds fun _ _ _ _ _ _ us hl => match us, hl with | [_], _ => rfl⟩
theorem ok_law_same {P : Program} {w : World} {K : PySem.W.Frag} {mg : Str → Option Value} {base : Heap} {cC cT : Addr} (T : Txt2 K mg cC cT) {a : Addr} {f : FuncData} (Fu : Fun K "_law_same" "_law_same" s_law_same a f) (gm : mg "_law_same" = some (.ref a)) : Df P w K mg base "_law_same" 1 a f ["told", "due"] m_law_same :=
  ⟨fn_X Fu sc_law_same g_law_same fun A outer s H E cd hg hr tk po => (ss_1 (ss_r (se_and (x_eq hr (se_v 0) (se_v 1)) (se_one (x_eq hr (x_repr hg hr T.n_repr (sa_c (se_v 0) sa_n)) (x_repr hg hr T.n_repr (sa_c (se_v 1) sa_n))))))), gm, Fu.kp, Fu.binds fun _ _ _ _ _ _ us hl => match us, hl with | [_, _], _ => rfl⟩
theorem ok_law_product {P : Program} {w : World} {K : PySem.W.Frag} {mg : Str → Option Value} {base : Heap} {cC cT : Addr} (T : Txt2 K mg cC cT) {a : Addr} {f : FuncData} (Fu : Fun K "_law_product" "_law_product" s_law_product a f) (gm : mg "_law_product" = some (.ref a)) : Df P w K mg base "_law_product" 1 a f ["one", "other"] m_law_product :=
  ⟨fn_X Fu sc_law_product g_law_product fun A outer s H E cd hg hr tk po => (ss_c (ss_a sc_law_product.nd (x_len T.n_len (sa_c (se_v 0) sa_n))) (ss_1 (ss_r (se_l (sl_c (own := [("i", 3)]) rfl sc_law_product.nd (si_r1 T.n_range (sa_c (se_v 2) sa_n)) (blk_of (N := N_law_product) (sc := defScope s_law_product) rfl rfl (by refine ⟨rfl, ?_, ?_, ?_, ?_⟩ <;> decide +kernel)) (fun _ _ _ _ _ => (sg_n sc_law_product.nd)) (fun _ _ _ _ _ => (x_sum rfl T.n_sum (sa_c (se_l (sl_ci (own := [("j", 4)]) rfl sc_law_product.nd (si_r1 T.n_range (sa_c (x_add (se_v 3) se_int) sa_n)) (blk_in (N := N_law_product) rfl rfl (by decide +kernel) (by decide +kernel) (by repeat (first | exact .nil | refine .no (by decide) ?_ | refine .c rfl ?_ | refine .f rfl ?_)) (by decide +kernel)) (fun _ _ _ _ _ => (sg_n sc_law_product.nd)) (fun _ _ _ _ _ => (y_ne (by exact hr) (x_ix (se_v 0) (se_v 4)) se_int)) (fun _ _ _ _ _ => (x_mul (x_ix (se_v 0) (se_v 4)) (x_ix (se_v 1) (x_sub (se_v 3) (se_v 4))))) (by decide) (by intro _; rfl))) sa_n))) (by decide) (by intro _; rfl)))))), gm, Fu.kp, Fu.binds fun _ _ _ _ _ _ us hl => match us, hl with | [_, _], _ => rfl⟩
theorem ok_law_unit {P : Program} {w : World} {K : PySem.W.Frag} {mg : Str → Option Value} {base : Heap} {cC cT : Addr} (T : Txt2 K mg cC cT) {a : Addr} {f : FuncData} (Fu : Fun K "_law_unit" "_law_unit" s_law_unit a f) (gm : mg "_law_unit" = some (.ref a)) : Df P w K mg base "_law_unit" 1 a f ["many"] m_law_unit :=
  ⟨fn_X Fu sc_law_unit g_law_unit fun A outer s H E cd hg hr tk po => (ss_1 (ss_r (se_l (x_addL (se_l (sl_d (sa_c se_int sa_n))) (se_l (x_mulL (se_l (sl_d (sa_c se_int sa_n))) (x_sub (se_v 0) se_int))))))), gm, Fu.kp, Fu.binds fun _ _ _ _ _ _ us hl => match us, hl with | [_], _ => rfl⟩
theorem ok_law_own_put {P : Program} {w : World} {K : PySem.W.Frag} {mg : Str → Option Value} {base : Heap} {cC cT : Addr} (T : Txt2 K mg cC cT) {a : Addr} {f : FuncData} (Fu : Fun K "_law_own_put" "_law_own_put" s_law_own_put a f) (gm : mg "_law_own_put" = some (.ref a)) {a_law_unit : Addr} {f_law_unit : FuncData} (d_law_unit : Df P w K mg base "_law_unit" 1 a_law_unit f_law_unit ["many"] m_law_unit) {a_law_product : Addr} {f_law_product : FuncData} (d_law_product : Df P w K mg base "_law_product" 1 a_law_product f_law_product ["one", "other"] m_law_product) : Df P w K mg base "_law_own_put" 2 a f ["one", "other"] m_law_own_put :=
  ⟨fn_X Fu sc_law_own_put g_law_own_put fun A outer s H E cd hg hr tk po => (ss_c (ss_a sc_law_own_put.nd (x_len T.n_len (sa_c (se_v 0) sa_n))) (ss_c (ss_p rfl sc_law_own_put.nd (sa_c (se_l (x_mulL (se_l (sl_d (sa_c se_int sa_n))) (se_v 2))) (sa_c (se_f d_law_unit hg (hr.mono (by decide)) tk (sa_c (se_v 2) sa_n) (by rfl) (by decide) (by rfl) (by rfl)) sa_n))) (ss_c (ss_f po rfl (si_seq (se_v 0)) (sg_n sc_law_own_put.nd) (ss_c (ss_ac (own := [("a", 6), ("b", 7)]) rfl sc_law_own_put.nd (si_seq (se_l (sl_w rfl T.n_list (sp_zip T.n_zip (sa_c (se_v 3) (sa_c (se_v 4) sa_n)))))) (blk_of (N := N_law_own_put) (sc := defScope s_law_own_put) rfl rfl (by refine ⟨rfl, ?_, ?_, ?_, ?_⟩ <;> decide +kernel)) (fun _ _ _ _ _ => (sg_t rfl (sgs_c (sg_n sc_law_own_put.nd) (sgs_c (sg_n sc_law_own_put.nd) sgs_n)))) (fun _ _ _ _ _ => sts_n) (fun _ _ _ _ _ => (x_add (se_v 6) (x_mul (se_v 5) (se_v 7)))) rfl) (ss_1 (ss_a sc_law_own_put.nd (se_f d_law_product hg (hr.mono (by decide)) tk (sa_c (se_v 4) (sa_c (se_v 1) sa_n)) (by rfl) (by decide) (by rfl) (by rfl)))))) (ss_1 (ss_r (se_v 3)))))), gm, Fu.kp, Fu.binds fun _ _ _ _ _ _ us hl => match us, hl with | [_, _], _ => rfl⟩
end K75


set_option Elab.async false
set_option linter.all false
set_option maxRecDepth 100000
set_option maxHeartbeats 4000000
namespace K75
open PySem L2 Sm
theorem ok_law_own_other {P : Program} {w : World} {K : PySem.W.Frag} {mg : Str → Option Value} {base : Heap} {cC cT : Addr} (T : Txt2 K mg cC cT) {a : Addr} {f : FuncData} (Fu : Fun K "_law_own_other" "_law_own_other" s_law_own_other a f) (gm : mg "_law_own_other" = some (.ref a)) : Df P w K mg base "_law_own_other" 1 a f ["row"] m_law_own_other :=
  ⟨fn_X Fu sc_law_own_other g_law_own_other fun A outer s H E cd hg hr tk po => (ss_c (ss_a sc_law_own_other.nd (se_n (sl_d (sa_c (x_ix (se_v 0) se_int) sa_n)))) (ss_c (ss_f po rfl (si_r2 T.n_range (sa_c se_int (sa_c (x_len T.n_len (sa_c (se_v 0) sa_n)) sa_n))) (sg_n sc_law_own_other.nd) (ss_1 (ss_x (x_app (se_v 1) (sa_c (x_sub se_int (x_mul (x_ix (se_v 0) se_int) (x_sum rfl T.n_sum (sa_c (se_l (sl_c (own := [("j", 3)]) rfl sc_law_own_other.nd (si_r2 T.n_range (sa_c se_int (sa_c (x_add (se_v 2) se_int) sa_n))) (blk_of (N := N_law_own_other) (sc := defScope s_law_own_other) rfl rfl (by refine ⟨rfl, ?_, ?_, ?_, ?_⟩ <;> decide +kernel)) (fun _ _ _ _ _ => (sg_n sc_law_own_other.nd)) (fun _ _ _ _ _ => (x_mul (x_ix (se_v 0) (se_v 3)) (x_ix (se_v 1) (x_sub (se_v 2) (se_v 3))))) (by decide) (by intro _; rfl))) sa_n)))) sa_n))))) (ss_1 (ss_r (se_v 1))))), gm, Fu.kp, Fu.binds fun _ _ _ _ _ _ us hl => match us, hl with | [_], _ => rfl⟩
theorem ok_law_own_turned {P : Program} {w : World} {K : PySem.W.Frag} {mg : Str → Option Value} {base : Heap} {cC cT : Addr} (T : Txt2 K mg cC cT) {a : Addr} {f : FuncData} (Fu : Fun K "_law_own_turned" "_law_own_turned" s_law_own_turned a f) (gm : mg "_law_own_turned" = some (.ref a)) {a_law_own_other : Addr} {f_law_own_other : FuncData} (d_law_own_other : Df P w K mg base "_law_own_other" 1 a_law_own_other f_law_own_other ["row"] m_law_own_other) {a_law_unit : Addr} {f_law_unit : FuncData} (d_law_unit : Df P w K mg base "_law_unit" 1 a_law_unit f_law_unit ["many"] m_law_unit) {a_law_product : Addr} {f_law_product : FuncData} (d_law_product : Df P w K mg base "_law_product" 1 a_law_product f_law_product ["one", "other"] m_law_product) : Df P w K mg base "_law_own_turned" 2 a f ["row"] m_law_own_turned :=
  ⟨fn_X Fu sc_law_own_turned g_law_own_turned fun A outer s H E cd hg hr tk po => (ss_c (ss_a sc_law_own_turned.nd (x_len T.n_len (sa_c (se_v 0) sa_n))) (ss_c (ss_p rfl sc_law_own_turned.nd (sa_c (se_f d_law_own_other hg (hr.mono (by decide)) tk (sa_c (se_l (x_list T.n_list (sa_c (se_sl (se_v 0) (so_s se_int) so_n) sa_n))) sa_n) (by rfl) (by decide) (by rfl) (by rfl)) (sa_c (se_n (sl_d (sa_c se_int sa_n))) sa_n))) (ss_c (ss_a sc_law_own_turned.nd (se_f d_law_unit hg (hr.mono (by decide)) tk (sa_c (x_sub (se_v 1) se_int) sa_n) (by rfl) (by decide) (by rfl) (by rfl))) (ss_c (ss_f po rfl (si_r2 T.n_range (sa_c se_int (sa_c (se_v 1) sa_n))) (sg_n sc_law_own_turned.nd) (ss_c (ss_a sc_law_own_turned.nd (se_f d_law_product hg (hr.mono (by decide)) tk (sa_c (se_v 4) (sa_c (se_v 2) sa_n)) (by rfl) (by decide) (by rfl) (by rfl))) (ss_1 (ss_x (x_app (se_v 3) (sa_c (x_div (x_ix (se_v 4) (x_sub (se_v 5) se_int)) (se_v 5)) sa_n)))))) (ss_1 (ss_r (x_tup T.n_tuple (sa_c (se_v 3) sa_n)))))))), gm, Fu.kp, Fu.binds fun _ _ _ _ _ _ us hl => match us, hl with | [_], _ => rfl⟩
theorem ok_turned_item {P : Program} {w : World} {K : PySem.W.Frag} {mg : Str → Option Value} {base : Heap} {cC cT : Addr} (T : Txt2 K mg cC cT) {a : Addr} {f : FuncData} (Fu : Fun K "turned_item" "turned_item" s_turned_item a f) (gm : mg "turned_item" = some (.ref a)) {a_turned_about : Addr} {f_turned_about : FuncData} (d_turned_about : Df P w K mg base "turned_about" 4 a_turned_about f_turned_about ["row"] m_turned_about) : Df P w K mg base "turned_item" 5 a f ["row", "n"] m_turned_item :=
  ⟨fn_X Fu sc_turned_item g_turned_item fun A outer s H E cd hg hr tk po => (ss_1 (ss_r (x_ix (se_f d_turned_about hg (hr.mono (by decide)) tk (sa_c (se_v 0) sa_n) (by rfl) (by decide) (by rfl) (by rfl)) (se_v 1)))), gm, Fu.kp, Fu.binds fun _ _ _ _ _ _ us hl => match us, hl with | [_, _], _ => rfl⟩
theorem ok_law_are_items_right {P : Program} {w : World} {K : PySem.W.Frag} {mg : Str → Option Value} {base : Heap} {cC cT : Addr} (T : Txt2 K mg cC cT) {a : Addr} {f : FuncData} (Fu : Fun K "_law_are_items_right" "_law_are_items_right" s_law_are_items_right a f) (gm : mg "_law_are_items_right" = some (.ref a)) {a_law_draw : Addr} {f_law_draw : FuncData} (d_law_draw : Df P w K mg base "_law_draw" 1 a_law_draw f_law_draw ["bag", "below"] m_law_draw) {a_law_same : Addr} {f_law_same : FuncData} (d_law_same : Df P w K mg base "_law_same" 1 a_law_same f_law_same ["told", "due"] m_law_same) {a_turned_item : Addr} {f_turned_item : FuncData} (d_turned_item : Df P w K mg base "turned_item" 5 a_turned_item f_turned_item ["row", "n"] m_turned_item) (k_turned_item_n_row : KBn K f_turned_item ["row", "n"] 0 ["n", "row"] (pkW [1, 0]) (pkV [1, 0])) : Df P w K mg base "_law_are_items_right" 6 a f ["bag", "row", "due"] m_law_are_items_right :=
  ⟨fn_X Fu sc_law_are_items_right g_law_are_items_right fun A outer s H E cd hg hr tk po => (ss_c (ss_a sc_law_are_items_right.nd (x_len T.n_len (sa_c (se_v 1) sa_n))) (ss_c (ss_f po rfl (si_seq (se_if (y_lt (se_v 3) se_int) (se_l (sl_d (sa_c se_int (sa_c (x_add se_int (se_f d_law_draw hg (hr.mono (by decide)) tk (sa_c (se_v 0) (sa_c (x_sub (se_v 3) se_int) sa_n)) (by rfl) (by decide) (by rfl) (by rfl))) (sa_c (x_sub (se_v 3) se_int) sa_n))))) (se_l (sl_d (sa_c (x_add se_int (se_f d_law_draw hg (hr.mono (by decide)) tk (sa_c (se_v 0) (sa_c (x_sub (se_v 3) se_int) sa_n)) (by rfl) (by decide) (by rfl) (by rfl))) sa_n))))) (sg_n sc_law_are_items_right.nd) (ss_1 (ss_i (st_no (st_val (se_f d_law_same hg (hr.mono (by decide)) tk (sa_c (se_f d_turned_item hg (hr.mono (by decide)) tk (sa_c (se_v 1) (sa_c (se_v 4) sa_n)) (by rfl) (by decide) (by rfl) (by rfl)) (sa_c (x_ix (se_v 2) (se_v 4)) sa_n)) (by rfl) (by decide) (by rfl) (by rfl)))) (ss_1 (ss_r se_bl)) ss_nil))) (ss_c (ss_a sc_law_are_items_right.nd (se_f d_law_draw hg (hr.mono (by decide)) tk (sa_c (se_v 0) (sa_c (se_v 3) sa_n)) (by rfl) (by decide) (by rfl) (by rfl))) (ss_1 (ss_r (se_f d_law_same hg (hr.mono (by decide)) tk (sa_c (se_fk0 d_turned_item k_turned_item_n_row hg (hr.mono (by decide)) tk (sk_c (se_v 5) (sk_c (se_v 1) sk_n)) (by rfl) (by rfl) (by rfl) (by decide) (by rfl)) (sa_c (x_ix (se_v 2) (se_v 5)) sa_n)) (by rfl) (by decide) (by rfl) (by rfl))))))), gm, Fu.kp, Fu.binds fun _ _ _ _ _ _ us hl => match us, hl with | [_, _, _], _ => rfl⟩
theorem ok_law_is_turned_right {P : Program} {w : World} {K : PySem.W.Frag} {mg : Str → Option Value} {base : Heap} {cC cT : Addr} (T : Txt2 K mg cC cT) {a : Addr} {f : FuncData} (Fu : Fun K "_law_is_turned_right" "_law_is_turned_right" s_law_is_turned_right a f) (gm : mg "_law_is_turned_right" = some (.ref a)) {a_law_own_turned : Addr} {f_law_own_turned : FuncData} (d_law_own_turned : Df P w K mg base "_law_own_turned" 2 a_law_own_turned f_law_own_turned ["row"] m_law_own_turned) {a_turned_about : Addr} {f_turned_about : FuncData} (d_turned_about : Df P w K mg base "turned_about" 4 a_turned_about f_turned_about ["row"] m_turned_about) {a_law_same : Addr} {f_law_same : FuncData} (d_law_same : Df P w K mg base "_law_same" 1 a_law_same f_law_same ["told", "due"] m_law_same) {a_law_own_put : Addr} {f_law_own_put : FuncData} (d_law_own_put : Df P w K mg base "_law_own_put" 2 a_law_own_put f_law_own_put ["one", "other"] m_law_own_put) {a_series_put : Addr} {f_series_put : FuncData} (d_series_put : Df P w K mg base "series_put" 4 a_series_put f_series_put ["one", "other"] m_series_put) {a_law_are_items_right : Addr} {f_law_are_items_right : FuncData} (d_law_are_items_right : Df P w K mg base "_law_are_items_right" 6 a_law_are_items_right f_law_are_items_right ["bag", "row", "due"] m_law_are_items_right) (k_turned_about_row : KBn K f_turned_about ["row"] 0 ["row"] (pkW [0]) (pkV [0])) (k_series_put_other_one : KBn K f_series_put ["one", "other"] 0 ["other", "one"] (pkW [1, 0]) (pkV [1, 0])) : Df P w K mg base "_law_is_turned_right" 7 a f ["bag", "row"] m_law_is_turned_right :=
  ⟨fn_X Fu sc_law_is_turned_right g_law_is_turned_right fun A outer s H E cd hg hr tk po => (ss_c (ss_p rfl sc_law_is_turned_right.nd (sa_c (se_f d_law_own_turned hg (hr.mono (by decide)) tk (sa_c (se_v 1) sa_n) (by rfl) (by decide) (by rfl) (by rfl)) (sa_c (x_len T.n_len (sa_c (se_v 1) sa_n)) sa_n))) (ss_c (ss_p rfl sc_law_is_turned_right.nd (sa_c (se_sl (x_add (se_t (sa_c se_int (sa_c se_int sa_n))) (x_mul (se_t (sa_c se_int sa_n)) se_int)) so_n (so_s (se_v 3))) (sa_c (se_f d_turned_about hg (hr.mono (by decide)) tk (sa_c (se_v 1) sa_n) (by rfl) (by decide) (by rfl) (by rfl)) sa_n))) (ss_c (ss_i (st_no (st_val (se_f d_law_same hg (hr.mono (by decide)) tk (sa_c (se_l (sl_d (sa_c (se_v 5) (sa_c (se_fk0 d_turned_about k_turned_about_row hg (hr.mono (by decide)) tk (sk_c (se_v 1) sk_n) (by rfl) (by rfl) (by rfl) (by decide) (by rfl)) sa_n)))) (sa_c (se_l (sl_d (sa_c (se_v 2) (sa_c (se_v 2) sa_n)))) sa_n)) (by rfl) (by decide) (by rfl) (by rfl)))) (ss_1 (ss_r se_bl)) ss_nil) (ss_c (ss_i (y_ne hr (se_f d_law_own_put hg (hr.mono (by decide)) tk (sa_c (se_l (x_list T.n_list (sa_c (se_v 1) sa_n))) (sa_c (se_l (x_list T.n_list (sa_c (se_v 5) sa_n))) sa_n)) (by rfl) (by decide) (by rfl) (by rfl)) (se_l (x_list T.n_list (sa_c (se_v 4) sa_n)))) (ss_1 (ss_r se_bl)) ss_nil) (ss_c (ss_i (st_no (st_val (se_f d_law_same hg (hr.mono (by decide)) tk (sa_c (se_l (sl_d (sa_c (se_f d_series_put hg (hr.mono (by decide)) tk (sa_c (se_v 1) (sa_c (se_v 5) sa_n)) (by rfl) (by decide) (by rfl) (by rfl)) (sa_c (se_fk0 d_series_put k_series_put_other_one hg (hr.mono (by decide)) tk (sk_c (se_v 1) (sk_c (se_v 5) sk_n)) (by rfl) (by rfl) (by rfl) (by decide) (by rfl)) sa_n)))) (sa_c (se_l (sl_d (sa_c (se_v 4) (sa_c (se_v 4) sa_n)))) sa_n)) (by rfl) (by decide) (by rfl) (by rfl)))) (ss_1 (ss_r se_bl)) ss_nil) (ss_1 (ss_r (se_and (se_f d_law_same hg (hr.mono (by decide)) tk (sa_c (se_f d_turned_about hg (hr.mono (by decide)) tk (sa_c (se_v 5) sa_n) (by rfl) (by decide) (by rfl) (by rfl)) (sa_c (se_v 1) sa_n)) (by rfl) (by decide) (by rfl) (by rfl)) (se_one (se_f d_law_are_items_right hg (hr.mono (by decide)) tk (sa_c (se_v 0) (sa_c (se_v 1) (sa_c (se_v 2) sa_n))) (by rfl) (by decide) (by rfl) (by rfl))))))))))), gm, Fu.kp, Fu.binds fun _ _ _ _ _ _ us hl => match us, hl with | [_, _], _ => rfl⟩
theorem ok_series_other {P : Program} {w : World} {K : PySem.W.Frag} {mg : Str → Option Value} {base : Heap} {cC cT : Addr} (T : Txt2 K mg cC cT) {a : Addr} {f : FuncData} (Fu : Fun K "series_other" "series_other" s_series_other a f) (gm : mg "series_other" = some (.ref a)) : Df P w K mg base "series_other" 1 a f ["row"] m_series_other :=
  ⟨fn_X Fu sc_series_other g_series_other fun A outer s H E cd hg hr tk po => (ss_c (ss_i (y_ni (x_ix (se_v 0) se_int) (se_t (sa_c se_int (sa_c (x_neg se_int) sa_n)))) (ss_1 (ss_raise rfl tk F.excBase_ValueError T.x_Unfit T.e_Unfit)) ss_nil) (ss_c (ss_a sc_series_other.nd (se_n (sl_d (sa_c (x_ix (se_v 0) se_int) sa_n)))) (ss_c (ss_f po rfl (si_r2 T.n_range (sa_c se_int (sa_c (x_len T.n_len (sa_c (se_v 0) sa_n)) sa_n))) (sg_n sc_series_other.nd) (ss_1 (ss_x (x_app (se_v 1) (sa_c (x_mul (x_neg (x_ix (se_v 0) se_int)) (x_sum rfl T.n_sum (sa_c (se_l (sl_c (own := [("i", 3)]) rfl sc_series_other.nd (si_r2 T.n_range (sa_c se_int (sa_c (x_add (se_v 2) se_int) sa_n))) (blk_of (N := N_series_other) (sc := defScope s_series_other) rfl rfl (by refine ⟨rfl, ?_, ?_, ?_, ?_⟩ <;> decide +kernel)) (fun _ _ _ _ _ => (sg_n sc_series_other.nd)) (fun _ _ _ _ _ => (x_mul (x_ix (se_v 0) (se_v 3)) (x_ix (se_v 1) (x_sub (se_v 2) (se_v 3))))) (by decide) (by intro _; rfl))) sa_n))) sa_n))))) (ss_1 (ss_r (x_tup T.n_tuple (sa_c (se_v 1) sa_n))))))), gm, Fu.kp, Fu.binds fun _ _ _ _ _ _ us hl => match us, hl with | [_], _ => rfl⟩
theorem ok_series_power {P : Program} {w : World} {K : PySem.W.Frag} {mg : Str → Option Value} {base : Heap} {cC cT : Addr} (T : Txt2 K mg cC cT) {a : Addr} {f : FuncData} (Fu : Fun K "series_power" "series_power" s_series_power a f) (gm : mg "series_power" = some (.ref a)) {a_unit_series : Addr} {f_unit_series : FuncData} (d_unit_series : Df P w K mg base "unit_series" 1 a_unit_series f_unit_series ["many"] m_unit_series) {a_series_product : Addr} {f_series_product : FuncData} (d_series_product : Df P w K mg base "series_product" 2 a_series_product f_series_product ["one", "other"] m_series_product) : Df P w K mg base "series_power" 3 a f ["row", "k"] m_series_power :=
  ⟨fn_X Fu sc_series_power g_series_power fun A outer s H E cd hg hr tk po => (ss_c (ss_a sc_series_power.nd (se_f d_unit_series hg (hr.mono (by decide)) tk (sa_c (x_len T.n_len (sa_c (se_v 0) sa_n)) sa_n) (by rfl) (by decide) (by rfl) (by rfl))) (ss_c (ss_f po rfl (si_r1 T.n_range (sa_c (se_v 1) sa_n)) (sg_n sc_series_power.nd) (ss_1 (ss_a sc_series_power.nd (se_f d_series_product hg (hr.mono (by decide)) tk (sa_c (se_v 2) (sa_c (se_v 0) sa_n)) (by rfl) (by decide) (by rfl) (by rfl))))) (ss_1 (ss_r (se_v 2))))), gm, Fu.kp, Fu.binds fun _ _ _ _ _ _ us hl => match us, hl with | [_, _], _ => rfl⟩
end K75


set_option Elab.async false
set_option linter.all false
set_option maxRecDepth 100000
set_option maxHeartbeats 4000000
namespace K75
open PySem L2 Sm
theorem ok_law_own_power {P : Program} {w : World} {K : PySem.W.Frag} {mg : Str → Option Value} {base : Heap} {cC cT : Addr} (T : Txt2 K mg cC cT) {a : Addr} {f : FuncData} (Fu : Fun K "_law_own_power" "_law_own_power" s_law_own_power a f) (gm : mg "_law_own_power" = some (.ref a)) {a_law_unit : Addr} {f_law_unit : FuncData} (d_law_unit : Df P w K mg base "_law_unit" 1 a_law_unit f_law_unit ["many"] m_law_unit) {a_law_product : Addr} {f_law_product : FuncData} (d_law_product : Df P w K mg base "_law_product" 1 a_law_product f_law_product ["one", "other"] m_law_product) : Df P w K mg base "_law_own_power" 2 a f ["row", "k"] m_law_own_power :=
  ⟨fn_X Fu sc_law_own_power g_law_own_power fun A outer s H E cd hg hr tk po => (ss_c (ss_a sc_law_own_power.nd (se_f d_law_unit hg (hr.mono (by decide)) tk (sa_c (x_len T.n_len (sa_c (se_v 0) sa_n)) sa_n) (by rfl) (by decide) (by rfl) (by rfl))) (ss_c (ss_f po rfl (si_r1 T.n_range (sa_c (se_v 1) sa_n)) (sg_n sc_law_own_power.nd) (ss_1 (ss_a sc_law_own_power.nd (se_f d_law_product hg (hr.mono (by decide)) tk (sa_c (se_v 2) (sa_c (se_v 0) sa_n)) (by rfl) (by decide) (by rfl) (by rfl))))) (ss_1 (ss_r (se_v 2))))), gm, Fu.kp, Fu.binds fun _ _ _ _ _ _ us hl => match us, hl with | [_, _], _ => rfl⟩
theorem ok_law_are_powers_right {P : Program} {w : World} {K : PySem.W.Frag} {mg : Str → Option Value} {base : Heap} {cC cT : Addr} (T : Txt2 K mg cC cT) {a : Addr} {f : FuncData} (Fu : Fun K "_law_are_powers_right" "_law_are_powers_right" s_law_are_powers_right a f) (gm : mg "_law_are_powers_right" = some (.ref a)) {a_law_own_turned : Addr} {f_law_own_turned : FuncData} (d_law_own_turned : Df P w K mg base "_law_own_turned" 2 a_law_own_turned f_law_own_turned ["row"] m_law_own_turned) {a_law_draw : Addr} {f_law_draw : FuncData} (d_law_draw : Df P w K mg base "_law_draw" 1 a_law_draw f_law_draw ["bag", "below"] m_law_draw) {a_law_own_other : Addr} {f_law_own_other : FuncData} (d_law_own_other : Df P w K mg base "_law_own_other" 1 a_law_own_other f_law_own_other ["row"] m_law_own_other) {a_series_other : Addr} {f_series_other : FuncData} (d_series_other : Df P w K mg base "series_other" 1 a_series_other f_series_other ["row"] m_series_other) {a_law_same : Addr} {f_law_same : FuncData} (d_law_same : Df P w K mg base "_law_same" 1 a_law_same f_law_same ["told", "due"] m_law_same) {a_law_pick : Addr} {f_law_pick : FuncData} (d_law_pick : Df P w K mg base "_law_pick" 2 a_law_pick f_law_pick ["bag", "some"] m_law_pick) {a_law_own_power : Addr} {f_law_own_power : FuncData} (d_law_own_power : Df P w K mg base "_law_own_power" 2 a_law_own_power f_law_own_power ["row", "k"] m_law_own_power) {a_series_power : Addr} {f_series_power : FuncData} (d_series_power : Df P w K mg base "series_power" 3 a_series_power f_series_power ["row", "k"] m_series_power) {a_turned_item : Addr} {f_turned_item : FuncData} (d_turned_item : Df P w K mg base "turned_item" 5 a_turned_item f_turned_item ["row", "n"] m_turned_item) (k_series_other_row : KBn K f_series_other ["row"] 0 ["row"] (pkW [0]) (pkV [0])) (k_series_power_k_row : KBn K f_series_power ["row", "k"] 0 ["k", "row"] (pkW [1, 0]) (pkV [1, 0])) : Df P w K mg base "_law_are_powers_right" 6 a f ["bag", "row"] m_law_are_powers_right :=
  ⟨fn_X Fu sc_law_are_powers_right g_law_are_powers_right fun A outer s H E cd hg hr tk po => (ss_c (ss_p rfl sc_law_are_powers_right.nd (sa_c (x_len T.n_len (sa_c (se_v 1) sa_n)) (sa_c (se_f d_law_own_turned hg (hr.mono (by decide)) tk (sa_c (se_v 1) sa_n) (by rfl) (by decide) (by rfl) (by rfl)) sa_n))) (ss_c (ss_a sc_law_are_powers_right.nd (x_add (se_sl (se_v 1) (so_s se_int) so_n) (se_t (sa_c (x_sub (se_f d_law_draw hg (hr.mono (by decide)) tk (sa_c (se_v 0) (sa_c (x_add (x_mul se_int (x_pow se_int se_int)) se_int) sa_n)) (by rfl) (by decide) (by rfl) (by rfl)) (x_pow se_int se_int)) sa_n)))) (ss_c (ss_a sc_law_are_powers_right.nd (se_f d_law_own_other hg (hr.mono (by decide)) tk (sa_c (se_l (x_list T.n_list (sa_c (se_v 4) sa_n))) sa_n) (by rfl) (by decide) (by rfl) (by rfl))) (ss_c (ss_a sc_law_are_powers_right.nd (se_f d_series_other hg (hr.mono (by decide)) tk (sa_c (se_v 4) sa_n) (by rfl) (by decide) (by rfl) (by rfl))) (ss_c (ss_i (st_no (st_val (se_f d_law_same hg (hr.mono (by decide)) tk (sa_c (se_l (sl_d (sa_c (se_v 6) (sa_c (se_fk0 d_series_other k_series_other_row hg (hr.mono (by decide)) tk (sk_c (se_v 4) sk_n) (by rfl) (by rfl) (by rfl) (by decide) (by rfl)) sa_n)))) (sa_c (se_l (sl_d (sa_c (x_tup T.n_tuple (sa_c (se_v 5) sa_n)) (sa_c (x_tup T.n_tuple (sa_c (se_v 5) sa_n)) sa_n)))) sa_n)) (by rfl) (by decide) (by rfl) (by rfl)))) (ss_1 (ss_r se_bl)) ss_nil) (ss_c (ss_a sc_law_are_powers_right.nd (se_f d_law_pick hg (hr.mono (by decide)) tk (sa_c (se_v 0) (sa_c (se_l (sl_d (sa_c (x_add se_int (se_f d_law_draw hg (hr.mono (by decide)) tk (sa_c (se_v 0) (sa_c (x_sub (se_v 2) se_int) sa_n)) (by rfl) (by decide) (by rfl) (by rfl))) (sa_c (x_sub (se_v 2) se_int) sa_n)))) sa_n)) (by rfl) (by decide) (by rfl) (by rfl))) (ss_c (ss_p rfl sc_law_are_powers_right.nd (sa_c (x_tup T.n_tuple (sa_c (se_f d_law_own_power hg (hr.mono (by decide)) tk (sa_c (se_v 5) (sa_c (se_v 7) sa_n)) (by rfl) (by decide) (by rfl) (by rfl)) sa_n)) (sa_c (se_f d_series_power hg (hr.mono (by decide)) tk (sa_c (se_v 6) (sa_c (se_v 7) sa_n)) (by rfl) (by decide) (by rfl) (by rfl)) sa_n))) (ss_c (ss_i (st_no (st_val (se_f d_law_same hg (hr.mono (by decide)) tk (sa_c (se_l (sl_d (sa_c (se_v 9) (sa_c (se_fk0 d_series_power k_series_power_k_row hg (hr.mono (by decide)) tk (sk_c (se_v 7) (sk_c (se_v 6) sk_n)) (by rfl) (by rfl) (by rfl) (by decide) (by rfl)) sa_n)))) (sa_c (se_l (sl_d (sa_c (se_v 8) (sa_c (se_v 8) sa_n)))) sa_n)) (by rfl) (by decide) (by rfl) (by rfl)))) (ss_1 (ss_r se_bl)) ss_nil) (ss_1 (ss_r (se_and (x_eq hr (x_ix (se_v 8) (x_sub (se_v 7) se_int)) (x_mul (se_v 7) (x_ix (se_v 3) (se_v 7)))) (se_one (se_f d_law_same hg (hr.mono (by decide)) tk (sa_c (x_mul (se_v 7) (se_f d_turned_item hg (hr.mono (by decide)) tk (sa_c (se_v 1) (sa_c (se_v 7) sa_n)) (by rfl) (by decide) (by rfl) (by rfl))) (sa_c (x_ix (se_v 9) (x_sub (se_v 7) se_int)) sa_n)) (by rfl) (by decide) (by rfl) (by rfl)))))))))))))), gm, Fu.kp, Fu.binds fun _ _ _ _ _ _ us hl => match us, hl with | [_, _], _ => rfl⟩
theorem ok_choices_row {P : Program} {w : World} {K : PySem.W.Frag} {mg : Str → Option Value} {base : Heap} {cC cT : Addr} (T : Txt2 K mg cC cT) {a : Addr} {f : FuncData} (Fu : Fun K "choices_row" "choices_row" s_choices_row a f) (gm : mg "choices_row" = some (.ref a)) : Df P w K mg base "choices_row" 1 a f ["x", "many"] m_choices_row :=
  ⟨fn_X Fu sc_choices_row g_choices_row fun A outer s H E cd hg hr tk po => (ss_c (ss_a sc_choices_row.nd (se_n (sl_d (sa_c se_int sa_n)))) (ss_c (ss_f po rfl (si_r1 T.n_range (sa_c (x_sub (se_v 1) se_int) sa_n)) (sg_n sc_choices_row.nd) (ss_1 (ss_x (x_app (se_v 2) (sa_c (x_div (x_mul (x_ix (se_v 2) (se_v 3)) (x_sub (se_v 0) (se_v 3))) (x_add (se_v 3) se_int)) sa_n))))) (ss_1 (ss_r (se_v 2))))), gm, Fu.kp, Fu.binds fun _ _ _ _ _ _ us hl => match us, hl with | [_, _], _ => rfl⟩
theorem ok_fall_value {P : Program} {w : World} {K : PySem.W.Frag} {mg : Str → Option Value} {base : Heap} {cC cT : Addr} (T : Txt2 K mg cC cT) {a : Addr} {f : FuncData} (Fu : Fun K "fall_value" "fall_value" s_fall_value a f) (gm : mg "fall_value" = some (.ref a)) {a_choices_row : Addr} {f_choices_row : FuncData} (d_choices_row : Df P w K mg base "choices_row" 1 a_choices_row f_choices_row ["x", "many"] m_choices_row) : Df P w K mg base "fall_value" 2 a f ["fall", "x"] m_fall_value :=
  ⟨fn_X Fu sc_fall_value g_fall_value fun A outer s H E cd hg hr tk po => (ss_1 (ss_r (x_sum rfl T.n_sum (sa_c (se_l (sl_c (own := [("item", 2), ("number", 3)]) rfl sc_fall_value.nd (si_zip T.n_zip (sa_c (se_v 0) (sa_c (se_f d_choices_row hg (hr.mono (by decide)) tk (sa_c (se_v 1) (sa_c (x_len T.n_len (sa_c (se_v 0) sa_n)) sa_n)) (by rfl) (by decide) (by rfl) (by rfl)) sa_n))) (blk_of (N := N_fall_value) (sc := defScope s_fall_value) rfl rfl (by refine ⟨rfl, ?_, ?_, ?_, ?_⟩ <;> decide +kernel)) (fun _ _ _ _ _ => (sg_t rfl (sgs_c (sg_n sc_fall_value.nd) (sgs_c (sg_n sc_fall_value.nd) sgs_n)))) (fun _ _ _ _ _ => (x_mul (se_v 2) (se_v 3))) (by decide) (by intro _; rfl))) sa_n)))), gm, Fu.kp, Fu.binds fun _ _ _ _ _ _ us hl => match us, hl with | [_, _], _ => rfl⟩
theorem ok_row_of_fall {P : Program} {w : World} {K : PySem.W.Frag} {mg : Str → Option Value} {base : Heap} {cC cT : Addr} (T : Txt2 K mg cC cT) {a : Addr} {f : FuncData} (Fu : Fun K "row_of_fall" "row_of_fall" s_row_of_fall a f) (gm : mg "row_of_fall" = some (.ref a)) {a_fall_value : Addr} {f_fall_value : FuncData} (d_fall_value : Df P w K mg base "fall_value" 2 a_fall_value f_fall_value ["fall", "x"] m_fall_value) : Df P w K mg base "row_of_fall" 3 a f ["fall", "many"] m_row_of_fall :=
  ⟨fn_X Fu sc_row_of_fall g_row_of_fall fun A outer s H E cd hg hr tk po => (ss_1 (ss_r (x_tup T.n_tuple (sa_c (se_l (sl_c (own := [("x", 2)]) rfl sc_row_of_fall.nd (si_r1 T.n_range (sa_c (se_v 1) sa_n)) (blk_of (N := N_row_of_fall) (sc := defScope s_row_of_fall) rfl rfl (by refine ⟨rfl, ?_, ?_, ?_, ?_⟩ <;> decide +kernel)) (fun _ _ _ _ _ => (sg_n sc_row_of_fall.nd)) (fun _ _ _ _ _ => (se_f (ps := ["fall", "x"]) (k := 2) (m := m_fall_value) (by exact d_fall_value) (by exact hg) (by exact hr.mono (by decide)) tk00 (sa_c (se_v 0) (sa_c (se_v 2) sa_n)) (by rfl) (by decide) (by rfl) (by rfl))) (by decide) (by intro _; rfl))) sa_n)))), gm, Fu.kp, Fu.binds fun _ _ _ _ _ _ us hl => match us, hl with | [_, _], _ => rfl⟩
theorem ok_fall_trimmed {P : Program} {w : World} {K : PySem.W.Frag} {mg : Str → Option Value} {base : Heap} {cC cT : Addr} (T : Txt2 K mg cC cT) {a : Addr} {f : FuncData} (Fu : Fun K "fall_trimmed" "fall_trimmed" s_fall_trimmed a f) (gm : mg "fall_trimmed" = some (.ref a)) : Df P w K mg base "fall_trimmed" 1 a f ["row"] m_fall_trimmed :=
  ⟨fn_X Fu sc_fall_trimmed g_fall_trimmed fun A outer s H E cd hg hr tk po => (ss_c (ss_a sc_fall_trimmed.nd (x_len T.n_len (sa_c (se_v 0) sa_n))) (ss_c (ss_wh 100 po (PW.pt (sw_and (y_gt (se_v 1) se_int) (sw_and1 (y_eq hr (x_ix (se_v 0) (x_sub (se_v 1) se_int)) se_int)))) (ss_1 (ss_a sc_fall_trimmed.nd (x_sub (se_v 1) se_int)))) (ss_1 (ss_r (x_tup T.n_tuple (sa_c (se_l (sl_sl (se_v 0) so_n (so_s (se_v 1)))) sa_n)))))), gm, Fu.kp, Fu.binds fun _ _ _ _ _ _ us hl => match us, hl with | [_], _ => rfl⟩
theorem ok_fall_shifted {P : Program} {w : World} {K : PySem.W.Frag} {mg : Str → Option Value} {base : Heap} {cC cT : Addr} (T : Txt2 K mg cC cT) {a : Addr} {f : FuncData} (Fu : Fun K "fall_shifted" "fall_shifted" s_fall_shifted a f) (gm : mg "fall_shifted" = some (.ref a)) {a_choices_row : Addr} {f_choices_row : FuncData} (d_choices_row : Df P w K mg base "choices_row" 1 a_choices_row f_choices_row ["x", "many"] m_choices_row) {a_fall_trimmed : Addr} {f_fall_trimmed : FuncData} (d_fall_trimmed : Df P w K mg base "fall_trimmed" 1 a_fall_trimmed f_fall_trimmed ["row"] m_fall_trimmed) : Df P w K mg base "fall_shifted" 2 a f ["fall", "s"] m_fall_shifted :=
  ⟨fn_X Fu sc_fall_shifted g_fall_shifted fun A outer s H E cd hg hr tk po => (ss_c (ss_p rfl sc_fall_shifted.nd (sa_c (se_f d_choices_row hg (hr.mono (by decide)) tk (sa_c (se_v 1) (sa_c (x_len T.n_len (sa_c (se_v 0) sa_n)) sa_n)) (by rfl) (by decide) (by rfl) (by rfl)) (sa_c (se_n (sl_d sa_n)) sa_n))) (ss_c (ss_f po rfl (si_r1 T.n_range (sa_c (x_len T.n_len (sa_c (se_v 0) sa_n)) sa_n)) (sg_n sc_fall_shifted.nd) (ss_1 (ss_x (x_app (se_v 3) (sa_c (x_sum rfl T.n_sum (sa_c (se_l (sl_c (own := [("item", 5), ("number", 6)]) rfl sc_fall_shifted.nd (si_zip T.n_zip (sa_c (se_sl (se_v 0) (so_s (se_v 4)) so_n) (sa_c (se_v 2) sa_n))) (blk_of (N := N_fall_shifted) (sc := defScope s_fall_shifted) rfl rfl (by refine ⟨rfl, ?_, ?_, ?_, ?_⟩ <;> decide +kernel)) (fun _ _ _ _ _ => (sg_t rfl (sgs_c (sg_n sc_fall_shifted.nd) (sgs_c (sg_n sc_fall_shifted.nd) sgs_n)))) (fun _ _ _ _ _ => (x_mul (se_v 5) (se_v 6))) (by decide) (by intro _; rfl))) sa_n)) sa_n))))) (ss_1 (ss_r (se_f d_fall_trimmed hg (hr.mono (by decide)) tk (sa_c (se_v 3) sa_n) (by rfl) (by decide) (by rfl) (by rfl)))))), gm, Fu.kp, Fu.binds fun _ _ _ _ _ _ us hl => match us, hl with | [_, _], _ => rfl⟩
end K75


set_option Elab.async false
set_option linter.all false
set_option maxRecDepth 100000
set_option maxHeartbeats 4000000
namespace K75
open PySem L2 Sm
theorem ok_law_choose {P : Program} {w : World} {K : PySem.W.Frag} {mg : Str → Option Value} {base : Heap} {cC cT : Addr} (T : Txt2 K mg cC cT) {a : Addr} {f : FuncData} (Fu : Fun K "_law_choose" "_law_choose" s_law_choose a f) (gm : mg "_law_choose" = some (.ref a)) : Df P w K mg base "_law_choose" 1 a f ["x", "i"] m_law_choose :=
  ⟨fn_X Fu sc_law_choose g_law_choose fun A outer s H E cd hg hr tk po => (ss_c (ss_a sc_law_choose.nd se_int) (ss_c (ss_f po rfl (si_r1 T.n_range (sa_c (se_v 1) sa_n)) (sg_n sc_law_choose.nd) (ss_1 (ss_a sc_law_choose.nd (x_div (x_mul (se_v 2) (x_sub (se_v 0) (se_v 3))) (x_add (se_v 3) se_int))))) (ss_1 (ss_r (se_v 2))))), gm, Fu.kp, Fu.binds fun _ _ _ _ _ _ us hl => match us, hl with | [_, _], _ => rfl⟩
theorem ok_law_own_family {P : Program} {w : World} {K : PySem.W.Frag} {mg : Str → Option Value} {base : Heap} {cC cT : Addr} (T : Txt2 K mg cC cT) {a : Addr} {f : FuncData} (Fu : Fun K "_law_own_family" "_law_own_family" s_law_own_family a f) (gm : mg "_law_own_family" = some (.ref a)) {a_law_choose : Addr} {f_law_choose : FuncData} (d_law_choose : Df P w K mg base "_law_choose" 1 a_law_choose f_law_choose ["x", "i"] m_law_choose) : Df P w K mg base "_law_own_family" 2 a f ["many", "a", "j"] m_law_own_family :=
  ⟨fn_X Fu sc_law_own_family g_law_own_family fun A outer s H E cd hg hr tk po => (ss_c (ss_p rfl sc_law_own_family.nd (sa_c (se_n (sl_d (sa_c se_int sa_n))) (sa_c se_int sa_n))) (ss_c (ss_f po rfl (si_r1 T.n_range (sa_c (x_sub (se_v 0) se_int) sa_n)) (sg_n sc_law_own_family.nd) (ss_c (ss_x (x_app (se_v 3) (sa_c (x_mul (se_f d_law_choose hg (hr.mono (by decide)) tk (sa_c (se_v 2) (sa_c (se_v 5) sa_n)) (by rfl) (by decide) (by rfl) (by rfl)) (se_v 4)) sa_n))) (ss_1 (ss_a sc_law_own_family.nd (x_mul (se_v 4) (se_v 1)))))) (ss_1 (ss_r (x_tup T.n_tuple (sa_c (se_v 3) sa_n)))))), gm, Fu.kp, Fu.binds fun _ _ _ _ _ _ us hl => match us, hl with | [_, _, _], _ => rfl⟩
theorem ok_law_are_families_right {P : Program} {w : World} {K : PySem.W.Frag} {mg : Str → Option Value} {base : Heap} {cC cT : Addr} (T : Txt2 K mg cC cT) {a : Addr} {f : FuncData} (Fu : Fun K "_law_are_families_right" "_law_are_families_right" s_law_are_families_right a f) (gm : mg "_law_are_families_right" = some (.ref a)) {a_law_pick : Addr} {f_law_pick : FuncData} (d_law_pick : Df P w K mg base "_law_pick" 2 a_law_pick f_law_pick ["bag", "some"] m_law_pick) {a_law_draw : Addr} {f_law_draw : FuncData} (d_law_draw : Df P w K mg base "_law_draw" 1 a_law_draw f_law_draw ["bag", "below"] m_law_draw) {a_law_own_family : Addr} {f_law_own_family : FuncData} (d_law_own_family : Df P w K mg base "_law_own_family" 2 a_law_own_family f_law_own_family ["many", "a", "j"] m_law_own_family) {a_series_power : Addr} {f_series_power : FuncData} (d_series_power : Df P w K mg base "series_power" 3 a_series_power f_series_power ["row", "k"] m_series_power) {a_law_same : Addr} {f_law_same : FuncData} (d_law_same : Df P w K mg base "_law_same" 1 a_law_same f_law_same ["told", "due"] m_law_same) {a_series_other : Addr} {f_series_other : FuncData} (d_series_other : Df P w K mg base "series_other" 1 a_series_other f_series_other ["row"] m_series_other) {a_fall_shifted : Addr} {f_fall_shifted : FuncData} (d_fall_shifted : Df P w K mg base "fall_shifted" 2 a_fall_shifted f_fall_shifted ["fall", "s"] m_fall_shifted) {a_row_of_fall : Addr} {f_row_of_fall : FuncData} (d_row_of_fall : Df P w K mg base "row_of_fall" 3 a_row_of_fall f_row_of_fall ["fall", "many"] m_row_of_fall) {a_law_choose : Addr} {f_law_choose : FuncData} (d_law_choose : Df P w K mg base "_law_choose" 1 a_law_choose f_law_choose ["x", "i"] m_law_choose) {a_fall_value : Addr} {f_fall_value : FuncData} (d_fall_value : Df P w K mg base "fall_value" 2 a_fall_value f_fall_value ["fall", "x"] m_fall_value) {a_turned_about : Addr} {f_turned_about : FuncData} (d_turned_about : Df P w K mg base "turned_about" 4 a_turned_about f_turned_about ["row"] m_turned_about) {a_turned_item : Addr} {f_turned_item : FuncData} (d_turned_item : Df P w K mg base "turned_item" 5 a_turned_item f_turned_item ["row", "n"] m_turned_item) (k_series_power_k_row : KBn K f_series_power ["row", "k"] 0 ["k", "row"] (pkW [1, 0]) (pkV [1, 0])) (k_fall_shifted_s_fall : KBn K f_fall_shifted ["fall", "s"] 0 ["s", "fall"] (pkW [1, 0]) (pkV [1, 0])) : Df P w K mg base "_law_are_families_right" 6 a f ["bag", "many"] m_law_are_families_right :=
  ⟨fn_X Fu sc_law_are_families_right g_law_are_families_right fun A outer s H E cd hg hr tk po => (ss_c (ss_p rfl sc_law_are_families_right.nd (sa_c (se_f d_law_pick hg (hr.mono (by decide)) tk (sa_c (se_v 0) (sa_c (se_l (sl_d (sa_c se_int (sa_c (x_neg se_int) (sa_c se_int (sa_c (x_neg se_int) (sa_c se_int (sa_c (x_neg se_int) sa_n)))))))) sa_n)) (by rfl) (by decide) (by rfl) (by rfl)) (sa_c (x_sub (se_f d_law_draw hg (hr.mono (by decide)) tk (sa_c (se_v 0) (sa_c se_int sa_n)) (by rfl) (by decide) (by rfl) (by rfl)) se_int) sa_n))) (ss_c (ss_a sc_law_are_families_right.nd (se_f d_law_own_family hg (hr.mono (by decide)) tk (sa_c (se_v 1) (sa_c (se_v 2) (sa_c (se_v 3) sa_n))) (by rfl) (by decide) (by rfl) (by rfl))) (ss_c (ss_i (y_gt (x_max rfl T.n_max (sa_c (se_l (sl_c (own := [("item", 14)]) rfl sc_law_are_families_right.nd (si_seq (se_v 4)) (blk_of (N := N_law_are_families_right) (sc := defScope s_law_are_families_right) rfl rfl (by refine ⟨rfl, ?_, ?_, ?_, ?_⟩ <;> decide +kernel)) (fun _ _ _ _ _ => (sg_n sc_law_are_families_right.nd)) (fun _ _ _ _ _ => (x_abs T.n_abs (sa_c (se_v 14) sa_n))) (by decide) (by intro _; rfl))) sa_n)) (x_pow se_int se_int)) (ss_c (ss_a sc_law_are_families_right.nd (se_if (y_gt (se_v 2) se_int) se_int (x_neg se_int))) (ss_1 (ss_a sc_law_are_families_right.nd (se_f d_law_own_family hg (hr.mono (by decide)) tk (sa_c (se_v 1) (sa_c (se_v 2) (sa_c (se_v 3) sa_n))) (by rfl) (by decide) (by rfl) (by rfl))))) ss_nil) (ss_c (ss_a sc_law_are_families_right.nd (se_sl (x_add (se_t (sa_c se_int (sa_c (se_v 2) sa_n))) (x_mul (se_t (sa_c se_int sa_n)) se_int)) so_n (so_s (se_v 1)))) (ss_c (ss_p rfl sc_law_are_families_right.nd (sa_c (se_f d_series_power hg (hr.mono (by decide)) tk (sa_c (se_v 5) (sa_c (x_abs T.n_abs (sa_c (se_v 3) sa_n)) sa_n)) (by rfl) (by decide) (by rfl) (by rfl)) (sa_c (se_f d_law_own_family hg (hr.mono (by decide)) tk (sa_c (x_add (se_v 1) se_int) (sa_c (se_v 2) (sa_c (x_abs T.n_abs (sa_c (se_v 3) sa_n)) sa_n))) (by rfl) (by decide) (by rfl) (by rfl)) sa_n))) (ss_c (ss_i (st_no (st_val (se_f d_law_same hg (hr.mono (by decide)) tk (sa_c (se_l (sl_d (sa_c (se_v 6) (sa_c (se_fk0 d_series_power k_series_power_k_row hg (hr.mono (by decide)) tk (sk_c (x_abs T.n_abs (sa_c (se_v 3) sa_n)) (sk_c (se_v 5) sk_n)) (by rfl) (by rfl) (by rfl) (by decide) (by rfl)) sa_n)))) (sa_c (se_l (sl_d (sa_c (se_sl (se_v 7) (so_s se_int) so_n) (sa_c (se_sl (se_v 7) (so_s se_int) so_n) sa_n)))) sa_n)) (by rfl) (by decide) (by rfl) (by rfl)))) (ss_1 (ss_r se_bl)) ss_nil) (ss_c (ss_a sc_law_are_families_right.nd (se_if (y_ge (se_v 3) se_int) (se_v 6) (se_f d_series_other hg (hr.mono (by decide)) tk (sa_c (se_v 6) sa_n) (by rfl) (by decide) (by rfl) (by rfl)))) (ss_c (ss_a sc_law_are_families_right.nd (se_f d_law_own_family hg (hr.mono (by decide)) tk (sa_c (x_add (se_v 1) se_int) (sa_c (se_v 2) (sa_c (se_v 3) sa_n))) (by rfl) (by decide) (by rfl) (by rfl))) (ss_c (ss_a sc_law_are_families_right.nd (x_add se_int (se_f d_law_draw hg (hr.mono (by decide)) tk (sa_c (se_v 0) (sa_c se_int sa_n)) (by rfl) (by decide) (by rfl) (by rfl)))) (ss_c (ss_i (st_no (st_val (se_f d_law_same hg (hr.mono (by decide)) tk (sa_c (se_l (sl_d (sa_c (se_v 6) (sa_c (se_f d_series_power hg (hr.mono (by decide)) tk (sa_c (se_v 5) (sa_c (se_v 8) sa_n)) (by rfl) (by decide) (by rfl) (by rfl)) sa_n)))) (sa_c (se_l (sl_d (sa_c (se_sl (se_v 7) (so_s se_int) so_n) (sa_c (se_sl (se_f d_law_own_family hg (hr.mono (by decide)) tk (sa_c (x_add (se_v 1) se_int) (sa_c (se_v 2) (sa_c (se_v 8) sa_n))) (by rfl) (by decide) (by rfl) (by rfl)) (so_s se_int) so_n) sa_n)))) sa_n)) (by rfl) (by decide) (by rfl) (by rfl)))) (ss_1 (ss_r se_bl)) ss_nil) (ss_c (ss_i (PW.pt (sw_and (y_lt (se_v 3) se_int) (sw_and1 (y_eq hr (se_v 2) (x_neg se_int))))) (ss_c (ss_a sc_law_are_families_right.nd (se_f d_fall_shifted hg (hr.mono (by decide)) tk (sa_c (x_add (x_mul (se_t (sa_c se_int sa_n)) (x_sub (x_neg (se_v 3)) se_int)) (se_t (sa_c se_int sa_n))) (sa_c (x_sub (x_neg (se_v 3)) se_int) sa_n)) (by rfl) (by decide) (by rfl) (by rfl))) (ss_c (ss_a sc_law_are_families_right.nd (se_fk0 d_fall_shifted k_fall_shifted_s_fall hg (hr.mono (by decide)) tk (sk_c (x_sub (x_neg (se_v 3)) se_int) (sk_c (x_add (x_mul (se_t (sa_c se_int sa_n)) (x_sub (x_neg (se_v 3)) se_int)) (se_t (sa_c se_int sa_n))) sk_n)) (by rfl) (by rfl) (by rfl) (by decide) (by rfl))) (ss_1 (ss_i (PW.pt (sw_or (st_no (st_val (se_f d_law_same hg (hr.mono (by decide)) tk (sa_c (se_f d_row_of_fall hg (hr.mono (by decide)) tk (sa_c (se_v 9) (sa_c (x_sub (se_v 1) se_int) sa_n)) (by rfl) (by decide) (by rfl) (by rfl)) (sa_c (se_sl (se_v 4) (so_s se_int) so_n) sa_n)) (by rfl) (by decide) (by rfl) (by rfl)))) (sw_or1 (st_no (st_val (se_f d_law_same hg (hr.mono (by decide)) tk (sa_c (se_v 7) (sa_c (se_v 9) sa_n)) (by rfl) (by decide) (by rfl) (by rfl))))))) (ss_1 (ss_r se_bl)) ss_nil)))) ss_nil) (ss_c (ss_p rfl sc_law_are_families_right.nd (sa_c (se_n (sl_d (sa_c se_int sa_n))) (sa_c se_int sa_n))) (ss_c (ss_f po rfl (si_r2 T.n_range (sa_c se_int (sa_c (se_v 1) sa_n))) (sg_n sc_law_are_families_right.nd) (ss_c (ss_a sc_law_are_families_right.nd (se_f d_law_choose hg (hr.mono (by decide)) tk (sa_c (x_sub se_int (x_mul (se_v 3) (se_v 12))) (sa_c (x_sub (se_v 12) se_int) sa_n)) (by rfl) (by decide) (by rfl) (by rfl))) (ss_c (ss_i (st_no (st_val (se_f d_law_same hg (hr.mono (by decide)) tk (sa_c (se_f d_fall_value hg (hr.mono (by decide)) tk (sa_c (x_add (x_mul (se_t (sa_c se_int sa_n)) (x_sub (se_v 12) se_int)) (se_t (sa_c se_int sa_n))) (sa_c (x_sub se_int (x_mul (se_v 3) (se_v 12))) sa_n)) (by rfl) (by decide) (by rfl) (by rfl)) (sa_c (se_v 13) sa_n)) (by rfl) (by decide) (by rfl) (by rfl)))) (ss_1 (ss_r se_bl)) ss_nil) (ss_c (ss_x (x_app (se_v 10) (sa_c (x_div (x_mul (se_v 13) (se_v 11)) (se_v 12)) sa_n))) (ss_1 (ss_a sc_law_are_families_right.nd (x_mul (se_v 11) (se_v 2)))))))) (ss_c (ss_i (st_no (st_val (se_f d_law_same hg (hr.mono (by decide)) tk (sa_c (se_f d_turned_about hg (hr.mono (by decide)) tk (sa_c (se_v 4) sa_n) (by rfl) (by decide) (by rfl) (by rfl)) (sa_c (x_tup T.n_tuple (sa_c (se_v 10) sa_n)) sa_n)) (by rfl) (by decide) (by rfl) (by rfl)))) (ss_1 (ss_r se_bl)) ss_nil) (ss_c (ss_a sc_law_are_families_right.nd (x_add se_int (se_f d_law_draw hg (hr.mono (by decide)) tk (sa_c (se_v 0) (sa_c (x_sub (se_v 1) se_int) sa_n)) (by rfl) (by decide) (by rfl) (by rfl)))) (ss_1 (ss_r (se_f d_law_same hg (hr.mono (by decide)) tk (sa_c (se_f d_turned_item hg (hr.mono (by decide)) tk (sa_c (se_v 4) (sa_c (se_v 12) sa_n)) (by rfl) (by decide) (by rfl) (by rfl)) (sa_c (x_ix (se_v 10) (se_v 12)) sa_n)) (by rfl) (by decide) (by rfl) (by rfl))))))))))))))))))), gm, Fu.kp, Fu.binds fun _ _ _ _ _ _ us hl => match us, hl with | [_, _], _ => rfl⟩
theorem ok_root_series {P : Program} {w : World} {K : PySem.W.Frag} {mg : Str → Option Value} {base : Heap} {cC cT : Addr} (T : Txt2 K mg cC cT) {a : Addr} {f : FuncData} (Fu : Fun K "root_series" "root_series" s_root_series a f) (gm : mg "root_series" = some (.ref a)) : Df P w K mg base "root_series" 1 a f ["row"] m_root_series :=
  ⟨fn_X Fu sc_root_series g_root_series fun A outer s H E cd hg hr tk po => (ss_c (ss_i (y_ne hr (x_ix (se_v 0) se_int) se_int) (ss_1 (ss_raise rfl tk F.excBase_ValueError T.x_Unfit T.e_Unfit)) ss_nil) (ss_c (ss_a sc_root_series.nd (se_n (sl_d (sa_c se_int sa_n)))) (ss_c (ss_f po rfl (si_r2 T.n_range (sa_c se_int (sa_c (x_len T.n_len (sa_c (se_v 0) sa_n)) sa_n))) (sg_n sc_root_series.nd) (ss_c (ss_a sc_root_series.nd (x_sub (x_ix (se_v 0) (se_v 2)) (x_sum rfl T.n_sum (sa_c (se_l (sl_c (own := [("i", 4)]) rfl sc_root_series.nd (si_r2 T.n_range (sa_c se_int (sa_c (se_v 2) sa_n))) (blk_of (N := N_root_series) (sc := defScope s_root_series) rfl rfl (by refine ⟨rfl, ?_, ?_, ?_, ?_⟩ <;> decide +kernel)) (fun _ _ _ _ _ => (sg_n sc_root_series.nd)) (fun _ _ _ _ _ => (x_mul (x_ix (se_v 1) (se_v 4)) (x_ix (se_v 1) (x_sub (se_v 2) (se_v 4))))) (by decide) (by intro _; rfl))) sa_n)))) (ss_c (ss_i (y_eq hr (x_and (se_v 3) se_int) se_int) (ss_1 (ss_raise rfl tk F.excBase_ValueError T.x_Unfit T.e_Unfit)) ss_nil) (ss_1 (ss_x (x_app (se_v 1) (sa_c (x_div (se_v 3) se_int) sa_n))))))) (ss_1 (ss_r (x_tup T.n_tuple (sa_c (se_v 1) sa_n))))))), gm, Fu.kp, Fu.binds fun _ _ _ _ _ _ us hl => match us, hl with | [_], _ => rfl⟩
theorem ok_law_are_trees_right {P : Program} {w : World} {K : PySem.W.Frag} {mg : Str → Option Value} {base : Heap} {cC cT : Addr} (T : Txt2 K mg cC cT) {a : Addr} {f : FuncData} (Fu : Fun K "_law_are_trees_right" "_law_are_trees_right" s_law_are_trees_right a f) (gm : mg "_law_are_trees_right" = some (.ref a)) {a_law_same : Addr} {f_law_same : FuncData} (d_law_same : Df P w K mg base "_law_same" 1 a_law_same f_law_same ["told", "due"] m_law_same) {a_turned_item : Addr} {f_turned_item : FuncData} (d_turned_item : Df P w K mg base "turned_item" 5 a_turned_item f_turned_item ["row", "n"] m_turned_item) {a_turned_about : Addr} {f_turned_about : FuncData} (d_turned_about : Df P w K mg base "turned_about" 4 a_turned_about f_turned_about ["row"] m_turned_about) {a_fall_value : Addr} {f_fall_value : FuncData} (d_fall_value : Df P w K mg base "fall_value" 2 a_fall_value f_fall_value ["fall", "x"] m_fall_value) {a_root_series : Addr} {f_root_series : FuncData} (d_root_series : Df P w K mg base "root_series" 1 a_root_series f_root_series ["row"] m_root_series) {a_series_product : Addr} {f_series_product : FuncData} (d_series_product : Df P w K mg base "series_product" 2 a_series_product f_series_product ["one", "other"] m_series_product) {a_row_of_fall : Addr} {f_row_of_fall : FuncData} (d_row_of_fall : Df P w K mg base "row_of_fall" 3 a_row_of_fall f_row_of_fall ["fall", "many"] m_row_of_fall) (k_fall_value_fall_x : KBn K f_fall_value ["fall", "x"] 0 ["fall", "x"] (pkW [0, 1]) (pkV [0, 1])) (k_row_of_fall_many_fall : KBn K f_row_of_fall ["fall", "many"] 0 ["many", "fall"] (pkW [1, 0]) (pkV [1, 0])) (k_turned_about_row : KBn K f_turned_about ["row"] 0 ["row"] (pkW [0]) (pkV [0])) : Df P w K mg base "_law_are_trees_right" 6 a f ["many"] m_law_are_trees_right :=
  ⟨fn_X Fu sc_law_are_trees_right g_law_are_trees_right fun A outer s H E cd hg hr tk po => (ss_c (ss_a sc_law_are_trees_right.nd (se_n (sl_d (sa_c se_int (sa_c se_int sa_n))))) (ss_c (ss_f po rfl (si_r2 T.n_range (sa_c se_int (sa_c (se_v 0) sa_n))) (sg_n sc_law_are_trees_right.nd) (ss_1 (ss_x (x_app (se_v 1) (sa_c (x_sum rfl T.n_sum (sa_c (se_l (sl_c (own := [("k", 8)]) rfl sc_law_are_trees_right.nd (si_r2 T.n_range (sa_c se_int (sa_c (se_v 2) sa_n))) (blk_of (N := N_law_are_trees_right) (sc := defScope s_law_are_trees_right) rfl rfl (by refine ⟨rfl, ?_, ?_, ?_, ?_⟩ <;> decide +kernel)) (fun _ _ _ _ _ => (sg_n sc_law_are_trees_right.nd)) (fun _ _ _ _ _ => (x_mul (x_ix (se_v 1) (se_v 8)) (x_ix (se_v 1) (x_sub (se_v 2) (se_v 8))))) (by decide) (by intro _; rfl))) sa_n)) sa_n))))) (ss_c (ss_a sc_law_are_trees_right.nd (x_tup T.n_tuple (sa_c (se_v 1) sa_n))) (ss_c (ss_a sc_law_are_trees_right.nd (se_sl (x_add (se_t (sa_c se_int (sa_c se_int (sa_c (x_neg se_int) sa_n)))) (x_mul (se_t (sa_c se_int sa_n)) se_int)) so_n (so_s (se_v 0)))) (ss_c (ss_i (st_no (st_val (se_f d_law_same hg (hr.mono (by decide)) tk (sa_c (se_l (sl_d (sa_c (se_f d_turned_about hg (hr.mono (by decide)) tk (sa_c (se_v 4) sa_n) (by rfl) (by decide) (by rfl) (by rfl)) (sa_c (se_f d_turned_item hg (hr.mono (by decide)) tk (sa_c (se_v 4) (sa_c (x_sub (se_v 0) se_int) sa_n)) (by rfl) (by decide) (by rfl) (by rfl)) sa_n)))) (sa_c (se_l (sl_d (sa_c (se_v 3) (sa_c (x_ix (se_v 3) (x_sub (se_v 0) se_int)) sa_n)))) sa_n)) (by rfl) (by decide) (by rfl) (by rfl)))) (ss_1 (ss_r se_bl)) ss_nil) (ss_c (ss_f po rfl (si_r2 T.n_range (sa_c se_int (sa_c (se_v 0) sa_n))) (sg_n sc_law_are_trees_right.nd) (ss_1 (ss_i (st_no (st_val (se_f d_law_same hg (hr.mono (by decide)) tk (sa_c (se_fk0 d_fall_value k_fall_value_fall_x hg (hr.mono (by decide)) tk (sk_c (x_add (x_mul (se_t (sa_c se_int sa_n)) (x_sub (se_v 2) se_int)) (se_t (sa_c se_int sa_n))) (sk_c (x_sub (x_mul se_int (se_v 2)) se_int) sk_n)) (by rfl) (by rfl) (by rfl) (by decide) (by rfl)) (sa_c (x_mul (se_v 2) (x_ix (se_v 3) (se_v 2))) sa_n)) (by rfl) (by decide) (by rfl) (by rfl)))) (ss_1 (ss_r se_bl)) ss_nil))) (ss_c (ss_a sc_law_are_trees_right.nd (se_f d_root_series hg (hr.mono (by decide)) tk (sa_c (se_sl (x_add (se_t (sa_c se_int (sa_c (x_neg se_int) sa_n))) (x_mul (se_t (sa_c se_int sa_n)) se_int)) so_n (so_s (se_v 0))) sa_n) (by rfl) (by decide) (by rfl) (by rfl))) (ss_c (ss_i (st_no (st_val (se_f d_law_same hg (hr.mono (by decide)) tk (sa_c (se_v 5) (sa_c (x_tup T.n_tuple (sa_c (se_l (x_addL (se_l (sl_d (sa_c se_int sa_n))) (se_l (sl_c (own := [("item", 9)]) rfl sc_law_are_trees_right.nd (si_seq (se_sl (se_v 3) (so_s se_int) so_n)) (blk_of (N := N_law_are_trees_right) (sc := defScope s_law_are_trees_right) rfl rfl (by refine ⟨rfl, ?_, ?_, ?_, ?_⟩ <;> decide +kernel)) (fun _ _ _ _ _ => (sg_n sc_law_are_trees_right.nd)) (fun _ _ _ _ _ => (x_mul (x_neg se_int) (se_v 9))) (by decide) (by intro _; rfl))))) sa_n)) sa_n)) (by rfl) (by decide) (by rfl) (by rfl)))) (ss_1 (ss_r se_bl)) ss_nil) (ss_c (ss_i (st_no (st_val (se_f d_law_same hg (hr.mono (by decide)) tk (sa_c (se_f d_series_product hg (hr.mono (by decide)) tk (sa_c (se_v 5) (sa_c (se_v 5) sa_n)) (by rfl) (by decide) (by rfl) (by rfl)) (sa_c (se_sl (x_add (se_t (sa_c se_int (sa_c (x_neg se_int) sa_n))) (x_mul (se_t (sa_c se_int sa_n)) se_int)) so_n (so_s (se_v 0))) sa_n)) (by rfl) (by decide) (by rfl) (by rfl)))) (ss_1 (ss_r se_bl)) ss_nil) (ss_c (ss_a sc_law_are_trees_right.nd (x_tup T.n_tuple (sa_c (se_l (x_addL (se_l (sl_d (sa_c se_int sa_n))) (se_l (sl_c (own := [("k", 8)]) rfl sc_law_are_trees_right.nd (si_r1 T.n_range (sa_c (x_sub (se_v 0) se_int) sa_n)) (blk_of (N := N_law_are_trees_right) (sc := defScope s_law_are_trees_right) rfl rfl (by refine ⟨rfl, ?_, ?_, ?_, ?_⟩ <;> decide +kernel)) (fun _ _ _ _ _ => (sg_n sc_law_are_trees_right.nd)) (fun _ _ _ _ _ => (se_if (y_eq (by exact hr) (x_mod (x_int T.n_int (sa_c (se_v 8) sa_n)) se_int) se_int) se_int (x_neg se_int))) (by decide) (by intro _; rfl))))) sa_n))) (ss_c (ss_a sc_law_are_trees_right.nd (x_mul (se_t (sa_c se_int sa_n)) (x_sub (se_v 0) se_int))) (ss_c (ss_i (st_no (st_val (se_f d_law_same hg (hr.mono (by decide)) tk (sa_c (se_l (sl_d (sa_c (se_f d_row_of_fall hg (hr.mono (by decide)) tk (sa_c (se_t (sa_c se_int sa_n)) (sa_c (x_sub (se_v 0) se_int) sa_n)) (by rfl) (by decide) (by rfl) (by rfl)) (sa_c (se_fk0 d_row_of_fall k_row_of_fall_many_fall hg (hr.mono (by decide)) tk (sk_c (x_sub (se_v 0) se_int) (sk_c (se_t (sa_c se_int sa_n)) sk_n)) (by rfl) (by rfl) (by rfl) (by decide) (by rfl)) sa_n)))) (sa_c (se_l (sl_d (sa_c (se_v 7) (sa_c (se_v 7) sa_n)))) sa_n)) (by rfl) (by decide) (by rfl) (by rfl)))) (ss_1 (ss_r se_bl)) ss_nil) (ss_1 (ss_r (se_f d_law_same hg (hr.mono (by decide)) tk (sa_c (se_l (sl_d (sa_c (se_fk0 d_turned_about k_turned_about_row hg (hr.mono (by decide)) tk (sk_c (se_v 6) sk_n) (by rfl) (by rfl) (by rfl) (by decide) (by rfl)) (sa_c (se_f d_turned_about hg (hr.mono (by decide)) tk (sa_c (x_add (se_t (sa_c se_int sa_n)) (se_v 7)) sa_n) (by rfl) (by decide) (by rfl) (by rfl)) sa_n)))) (sa_c (se_l (sl_d (sa_c (x_add (se_t (sa_c se_int sa_n)) (se_v 7)) (sa_c (se_v 6) sa_n)))) sa_n)) (by rfl) (by decide) (by rfl) (by rfl)))))))))))))))), gm, Fu.kp, Fu.binds fun _ _ _ _ _ _ us hl => match us, hl with | [_], _ => rfl⟩
theorem ok_law_are_both_right {P : Program} {w : World} {K : PySem.W.Frag} {mg : Str → Option Value} {base : Heap} {cC cT : Addr} (T : Txt2 K mg cC cT) {a : Addr} {f : FuncData} (Fu : Fun K "_law_are_both_right" "_law_are_both_right" s_law_are_both_right a f) (gm : mg "_law_are_both_right" = some (.ref a)) {a_law_own_row : Addr} {f_law_own_row : FuncData} (d_law_own_row : Df P w K mg base "_law_own_row" 3 a_law_own_row f_law_own_row ["bag", "many", "most"] m_law_own_row) {a_law_own_put : Addr} {f_law_own_put : FuncData} (d_law_own_put : Df P w K mg base "_law_own_put" 2 a_law_own_put f_law_own_put ["one", "other"] m_law_own_put) {a_series_put : Addr} {f_series_put : FuncData} (d_series_put : Df P w K mg base "series_put" 4 a_series_put f_series_put ["one", "other"] m_series_put) {a_law_same : Addr} {f_law_same : FuncData} (d_law_same : Df P w K mg base "_law_same" 1 a_law_same f_law_same ["told", "due"] m_law_same) {a_law_own_turned : Addr} {f_law_own_turned : FuncData} (d_law_own_turned : Df P w K mg base "_law_own_turned" 2 a_law_own_turned f_law_own_turned ["row"] m_law_own_turned) {a_turned_about : Addr} {f_turned_about : FuncData} (d_turned_about : Df P w K mg base "turned_about" 4 a_turned_about f_turned_about ["row"] m_turned_about) : Df P w K mg base "_law_are_both_right" 5 a f ["bag", "many"] m_law_are_both_right :=
  ⟨fn_X Fu sc_law_are_both_right g_law_are_both_right fun A outer s H E cd hg hr tk po => (ss_c (ss_p rfl sc_law_are_both_right.nd (sa_c (se_f d_law_own_row hg (hr.mono (by decide)) tk (sa_c (se_v 0) (sa_c (se_v 1) (sa_c se_int sa_n))) (by rfl) (by decide) (by rfl) (by rfl)) (sa_c (se_f d_law_own_row hg (hr.mono (by decide)) tk (sa_c (se_v 0) (sa_c (se_v 1) (sa_c se_int sa_n))) (by rfl) (by decide) (by rfl) (by rfl)) sa_n))) (ss_c (ss_p rfl sc_law_are_both_right.nd (sa_c (x_tup T.n_tuple (sa_c (se_f d_law_own_put hg (hr.mono (by decide)) tk (sa_c (se_v 2) (sa_c (se_v 3) sa_n)) (by rfl) (by decide) (by rfl) (by rfl)) sa_n)) (sa_c (se_f d_series_put hg (hr.mono (by decide)) tk (sa_c (se_v 2) (sa_c (se_v 3) sa_n)) (by rfl) (by decide) (by rfl) (by rfl)) sa_n))) (ss_c (ss_i (st_no (st_val (se_f d_law_same hg (hr.mono (by decide)) tk (sa_c (se_v 5) (sa_c (se_v 4) sa_n)) (by rfl) (by decide) (by rfl) (by rfl)))) (ss_1 (ss_r se_bl)) ss_nil) (ss_c (ss_p rfl sc_law_are_both_right.nd (sa_c (se_f d_law_own_turned hg (hr.mono (by decide)) tk (sa_c (se_v 2) sa_n) (by rfl) (by decide) (by rfl) (by rfl)) (sa_c (se_f d_law_own_turned hg (hr.mono (by decide)) tk (sa_c (se_v 3) sa_n) (by rfl) (by decide) (by rfl) (by rfl)) sa_n))) (ss_c (ss_a sc_law_are_both_right.nd (x_tup T.n_tuple (sa_c (se_f d_law_own_put hg (hr.mono (by decide)) tk (sa_c (se_v 7) (sa_c (se_v 6) sa_n)) (by rfl) (by decide) (by rfl) (by rfl)) sa_n))) (ss_c (ss_p rfl sc_law_are_both_right.nd (sa_c (se_f d_turned_about hg (hr.mono (by decide)) tk (sa_c (se_v 2) sa_n) (by rfl) (by decide) (by rfl) (by rfl)) (sa_c (se_f d_turned_about hg (hr.mono (by decide)) tk (sa_c (se_v 3) sa_n) (by rfl) (by decide) (by rfl) (by rfl)) sa_n))) (ss_c (ss_i (st_no (st_val (se_f d_law_same hg (hr.mono (by decide)) tk (sa_c (se_l (sl_d (sa_c (se_v 9) (sa_c (se_v 10) sa_n)))) (sa_c (se_l (sl_d (sa_c (se_v 6) (sa_c (se_v 7) sa_n)))) sa_n)) (by rfl) (by decide) (by rfl) (by rfl)))) (ss_1 (ss_r se_bl)) ss_nil) (ss_1 (ss_r (se_f d_law_same hg (hr.mono (by decide)) tk (sa_c (se_l (sl_d (sa_c (se_f d_turned_about hg (hr.mono (by decide)) tk (sa_c (se_v 5) sa_n) (by rfl) (by decide) (by rfl) (by rfl)) (sa_c (se_f d_series_put hg (hr.mono (by decide)) tk (sa_c (se_v 10) (sa_c (se_v 9) sa_n)) (by rfl) (by decide) (by rfl) (by rfl)) sa_n)))) (sa_c (se_l (sl_d (sa_c (se_v 8) (sa_c (se_v 8) sa_n)))) sa_n)) (by rfl) (by decide) (by rfl) (by rfl))))))))))), gm, Fu.kp, Fu.binds fun _ _ _ _ _ _ us hl => match us, hl with | [_, _], _ => rfl⟩
theorem ok_law_own_root {P : Program} {w : World} {K : PySem.W.Frag} {mg : Str → Option Value} {base : Heap} {cC cT : Addr} (T : Txt2 K mg cC cT) {a : Addr} {f : FuncData} (Fu : Fun K "_law_own_root" "_law_own_root" s_law_own_root a f) (gm : mg "_law_own_root" = some (.ref a)) : Df P w K mg base "_law_own_root" 1 a f ["row"] m_law_own_root :=
  ⟨fn_X Fu sc_law_own_root g_law_own_root fun A outer s H E cd hg hr tk po => (ss_c (ss_i (y_ne hr (x_ix (se_v 0) se_int) se_int) (ss_1 (ss_r se_non)) ss_nil) (ss_c (ss_a sc_law_own_root.nd (se_n (sl_d (sa_c se_int sa_n)))) (ss_c (ss_f po rfl (si_r2 T.n_range (sa_c se_int (sa_c (x_len T.n_len (sa_c (se_v 0) sa_n)) sa_n))) (sg_n sc_law_own_root.nd) (ss_c (ss_a sc_law_own_root.nd (x_sub (x_ix (se_v 0) (se_v 2)) (x_sum rfl T.n_sum (sa_c (se_l (sl_c (own := [("k", 4)]) rfl sc_law_own_root.nd (si_r2 T.n_range (sa_c se_int (sa_c (se_v 2) sa_n))) (blk_of (N := N_law_own_root) (sc := defScope s_law_own_root) rfl rfl (by refine ⟨rfl, ?_, ?_, ?_, ?_⟩ <;> decide +kernel)) (fun _ _ _ _ _ => (sg_n sc_law_own_root.nd)) (fun _ _ _ _ _ => (x_mul (x_ix (se_v 1) (se_v 4)) (x_ix (se_v 1) (x_sub (se_v 2) (se_v 4))))) (by decide) (by intro _; rfl))) sa_n)))) (ss_c (ss_i (y_eq hr (x_mod (x_int T.n_int (sa_c (se_v 3) sa_n)) se_int) se_int) (ss_1 (ss_r se_non)) ss_nil) (ss_1 (ss_x (x_app (se_v 1) (sa_c (x_div (se_v 3) se_int) sa_n))))))) (ss_1 (ss_r (x_tup T.n_tuple (sa_c (se_v 1) sa_n))))))), gm, Fu.kp, Fu.binds fun _ _ _ _ _ _ us hl => match us, hl with | [_], _ => rfl⟩
end K75


set_option Elab.async false
set_option linter.all false
set_option maxRecDepth 100000
set_option maxHeartbeats 4000000
namespace K75
open PySem L2 Sm
theorem ok_law_asked {P : Program} {w : World} {K : PySem.W.Frag} {mg : Str → Option Value} {base : Heap} {cC cT : Addr} (T : Txt2 K mg cC cT) {a : Addr} {f : FuncData} (Fu : Fun K "_law_asked" "_law_asked" s_law_asked a f) (gm : mg "_law_asked" = some (.ref a)) {a_root_series : Addr} {f_root_series : FuncData} (d_root_series : Df P w K mg base "root_series" 1 a_root_series f_root_series ["row"] m_root_series) {a_turned_about : Addr} {f_turned_about : FuncData} (d_turned_about : Df P w K mg base "turned_about" 4 a_turned_about f_turned_about ["row"] m_turned_about) {a_turned_item : Addr} {f_turned_item : FuncData} (d_turned_item : Df P w K mg base "turned_item" 5 a_turned_item f_turned_item ["row", "n"] m_turned_item) {aW : Addr} {fW : FuncData} (dW : DfW P w K mg base "_law_error" 1 aW fW ["error"] cC [true, false, false, false, false, false, false, false, false, false]) : Df P w K mg base "_law_asked" 6 a f ["way", "row", "n"] m_law_asked :=
  ⟨fn_X Fu sc_law_asked g_law_asked fun A outer s H E cd hg hr tk po => (ss_1 (ss_tryE sc_law_asked.nd tk dW (hr.mono (by decide)) T.e_Unfit.gm T.e_TermError.gm T.t_Unfit rfl rfl (fun _ _ _ tk2 _ => (ss_c (ss_i (y_eq (by exact hr) (se_v 0) se_int) (ss_1 (ss_r (se_f (ps := ["row"]) (k := 1) (m := m_root_series) (by exact d_root_series) (by exact hg) (by exact hr.mono (by decide)) tk2 (sa_c (se_v 1) sa_n) (by rfl) (by decide) (by rfl) (by rfl)))) ss_nil) (ss_1 (ss_r (se_if (y_eq (by exact hr) (se_v 0) se_int) (se_f (ps := ["row"]) (k := 4) (m := m_turned_about) (by exact d_turned_about) (by exact hg) (by exact hr.mono (by decide)) tk2 (sa_c (se_v 1) sa_n) (by rfl) (by decide) (by rfl) (by rfl)) (se_f (ps := ["row", "n"]) (k := 5) (m := m_turned_item) (by exact d_turned_item) (by exact hg) (by exact hr.mono (by decide)) tk2 (sa_c (se_v 1) (sa_c (se_v 2) sa_n)) (by rfl) (by decide) (by rfl) (by rfl))))))))), gm, Fu.kp, Fu.binds fun _ _ _ _ _ _ us hl => match us, hl with | [_, _, _], _ => rfl⟩
theorem ok_law_are_roots_right {P : Program} {w : World} {K : PySem.W.Frag} {mg : Str → Option Value} {base : Heap} {cC cT : Addr} (T : Txt2 K mg cC cT) {a : Addr} {f : FuncData} (Fu : Fun K "_law_are_roots_right" "_law_are_roots_right" s_law_are_roots_right a f) (gm : mg "_law_are_roots_right" = some (.ref a)) {a_law_draw : Addr} {f_law_draw : FuncData} (d_law_draw : Df P w K mg base "_law_draw" 1 a_law_draw f_law_draw ["bag", "below"] m_law_draw) {a_law_pick : Addr} {f_law_pick : FuncData} (d_law_pick : Df P w K mg base "_law_pick" 2 a_law_pick f_law_pick ["bag", "some"] m_law_pick) {a_law_product : Addr} {f_law_product : FuncData} (d_law_product : Df P w K mg base "_law_product" 1 a_law_product f_law_product ["one", "other"] m_law_product) {a_root_series : Addr} {f_root_series : FuncData} (d_root_series : Df P w K mg base "root_series" 1 a_root_series f_root_series ["row"] m_root_series) {a_law_same : Addr} {f_law_same : FuncData} (d_law_same : Df P w K mg base "_law_same" 1 a_law_same f_law_same ["told", "due"] m_law_same) {a_series_product : Addr} {f_series_product : FuncData} (d_series_product : Df P w K mg base "series_product" 2 a_series_product f_series_product ["one", "other"] m_series_product) {a_series_power : Addr} {f_series_power : FuncData} (d_series_power : Df P w K mg base "series_power" 3 a_series_power f_series_power ["row", "k"] m_series_power) {a_law_own_root : Addr} {f_law_own_root : FuncData} (d_law_own_root : Df P w K mg base "_law_own_root" 1 a_law_own_root f_law_own_root ["row"] m_law_own_root) {a_law_asked : Addr} {f_law_asked : FuncData} (d_law_asked : Df P w K mg base "_law_asked" 6 a_law_asked f_law_asked ["way", "row", "n"] m_law_asked) (k_root_series_row : KBn K f_root_series ["row"] 0 ["row"] (pkW [0]) (pkV [0])) (k_series_product_one_other : KBn K f_series_product ["one", "other"] 0 ["one", "other"] (pkW [0, 1]) (pkV [0, 1])) : Df P w K mg base "_law_are_roots_right" 7 a f ["bag"] m_law_are_roots_right :=
  ⟨fn_X Fu sc_law_are_roots_right g_law_are_roots_right fun A outer s H E cd hg hr tk po => (ss_c (ss_t (se_t (sa_c (x_add se_int (se_f d_law_draw hg (hr.mono (by decide)) tk (sa_c (se_v 0) (sa_c se_int sa_n)) (by rfl) (by decide) (by rfl) (by rfl))) (sa_c (se_f d_law_pick hg (hr.mono (by decide)) tk (sa_c (se_v 0) (sa_c (se_l (sl_d (sa_c se_int (sa_c se_int (sa_c se_int (sa_c se_int sa_n)))))) sa_n)) (by rfl) (by decide) (by rfl) (by rfl)) sa_n))) (sg_t rfl (sgs_c (sg_n sc_law_are_roots_right.nd) (sgs_c (sg_n sc_law_are_roots_right.nd) sgs_n)))) (ss_c (ss_a sc_law_are_roots_right.nd (x_tup T.n_tuple (sa_c (se_l (x_addL (se_l (sl_d (sa_c se_int sa_n))) (se_l (sl_c (own := [("k", 12)]) rfl sc_law_are_roots_right.nd (si_r1 T.n_range (sa_c (x_sub (se_v 1) se_int) sa_n)) (blk_of (N := N_law_are_roots_right) (sc := defScope s_law_are_roots_right) rfl rfl (by refine ⟨rfl, ?_, ?_, ?_, ?_⟩ <;> decide +kernel)) (fun _ _ _ _ _ => (sg_n sc_law_are_roots_right.nd)) (fun _ _ _ _ _ => (x_sub (se_f (ps := ["bag", "below"]) (k := 1) (m := m_law_draw) (by exact d_law_draw) (by exact hg) (by exact hr.mono (by decide)) tk00 (sa_c (se_v 0) (sa_c (x_add (x_mul se_int (se_v 2)) se_int) sa_n)) (by rfl) (by decide) (by rfl) (by rfl)) (se_v 2))) (by decide) (by intro _; rfl))))) sa_n))) (ss_c (ss_a sc_law_are_roots_right.nd (x_tup T.n_tuple (sa_c (se_f d_law_product hg (hr.mono (by decide)) tk (sa_c (se_v 3) (sa_c (se_v 3) sa_n)) (by rfl) (by decide) (by rfl) (by rfl)) sa_n))) (ss_c (ss_p rfl sc_law_are_roots_right.nd (sa_c (se_f d_root_series hg (hr.mono (by decide)) tk (sa_c (se_v 4) sa_n) (by rfl) (by decide) (by rfl) (by rfl)) (sa_c (se_l (sl_d (sa_c (se_l (sl_c (own := [("k", 12)]) rfl sc_law_are_roots_right.nd (si_r1 T.n_range (sa_c se_int sa_n)) (blk_of (N := N_law_are_roots_right) (sc := defScope s_law_are_roots_right) rfl rfl (by refine ⟨rfl, ?_, ?_, ?_, ?_⟩ <;> decide +kernel)) (fun _ _ _ _ _ => (sg_n sc_law_are_roots_right.nd)) (fun _ _ _ _ _ => (x_eq (by exact hr) (se_v 12) se_int)) (by decide) (by intro _; rfl))) (sa_c se_non sa_n)))) sa_n))) (ss_c (ss_i (st_no (st_val (se_f d_law_same hg (hr.mono (by decide)) tk (sa_c (se_l (sl_d (sa_c (se_v 5) (sa_c (se_fk0 d_root_series k_root_series_row hg (hr.mono (by decide)) tk (sk_c (se_v 4) sk_n) (by rfl) (by rfl) (by rfl) (by decide) (by rfl)) sa_n)))) (sa_c (se_l (sl_d (sa_c (se_v 3) (sa_c (se_v 3) sa_n)))) sa_n)) (by rfl) (by decide) (by rfl) (by rfl)))) (ss_1 (ss_r se_bl)) ss_nil) (ss_c (ss_i (st_no (st_val (se_f d_law_same hg (hr.mono (by decide)) tk (sa_c (se_l (sl_d (sa_c (se_f d_series_power hg (hr.mono (by decide)) tk (sa_c (se_v 5) (sa_c se_int sa_n)) (by rfl) (by decide) (by rfl) (by rfl)) (sa_c (se_fk0 d_series_product k_series_product_one_other hg (hr.mono (by decide)) tk (sk_c (se_v 5) (sk_c (se_v 5) sk_n)) (by rfl) (by rfl) (by rfl) (by decide) (by rfl)) sa_n)))) (sa_c (se_l (sl_d (sa_c (se_v 4) (sa_c (se_v 4) sa_n)))) sa_n)) (by rfl) (by decide) (by rfl) (by rfl)))) (ss_1 (ss_r se_bl)) ss_nil) (ss_c (ss_f po rfl (si_seq (se_l (sl_d (sa_c (se_t (sa_c (x_sub (se_v 1) se_int) (sa_c se_int sa_n))) (sa_c (se_t (sa_c (x_sub (se_v 1) se_int) (sa_c (x_neg se_int) sa_n))) (sa_c (se_t (sa_c (se_f d_law_draw hg (hr.mono (by decide)) tk (sa_c (se_v 0) (sa_c (se_v 1) sa_n)) (by rfl) (by decide) (by rfl) (by rfl)) (sa_c se_int sa_n))) (sa_c (se_t (sa_c (se_f d_law_draw hg (hr.mono (by decide)) tk (sa_c (se_v 0) (sa_c (se_v 1) sa_n)) (by rfl) (by decide) (by rfl) (by rfl)) (sa_c se_int sa_n))) (sa_c (se_t (sa_c se_int (sa_c (x_neg se_int) sa_n))) (sa_c (se_t (sa_c (se_f d_law_draw hg (hr.mono (by decide)) tk (sa_c (se_v 0) (sa_c (se_v 1) sa_n)) (by rfl) (by decide) (by rfl) (by rfl)) (sa_c (x_neg se_int) sa_n))) (sa_c (se_t (sa_c se_int (sa_c (se_f d_law_pick hg (hr.mono (by decide)) tk (sa_c (se_v 0) (sa_c (se_l (sl_d (sa_c se_int (sa_c (x_neg se_int) (sa_c se_int (sa_c se_int sa_n)))))) sa_n)) (by rfl) (by decide) (by rfl) (by rfl)) sa_n))) (sa_c (se_t (sa_c (x_sub (se_v 1) se_int) (sa_c se_int sa_n))) sa_n))))))))))) (sg_t rfl (sgs_c (sg_n sc_law_are_roots_right.nd) (sgs_c (sg_n sc_law_are_roots_right.nd) sgs_n))) (ss_c (ss_a sc_law_are_roots_right.nd (x_add (x_add (se_sl (se_v 4) so_n (so_s (se_v 7))) (se_t (sa_c (x_add (x_ix (se_v 4) (se_v 7)) (se_v 8)) sa_n))) (se_sl (se_v 4) (so_s (x_add (se_v 7) se_int)) so_n))) (ss_c (ss_a sc_law_are_roots_right.nd (se_f d_law_own_root hg (hr.mono (by decide)) tk (sa_c (se_v 9) sa_n) (by rfl) (by decide) (by rfl) (by rfl))) (ss_1 (ss_i (st_no (st_val (se_f d_law_same hg (hr.mono (by decide)) tk (sa_c (se_f d_law_asked hg (hr.mono (by decide)) tk (sa_c se_int (sa_c (se_v 9) (sa_c se_int sa_n))) (by rfl) (by decide) (by rfl) (by rfl)) (sa_c (se_if (y_isn (se_v 10) se_non) (se_v 6) (se_v 10)) sa_n)) (by rfl) (by decide) (by rfl) (by rfl)))) (ss_1 (ss_r se_bl)) ss_nil))))) (ss_c (ss_a sc_law_are_roots_right.nd (x_tup T.n_tuple (sa_c (se_l (x_addL (se_l (sl_d (sa_c se_int sa_n))) (se_l (sl_c (own := [("k", 12)]) rfl sc_law_are_roots_right.nd (si_r1 T.n_range (sa_c (x_sub (se_v 1) se_int) sa_n)) (blk_of (N := N_law_are_roots_right) (sc := defScope s_law_are_roots_right) rfl rfl (by refine ⟨rfl, ?_, ?_, ?_, ?_⟩ <;> decide +kernel)) (fun _ _ _ _ _ => (sg_n sc_law_are_roots_right.nd)) (fun _ _ _ _ _ => (x_sub (se_f (ps := ["bag", "below"]) (k := 1) (m := m_law_draw) (by exact d_law_draw) (by exact hg) (by exact hr.mono (by decide)) tk00 (sa_c (se_v 0) (sa_c (x_add (x_mul se_int (x_pow se_int se_int)) se_int) sa_n)) (by rfl) (by decide) (by rfl) (by rfl)) (x_pow se_int se_int))) (by decide) (by intro _; rfl))))) sa_n))) (ss_c (ss_a sc_law_are_roots_right.nd (se_f d_series_product hg (hr.mono (by decide)) tk (sa_c (se_v 3) (sa_c (se_v 3) sa_n)) (by rfl) (by decide) (by rfl) (by rfl))) (ss_1 (ss_r (se_and (se_f d_law_same hg (hr.mono (by decide)) tk (sa_c (se_v 11) (sa_c (x_tup T.n_tuple (sa_c (se_f d_law_product hg (hr.mono (by decide)) tk (sa_c (se_v 3) (sa_c (se_v 3) sa_n)) (by rfl) (by decide) (by rfl) (by rfl)) sa_n)) sa_n)) (by rfl) (by decide) (by rfl) (by rfl)) (se_one (se_f d_law_same hg (hr.mono (by decide)) tk (sa_c (se_f d_root_series hg (hr.mono (by decide)) tk (sa_c (se_v 11) sa_n) (by rfl) (by decide) (by rfl) (by rfl)) (sa_c (se_v 3) sa_n)) (by rfl) (by decide) (by rfl) (by rfl))))))))))))))), gm, Fu.kp, Fu.binds fun _ _ _ _ _ _ us hl => match us, hl with | [_], _ => rfl⟩
theorem ok_law_are_refused {P : Program} {w : World} {K : PySem.W.Frag} {mg : Str → Option Value} {base : Heap} {cC cT : Addr} (T : Txt2 K mg cC cT) {a : Addr} {f : FuncData} (Fu : Fun K "_law_are_refused" "_law_are_refused" s_law_are_refused a f) (gm : mg "_law_are_refused" = some (.ref a)) {a_law_draw : Addr} {f_law_draw : FuncData} (d_law_draw : Df P w K mg base "_law_draw" 1 a_law_draw f_law_draw ["bag", "below"] m_law_draw) {a_law_pick : Addr} {f_law_pick : FuncData} (d_law_pick : Df P w K mg base "_law_pick" 2 a_law_pick f_law_pick ["bag", "some"] m_law_pick) {a_law_same : Addr} {f_law_same : FuncData} (d_law_same : Df P w K mg base "_law_same" 1 a_law_same f_law_same ["told", "due"] m_law_same) {a_law_asked : Addr} {f_law_asked : FuncData} (d_law_asked : Df P w K mg base "_law_asked" 6 a_law_asked f_law_asked ["way", "row", "n"] m_law_asked) : Df P w K mg base "_law_are_refused" 7 a f ["bag", "row"] m_law_are_refused :=
  ⟨fn_X Fu sc_law_are_refused g_law_are_refused fun A outer s H E cd hg hr tk po => (ss_c (ss_a sc_law_are_refused.nd (x_add se_int (se_f d_law_draw hg (hr.mono (by decide)) tk (sa_c (se_v 0) (sa_c (x_sub (x_pow se_int se_int) se_int) sa_n)) (by rfl) (by decide) (by rfl) (by rfl)))) (ss_c (ss_p rfl sc_law_are_refused.nd (sa_c (se_l (sl_d (sa_c (se_l (sl_c (own := [("k", 7)]) rfl sc_law_are_refused.nd (si_r1 T.n_range (sa_c se_int sa_n)) (blk_of (N := N_law_are_refused) (sc := defScope s_law_are_refused) rfl rfl (by refine ⟨rfl, ?_, ?_, ?_, ?_⟩ <;> decide +kernel)) (fun _ _ _ _ _ => (sg_n sc_law_are_refused.nd)) (fun _ _ _ _ _ => (x_eq (by exact hr) (se_v 7) se_int)) (by decide) (by intro _; rfl))) (sa_c se_non sa_n)))) (sa_c (se_f d_law_pick hg (hr.mono (by decide)) tk (sa_c (se_v 0) (sa_c (se_l (sl_d (sa_c se_int (sa_c (x_neg se_int) (sa_c (se_v 2) (sa_c (x_neg (se_v 2)) sa_n)))))) sa_n)) (by rfl) (by decide) (by rfl) (by rfl)) sa_n))) (ss_c (ss_f po rfl (si_seq (se_l (sl_d (sa_c (se_t (sa_c se_int sa_n)) (sa_c (se_t (sa_c (se_v 4) sa_n)) (sa_c (x_add (se_t (sa_c (se_v 4) sa_n)) (se_sl (se_v 1) (so_s se_int) so_n)) (sa_c (x_add (se_t (sa_c se_int (sa_c se_int sa_n))) (se_sl (se_v 1) (so_s se_int) so_n)) (sa_c (x_add (se_t (sa_c se_int (sa_c (se_v 2) sa_n))) (se_sl (se_v 1) (so_s se_int) so_n)) (sa_c (x_add (se_t (sa_c se_int (sa_c (x_neg (se_v 2)) sa_n))) (se_sl (se_v 1) (so_s se_int) so_n)) (sa_c (x_add (se_t (sa_c se_int (sa_c (se_f d_law_pick hg (hr.mono (by decide)) tk (sa_c (se_v 0) (sa_c (se_l (sl_d (sa_c se_int (sa_c (x_neg se_int) sa_n)))) sa_n)) (by rfl) (by decide) (by rfl) (by rfl)) sa_n))) (se_sl (se_v 1) (so_s se_int) so_n)) (sa_c (x_add (se_t (sa_c (se_v 4) (sa_c (se_v 2) sa_n))) (se_sl (se_v 1) (so_s se_int) so_n)) sa_n))))))))))) (sg_n sc_law_are_refused.nd) (ss_c (ss_a sc_law_are_refused.nd (se_f d_law_draw hg (hr.mono (by decide)) tk (sa_c (se_v 0) (sa_c (x_len T.n_len (sa_c (se_v 5) sa_n)) sa_n)) (by rfl) (by decide) (by rfl) (by rfl))) (ss_1 (ss_i (st_no (st_val (se_f d_law_same hg (hr.mono (by decide)) tk (sa_c (se_l (sl_d (sa_c (se_f d_law_asked hg (hr.mono (by decide)) tk (sa_c se_int (sa_c (se_v 5) (sa_c se_int sa_n))) (by rfl) (by decide) (by rfl) (by rfl)) (sa_c (se_f d_law_asked hg (hr.mono (by decide)) tk (sa_c se_int (sa_c (se_v 5) (sa_c (se_v 6) sa_n))) (by rfl) (by decide) (by rfl) (by rfl)) sa_n)))) (sa_c (se_l (sl_d (sa_c (se_v 3) (sa_c (se_v 3) sa_n)))) sa_n)) (by rfl) (by decide) (by rfl) (by rfl)))) (ss_1 (ss_r se_bl)) ss_nil)))) (ss_1 (ss_r se_bl))))), gm, Fu.kp, Fu.binds fun _ _ _ _ _ _ us hl => match us, hl with | [_, _], _ => rfl⟩
theorem ok_law_are_all_right {P : Program} {w : World} {K : PySem.W.Frag} {mg : Str → Option Value} {base : Heap} {cC cT : Addr} (T : Txt2 K mg cC cT) {a : Addr} {f : FuncData} (Fu : Fun K "_law_are_all_right" "_law_are_all_right" s_law_are_all_right a f) (gm : mg "_law_are_all_right" = some (.ref a)) {a_law_own_bag : Addr} {f_law_own_bag : FuncData} (d_law_own_bag : Df P w K mg base "_law_own_bag" 1 a_law_own_bag f_law_own_bag ["script"] m_law_own_bag) {a_law_draw : Addr} {f_law_draw : FuncData} (d_law_draw : Df P w K mg base "_law_draw" 1 a_law_draw f_law_draw ["bag", "below"] m_law_draw) {a_law_own_row : Addr} {f_law_own_row : FuncData} (d_law_own_row : Df P w K mg base "_law_own_row" 3 a_law_own_row f_law_own_row ["bag", "many", "most"] m_law_own_row) {a_law_pick : Addr} {f_law_pick : FuncData} (d_law_pick : Df P w K mg base "_law_pick" 2 a_law_pick f_law_pick ["bag", "some"] m_law_pick) {a_law_is_turned_right : Addr} {f_law_is_turned_right : FuncData} (d_law_is_turned_right : Df P w K mg base "_law_is_turned_right" 7 a_law_is_turned_right f_law_is_turned_right ["bag", "row"] m_law_is_turned_right) {a_law_are_powers_right : Addr} {f_law_are_powers_right : FuncData} (d_law_are_powers_right : Df P w K mg base "_law_are_powers_right" 6 a_law_are_powers_right f_law_are_powers_right ["bag", "row"] m_law_are_powers_right) {a_law_are_families_right : Addr} {f_law_are_families_right : FuncData} (d_law_are_families_right : Df P w K mg base "_law_are_families_right" 6 a_law_are_families_right f_law_are_families_right ["bag", "many"] m_law_are_families_right) {a_law_are_both_right : Addr} {f_law_are_both_right : FuncData} (d_law_are_both_right : Df P w K mg base "_law_are_both_right" 5 a_law_are_both_right f_law_are_both_right ["bag", "many"] m_law_are_both_right) {a_law_are_trees_right : Addr} {f_law_are_trees_right : FuncData} (d_law_are_trees_right : Df P w K mg base "_law_are_trees_right" 6 a_law_are_trees_right f_law_are_trees_right ["many"] m_law_are_trees_right) {a_law_are_roots_right : Addr} {f_law_are_roots_right : FuncData} (d_law_are_roots_right : Df P w K mg base "_law_are_roots_right" 7 a_law_are_roots_right f_law_are_roots_right ["bag"] m_law_are_roots_right) {a_law_are_refused : Addr} {f_law_are_refused : FuncData} (d_law_are_refused : Df P w K mg base "_law_are_refused" 7 a_law_are_refused f_law_are_refused ["bag", "row"] m_law_are_refused) : Df P w K mg base "_law_are_all_right" 8 a f ["script"] m_law_are_all_right :=
  ⟨fn_X Fu sc_law_are_all_right g_law_are_all_right fun A outer s H E cd hg hr tk po => (ss_c (ss_a sc_law_are_all_right.nd (se_f d_law_own_bag hg (hr.mono (by decide)) tk (sa_c (se_v 0) sa_n) (by rfl) (by decide) (by rfl) (by rfl))) (ss_c (ss_a sc_law_are_all_right.nd (x_add se_int (se_if (y_eq hr (se_f d_law_draw hg (hr.mono (by decide)) tk (sa_c (se_v 1) (sa_c se_int sa_n)) (by rfl) (by decide) (by rfl) (by rfl)) se_int) (se_f d_law_draw hg (hr.mono (by decide)) tk (sa_c (se_v 1) (sa_c se_int sa_n)) (by rfl) (by decide) (by rfl) (by rfl)) (se_f d_law_draw hg (hr.mono (by decide)) tk (sa_c (se_v 1) (sa_c se_int sa_n)) (by rfl) (by decide) (by rfl) (by rfl))))) (ss_c (ss_a sc_law_are_all_right.nd (se_f d_law_own_row hg (hr.mono (by decide)) tk (sa_c (se_v 1) (sa_c (se_v 2) (sa_c (se_f d_law_pick hg (hr.mono (by decide)) tk (sa_c (se_v 1) (sa_c (se_l (sl_d (sa_c se_int (sa_c se_int (sa_c (x_pow se_int se_int) sa_n))))) sa_n)) (by rfl) (by decide) (by rfl) (by rfl)) sa_n))) (by rfl) (by decide) (by rfl) (by rfl))) (ss_c (ss_a sc_law_are_all_right.nd (x_repr hg hr T.n_repr (sa_c (se_v 3) sa_n))) (ss_c (ss_i (PW.pt (sw_or (st_no (st_val (se_f d_law_is_turned_right hg (hr.mono (by decide)) tk (sa_c (se_v 1) (sa_c (se_v 3) sa_n)) (by rfl) (by decide) (by rfl) (by rfl)))) (sw_or1 (st_no (st_val (se_f d_law_are_powers_right hg (hr.mono (by decide)) tk (sa_c (se_v 1) (sa_c (se_v 3) sa_n)) (by rfl) (by decide) (by rfl) (by rfl))))))) (ss_1 (ss_r se_bl)) ss_nil) (ss_c (ss_a sc_law_are_all_right.nd (se_if (y_lt (se_v 2) se_int) (x_add se_int (se_f d_law_draw hg (hr.mono (by decide)) tk (sa_c (se_v 1) (sa_c se_int sa_n)) (by rfl) (by decide) (by rfl) (by rfl))) (x_add se_int (se_f d_law_draw hg (hr.mono (by decide)) tk (sa_c (se_v 1) (sa_c se_int sa_n)) (by rfl) (by decide) (by rfl) (by rfl))))) (ss_c (ss_i (PW.pt (sw_or (st_no (st_val (se_f d_law_are_families_right hg (hr.mono (by decide)) tk (sa_c (se_v 1) (sa_c (se_v 5) sa_n)) (by rfl) (by decide) (by rfl) (by rfl)))) (sw_or1 (st_no (st_val (se_f d_law_are_both_right hg (hr.mono (by decide)) tk (sa_c (se_v 1) (sa_c (x_add se_int (se_f d_law_draw hg (hr.mono (by decide)) tk (sa_c (se_v 1) (sa_c se_int sa_n)) (by rfl) (by decide) (by rfl) (by rfl))) sa_n)) (by rfl) (by decide) (by rfl) (by rfl))))))) (ss_1 (ss_r se_bl)) ss_nil) (ss_c (ss_i (st_no (st_val (se_f d_law_are_trees_right hg (hr.mono (by decide)) tk (sa_c (se_if (PW.pt (sw_and (y_eq hr (se_f d_law_draw hg (hr.mono (by decide)) tk (sa_c (se_v 1) (sa_c se_int sa_n)) (by rfl) (by decide) (by rfl) (by rfl)) se_int) (sw_and1 (y_lt (se_v 2) se_int)))) se_int (x_add se_int (se_f d_law_draw hg (hr.mono (by decide)) tk (sa_c (se_v 1) (sa_c se_int sa_n)) (by rfl) (by decide) (by rfl) (by rfl)))) sa_n) (by rfl) (by decide) (by rfl) (by rfl)))) (ss_1 (ss_r se_bl)) ss_nil) (ss_c (ss_i (PW.pt (sw_or (st_no (st_val (se_f d_law_are_roots_right hg (hr.mono (by decide)) tk (sa_c (se_v 1) sa_n) (by rfl) (by decide) (by rfl) (by rfl)))) (sw_or1 (st_no (st_val (se_f d_law_are_refused hg (hr.mono (by decide)) tk (sa_c (se_v 1) (sa_c (se_v 3) sa_n)) (by rfl) (by decide) (by rfl) (by rfl))))))) (ss_1 (ss_r se_bl)) ss_nil) (ss_1 (ss_r (x_eq hr (x_repr hg hr T.n_repr (sa_c (se_v 3) sa_n)) (se_v 4))))))))))))), gm, Fu.kp, Fu.binds fun _ _ _ _ _ _ us hl => match us, hl with | [_], _ => rfl⟩
theorem ok_law {P : Program} {w : World} {K : PySem.W.Frag} {mg : Str → Option Value} {base : Heap} {cC cT : Addr} (T : Txt2 K mg cC cT) {a : Addr} {f : FuncData} (Fu : Fun K "law" "law" s_law a f) (gm : mg "law" = some (.ref a)) {a_law_are_all_right : Addr} {f_law_are_all_right : FuncData} (d_law_are_all_right : Df P w K mg base "_law_are_all_right" 8 a_law_are_all_right f_law_are_all_right ["script"] m_law_are_all_right) : Df P w K mg base "law" 9 a f ["script"] m_law :=
  ⟨fn_X Fu sc_law g_law fun A outer s H E cd hg hr tk po => (ss_1 (ss_try0 (ss_1 (ss_r (se_f (ps := ["script"]) (k := 8) (m := m_law_are_all_right) (by exact d_law_are_all_right) (by exact hg) (by exact hr.mono (by decide)) tk00 (sa_c (se_v 0) sa_n) (by rfl) (by decide) (by rfl) (by rfl)))))), gm, Fu.kp, Fu.binds fun _ _ _ _ _ _ us hl => match us, hl with | [_], _ => rfl⟩
end K75


set_option Elab.async false
set_option linter.all false
set_option maxRecDepth 100000
set_option maxHeartbeats 1000000
namespace K75
open PySem L2 Sm Ser
theorem p_item {S : Store} {M n : Nat} {f g : Ser.S} {d1 d2 : D} (hS : OkS S) (h1 : seqD S d1 = some (LI M f)) (h2 : seqD S d2 = some (LI M g)) (hn : n < M) (hM : M ≤ 1000) (b1 : Sz M f) (b2 : Sz M g) :
    m_product_item [d1, d2, .int (n : Int)] S = .ok (.int (mul f g n)) S := by
  refine m_rt0 hS rfl (w_R (v_B (as := [.lst (LI (n + 1) fun i => f i * g (n - i))]) (v_aC (v_L ?_) v_aN) ?_))
  · refine v_lCr (v_Rn (n := n + 1) (v_aC (v_O2 (v_V rfl) rfl rfl) v_aN) (by omega) (by omega)) ?_
    refine comp_rng (fun i => .int (f i * g (n - i))) 0 (n + 1) (by omega) fun i hi => ⟨_, rfl, ?_⟩
    exact v_O2 (v_O2 (v_V rfl) (v_V rfl) (ix_LI h1 (Int.zero_add _) (by omega))) (v_O2 (v_V rfl) (v_O2 (v_V rfl) (v_V rfl) rfl) (ix_LI h2 (i := n - i) (by omega) (by omega))) (mulA_int (b1 i (by omega)) (b2 (n - i) (by omega)))
  · rw [sum_LI, sum_range]; rfl
theorem p_prod {S : Store} {M : Nat} {f g : Ser.S} (hS : OkS S) (hM : M ≤ 1000) (b1 : Sz M f) (b2 : Sz M g) : m_series_product [.tup (LI M f), .tup (LI M g)] S = .ok (.tup (LI M (mul f g))) S := by
  refine m_rt0 hS (lo_tup _ _ _) (w_R (v_B (as := [.lst (LI M (mul f g))]) (v_aC (v_L ?_) v_aN) (tup_seq rfl)))
  refine v_lCr (v_Rn (n := M) (v_aC (v_B (v_aC (v_V rfl) v_aN) (len_seq rfl)) v_aN) (by rw [LI_len]) (by omega)) ?_
  refine comp_rng (fun i => .int (mul f g i)) 0 M (by omega) fun i hi => ⟨_, rfl, ?_⟩
  refine v_Fr (v_aC (v_V rfl) (v_aC (v_V rfl) (v_aC (v_V rfl) v_aN))) rfl ?_
  rw [show (0 : Int) + (i : Int) = (i : Int) by omega]
  exact p_item hS rfl rfl hi hM b1 b2
theorem p_unit {S : Store} {M : Nat} (hS : OkS S) (h0 : 0 < M) (hM : M ≤ 1000) : m_unit_series [.int (M : Int)] S = .ok (.tup (LI M one)) S := by
  obtain ⟨k, rfl⟩ : ∃ k, M = k + 1 := ⟨M - 1, by omega⟩
  refine m_rt0 hS (lo_tup _ _ _) (w_R (v_O2 (b := .tup (LI k fun _ => 0)) (v_T (v_aC rfl v_aN) (by decide)) (v_O2 (v_T (v_aC rfl v_aN) (by decide)) (v_O2 (v_V rfl) rfl rfl) ?_) ?_))
  · rw [show (((k + 1 : Nat) : Int) - 1) = (k : Int) by omega]
    exact mulT1 (by omega)
  · show (if _ then some (D.tup ([D.int 1] ++ LI k fun _ => 0)) else none) = _
    rw [if_pos (by rw [LI_len]; simp; omega), LI_cons]
    rfl
theorem p_power {S : Store} {M k : Nat} {f : Ser.S} (hS : OkS S) (h0 : 0 < M) (hM : M ≤ 1000) (hk : k ≤ 1000) (b : Sz M f) (bp : ∀ j, j < k → Sz M (pw f j)) : m_series_power [.tup (LI M f), .int (k : Int)] S = .ok (.tup (LI M (pw f k))) S := by
  have e1 : eF 1 m_unit_series (aC (eB dLen (aC (eV 0) aN)) aN) [some (.tup (LI M f)), some (.int (k : Int)), none, none] S = .ok (.tup (LI M one)) S :=
    v_Fr (v_aC (v_B (v_aC (v_V rfl) v_aN) (len_seq rfl)) v_aN) rfl (by rw [LI_len]; exact p_unit hS h0 hM)
  obtain ⟨ρ2, S2, e2, p⟩ := loop_rng (τ := tgN 3) (g := gA 2 (eF 2 m_series_product (aC (eV 2) (aC (eV 0) aN)))) (fun i ρ S' => S' = S ∧ ∃ x, ρ = [some (.tup (LI M f)), some (.int (k : Int)), some (.tup (LI M (pw f i))), x]) 0 k [some (.tup (LI M f)), some (.int (k : Int)), some (.tup (LI M one)), none] S ⟨rfl, _, rfl⟩ fun i ρ S' hi hp => by
    obtain ⟨rfl, x, rfl⟩ := hp
    exact ⟨_, _, _, rfl, w_A (v_Fr (v_aC (v_V rfl) (v_aC (v_V rfl) v_aN)) rfl (p_prod hS hM (bp i hi) b)), rfl, _, rfl⟩
  obtain ⟨rfl, x, rfl⟩ := p
  exact m_rt0 hS (lo_tup _ _ _) (w_Sq (w_A e1) (w_Sq ((w_F (v_Rn (v_aC (v_V rfl) v_aN) rfl (by omega))).trans e2) (w_R (v_V rfl))))
theorem zip_LI (M : Nat) (f g : Ser.S) : List.zipWith pairD (LI M f) (LI M g) = (List.range M).map fun i => pairD (.int (f i)) (.int (g i)) := by
  unfold LI
  rw [List.zipWith_map]
  have key : ∀ l : List Nat, List.zipWith (fun a b : Nat => pairD (.int (f a)) (.int (g b))) l l = l.map fun i => pairD (.int (f i)) (.int (g i)) := by
    intro l
    induction l with
    | nil => rfl
    | cons a l ih => rw [List.zipWith_cons_cons, ih]; rfl
  exact key _
theorem comp_ix {τ : Tg} {fe : F D} {ρ : Envm} {S : Store} (x : Nat → D) (h : Nat → D) (n : Nat) (hn : n ≤ 100000) (st : ∀ i, i < n → ∃ ρ1, τ (x i) ρ = some ρ1 ∧ fe ρ1 S = .ok (h i) S) : compL τ tAll fe ((List.range n).map x) ρ S = .ok ((List.range n).map h) S := by
  have key : ∀ (l : List Nat), l.length ≤ 100000 → (∀ i, i ∈ l → i < n) → compL τ tAll fe (l.map x) ρ S = .ok (l.map h) S := by
    intro l
    induction l with
    | nil => intro _ _; rfl
    | cons i l ih =>
      intro hl hm
      obtain ⟨ρ1, e1, e2⟩ := st i (hm i List.mem_cons_self)
      have ih := ih (by simp at hl; omega) fun j hj => hm j (List.mem_cons_of_mem _ hj)
      have hl2 : (l.map h).length ≤ 100000 := by simp at hl ⊢; omega
      simp only [List.map_cons, compL, e1, tAll, noX, bind_ok, if_true, e2, ih, if_pos hl2]
  exact key (List.range n) (by simpa using hn) fun i hi => List.mem_range.mp hi
theorem p_put {S : Store} {M : Nat} {f g : Ser.S} (hS : OkS S) (h0 : 0 < M) (hM : M ≤ 1000) (bf : Sz M f) (b : Sz M g) (bp : ∀ j, j < M → Sz M (pw g j)) : m_put_into [.tup (LI M f), .tup (LI M g)] S = .ok (.tup (LI M (fs f g M))) S := by
  have e1 : gP 2 3 (aC (eO2 dMulA (eT (aC (eC (.int 0)) aN)) (eB dLen (aC (eV 0) aN))) (aC (eF 1 m_unit_series (aC (eB dLen (aC (eV 0) aN)) aN)) aN)) [some (.tup (LI M f)), some (.tup (LI M g)), none, none, none, none, none] S =
      .nx [some (.tup (LI M f)), some (.tup (LI M g)), some (.tup (LI M fun _ => 0)), some (.tup (LI M one)), none, none, none] S :=
    w_P (v_aC (v_O2 (v_T (v_aC rfl v_aN) (by decide)) (v_B (v_aC (v_V rfl) v_aN) (len_seq rfl)) (by rw [LI_len]; exact mulT1 hM)) (v_aC (v_Fr (v_aC (v_B (v_aC (v_V rfl) v_aN) (len_seq rfl)) v_aN) rfl (by rw [LI_len]; exact p_unit hS h0 hM)) v_aN))
  obtain ⟨ρ2, S2, e2, p⟩ := loop_inv (τ := tgN 4) (g := gSeq (gA 2 (eB dTup (aC (eL (lC [5, 6] (tgT ((tgN 5) :: (tgN 6) :: [])) (iZip (aC (eV 2) (aC (eV 3) aN))) tAll (eO2 dAdd (eV 5) (eO2 dMulA (eV 4) (eV 6))))) aN))) (gA 3 (eF 2 m_series_product (aC (eV 3) (aC (eV 1) aN)))))
    (fun i ρ S' => S' = S ∧ ∃ x y z, ρ = [some (.tup (LI M f)), some (.tup (LI M g)), some (.tup (LI M (fs f g i))), some (.tup (LI M (pw g i))), x, y, z]) (LI M f) 0 [some (.tup (LI M f)), some (.tup (LI M g)), some (.tup (LI M fun _ => 0)), some (.tup (LI M one)), none, none, none] S ⟨rfl, _, _, _, rfl⟩ fun i ρ S' w hi hp => by
    have hi2 : i < M := by
      have := (List.getElem?_eq_some_iff.mp hi).1
      rwa [LI_len] at this
    rw [LI_get hi2] at hi
    cases hi
    rw [Nat.zero_add] at hp ⊢
    obtain ⟨rfl, x, y, z, rfl⟩ := hp
    refine ⟨_, _, _, rfl, w_Sq (w_A (d := .tup (LI M (fs f g (i + 1)))) (v_B (as := [.lst (LI M (fs f g (i + 1)))]) (v_aC (v_L ?_) v_aN) (tup_seq rfl))) (w_A (v_Fr (v_aC (v_V rfl) (v_aC (v_V rfl) v_aN)) rfl (p_prod hS hM (bp i hi2) b))), rfl, _, _, _, rfl⟩
    refine v_lCr (S1 := S') (xs := List.zipWith pairD (LI M (fs f g i)) (LI M (pw g i))) ?_ ?_
    · unfold Sm.iZip
      rw [v_aC (v_V rfl) (v_aC (v_V rfl) v_aN), bind_ok]
      rfl
    · rw [zip_LI]
      exact comp_ix _ (fun j => .int (fs f g (i + 1) j)) M (by omega) fun j hj => ⟨_, rfl, v_O2 (v_V rfl) (v_O2 (v_V rfl) (v_V rfl) (mulA_int (bf i hi2) (bp i hi2 j hj))) rfl⟩
  obtain ⟨rfl, x, y, z, rfl⟩ := p
  rw [LI_len, Nat.zero_add] at e2
  exact m_rt0 hS (lo_tup _ _ _) (w_Sq e1 (w_Sq ((w_F (v_iSeq (v_V rfl) rfl)).trans e2) (w_R (v_V rfl))))
end K75


set_option Elab.async false
set_option linter.all false
set_option maxRecDepth 100000
set_option maxHeartbeats 1000000
namespace K75
open PySem L2 Sm Ser
theorem p_series_put {S : Store} {M : Nat} {f g : Ser.S} (hS : OkS S) (h0 : 0 < M) (hM : M ≤ 1000) (g0 : g 0 = 0) (bf : Sz M f) (b : Sz M g) (bp : ∀ j, j < M → Sz M (pw g j)) : m_series_put [.tup (LI M f), .tup (LI M g)] S = .ok (.tup (LI M (cp f g))) S := by
  have e : LI M (cp f g) = LI M (fs f g M) := LI_congr fun i hi => (fs_cp g0 hi f).symm
  rw [e]
  refine m_rt0 hS (lo_tup _ _ _) (w_Sq (w_Else (v_tV (b := false) (v_O2 (v_O2 (v_V rfl) rfl (ix_LI (S := S) rfl (i := 0) rfl h0)) rfl ?_)) rfl) (w_R (v_Fr (v_aC (v_V rfl) (v_aC (v_V rfl) v_aN)) rfl (p_put hS h0 hM bf b bp))))
  rw [ne_int, g0]; rfl
theorem unit_cases {x : Int} (h : x * x = 1) : x = 1 ∨ x = -1 := by
  have := abs_unit h
  omega
/-- a row and the row that undoes it, both of some size -/
structure RowG (u : Ser.S) : Prop where
  z : u 0 = 0
  o : u 1 * u 1 = 1
  s : Sz 32 u
  g : MJ 1000 26 (G u)
theorem RowG.A {u : Ser.S} (h : RowG u) (n : Nat) : MJ 1000 26 (Ser.A u n) := fun i hi => by
  rw [A_at]
  split
  · exact h.g i hi
  · exact Nat.zero_le _
theorem RowG.cpA {u : Ser.S} (h : RowG u) (n : Nat) (hn : n + 2 < 32) : (cp u (Ser.A u (n + 2)) (n + 2)).natAbs ≤ 2 ^ (1000 + 26 * (n + 2)) := by
  have e := congrArg Int.natAbs (G_at u (n + 2))
  have e : (Ser.G u (n + 2)).natAbs = (-(cp u (Ser.A u (n + 2)) (n + 2)) * u 1).natAbs := e
  rw [Int.natAbs_mul, Int.natAbs_neg, abs_unit h.o, Nat.mul_one] at e
  rw [← e]
  exact h.g (n + 2) hn
theorem row_sz {u : Ser.S} (R : Row u) : Sz 32 u := Sz_of (a := 20) (k := 0) (fun i _ => by rw [Nat.zero_mul]; exact R.b i) (by decide) (by decide)
theorem row_g {u : Ser.S} (R : Row u) : RowG u := ⟨R.z, R.o, row_sz R, R.G.weak (by decide) (by decide)⟩
theorem row_gg {u : Ser.S} (R : Row u) : RowG (G u) := ⟨G0 u, by rw [G1]; exact R.o, Sz_of R.G (by decide) (by decide), by
  rw [G_two R.z R.o]
  exact (show MJ 20 0 u from fun i _ => by rw [Nat.zero_mul]; exact R.b i).weak (by decide) (by decide)⟩
theorem p_aboutG {S : Store} {M : Nat} {u : Ser.S} (hS : OkS S) (h0 : 2 ≤ M) (hM : M ≤ 16) (R : RowG u) : m_turned_about [.tup (LI M u)] S = .ok (.tup (LI M (G u))) S := by
  have szU : ∀ m, m ≤ 32 → Sz m u := fun m hm i hi => R.s i (by omega)
  have t0 : ∀ (ρ : Envm) (S' : Store), ρ[0]? = some (some (.tup (LI M u))) → eO2 dIx (eV 0) (eC (.int 1)) ρ S' = .ok (.int (u 1)) S' := fun ρ S' h => v_O2 (v_V h) rfl (ix_LI (S := S') rfl (i := 1) rfl (by omega))
  have tests : gI (tOr_ (tV (eO2 (dCmp fun i j => decide (i < j)) (eB dLen (aC (eV 0) aN)) (eC (.int 2)))) (tOr_ (tV (eO2 dNe (eO2 dIx (eV 0) (eC (.int 0))) (eC (.int 0)))) (tV (eO2 (dIn true) (eO2 dIx (eV 0) (eC (.int 1))) (eT (aC (eC (.int 1)) (aC (eO1 dNeg (eC (.int 1))) aN))))))) (gRaise "Unfit") gNx [some (.tup (LI M u)), none, none, none] S = .nx [some (.tup (LI M u)), none, none, none] S := by
    refine w_Else ?_ rfl
    rw [v_tOr (b := false) (v_tV (v_O2 (v_B (v_aC (v_V rfl) v_aN) (len_seq rfl)) rfl ?_)), if_neg (by decide), v_tOr (b := false) (v_tV (v_O2 (v_O2 (v_V rfl) rfl (ix_LI (S := S) rfl (i := 0) rfl (by omega))) rfl ?_)), if_neg (by decide)]
    · refine v_tV (v_O2 (t0 _ _ rfl) (v_T (v_aC rfl (v_aC (v_O1 rfl rfl) v_aN)) (by decide)) ?_)
      refine dIn01.trans ?_
      rcases unit_cases R.o with h | h <;> rw [h] <;> rfl
    · rw [ne_int, R.z]; rfl
    · rw [LI_len]
      show some (D.bl (decide ((M : Int) < 2))) = _
      rw [decide_eq_false (by omega)]
  obtain ⟨ρ2, S2, e2, p⟩ := loop_rng (τ := tgN 2) (g := gSeq (gA 3 (eO2 dIx (eF 2 m_put_into (aC (eSl (eV 0) oN (oS (eO2 dAdd (eV 2) (eC (.int 1))))) (aC (eO2 dAdd (eB dTup (aC (eV 1) aN)) (eT (aC (eC (.int 0)) aN))) aN))) (eV 2))) (gX (eM isTrk mApp (eV 1) (aC (eO2 dMulA (eO1 dNeg (eV 3)) (eO2 dIx (eV 0) (eC (.int 1)))) aN))))
    (fun i ρ S' => S' = S ++ [O.lst (LI (i + 2) (G u))] ∧ ∃ x y, ρ = [some (.tup (LI M u)), some (.ptr S.length), x, y]) 2 (M - 2) [some (.tup (LI M u)), some (.ptr S.length), none, none] (S ++ [O.lst (LI 2 (G u))]) ⟨rfl, _, _, rfl⟩ fun i ρ S' hi hp => by
    obtain ⟨rfl, x, y, rfl⟩ := hp
    have hS2 : OkS (S ++ [O.lst (LI (i + 2) (G u))]) := hS.snoc (los_LI _ _ _)
    have eA : LI (i + 2 + 1) (A u (i + 2)) = LI (i + 2) (G u) ++ [.int 0] := by
      rw [LI_snoc, A_at, if_neg (by omega)]
      congr 1
      exact LI_congr fun j hj => by rw [A_at, if_pos hj]
    have hput := p_put (S := S ++ [O.lst (LI (i + 2) (G u))]) (M := i + 2 + 1) (f := u) (g := A u (i + 2)) hS2 (by omega) (by omega) (szU _ (by omega)) (Sz_of (R.A (i + 2)) (by omega) (by decide)) fun j hj => Sz_of ((R.A (i + 2)).pw j) (by omega) (by omega)
    have hcp : fs u (A u (i + 2)) (i + 2 + 1) (i + 2) = cp u (A u (i + 2)) (i + 2) := fs_cp (A0 u _) (by omega) u
    have bcp := R.cpA i (by omega)
    have hG : LI (i + 1 + 2) (G u) = LI (i + 2) (G u) ++ [.int (-(cp u (A u (i + 2)) (i + 2)) * u 1)] := by
      rw [show i + 1 + 2 = i + 2 + 1 by omega, LI_snoc, G_at u (i + 2)]; rfl
    refine ⟨_, _, _, rfl, w_Sq (w_A (d := .int (cp u (A u (i + 2)) (i + 2))) (u_O2 (u_Fr (as := [.tup (LI (i + 2 + 1) u), .tup (LI (i + 2 + 1) (A u (i + 2)))]) (u_aC ?_ (u_aC ?_ v_aN)) rfl hput) (v_V rfl) ?_)) (w_X (d := .non) (v_M (v_V rfl) (trk_new _ _) (v_aC (v_O2 (v_O1 (v_V rfl) rfl) (t0 _ _ rfl) (mulA_int ?_ ?_)) v_aN) (app_new _ _ _ (by rw [LI_len]; omega)))), ?_, _, _, rfl⟩
    · rw [← LI_take u (show i + 2 + 1 ≤ M by omega)]
      exact u_to (j := 2 + (i : Int) + 1) (v_V rfl) (u_O2 (v_V rfl) rfl rfl) (by omega) (by rw [LI_len]; omega)
    · exact u_add (u_B (u_aC (v_V rfl) v_aN) (tup_seq (seq_new _ _))) (u_T (u_aC rfl v_aN) (by decide)) (by rw [LI_len]; simp; omega) eA.symm
    · rw [ix_LI (M := i + 2 + 1) (f := fs u (A u (i + 2)) (i + 2 + 1)) rfl (i := i + 2) (by show (2 : Int) + (i : Int) = _; omega) (by omega), hcp]
    · rw [Int.natAbs_neg]; exact sz_of bcp (by omega)
    · exact R.s 1 (by decide)
    · rw [hG]
  obtain ⟨rfl, x, y, rfl⟩ := p
  rw [show M - 2 + 2 = M by omega] at e2
  have e3 : (LI 2 (G u)) = [.int 0, .int (u 1)] := by
    rw [LI_cons, LI_cons, G0]
    show [D.int 0, D.int (G u 1)] = _
    rw [G1]
  rw [e3] at e2
  exact m_rt [O.lst (LI M (G u))] hS (lo_tup _ _ _) (w_Sq tests (w_Sq (w_A (v_N (u_lD (u_aC rfl (u_aC (t0 _ _ rfl) v_aN)) (by show 2 ≤ 100000; decide)))) (w_Sq ((w_F (v_Rm (m := 2) (n := M) (u_aC rfl (u_aC (u_B (u_aC (v_V rfl) v_aN) (len_seq rfl)) v_aN)) rfl (by rw [LI_len]) (by decide) (by omega))).trans e2) (w_R (u_B (u_aC (v_V rfl) v_aN) (tup_seq (seq_new _ _)))))))
theorem p_about {S : Store} {M : Nat} {u : Ser.S} (hS : OkS S) (h0 : 2 ≤ M) (hM : M ≤ 16) (R : Row u) : m_turned_about [.tup (LI M u)] S = .ok (.tup (LI M (G u))) S := p_aboutG hS h0 hM (row_g R)
end K75


set_option Elab.async false
set_option linter.all false
set_option maxRecDepth 100000
set_option maxHeartbeats 1000000
namespace K75
open PySem L2 Sm Ser
/-- a series whose inverse is asked for -/
structure Wr (w : Ser.S) : Prop where
  o : w 0 * w 0 = 1
  b : ∀ i, (w i).natAbs ≤ 2 ^ 20
theorem Wr.mj {w : Ser.S} (h : Wr w) : MJ 20 0 w := fun i _ => by rw [Nat.zero_mul]; exact h.b i
theorem Wr.inv {w : Ser.S} (h : Wr w) : MJ 0 21 (inv w) := MJ.inv h.o fun i _ => h.b i
theorem Wr.sz {w : Ser.S} (h : Wr w) {M : Nat} (hM : M ≤ 32) : Sz M w := Sz_of h.mj hM (by decide)
theorem Wr.szI {w : Ser.S} (h : Wr w) {M : Nat} (hM : M ≤ 32) : Sz M (Ser.inv w) := Sz_of h.inv hM (by decide)
theorem Wr.sum {w : Ser.S} (h : Wr w) {n : Nat} (hn : n < 32) : (mulN n (tl w) (Ser.inv w)).natAbs.log2 < 400000 :=
  sz_of (mulN_20 n (tl w) (Ser.inv w) (fun i _ => h.b (i + 1)) fun i hi => inv_bd h.o (fun j _ => h.b j) i (by omega)) (by omega)
/-- the inner sum of the inverse -/
theorem inv_sum {S : Store} {M i : Nat} {w : Ser.S} {a : D} {x : Option D} (h : Wr w) (hM : M ≤ 16) (hi : i + 1 < M) (ha : seqV a = some (LI M w)) :
    eB dSum (aC (eL (lC [3] (tgN 3) (iR2 (aC (eC (.int 1)) (aC (eO2 dAdd (eV 2) (eC (.int 1))) aN))) tAll (eO2 dMulA (eO2 dIx (eV 0) (eV 3)) (eO2 dIx (eV 1) (eO2 dSub (eV 2) (eV 3)))))) aN) [some a, some (.ptr S.length), some (.int (1 + (i : Int))), x] (S ++ [O.lst (LI (i + 1) (inv w))]) =
      .ok (.int (mulN i (tl w) (inv w))) (S ++ [O.lst (LI (i + 1) (inv w))]) := by
  refine u_B (as := [.lst (LI (i + 1) fun j => tl w j * inv w (i - j))]) (u_aC (u_L ?_) v_aN) (by rw [sum_LI, sum_range])
  refine v_lCr (S1 := S ++ [O.lst (LI (i + 1) (inv w))]) (v_Rm (m := 1) (n := i + 2) (i := 1) (j := 1 + (i : Int) + 1) (u_aC rfl (u_aC (u_O2 (v_V rfl) rfl rfl) v_aN)) rfl (by omega) (by decide) (by omega)) ?_
  rw [show i + 2 - 1 = i + 1 by omega]
  refine comp_rng (fun j => .int (tl w j * inv w (i - j))) 1 (i + 1) (by omega) fun j hj => ⟨_, rfl, ?_⟩
  exact u_O2 (u_O2 (v_V rfl) (v_V rfl) (ix_LI (seqD_V ha _) (i := j + 1) (by omega) (by omega))) (u_O2 (v_V rfl) (u_O2 (v_V rfl) (v_V rfl) rfl) (ix_LI (seq_new _ _) (i := i - j) (by omega) (by omega))) (mulA_int (h.sz (M := 32) (by decide) (j + 1) (by omega)) (h.szI (M := 32) (by decide) (i - j) (by omega)))
theorem p_other {S : Store} {M : Nat} {w : Ser.S} (hS : OkS S) (h0 : 0 < M) (hM : M ≤ 16) (h : Wr w) : m_series_other [.tup (LI M w)] S = .ok (.tup (LI M (inv w))) S := by
  have t0 : ∀ (ρ : Envm) (S' : Store), ρ[0]? = some (some (.tup (LI M w))) → eO2 dIx (eV 0) (eC (.int 0)) ρ S' = .ok (.int (w 0)) S' := fun ρ S' h => v_O2 (v_V h) rfl (ix_LI (S := S') rfl (i := 0) rfl h0)
  have tests : gI (tV (eO2 (dIn true) (eO2 dIx (eV 0) (eC (.int 0))) (eT (aC (eC (.int 1)) (aC (eO1 dNeg (eC (.int 1))) aN))))) (gRaise "Unfit") gNx [some (.tup (LI M w)), none, none, none] S = .nx [some (.tup (LI M w)), none, none, none] S := by
    refine w_Else (u_tV (u_O2 (t0 _ _ rfl) (u_T (u_aC rfl (u_aC (u_O1 rfl rfl) v_aN)) (by decide)) ?_)) rfl
    refine dIn01.trans ?_
    rcases unit_cases h.o with h | h <;> rw [h] <;> rfl
  obtain ⟨ρ2, S2, e2, p⟩ := loop_rng (τ := tgN 2) (g := gX (eM isTrk mApp (eV 1) (aC (eO2 dMulA (eO1 dNeg (eO2 dIx (eV 0) (eC (.int 0)))) (eB dSum (aC (eL (lC [3] (tgN 3) (iR2 (aC (eC (.int 1)) (aC (eO2 dAdd (eV 2) (eC (.int 1))) aN))) tAll (eO2 dMulA (eO2 dIx (eV 0) (eV 3)) (eO2 dIx (eV 1) (eO2 dSub (eV 2) (eV 3)))))) aN))) aN)))
    (fun i ρ S' => S' = S ++ [O.lst (LI (i + 1) (inv w))] ∧ ∃ x y, ρ = [some (.tup (LI M w)), some (.ptr S.length), x, y]) 1 (M - 1) [some (.tup (LI M w)), some (.ptr S.length), none, none] (S ++ [O.lst (LI 1 (inv w))]) ⟨rfl, _, _, rfl⟩ fun i ρ S' hi hp => by
    obtain ⟨rfl, x, y, rfl⟩ := hp
    refine ⟨_, _, _, rfl, w_X (d := .non) (v_M (v_V rfl) (trk_new _ _) (u_aC (u_O2 (u_O1 (t0 _ _ rfl) rfl) (inv_sum h hM (by omega) rfl) (mulA_int ?_ (h.sum (by omega)))) v_aN) (app_new _ _ _ (by rw [LI_len]; omega))), ?_, _, _, rfl⟩
    · rw [Int.natAbs_neg]; exact h.sz (M := 32) (by decide) 0 (by decide)
    · rw [LI_snoc (i + 1), inv_rec h.o]
  obtain ⟨rfl, x, y, rfl⟩ := p
  rw [show M - 1 + 1 = M by omega] at e2
  have e3 : LI 1 (inv w) = [.int (w 0)] := by
    rw [LI_cons, inv0 h.o]; rfl
  rw [e3] at e2
  exact m_rt [O.lst (LI M (inv w))] hS (lo_tup _ _ _) (w_Sq tests (w_Sq (w_A (v_N (u_lD (u_aC (t0 _ _ rfl) v_aN) (by show 1 ≤ 100000; decide)))) (w_Sq ((w_F (v_Rm (m := 1) (n := M) (u_aC rfl (u_aC (u_B (u_aC (v_V rfl) v_aN) (len_seq rfl)) v_aN)) rfl (by rw [LI_len]) (by decide) (by omega))).trans e2) (w_R (u_B (u_aC (v_V rfl) v_aN) (tup_seq (seq_new _ _)))))))
theorem p_own_other {S : Store} {M : Nat} {w : Ser.S} (hS : OkS S) (h0 : 0 < M) (hM : M ≤ 16) (h : Wr w) : m_law_own_other [.lst (LI M w)] S = .ok (.lst (LI M (inv w))) S := by
  have t0 : ∀ (ρ : Envm) (S' : Store), ρ[0]? = some (some (.lst (LI M w))) → eO2 dIx (eV 0) (eC (.int 0)) ρ S' = .ok (.int (w 0)) S' := fun ρ S' h => v_O2 (v_V h) rfl (ix_LI (S := S') rfl (i := 0) rfl h0)
  obtain ⟨ρ2, S2, e2, p⟩ := loop_rng (τ := tgN 2) (g := gX (eM isTrk mApp (eV 1) (aC (eO2 dSub (eC (.int 0)) (eO2 dMulA (eO2 dIx (eV 0) (eC (.int 0))) (eB dSum (aC (eL (lC [3] (tgN 3) (iR2 (aC (eC (.int 1)) (aC (eO2 dAdd (eV 2) (eC (.int 1))) aN))) tAll (eO2 dMulA (eO2 dIx (eV 0) (eV 3)) (eO2 dIx (eV 1) (eO2 dSub (eV 2) (eV 3)))))) aN)))) aN)))
    (fun i ρ S' => S' = S ++ [O.lst (LI (i + 1) (inv w))] ∧ ∃ x y, ρ = [some (.lst (LI M w)), some (.ptr S.length), x, y]) 1 (M - 1) [some (.lst (LI M w)), some (.ptr S.length), none, none] (S ++ [O.lst (LI 1 (inv w))]) ⟨rfl, _, _, rfl⟩ fun i ρ S' hi hp => by
    obtain ⟨rfl, x, y, rfl⟩ := hp
    refine ⟨_, _, _, rfl, w_X (d := .non) (v_M (v_V rfl) (trk_new _ _) (u_aC (u_O2 rfl (u_O2 (t0 _ _ rfl) (inv_sum h hM (by omega) rfl) (mulA_int (h.sz (M := 32) (by decide) 0 (by decide)) (h.sum (by omega)))) rfl) v_aN) (app_new _ _ _ (by rw [LI_len]; omega))), ?_, _, _, rfl⟩
    rw [LI_snoc (i + 1), inv_rec h.o]
    congr 5
    grind
  obtain ⟨rfl, x, y, rfl⟩ := p
  rw [show M - 1 + 1 = M by omega] at e2
  have e3 : LI 1 (inv w) = [.int (w 0)] := by
    rw [LI_cons, inv0 h.o]; rfl
  rw [e3] at e2
  exact m_rtp hS (los_LI _ _ _) (w_Sq (w_A (v_N (u_lD (u_aC (t0 _ _ rfl) v_aN) (by show 1 ≤ 100000; decide)))) (w_Sq ((w_F (v_Rm (m := 1) (n := M) (u_aC rfl (u_aC (u_B (u_aC (v_V rfl) v_aN) (len_seq rfl)) v_aN)) rfl (by rw [LI_len]) (by decide) (by omega))).trans e2) (w_R (v_V rfl))))
theorem p_titem {S : Store} {M n : Nat} {u : Ser.S} (hS : OkS S) (h0 : 2 ≤ M) (hM : M ≤ 16) (R : Row u) (hn : n < M) : m_turned_item [.tup (LI M u), .int (n : Int)] S = .ok (.int (G u n)) S :=
  m_rt0 hS rfl (w_R (u_O2 (u_Fr (u_aC (v_V rfl) v_aN) rfl (p_about hS h0 hM R)) (v_V rfl) (ix_LI (S := S) rfl rfl hn)))
end K75


set_option Elab.async false
set_option linter.all false
set_option maxRecDepth 100000
set_option maxHeartbeats 1000000
namespace K75
open PySem L2 Sm Ser
theorem p_lprod {S : Store} {M : Nat} {f g : Ser.S} {a b : D} (hS : OkS S) (ha : seqV a = some (LI M f)) (hb : seqV b = some (LI M g)) (hM : M ≤ 1000) (b1 : Sz M f) (b2 : Sz M g) : m_law_product [a, b] S = .ok (.lst (LI M (mul f g))) S := by
  refine m_rt0 hS (lo_lst _ _ _) (w_Sq (w_A (u_B (u_aC (v_V rfl) v_aN) (len_seq (seqD_V ha S)))) (w_R (u_L ?_)))
  refine v_lCr (v_Rn (n := M) (u_aC (v_V rfl) v_aN) (by rw [LI_len]) (by omega)) ?_
  refine comp_rng (fun i => .int (mul f g i)) 0 M (by omega) fun i hi => ⟨_, rfl, ?_⟩
  refine u_B (as := [.lst (((List.range (i + 1)).filter fun j => !(f j == 0)).map fun j => D.int (f j * g (i - j)))]) (u_aC (u_L ?_) v_aN) ?_
  · refine v_lCr (S1 := S) (v_Rn (n := i + 1) (j := 0 + (i : Int) + 1) (u_aC (u_O2 (v_V rfl) rfl rfl) v_aN) (by omega) (by omega)) ?_
    refine comp_if (fun j => !(f j == 0)) (fun j => .int (f j * g (i - j))) 0 (i + 1) (by omega) fun j hj => ⟨_, rfl, ?_, fun _ => ?_⟩
    · exact u_tV (u_O2 (u_O2 (v_V rfl) (v_V rfl) (ix_LI (seqD_V ha S) (Int.zero_add _) (by omega))) rfl ne_int)
    · exact u_O2 (u_O2 (v_V rfl) (v_V rfl) (ix_LI (seqD_V ha S) (Int.zero_add _) (by omega))) (u_O2 (v_V rfl) (u_O2 (v_V rfl) (v_V rfl) rfl) (ix_LI (seqD_V hb S) (i := i - j) (by omega) (by omega))) (mulA_int (b1 j (by omega)) (b2 (i - j) (by omega)))
  · rw [sum_ints, sum_filter _ _ (fun j => f j * g (i - j)) (fun j hj => by
      have : f j = 0 := by simpa using hj
      rw [this]; grind), sum_range]
    rfl
theorem p_lunit {S : Store} {M : Nat} (hS : OkS S) (h0 : 0 < M) (hM : M ≤ 1000) : m_law_unit [.int (M : Int)] S = .ok (.lst (LI M one)) S := by
  obtain ⟨k, rfl⟩ : ∃ k, M = k + 1 := ⟨M - 1, by omega⟩
  refine m_rt0 hS (lo_lst _ _ _) (w_R (u_L (v_lO2 (S1 := S) (b := .lst (LI k fun _ => 0)) (u_L (u_lD (u_aC rfl v_aN) (by decide))) (u_L (v_lO2 (S1 := S) (u_L (u_lD (u_aC rfl v_aN) (by decide))) (u_O2 (v_V rfl) rfl rfl) ?_)) ?_)))
  · rw [show (((k + 1 : Nat) : Int) - 1) = (k : Int) by omega]
    exact mulL1 (by omega)
  · show (if _ then some ([D.int 1] ++ LI k fun _ => 0) else none) = _
    rw [if_pos (by rw [LI_len]; simp; omega), LI_cons]
    rfl
theorem p_opower {S : Store} {M k : Nat} {f : Ser.S} (hS : OkS S) (h0 : 0 < M) (hM : M ≤ 1000) (hk : k ≤ 1000) (b : Sz M f) (bp : ∀ j, j < k → Sz M (pw f j)) : m_law_own_power [.lst (LI M f), .int (k : Int)] S = .ok (.lst (LI M (pw f k))) S := by
  have e1 : eF 1 m_law_unit (aC (eB dLen (aC (eV 0) aN)) aN) [some (.lst (LI M f)), some (.int (k : Int)), none, none] S = .ok (.lst (LI M one)) S :=
    u_Fr (u_aC (u_B (u_aC (v_V rfl) v_aN) (len_seq rfl)) v_aN) rfl (by rw [LI_len]; exact p_lunit hS h0 hM)
  obtain ⟨ρ2, S2, e2, p⟩ := loop_rng (τ := tgN 3) (g := gA 2 (eF 2 m_law_product (aC (eV 2) (aC (eV 0) aN)))) (fun i ρ S' => S' = S ∧ ∃ x, ρ = [some (.lst (LI M f)), some (.int (k : Int)), some (.lst (LI M (pw f i))), x]) 0 k [some (.lst (LI M f)), some (.int (k : Int)), some (.lst (LI M one)), none] S ⟨rfl, _, rfl⟩ fun i ρ S' hi hp => by
    obtain ⟨rfl, x, rfl⟩ := hp
    exact ⟨_, _, _, rfl, w_A (u_Fr (u_aC (v_V rfl) (u_aC (v_V rfl) v_aN)) rfl (p_lprod hS rfl rfl hM (bp i hi) b)), rfl, _, rfl⟩
  obtain ⟨rfl, x, rfl⟩ := p
  exact m_rt0 hS (lo_lst _ _ _) (w_Sq (w_A e1) (w_Sq ((w_F (v_Rn (u_aC (v_V rfl) v_aN) rfl (by omega))).trans e2) (w_R (v_V rfl))))
theorem p_oput {S : Store} {M : Nat} {f g : Ser.S} {a b : D} (hS : OkS S) (ha : seqV a = some (LI M f)) (hb : seqV b = some (LI M g)) (la : lo S.length a = true) (h0 : 0 < M) (hM : M ≤ 1000) (bf : Sz M f) (bg : Sz M g) (bp : ∀ j, j < M → Sz M (pw g j)) : m_law_own_put [a, b] S = .ok (.lst (LI M (fs f g M))) S := by
  have e1 : gP 3 4 (aC (eL (lO2 lMul (eL (lD (aC (eC (.int 0)) aN))) (eV 2))) (aC (eF 1 m_law_unit (aC (eV 2) aN)) aN)) [some a, some b, some (.int (M : Int)), none, none, none, none, none] S =
      .nx [some a, some b, some (.int (M : Int)), some (.lst (LI M fun _ => 0)), some (.lst (LI M one)), none, none, none] S :=
    w_P (u_aC (u_L (v_lO2 (S1 := S) (u_L (u_lD (u_aC rfl v_aN) (by decide))) (v_V rfl) (mulL1 hM))) (u_aC (u_Fr (u_aC (v_V rfl) v_aN) rfl (p_lunit hS h0 hM)) v_aN))
  obtain ⟨ρ2, S2, e2, p⟩ := loop_inv (τ := tgN 5) (g := gSeq (gA 3 (eL (lC [6, 7] (tgT ((tgN 6) :: (tgN 7) :: [])) (iSeq (eL (lW (iZipL (aC (eV 3) (aC (eV 4) aN)))))) tAll (eO2 dAdd (eV 6) (eO2 dMulA (eV 5) (eV 7)))))) (gA 4 (eF 2 m_law_product (aC (eV 4) (aC (eV 1) aN)))))
    (fun i ρ S' => S' = S ∧ ∃ x y z, ρ = [some a, some b, some (.int (M : Int)), some (.lst (LI M (fs f g i))), some (.lst (LI M (pw g i))), x, y, z]) (LI M f) 0 [some a, some b, some (.int (M : Int)), some (.lst (LI M fun _ => 0)), some (.lst (LI M one)), none, none, none] S ⟨rfl, _, _, _, rfl⟩ fun i ρ S' w hi hp => by
    have hi2 : i < M := by
      have := (List.getElem?_eq_some_iff.mp hi).1
      rwa [LI_len] at this
    rw [LI_get hi2] at hi
    cases hi
    rw [Nat.zero_add] at hp ⊢
    obtain ⟨rfl, x, y, z, rfl⟩ := hp
    refine ⟨_, _, _, rfl, w_Sq (w_A (d := .lst (LI M (fs f g (i + 1)))) (u_L ?_)) (w_A (u_Fr (u_aC (v_V rfl) (u_aC (v_V rfl) v_aN)) rfl (p_lprod hS rfl hb hM (bp i hi2) bg))), rfl, _, _, _, rfl⟩
    refine v_lCr (S1 := S') (xs := List.zipWith pairD (LI M (fs f g i)) (LI M (pw g i))) (v_iSeq (u_L ?_) rfl) ?_
    · unfold lW iZipL
      rw [u_aC (v_V rfl) (u_aC (v_V rfl) v_aN), bind_ok]
      show (if (List.zipWith pairD (LI M (fs f g i)) (LI M (pw g i))).length ≤ 100000 then Sm.R.ok _ S' else .bad) = _
      rw [if_pos (by rw [zip_LI]; simp; omega)]
    · rw [zip_LI]
      exact comp_ix _ (fun j => .int (fs f g (i + 1) j)) M (by omega) fun j hj => ⟨_, rfl, u_O2 (v_V rfl) (u_O2 (v_V rfl) (v_V rfl) (mulA_int (bf i hi2) (bp i hi2 j hj))) rfl⟩
  obtain ⟨rfl, x, y, z, rfl⟩ := p
  rw [LI_len, Nat.zero_add] at e2
  exact m_rt0 hS (lo_lst _ _ _) (w_Sq (w_A (u_B (u_aC (v_V rfl) v_aN) ((len_seq (seqD_V ha _)).trans (by rw [LI_len])))) (w_Sq e1 (w_Sq ((w_F (v_iSeq (v_V rfl) ha)).trans e2) (w_R (v_V rfl)))))
theorem div_ok {S : Store} {a : Int} {k : Nat} (h0 : 0 < k) (hk : k ≤ 1000) : dDiv S (.int a) (.int (k : Int)) = some (.int (a / (k : Int))) := by
  show (if decide (0 < (k : Int)) && decide ((k : Int).natAbs.log2 < 9000) then some (D.int (a / (k : Int))) else none) = _
  rw [decide_eq_true (by omega), decide_eq_true]
  · rfl
  · rw [Int.natAbs_natCast, Nat.log2_lt (by omega)]
    exact Nat.lt_of_le_of_lt hk (Nat.lt_of_lt_of_le (by decide : 1000 < 2 ^ 10) (Nat.pow_le_pow_right (by decide) (by decide)))
theorem list_LI {S : Store} {M : Nat} {f : Ser.S} : lList S [.tup (LI M f)] = some (LI M f) := rfl
theorem p_oturned {S : Store} {M : Nat} {u : Ser.S} (hS : OkS S) (h0 : 2 ≤ M) (hM : M ≤ 16) (R : Row u) : m_law_own_turned [.tup (LI M u)] S = .ok (.tup (LI M (G u))) S := by
  obtain ⟨m, rfl⟩ : ∃ m, M = m + 1 := ⟨M - 1, by omega⟩
  have W : Wr (tl u) := ⟨R.o, fun i => R.b (i + 1)⟩
  have hS1 : OkS (S ++ [O.lst (LI 1 (G u))]) := hS.snoc (los_LI _ _ _)
  obtain ⟨ρ2, S2, e2, p⟩ := loop_rng (τ := tgN 5) (g := gSeq (gA 4 (eF 2 m_law_product (aC (eV 4) (aC (eV 2) aN)))) (gX (eM isTrk mApp (eV 3) (aC (eO2 dDiv (eO2 dIx (eV 4) (eO2 dSub (eV 5) (eC (.int 1)))) (eV 5)) aN))))
    (fun i ρ S' => S' = S ++ [O.lst (LI (i + 1) (G u))] ∧ ∃ x, ρ = [some (.tup (LI (m + 1) u)), some (.int ((m + 1 : Nat) : Int)), some (.lst (LI m (inv (tl u)))), some (.ptr S.length), some (.lst (LI m (pw (inv (tl u)) i))), x]) 1 m
    [some (.tup (LI (m + 1) u)), some (.int ((m + 1 : Nat) : Int)), some (.lst (LI m (inv (tl u)))), some (.ptr S.length), some (.lst (LI m one)), none] (S ++ [O.lst (LI 1 (G u))]) ⟨rfl, _, rfl⟩ fun i ρ S' hi hp => by
    obtain ⟨rfl, x, rfl⟩ := hp
    have hS2 : OkS (S ++ [O.lst (LI (i + 1) (G u))]) := hS.snoc (los_LI _ _ _)
    have hp := p_lprod (S := S ++ [O.lst (LI (i + 1) (G u))]) (M := m) (f := pw (inv (tl u)) i) (g := inv (tl u)) (a := .lst _) (b := .lst _) hS2 rfl rfl (by omega) (Sz_of (W.inv.pw i) (by omega) (by omega)) (W.szI (by omega))
    refine ⟨_, _, _, rfl, w_Sq (w_A (u_Fr (u_aC (v_V rfl) (u_aC (v_V rfl) v_aN)) rfl hp)) (w_X (d := .non) (v_M (v_V rfl) (trk_new _ _) (u_aC (u_O2 (d := .int (G u (i + 1))) (u_O2 (v_V rfl) (u_O2 (v_V rfl) rfl rfl) (ix_LI (S := S ++ [O.lst (LI (i + 1) (G u))]) rfl (i := i) (by omega) (by omega))) (v_V rfl) ?_) v_aN) (app_new _ _ _ (by rw [LI_len]; omega)))), ?_, _, rfl⟩
    · rw [show (1 : Int) + (i : Int) = ((i + 1 : Nat) : Int) by omega, div_ok (by omega) (by omega)]
      have e := G_lag R.z R.o i
      have e3 : mul (pw (inv (tl u)) i) (inv (tl u)) i = pw (inv (tl u)) (i + 1) i := rfl
      rw [e3, ← e, Int.mul_ediv_cancel_left _ (by omega)]
    · rw [LI_snoc (i + 1)]
  obtain ⟨rfl, x, rfl⟩ := p
  have e3 : LI 1 (G u) = [.int 0] := by rw [LI_cons, G0]; rfl
  rw [e3] at e2
  have e4 : eSl (eV 0) (oS (eC (.int 1))) oN [some (.tup (LI (m + 1) u)), some (.int ((m + 1 : Nat) : Int)), none, none, none, none] S = .ok (.tup (LI m (tl u))) S := by
    rw [← LI_drop1]
    exact u_from (v_V rfl) rfl rfl (by rw [LI_len]; omega)
  have e5 : lB lList (aC (eSl (eV 0) (oS (eC (.int 1))) oN) aN) [some (.tup (LI (m + 1) u)), some (.int ((m + 1 : Nat) : Int)), none, none, none, none] S = .ok (LI m (tl u)) S := v_lB (u_aC e4 v_aN) list_LI
  refine m_rt [O.lst (LI (m + 1) (G u))] hS (lo_tup _ _ _) (w_Sq (w_A (u_B (u_aC (v_V rfl) v_aN) ((len_seq rfl).trans (by rw [LI_len])))) (w_Sq (w_P (v_aC (u_Fr (u_aC (u_L e5) v_aN) rfl (p_own_other hS (by omega) (by omega) W)) (v_aC (v_N (u_lD (u_aC rfl v_aN) (by show 1 ≤ 100000; decide))) v_aN))) (w_Sq (w_A (u_Fr (as := [.int (m : Int)]) (u_aC (u_O2 (v_V rfl) rfl ?_) v_aN) rfl (p_lunit (e3 ▸ hS1) (by omega) (by omega)))) (w_Sq ((w_F (v_Rm (m := 1) (n := m + 1) (u_aC rfl (u_aC (v_V rfl) v_aN)) rfl rfl (by decide) (by omega))).trans e2) (w_R (u_B (u_aC (v_V rfl) v_aN) (tup_seq (seq_new _ _))))))))
  show some (D.int (((m + 1 : Nat) : Int) - 1)) = _
  congr 2; omega
end K75


set_option Elab.async false
set_option linter.all false
set_option maxRecDepth 100000
set_option maxHeartbeats 1000000
namespace K75
open PySem L2 Sm Ser
theorem p_same {S : Store} {B : Nat} {d : D} {x : PyData} (hS : OkS S) (h : Nc Sm.dp B d x) (hB : B ≤ 20000) (hd : (∃ i, d = .int i ∧ i.natAbs.log2 < 1920) ∨ (∃ ds, d = .tup ds) ∨ ∃ ds, d = .lst ds) : m_law_same [d, d] S = .ok (.bl true) S := by
  obtain ⟨t, e, ht⟩ := h.repr hB S hd
  refine m_rt0 hS rfl (w_R ?_)
  rw [v_An (b := true) (u_O2 (v_V rfl) (v_V rfl) (h.eq S))]
  exact u_O2 (u_B (u_aC (v_V rfl) v_aN) e) (u_B (u_aC (v_V rfl) v_aN) e) (str_eq ht)
/-- the numbers of a row, small enough to be shown -/
def Sh (M : Nat) (f : Ser.S) : Prop := ∀ i, i < M → (f i).natAbs.log2 < 1920
theorem Sh_of {a k M : Nat} {f : Ser.S} (h : MJ a k f) (hM : M ≤ 32) (ha : a + k * M < 1915) : Sh M f := fun i hi => by
  by_cases hz : (f i).natAbs = 0
  · rw [hz]; decide
  · rw [Nat.log2_lt hz]
    refine Nat.lt_of_le_of_lt (h i (by omega)) (Nat.pow_lt_pow_right (by decide) ?_)
    have : k * i ≤ k * M := Nat.mul_le_mul_left k (by omega)
    omega
theorem same_row {S : Store} {M : Nat} {f g : Ser.S} (hS : OkS S) (hM : M ≤ 1000) (e : ∀ i, i < M → g i = f i) (h : Sh M f) : m_law_same [.tup (LI M g), .tup (LI M f)] S = .ok (.bl true) S := by
  rw [LI_congr e]
  obtain ⟨xs, hx⟩ := NcA.ints (n := 7) h
  exact p_same hS hx.tup (by omega) (.inr (.inl ⟨_, rfl⟩))
theorem same_row2 {S : Store} {M N : Nat} {f g f' g' : Ser.S} (hS : OkS S) (hM : M ≤ 1000) (hN : N ≤ 1000) (e : ∀ i, i < M → g i = f i) (e' : ∀ i, i < N → g' i = f' i) (h : Sh M f) (h' : Sh N f') :
    m_law_same [.lst [.tup (LI M g), .tup (LI N g')], .lst [.tup (LI M f), .tup (LI N f')]] S = .ok (.bl true) S := by
  rw [LI_congr e, LI_congr e']
  obtain ⟨xs, hx⟩ := NcA.ints (n := 6) h
  obtain ⟨ys, hy⟩ := NcA.ints (n := 6) h'
  exact p_same hS (NcA.cons hx.tup (NcA.cons hy.tup .nil)).lst (by omega) (.inr (.inr ⟨_, rfl⟩))
theorem same_int {S : Store} {a b : Int} (hS : OkS S) (e : a = b) (h : b.natAbs.log2 < 1920) : m_law_same [.int a, .int b] S = .ok (.bl true) S := by
  subst e
  exact p_same (B := 0) hS (Nc.int h) (by decide) (.inl ⟨a, rfl, h⟩)
end K75


set_option Elab.async false
set_option linter.all false
set_option maxRecDepth 100000
set_option maxHeartbeats 1000000
namespace K75
open PySem L2 Sm Ser
/-- the bag: its cells, what is drawn from, the mixed number; what else is in the store -/
def Bg (c : List Int) (k m : Int) (more : Store) : Store := O.lst (c.map .int) :: O.lst [.ptr 0, .int k, .int m] :: more
structure BOk (c : List Int) (k m : Int) : Prop where
  c0 : ∀ x, x ∈ c → 0 ≤ x
  k0 : 0 ≤ k
  m0 : 0 ≤ m
  m1 : m < 2147483647
  l : c.length ≤ 63
/-- the rest of the store: rows of whole numbers, or nothing with pointers out of it -/
def OkM (more : Store) : Prop := more.all (loO (more.length + 2)) = true
theorem los_ints (n : Nat) (c : List Int) : los n (c.map .int) = true := by
  induction c with
  | nil => rfl
  | cons a c ih => simp only [List.map_cons, los, lo, ih, Bool.and_self]
theorem OkM.ok {more : Store} (h : OkM more) (c : List Int) (k m : Int) : OkS (Bg c k m more) := by
  unfold OkS Bg
  simp only [List.all_cons, List.length_cons, Bool.and_eq_true]
  refine ⟨?_, ?_, h⟩
  · exact los_ints _ c
  · show (lo (more.length + 1 + 1) (.ptr 0) && (true && (true && true))) = true
    simp [lo]
theorem OkM.nil : OkM [] := rfl
theorem OkM.one {M : Nat} {f : Ser.S} : OkM [O.lst (LI M f)] := by
  unfold OkM
  simp only [List.all_cons, List.all_nil, Bool.and_true]
  exact los_LI _ _ _
theorem ptr_lo (c : List Int) (k m : Int) (more : Store) : lo (Bg c k m more).length (.ptr 1) = true := by
  simp [lo, Bg]
theorem ints_py (c : List Int) (n : Nat) (S : Store) : (c.map D.int).mapM (pyD S n) = some (c.map PyData.int) := by
  induction c with
  | nil => rfl
  | cons a c ih =>
    have e : pyD S n (.int a) = some (.int a) := by cases n <;> rfl
    rw [List.map_cons, mapM_cons, e, Option.bind_some, ih]; rfl
theorem ints_lay (c : List Int) : PyData.canLayAll0 (c.map .int) = true ∧ PyData.depthAll (c.map .int) = 0 := by
  induction c with
  | nil => exact ⟨rfl, rfl⟩
  | cons a c ih => simp only [List.map_cons, PyData.canLayAll0, PyData.depthAll, PyData.canLay0, PyData.depth, ih.1, ih.2, Bool.and_self, Nat.max_self, and_self]
theorem cells_ne {c : List Int} {k m : Int} {more : Store} : dNe (Bg c k m more) (.ptr 0) (.lst []) = some (.bl (!c.isEmpty)) := by
  have e1 : pyD (Bg c k m more) Sm.dp (.ptr 0) = some (.list (c.map .int)) := by
    show ((c.map D.int).mapM (pyD (Bg c k m more) 7)).map PyData.list = _
    rw [ints_py]; rfl
  have e2 : pyD (Bg c k m more) Sm.dp (.lst []) = some (.list []) := rfl
  have s1 : SeqAt.shaped (.list (c.map .int)) = true := by
    unfold SeqAt.shaped
    simp only [PyData.canLay0, PyData.depth, ints_lay c]
    rfl
  unfold dNe
  rw [e1, e2]
  show (if SeqAt.shaped (.list (c.map .int)) && SeqAt.shaped (.list []) then some (D.bl (!PyData.eqv (.list (c.map .int)) (.list []))) else none) = _
  rw [s1]
  cases c with
  | nil => rfl
  | cons a c => rfl
theorem draw_wh {below : D} {m : Int} {more : Store} : ∀ (n : Nat) (c : List Int) (k : Int) (x : Option D), c.length < n → BOk c k m →
    ∃ x' c' k', BOk c' k' m ∧ gWh (tAn (tV (eO2 dEq (eO2 dIx (eV 0) (eC (.int 1))) (eC (.int 0)))) (tV (eO2 dNe (eO2 dIx (eV 0) (eC (.int 0))) (eL (lD aN))))) (gSeq (gA 2 (eM isTrk mPop (eO2 dIx (eV 0) (eC (.int 0))) aN)) (gSet (eIf (tV (eO2 (dCmp fun i j => decide (j < i)) (eV 2) (eO2 dPow (eC (.int 10)) (eC (.int 9))))) (eV 2) (eC (.int 0))) (eV 0) (eC (.int 1)))) n
      [some (.ptr 1), some below, x, none] (Bg c k m more) = .nx [some (.ptr 1), some below, x', none] (Bg c' k' m more)
  | 0, _, _, _, h, _ => absurd h (Nat.not_lt_zero _)
  | n + 1, c, k, x, h, ok => by
    have t1 : tV (eO2 dEq (eO2 dIx (eV 0) (eC (.int 1))) (eC (.int 0))) [some (.ptr 1), some below, x, none] (Bg c k m more) = .ok (k == 0) (Bg c k m more) := u_tV (u_O2 (u_O2 (v_V rfl) rfl rfl) rfl rfl)
    unfold gWh
    by_cases hk : k = 0
    · subst hk
      have t2 : tV (eO2 dNe (eO2 dIx (eV 0) (eC (.int 0))) (eL (lD aN))) [some (.ptr 1), some below, x, none] (Bg c 0 m more) = .ok (!c.isEmpty) (Bg c 0 m more) := u_tV (u_O2 (u_O2 (v_V rfl) rfl rfl) (u_L rfl) cells_ne)
      rw [v_tAn t1, show ((0 : Int) == 0) = true from rfl, if_pos rfl, t2, toS_ok]
      rcases List.eq_nil_or_concat c with rfl | ⟨c', y, rfl⟩
      · exact ⟨x, [], 0, ok, rfl⟩
      · rw [show (!(c'.concat y).isEmpty) = true by simp, if_pos rfl]
        rw [List.concat_eq_append] at ok h ⊢
        have hp : mPop (Bg (c' ++ [y]) 0 m more) (.ptr 0) [] = some (.int y, Bg c' 0 m more) := by
          show (match ((c' ++ [y]).map D.int)[((c' ++ [y]).map D.int).length - 1]? with | some d => some (d, (Bg (c' ++ [y]) 0 m more).set 0 (.lst ((c' ++ [y]).map D.int).dropLast)) | none => none) = _
          have e : ((c' ++ [y]).map D.int)[((c' ++ [y]).map D.int).length - 1]? = some (.int y) := by simp
          rw [e]
          show some (D.int y, _) = _
          have e2 : ((c' ++ [y]).map D.int).dropLast = c'.map .int := by simp
          rw [e2]; rfl
        have oky : 0 ≤ y := ok.c0 y (by simp)
        have ok' : ∀ v, 0 ≤ v → BOk c' v m := fun v hv => ⟨fun z hz => ok.c0 z (by simp [hz]), hv, ok.m0, ok.m1, by have := ok.l; simp at this; omega⟩
        have hset : ∀ v : Int, eIf (tV (eO2 (dCmp fun i j => decide (j < i)) (eV 2) (eO2 dPow (eC (.int 10)) (eC (.int 9))))) (eV 2) (eC (.int 0)) [some (.ptr 1), some below, some (.int y), none] (Bg c' 0 m more) = .ok (.int v) (Bg c' 0 m more) →
            gSeq (gA 2 (eM isTrk mPop (eO2 dIx (eV 0) (eC (.int 0))) aN)) (gSet (eIf (tV (eO2 (dCmp fun i j => decide (j < i)) (eV 2) (eO2 dPow (eC (.int 10)) (eC (.int 9))))) (eV 2) (eC (.int 0))) (eV 0) (eC (.int 1))) [some (.ptr 1), some below, x, none] (Bg (c' ++ [y]) 0 m more) = .nx [some (.ptr 1), some below, some (.int y), none] (Bg c' v m more) := fun v hv => by
          refine w_Sq (w_A (v_M (u_O2 (v_V rfl) rfl rfl) rfl v_aN hp)) ?_
          show gSet _ _ _ [some (.ptr 1), some below, some (.int y), none] _ = _
          unfold gSet
          rw [hv, toS_ok]; rfl
        have hif : ∃ v, 0 ≤ v ∧ eIf (tV (eO2 (dCmp fun i j => decide (j < i)) (eV 2) (eO2 dPow (eC (.int 10)) (eC (.int 9))))) (eV 2) (eC (.int 0)) [some (.ptr 1), some below, some (.int y), none] (Bg c' 0 m more) = .ok (.int v) (Bg c' 0 m more) := by
          have tt : tV (eO2 (dCmp fun i j => decide (j < i)) (eV 2) (eO2 dPow (eC (.int 10)) (eC (.int 9)))) [some (.ptr 1), some below, some (.int y), none] (Bg c' 0 m more) = .ok (decide ((10 : Int) ^ 9 < y)) (Bg c' 0 m more) := u_tV (u_O2 (v_V rfl) (u_O2 rfl rfl rfl) rfl)
          rw [v_If tt]
          by_cases hy : (10 : Int) ^ 9 < y
          · exact ⟨y, oky, by rw [decide_eq_true hy, if_pos rfl]; rfl⟩
          · exact ⟨0, by omega, by rw [decide_eq_false hy, if_neg (by decide)]; rfl⟩
        obtain ⟨v, hv, e⟩ := hif
        simp only [hset v e]
        have hl : c'.length < n := by simp at h; omega
        exact draw_wh n c' v _ hl (ok' v hv)
    · rw [v_tAn t1, show (k == 0) = false from by simpa using hk, if_neg (by decide), toS_ok]
      exact ⟨x, c, k, ok, rfl⟩
theorem mod_ok {S : Store} {a b : Int} (h : 0 < b) : dMod S (.int a) (.int b) = some (.int (a % b)) := by
  show (if 0 < b then some (D.int (a % b)) else none) = _
  rw [if_pos h]
theorem small_m {m : Int} (h0 : 0 ≤ m) (h1 : m < 2147483647) : m.natAbs.log2 < 400000 := sz_of (e := 31) (by omega) (by decide)
theorem p_draw {c : List Int} {k m : Int} {more : Store} {n : Nat} (ok : BOk c k m) (hm : OkM more) (hn : 0 < n) (hn2 : n ≤ 2 ^ 30) :
    ∃ (v : Nat) (c' : List Int) (k' m' : Int), v < n ∧ BOk c' k' m' ∧ m_law_draw [.ptr 1, .int (n : Int)] (Bg c k m more) = .ok (.int (v : Int)) (Bg c' k' m' more) := by
  obtain ⟨x, c1, k1, ok1, e1⟩ := draw_wh (below := .int (n : Int)) (more := more) 100 c k none (by have := ok.l; omega) ok
  have hdiv : ∀ S : Store, dDiv S (.int k1) (.int (n : Int)) = some (.int (k1 / (n : Int))) := fun S => by
    show (if decide (0 < (n : Int)) && decide ((n : Int).natAbs.log2 < 9000) then some (D.int (k1 / (n : Int))) else none) = _
    rw [decide_eq_true (by omega), decide_eq_true]
    · rfl
    · rw [Int.natAbs_natCast, Nat.log2_lt (by omega)]
      exact Nat.lt_of_le_of_lt hn2 (Nat.pow_lt_pow_right (by decide) (by decide))
  have t1 : ∀ ρ, ρ[0]? = some (some (.ptr 1)) → tV (eO2 (dCmp fun i j => decide (j < i)) (eO2 dIx (eV 0) (eC (.int 1))) (eC (.int 0))) ρ (Bg c1 k1 m more) = .ok (decide (0 < k1)) (Bg c1 k1 m more) := fun ρ h => u_tV (u_O2 (u_O2 (v_V h) rfl rfl) rfl rfl)
  by_cases hk : 0 < k1
  · have hv : 0 ≤ k1 % (n : Int) ∧ k1 % (n : Int) < (n : Int) := ⟨Int.emod_nonneg _ (by omega), Int.emod_lt_of_pos _ (by omega)⟩
    obtain ⟨v, ev⟩ : ∃ v : Nat, k1 % (n : Int) = (v : Int) := ⟨(k1 % (n : Int)).toNat, by omega⟩
    refine ⟨v, c1, k1 / (n : Int), m, by omega, ⟨ok1.c0, Int.ediv_nonneg ok1.k0 (by omega), ok1.m0, ok1.m1, ok1.l⟩, ?_⟩
    refine m_rtS [] (by simp [Bg]) (hm.ok _ _ _) rfl (w_Sq e1 ?_)
    rw [List.append_nil]
    refine w_SeqR (w_If (by rw [t1 _ rfl, decide_eq_true hk]) (w_Sq (w_A (u_O2 (u_B (u_aC (u_O2 (v_V rfl) rfl rfl) v_aN) rfl) (v_V rfl) (mod_ok (by omega)))) ?_))
    rw [ev]
    refine w_Sq (ρ' := [some (.ptr 1), some (.int (n : Int)), x, some (.int (v : Int))]) (S1 := Bg c1 (k1 / (n : Int)) m more) ?_ (w_R (v_V rfl))
    unfold gSet
    rw [u_O2 (u_O2 (v_V rfl) rfl rfl) (v_V rfl) (hdiv _), toS_ok]; rfl
  · have hm2 : (m * 48271 + 11) % 2147483647 < 2147483647 ∧ 0 ≤ (m * 48271 + 11) % 2147483647 := ⟨Int.emod_lt_of_pos _ (by decide), Int.emod_nonneg _ (by decide)⟩
    let m2 : Int := (m * 48271 + 11) % 2147483647
    have ok2 : BOk c1 k1 m2 := ⟨ok1.c0, ok1.k0, hm2.2, hm2.1, ok1.l⟩
    let r : Int := m2 * m2 % 2147483629 / 7 % (n : Int)
    have hr : 0 ≤ r ∧ r < (n : Int) := ⟨Int.emod_nonneg _ (by omega), Int.emod_lt_of_pos _ (by omega)⟩
    obtain ⟨v, ev⟩ : ∃ v : Nat, r = (v : Int) := ⟨r.toNat, by omega⟩
    refine ⟨v, c1, k1, m2, by omega, ok2, ?_⟩
    refine m_rtS [] (by simp [Bg]) (hm.ok _ _ _) rfl (w_Sq e1 (w_Sq (w_Else (by rw [t1 _ rfl, decide_eq_false hk]) rfl) (w_Sq (ρ' := [some (.ptr 1), some (.int (n : Int)), x, none]) (S1 := Bg c1 k1 m2 more) ?_ ?_)))
    · unfold gSet
      rw [u_O2 (b := .int 2147483647) (u_B (u_aC (u_O2 (u_O2 (u_O2 (v_V rfl) rfl rfl) rfl (mulA_int (small_m ok1.m0 ok1.m1) (by decide))) rfl rfl) v_aN) rfl) rfl (mod_ok (by decide)), toS_ok]; rfl
    · rw [List.append_nil, ← ev]
      exact w_R (u_O2 (u_B (u_aC (u_O2 (b := .int 7) (u_O2 (b := .int 2147483629) (u_B (u_aC (u_O2 (u_O2 (v_V rfl) rfl rfl) (u_O2 (v_V rfl) rfl rfl) (mulA_int (small_m ok2.m0 ok2.m1) (small_m ok2.m0 ok2.m1))) v_aN) rfl) rfl (mod_ok (by decide))) rfl (div_ok (k := 7) (by decide) (by decide))) v_aN) rfl) (v_V rfl) (mod_ok (by omega)))
end K75


set_option Elab.async false
set_option linter.all false
set_option maxRecDepth 100000
set_option maxHeartbeats 1000000
namespace K75
open PySem L2 Sm Ser
theorem OkM.ints (xs : List Int) : OkM [O.lst (xs.map .int)] := by
  unfold OkM
  simp only [List.all_cons, List.all_nil, Bool.and_true]
  exact los_ints _ _
theorem p_pick {c : List Int} {k m : Int} {more : Store} {xs : List Int} (ok : BOk c k m) (hm : OkM more) (hx : xs ≠ []) (hl : xs.length ≤ 1000) :
    ∃ (x : Int) (c' : List Int) (k' m' : Int), x ∈ xs ∧ BOk c' k' m' ∧ m_law_pick [.ptr 1, .lst (xs.map .int)] (Bg c k m more) = .ok (.int x) (Bg c' k' m' more) := by
  have h0 : 0 < xs.length := List.length_pos_iff.mpr hx
  obtain ⟨v, c', k', m', hv, ok', e⟩ := p_draw (n := xs.length) ok hm h0 (by omega)
  refine ⟨xs[v], c', k', m', List.getElem_mem hv, ok', ?_⟩
  refine m_rtS [] (by simp [Bg]) (hm.ok _ _ _) rfl ?_
  rw [List.append_nil]
  refine w_R (v_O2 (v_V rfl) (v_Fr (u_aC (v_V rfl) (u_aC (u_B (u_aC (v_V rfl) v_aN) (len_seq rfl)) v_aN)) rfl (by rw [List.length_map]; exact e)) ?_)
  show atI (xs.map D.int) (v : Int) = _
  rw [atI_nat (by simpa using hv)]
  simp [hv]
/-- a row that was drawn -/
structure Drawn (M : Nat) (b : Nat) (xs : List Int) : Prop where
  l : xs.length = M
  z : xs[0]? = some 0
  o : xs[1]? = some 1 ∨ xs[1]? = some (-1)
  b : ∀ x, x ∈ xs → x.natAbs ≤ b
theorem Drawn.row {M b : Nat} {xs : List Int} (h : Drawn M b xs) (hb : b ≤ 2 ^ 20) : Row (at_ xs) := by
  refine ⟨?_, ?_, fun i => ?_⟩
  · show xs.getD 0 0 = 0
    rw [List.getD_eq_getElem?_getD, h.z]; rfl
  · show xs.getD 1 0 * xs.getD 1 0 = 1
    rw [List.getD_eq_getElem?_getD]
    rcases h.o with o | o <;> rw [o] <;> rfl
  · show (xs.getD i 0).natAbs ≤ _
    rw [List.getD_eq_getElem?_getD]
    cases e : xs[i]? with
    | none => exact Nat.zero_le _
    | some x => exact Nat.le_trans (h.b x (List.mem_of_getElem? e)) hb
theorem p_own_row {c : List Int} {k m : Int} {M : Nat} {most : Nat} (ok : BOk c k m) (h0 : 2 ≤ M) (hM : M ≤ 1000) (h1 : most ≤ 10 ^ 6) :
    ∃ (xs c' : List Int) (k' m' : Int), Drawn M (max 3 most) xs ∧ BOk c' k' m' ∧ m_law_own_row [.ptr 1, .int (M : Int), .int (most : Int)] (Bg c k m []) = .ok (.tup (xs.map .int)) (Bg c' k' m' []) := by
  obtain ⟨x1, c1, k1, m1, hx1, ok1, e1⟩ := p_pick (xs := [1, -1]) ok OkM.nil (by simp) (by simp)
  have hx1 : x1 = 1 ∨ x1 = -1 := by simpa using hx1
  obtain ⟨ρ2, S2, e2, p⟩ := loop_rng (τ := tgN 4) (g := gSeq (gA 5 (eF 2 m_law_pick (aC (eV 0) (aC (eL (lD (aC (eC (.int 0)) (aC (eC (.int 1)) (aC (eC (.int 3)) (aC (eV 2) aN)))))) aN)))) (gX (eM isTrk mApp (eV 3) (aC (eO2 dSub (eF 2 m_law_draw (aC (eV 0) (aC (eO2 dAdd (eO2 dMulA (eC (.int 2)) (eV 5)) (eC (.int 1))) aN))) (eV 5)) aN))))
    (fun i ρ S' => ∃ (xs c' : List Int) (k' m' : Int), Drawn (i + 2) (max 3 most) xs ∧ BOk c' k' m' ∧ S' = Bg c' k' m' [O.lst (xs.map .int)] ∧ ∃ a b, ρ = [some (.ptr 1), some (.int (M : Int)), some (.int (most : Int)), some (.ptr 2), a, b]) 0 (M - 2)
    [some (.ptr 1), some (.int (M : Int)), some (.int (most : Int)), some (.ptr 2), none, none] (Bg c1 k1 m1 [O.lst ([0, x1].map .int)]) ⟨[0, x1], c1, k1, m1, ⟨rfl, rfl, by rcases hx1 with rfl | rfl <;> simp, fun x hx => by
      simp at hx
      rcases hx with rfl | rfl
      · simp
      · rcases hx1 with h | h <;> subst h <;> simp <;> omega⟩, ok1, rfl, _, _, rfl⟩ fun i ρ S' hi hp => by
    obtain ⟨xs, c2, k2, m2, dr, ok2, rfl, a, b, rfl⟩ := hp
    obtain ⟨top, c3, k3, m3, ht, ok3, e3⟩ := p_pick (more := [O.lst (xs.map .int)]) (xs := [0, 1, 3, (most : Int)]) ok2 (OkM.ints xs) (by simp) (by simp)
    have htop : 0 ≤ top ∧ top.natAbs ≤ max 3 most := by
      simp at ht
      rcases ht with rfl | rfl | rfl | rfl <;> simp <;> omega
    obtain ⟨t, rfl⟩ : ∃ t : Nat, top = (t : Int) := ⟨top.toNat, by omega⟩
    have ht2 : t ≤ 10 ^ 6 := by have := htop.2; simp at this; omega
    obtain ⟨v, c4, k4, m4, hv, ok4, e4⟩ := p_draw (more := [O.lst (xs.map .int)]) (n := 2 * t + 1) ok3 (OkM.ints xs) (by omega) (Nat.le_trans (by omega : 2 * t + 1 ≤ 2000001) (by decide))
    have cast : ((2 * t + 1 : Nat) : Int) = 2 * (t : Int) + 1 := by omega
    rw [cast] at e4
    refine ⟨_, _, _, rfl, w_Sq (w_A (v_Fr (u_aC (v_V rfl) (u_aC (u_L (u_lD (u_aC rfl (u_aC rfl (u_aC rfl (u_aC (v_V rfl) v_aN)))) (by show 4 ≤ 100000; decide))) v_aN)) rfl e3)) (w_X (d := .non) (S1 := Bg c4 k4 m4 [O.lst ((xs ++ [(v : Int) - (t : Int)]).map .int)]) (v_M (v_V rfl) rfl (v_aC (v_O2 (v_Fr (u_aC (v_V rfl) (u_aC (u_O2 (u_O2 rfl (v_V rfl) (mulA_int (by decide) (sz_of (e := 20) (by simp; omega) (by decide)))) rfl rfl) v_aN)) rfl e4) (v_V rfl) rfl) v_aN) ?_)), xs ++ [(v : Int) - (t : Int)], c4, k4, m4, ⟨?_, ?_, ?_, ?_⟩, ok4, rfl, _, _, rfl⟩
    · show (if (xs.map D.int).length < 100000 then some (D.non, (Bg c4 k4 m4 [O.lst (xs.map .int)]).set 2 (.lst (xs.map D.int ++ [.int ((v : Int) - (t : Int))]))) else none) = _
      rw [if_pos (by rw [List.length_map, dr.l]; omega), List.map_append]
      rfl
    · rw [List.length_append, dr.l]; rfl
    · rw [List.getElem?_append_left (by rw [dr.l]; omega)]; exact dr.z
    · rw [List.getElem?_append_left (by rw [dr.l]; omega)]; exact dr.o
    · intro x hx
      rcases List.mem_append.mp hx with hx | hx
      · exact dr.b x hx
      · rw [List.mem_singleton.mp hx]
        have := htop.2
        simp at this
        omega
  obtain ⟨xs, c', k', m', dr, ok', rfl, a, b, rfl⟩ := p
  rw [show M - 2 + 2 = M by omega] at dr
  refine ⟨xs, c', k', m', dr, ok', ?_⟩
  refine m_rtS (S' := Bg c' k' m' []) [O.lst (xs.map .int)] (by simp [Bg]) (OkM.nil.ok _ _ _) (by simp only [lo, los_ints]) (w_Sq (w_A (v_N (S1 := Bg c1 k1 m1 []) (v_lD (S1 := Bg c1 k1 m1 []) (v_aC rfl (v_aC (v_Fr (v_aC (v_V rfl) (v_aC (u_L (u_lD (u_aC rfl (u_aC rfl v_aN)) (by show 2 ≤ 100000; decide))) v_aN)) rfl e1) v_aN)) (by show 2 ≤ 100000; decide)))) (w_Sq ((w_F (v_Rn (n := M - 2) (u_aC (u_O2 (v_V rfl) rfl rfl) v_aN) (by omega) (by omega))).trans e2) (w_R (u_B (u_aC (v_V rfl) v_aN) (tup_seq rfl)))))
theorem cut_all {xs : List D} (h : xs.length ≤ 63) : cutD xs none (some 63) = xs := by
  unfold cutD
  have := HT.sIx_nat xs.length xs.length 63
  have e : HT.sIx xs.length xs.length (some 63) = min 63 xs.length := this
  rw [e, HT.sIx_none, Nat.min_eq_right h]
  simp
theorem p_own_bag (ns : List Int) (h : ns.length ≤ 63) : ∃ (c : List Int) (m : Int), BOk c 0 m ∧ m_law_own_bag [.frl (ns.map .int)] [] = .ok (.ptr 1) (Bg c 0 m []) := by
  let cs : List Int := ns.map fun i => if i < 0 then -i else i
  have e1 : lC [3] (tgN 3) (iSeq (eL (lSl (eV 0) oN (oS (eC (.int 63)))))) tAll (eB dAbs (aC (eV 3) aN)) [some (.frl (ns.map .int)), none, none, none] [] = .ok (cs.map .int) [] := by
    refine v_lCr (S1 := []) (xs := ns.map .int) (v_iSeq (d := .lst (ns.map .int)) (u_L ?_) rfl) ?_
    · show Sm.R.ok (cutD (ns.map D.int) none (some 63)) [] = _
      rw [cut_all (by simpa using h)]
    · have q := comp_all (τ := tgN 3) (fe := eB dAbs (aC (eV 3) aN)) (ρ := wipeE [some (.frl (ns.map .int)), none, none, none] [3]) (S := []) (fun d => match d with | .int i => .int (if i < 0 then -i else i) | d => d) (ns.map .int) (by simp; omega) fun x hx => by
        obtain ⟨i, _, rfl⟩ := List.mem_map.mp hx
        exact ⟨_, rfl, u_B (u_aC (v_V rfl) v_aN) rfl⟩
      rw [q, List.map_map]
      show Sm.R.ok _ _ = Sm.R.ok ((ns.map fun i => if i < 0 then -i else i).map D.int) []
      rw [List.map_map]; rfl
  have c0 : ∀ x, x ∈ cs → 0 ≤ x := fun x hx => by
    obtain ⟨i, _, rfl⟩ := List.mem_map.mp hx
    show 0 ≤ if i < 0 then -i else i
    split <;> omega
  have cl : cs.length ≤ 63 := by simpa [cs] using h
  obtain ⟨ρ2, S2, e2, p⟩ := loop_inv (τ := tgN 3) (g := gA 2 (eO2 dMod (eB dInt (aC (eO2 dAdd (eO2 dAdd (eO2 dMulA (eV 2) (eC (.int 48271))) (eO2 dMod (eB dInt (aC (eV 3) aN)) (eC (.int 2147483629)))) (eC (.int 7))) aN)) (eC (.int 2147483647))))
    (fun i ρ S' => S' = [] ∧ ∃ (m : Int) (x : Option D), 0 ≤ m ∧ m < 2147483647 ∧ ρ = [some (.frl (ns.map .int)), some (.lst (cs.map .int)), some (.int m), x]) (cs.map .int) 0
    [some (.frl (ns.map .int)), some (.lst (cs.map .int)), some (.int (1357 + (cs.length : Int))), none] [] ⟨rfl, _, _, by omega, by omega, rfl⟩ fun i ρ S' x hx hp => by
    obtain ⟨rfl, m, y, h0, h1, rfl⟩ := hp
    rw [List.getElem?_map] at hx
    obtain ⟨z, _, rfl⟩ := Option.map_eq_some_iff.mp hx
    exact ⟨_, _, _, rfl, w_A (u_O2 (b := .int 2147483647) (u_B (u_aC (u_O2 (u_O2 (u_O2 (v_V rfl) rfl (mulA_int (small_m h0 h1) (by decide))) (u_O2 (b := .int 2147483629) (u_B (u_aC (v_V rfl) v_aN) rfl) rfl (mod_ok (by decide))) rfl) rfl rfl) v_aN) rfl) rfl (mod_ok (by decide))), rfl, _, _, Int.emod_nonneg _ (by decide), Int.emod_lt_of_pos _ (by decide), rfl⟩
  obtain ⟨rfl, m, y, h0, h1, rfl⟩ := p
  refine ⟨cs.reverse, m, ⟨fun x hx => c0 x (List.mem_reverse.mp hx), Int.le_refl _, h0, h1, by rw [List.length_reverse]; exact cl⟩, ?_⟩
  unfold m_law_own_bag mK
  have e3 : g_law_own_bag [some (.frl (ns.map .int)), none, none, none] [] = .rt (.ptr 1) (Bg cs.reverse 0 m []) := by
    refine w_Sq (w_A (v_L e1)) (w_Sq (w_A (d := .int (1357 + (cs.length : Int))) (u_O2 rfl (u_B (u_aC (v_V rfl) v_aN) (len_seq rfl)) (by rw [List.length_map]; rfl))) (w_Sq ((w_F (v_iSeq (v_V rfl) rfl)).trans e2) (w_R (v_N (S1 := [O.lst (cs.reverse.map .int)]) (v_lD (S1 := [O.lst (cs.reverse.map .int)]) (v_aC (S1 := [O.lst (cs.reverse.map .int)]) (d := .ptr 0) ?_ (u_aC rfl (u_aC (v_V rfl) v_aN))) (by show 3 ≤ 100000; decide))))))
    refine v_N (S1 := []) ?_
    show lW (iRevL (eL (lB lList (aC (eV 1) aN)))) [some (.frl (ns.map .int)), some (.lst (cs.map .int)), some (.int m), y] [] = _
    unfold lW iRevL
    rw [u_L (v_lB (u_aC (v_V rfl) v_aN) rfl), bind_ok]
    show (if (cs.map D.int).reverse.length ≤ 100000 then Sm.R.ok _ [] else .bad) = _
    rw [if_pos (by simp; omega), ← List.map_reverse]
  exact (show (match g_law_own_bag [some (.frl (ns.map .int)), none, none, none] [] with | .nx _ S' => Sm.R.ok D.non S' | .rt d S' => .ok d S' | _ => .bad) = _ from by rw [e3])
end K75


set_option Elab.async false
set_option linter.all false
set_option maxRecDepth 100000
set_option maxHeartbeats 1000000
namespace K75
open PySem L2 Sm Ser
/-- the check holds, the bag goes on -/
def Good (r : Sm.R D) : Prop := ∃ (c : List Int) (k m : Int), BOk c k m ∧ r = .ok (.bl true) (Bg c k m [])
/-- if not same(..): return False -/
theorem w_ok {ρ : Envm} {S : Store} {f : F D} (h : f ρ S = .ok (.bl true) S) : gI (tNo (tV f)) (gR (eC (.bl false))) gNx ρ S = .nx ρ S := w_Else (v_tNo (u_tV h)) rfl
theorem okB {c : List Int} {k m : Int} : OkS (Bg c k m []) := OkM.nil.ok c k m
theorem _root_.Ser.Row.szU {u : Ser.S} (R : Row u) {M : Nat} (hM : M ≤ 32) : Sz M u := Sz_of (a := 20) (k := 0) (fun i _ => by rw [Nat.zero_mul]; exact R.b i) hM (by decide)
theorem _root_.Ser.Row.shU {u : Ser.S} (R : Row u) {M : Nat} (hM : M ≤ 32) : Sh M u := Sh_of (a := 20) (k := 0) (fun i _ => by rw [Nat.zero_mul]; exact R.b i) hM (by omega)
theorem _root_.Ser.Row.szG {u : Ser.S} (R : Row u) {M : Nat} (hM : M ≤ 32) : Sz M (G u) := Sz_of R.G hM (by decide)
theorem _root_.Ser.Row.shG {u : Ser.S} (R : Row u) {M : Nat} (hM : M ≤ 32) : Sh M (G u) := Sh_of R.G hM (by omega)
theorem sh_X {M : Nat} : Sh M X := fun i _ => by
  unfold X
  split <;> decide
theorem p_items {c : List Int} {k m : Int} {M : Nat} {u : Ser.S} (ok : BOk c k m) (h0 : 2 ≤ M) (hM : M ≤ 16) (R : Row u) : Good (m_law_are_items_right [.ptr 1, .tup (LI M u), .tup (LI M (G u))] (Bg c k m [])) := by
  obtain ⟨v, c1, k1, m1, hv, ok1, e1⟩ := p_draw (more := []) (n := M - 1) ok OkM.nil (by omega) (by omega)
  have cM : ((M - 1 : Nat) : Int) = (M : Int) - 1 := by omega
  rw [cM] at e1
  have body : ∀ (l : List Nat), (∀ n, n ∈ l → n < M) → ∃ x, loopL (tgN 4) (gI (tNo (tV (eF 2 m_law_same (aC (eF 2 m_turned_item (aC (eV 1) (aC (eV 4) aN))) (aC (eO2 dIx (eV 2) (eV 4)) aN))))) (gR (eC (.bl false))) gNx) (l.map fun n : Nat => D.int (n : Int)) [some (.ptr 1), some (.tup (LI M u)), some (.tup (LI M (G u))), some (.int (M : Int)), none, none] (Bg c1 k1 m1 []) =
      .nx [some (.ptr 1), some (.tup (LI M u)), some (.tup (LI M (G u))), some (.int (M : Int)), x, none] (Bg c1 k1 m1 []) := by
    intro l hl
    obtain ⟨ρ2, S2, e2, p⟩ := loop_inv (τ := tgN 4) (g := gI (tNo (tV (eF 2 m_law_same (aC (eF 2 m_turned_item (aC (eV 1) (aC (eV 4) aN))) (aC (eO2 dIx (eV 2) (eV 4)) aN))))) (gR (eC (.bl false))) gNx)
      (fun i ρ S' => S' = Bg c1 k1 m1 [] ∧ ∃ x, ρ = [some (.ptr 1), some (.tup (LI M u)), some (.tup (LI M (G u))), some (.int (M : Int)), x, none]) (l.map fun n : Nat => D.int (n : Int)) 0 [some (.ptr 1), some (.tup (LI M u)), some (.tup (LI M (G u))), some (.int (M : Int)), none, none] (Bg c1 k1 m1 []) ⟨rfl, _, rfl⟩ fun i ρ S' x hx hp => by
      obtain ⟨rfl, y, rfl⟩ := hp
      rw [List.getElem?_map] at hx
      obtain ⟨n, hn, rfl⟩ := Option.map_eq_some_iff.mp hx
      have hn2 := hl n (List.mem_of_getElem? hn)
      exact ⟨_, _, _, rfl, w_ok (u_Fr (u_aC (u_Fr (u_aC (v_V rfl) (u_aC (v_V rfl) v_aN)) rfl (p_titem okB h0 hM R hn2)) (u_aC (u_O2 (v_V rfl) (v_V rfl) (ix_LI (S := Bg c1 k1 m1 []) rfl rfl hn2)) v_aN)) rfl (same_int okB rfl (R.shG (M := 32) (by decide) n (by omega)))), rfl, _, rfl⟩
    obtain ⟨rfl, x, rfl⟩ := p
    exact ⟨x, e2⟩
  obtain ⟨v2, c2, k2, m2, hv2, ok2, e2⟩ := p_draw (more := []) (n := M) ok1 OkM.nil (by omega) (by omega)
  refine ⟨c2, k2, m2, ok2, ?_⟩
  have t1 : tV (eO2 (dCmp fun i j => decide (i < j)) (eV 3) (eC (.int 11))) [some (.ptr 1), some (.tup (LI M u)), some (.tup (LI M (G u))), some (.int (M : Int)), none, none] (Bg c k m []) = .ok (decide ((M : Int) < 11)) (Bg c k m []) := u_tV (u_O2 (v_V rfl) rfl rfl)
  have d1 : eO2 dAdd (eC (.int 1)) (eF 2 m_law_draw (aC (eV 0) (aC (eO2 dSub (eV 3) (eC (.int 1))) aN))) [some (.ptr 1), some (.tup (LI M u)), some (.tup (LI M (G u))), some (.int (M : Int)), none, none] (Bg c k m []) = .ok (.int ((v + 1 : Nat) : Int)) (Bg c1 k1 m1 []) :=
    v_O2 rfl (v_Fr (u_aC (v_V rfl) (u_aC (u_O2 (v_V rfl) rfl rfl) v_aN)) rfl e1) (by show some (D.int (1 + (v : Int))) = _; congr 2; omega)
  have it : ∃ l : List Nat, (∀ n, n ∈ l → n < M) ∧ iSeq (eIf (tV (eO2 (dCmp fun i j => decide (i < j)) (eV 3) (eC (.int 11)))) (eL (lD (aC (eC (.int 0)) (aC (eO2 dAdd (eC (.int 1)) (eF 2 m_law_draw (aC (eV 0) (aC (eO2 dSub (eV 3) (eC (.int 1))) aN)))) (aC (eO2 dSub (eV 3) (eC (.int 1))) aN))))) (eL (lD (aC (eO2 dAdd (eC (.int 1)) (eF 2 m_law_draw (aC (eV 0) (aC (eO2 dSub (eV 3) (eC (.int 1))) aN)))) aN))))
      [some (.ptr 1), some (.tup (LI M u)), some (.tup (LI M (G u))), some (.int (M : Int)), none, none] (Bg c k m []) = .ok (l.map fun n : Nat => D.int (n : Int)) (Bg c1 k1 m1 []) := by
    by_cases hs : (M : Int) < 11
    · refine ⟨[0, v + 1, M - 1], fun n hn => by simp at hn; omega, v_iSeq (d := .lst [.int 0, .int ((v + 1 : Nat) : Int), .int ((M - 1 : Nat) : Int)]) ?_ rfl⟩
      rw [v_If t1, decide_eq_true hs, if_pos rfl]
      exact v_L (v_lD (v_aC rfl (v_aC d1 (v_aC (u_O2 (v_V rfl) rfl (by show some (D.int ((M : Int) - 1)) = _; rw [cM])) v_aN))) (by show 3 ≤ 100000; decide))
    · refine ⟨[v + 1], fun n hn => by simp at hn; omega, v_iSeq (d := .lst [.int ((v + 1 : Nat) : Int)]) ?_ rfl⟩
      rw [v_If t1, decide_eq_false hs, if_neg (by decide)]
      exact v_L (v_lD (v_aC d1 v_aN) (by show 1 ≤ 100000; decide))
  obtain ⟨l, hl, e3⟩ := it
  obtain ⟨x, e4⟩ := body l hl
  refine m_rtS [] (by simp [Bg]) okB rfl (w_Sq (w_A (u_B (u_aC (v_V rfl) v_aN) ((len_seq rfl).trans (by rw [LI_len])))) (w_Sq ((w_F e3).trans e4) (w_Sq (w_A (v_Fr (u_aC (v_V rfl) (u_aC (v_V rfl) v_aN)) rfl e2)) ?_)))
  rw [List.append_nil]
  exact w_R (u_Fr (u_aC (u_Fkr (u_aC (v_V rfl) (u_aC (v_V rfl) v_aN)) rfl rfl (p_titem okB h0 hM R hv2)) (u_aC (u_O2 (v_V rfl) (v_V rfl) (ix_LI (S := Bg c2 k2 m2 []) rfl rfl hv2)) v_aN)) rfl (same_int okB rfl (R.shG (M := 32) (by decide) v2 (by omega))))
theorem LI_app {M N : Nat} {f g : Ser.S} : LI M f ++ LI N g = LI (M + N) (fun i => if i < M then f i else g (i - M)) := by
  induction N with
  | zero =>
    show LI M f ++ [] = _
    rw [List.append_nil]
    exact LI_congr fun i hi => by rw [if_pos hi]
  | succ N ih =>
    rw [LI_snoc, ← List.append_assoc, ih, show M + (N + 1) = (M + N) + 1 by omega, LI_snoc, if_neg (by omega), show M + N - M = N by omega]
/-- a row of few numbers, then noughts, cut -/
theorem few_row {ρ : Envm} {S : Store} {fs_ : F (List D)} {g : F D} {K z M : Nat} {f : Ser.S} (h : fs_ ρ S = .ok (LI K f) S) (hg : g ρ S = .ok (.int (M : Int)) S) (hK : K ≤ 100) (hz : z ≤ 100) (hM : M ≤ K + z) (h0 : ∀ i, K ≤ i → f i = 0) :
    eSl (eO2 dAdd (eT fs_) (eO2 dMulA (eT (aC (eC (.int 0)) aN)) (eC (.int (z : Int))))) oN (oS g) ρ S = .ok (.tup (LI M f)) S := by
  have e : LI K f ++ LI z (fun _ => 0) = LI (K + z) f := by
    rw [LI_app]
    exact LI_congr fun i hi => by
      split
      · rfl
      · exact (h0 i (by omega)).symm
  rw [← LI_take f hM]
  exact u_to (u_add (u_T h (by rw [LI_len]; omega)) (u_O2 (u_T (u_aC rfl v_aN) (by decide)) rfl (mulT1 (by omega))) (by rw [LI_len, LI_len]; omega) e) hg rfl (by rw [LI_len]; omega)
theorem Nc.ne {B : Nat} {d : D} {x : PyData} (h : Nc Sm.dp B d x) (S : Store) : dNe S d d = some (.bl false) := by
  unfold dNe
  rw [h.py]
  show (if SeqAt.shaped x && SeqAt.shaped x then some (D.bl (!PyData.eqv x x)) else none) = _
  rw [h.shaped, SeqAt.eqv_refl x h.lay]; rfl
theorem ne_rows {S : Store} {M : Nat} {f g : Ser.S} (e : ∀ i, i < M → g i = f i) (h : Sh M f) : dNe S (.lst (LI M g)) (.lst (LI M f)) = some (.bl false) := by
  rw [LI_congr e]
  obtain ⟨xs, hx⟩ := NcA.ints (n := 7) h
  exact Nc.ne hx.lst S
theorem p_turned {c : List Int} {k m : Int} {M : Nat} {u : Ser.S} (ok : BOk c k m) (h0 : 2 ≤ M) (hM : M ≤ 16) (R : Row u) : Good (m_law_is_turned_right [.ptr 1, .tup (LI M u)] (Bg c k m [])) := by
  obtain ⟨c2, k2, m2, ok2, e2⟩ := p_items ok h0 hM R
  have RG : ∀ j, j < M → Sz M (pw (G u) j) := fun j hj => Sz_of (R.G.pw j) (by omega) (by omega)
  have RU : ∀ j, j < M → Sz M (pw u j) := fun j hj => Sz_of ((show MJ 20 0 u from fun i _ => by rw [Nat.zero_mul]; exact R.b i).pw j) (by omega) (by omega)
  have sX : Sh M X := sh_X
  have about : m_turned_about [.tup (LI M u)] (Bg c k m []) = .ok (.tup (LI M (G u))) (Bg c k m []) := p_about okB h0 hM R
  refine ⟨c2, k2, m2, ok2, m_rtS [] (by simp [Bg]) okB rfl ?_⟩
  rw [List.append_nil]
  have right : ∀ i, i < M → cp u (G u) i = X i := fun i _ => G_right R.z R.o i
  have left : ∀ i, i < M → cp (G u) u i = X i := fun i _ => congrFun (G_left R.z R.o) i
  refine w_Sq (w_P (u_aC (u_Fr (u_aC (v_V rfl) v_aN) rfl (p_oturned okB h0 hM R)) (u_aC (u_B (u_aC (v_V rfl) v_aN) ((len_seq rfl).trans (by rw [LI_len]))) v_aN))) (w_Sq (w_P (u_aC (few_row (K := 2) (z := 14) (M := M) (f := X) rfl (v_V rfl) (by decide) (by decide) (by omega) fun i hi => if_neg (by omega)) (u_aC (u_Fr (u_aC (v_V rfl) v_aN) rfl about) v_aN))) (w_Sq (w_ok ?_) (w_Sq (w_Else (u_tV ?_) rfl) (w_Sq (w_ok ?_) (w_R ?_)))))
  · exact u_Fr (u_aC (u_L (u_lD (u_aC (v_V rfl) (u_aC (u_Fkr (u_aC (v_V rfl) v_aN) rfl rfl about) v_aN)) (by show 2 ≤ 100000; decide))) (u_aC (u_L (u_lD (u_aC (v_V rfl) (u_aC (v_V rfl) v_aN)) (by show 2 ≤ 100000; decide))) v_aN)) rfl (same_row2 okB (by omega) (by omega) (fun _ _ => rfl) (fun _ _ => rfl) (R.shG (by omega)) (R.shG (by omega)))
  · exact u_O2 (u_Fr (u_aC (u_L (v_lB (u_aC (v_V rfl) v_aN) list_LI)) (u_aC (u_L (v_lB (u_aC (v_V rfl) v_aN) list_LI)) v_aN)) rfl (p_oput (M := M) (f := u) (g := G u) okB rfl rfl (lo_lst _ _ _) (by omega) (by omega) (R.szU (by omega)) (R.szG (by omega)) RG)) (u_L (v_lB (u_aC (v_V rfl) v_aN) list_LI)) (ne_rows (fun i hi => by rw [fs_cp (G0 u) hi, right i hi]) sX)
  · refine u_Fr (u_aC (u_L (u_lD (u_aC (u_Fr (u_aC (v_V rfl) (u_aC (v_V rfl) v_aN)) rfl (p_series_put okB (by omega) (by omega) (G0 u) (R.szU (by omega)) (R.szG (by omega)) RG)) (u_aC (u_Fkr (u_aC (v_V rfl) (u_aC (v_V rfl) v_aN)) rfl rfl (p_series_put okB (by omega) (by omega) R.z (R.szG (by omega)) (R.szU (by omega)) RU)) v_aN)) (by show 2 ≤ 100000; decide))) (u_aC (u_L (u_lD (u_aC (v_V rfl) (u_aC (v_V rfl) v_aN)) (by show 2 ≤ 100000; decide))) v_aN)) rfl (same_row2 okB (by omega) (by omega) right left sX sX)
  · exact v_And (u_Fr (u_aC (u_Fr (u_aC (v_V rfl) v_aN) rfl (p_aboutG okB h0 hM (row_gg R))) (u_aC (v_V rfl) v_aN)) rfl (same_row okB (by omega) (fun i _ => by rw [G_two R.z R.o]) (R.shU (by omega)))) (v_Fr (u_aC (v_V rfl) (u_aC (v_V rfl) (u_aC (v_V rfl) v_aN))) rfl e2)
end K75


set_option Elab.async false
set_option linter.all false
set_option maxRecDepth 100000
set_option maxHeartbeats 1000000
namespace K75
open PySem L2 Sm Ser
theorem inv_congr {M : Nat} {w w' : Ser.S} (h : w 0 * w 0 = 1) (h' : w' 0 * w' 0 = 1) (e : ∀ i, i < M → w i = w' i) : ∀ i, i < M → inv w i = inv w' i :=
  inv_uniq h' fun i hi => by
    have a : mul w' (inv w) i = mul w (inv w) i := congrN i (fun j hj => (e j (by omega)).symm) fun _ _ => rfl
    rw [a, mul_inv h]
theorem same_rowL {S : Store} {M : Nat} {f : Ser.S} (hS : OkS S) (hM : M ≤ 1000) (h : Sh M f) : m_law_same [.lst [.tup (LI M f), .tup (LI M f)], .lst [.tup (LI M f), .tup (LI M f)]] S = .ok (.bl true) S :=
  same_row2 hS hM hM (fun _ _ => rfl) (fun _ _ => rfl) h h
theorem p_powers {c : List Int} {k m : Int} {M : Nat} {u : Ser.S} (ok : BOk c k m) (h0 : 2 ≤ M) (hM : M ≤ 16) (R : Row u) : Good (m_law_are_powers_right [.ptr 1, .tup (LI M u)] (Bg c k m [])) := by
  obtain ⟨m0, rfl⟩ : ∃ m0, M = m0 + 1 := ⟨M - 1, by omega⟩
  obtain ⟨v, c1, k1, m1, hv, ok1, e1⟩ := p_draw (more := []) (n := 2000001) ok OkM.nil (by decide) (by decide)
  let x : Int := (v : Int) - 1000000
  let w : Ser.S := fun i => if i < m0 then tl u i else if i = m0 then x else 0
  have W : Wr w := ⟨by
    show (if 0 < m0 then tl u 0 else _) * (if 0 < m0 then tl u 0 else _) = 1
    rw [if_pos (by omega)]; exact R.o, fun i => by
    show (if i < m0 then tl u i else if i = m0 then x else 0).natAbs ≤ _
    split
    · exact R.b _
    · split
      · show ((v : Int) - 1000000).natAbs ≤ 2 ^ 20
        have : (2 : Nat) ^ 20 = 1048576 := by decide
        omega
      · exact Nat.zero_le _⟩
  have We : ∀ i, i < m0 → inv w i = inv (tl u) i := inv_congr W.o R.o fun i hi => if_pos hi
  have hw : LI m0 (tl u) ++ [.int x] = LI (m0 + 1) w := by
    rw [LI_snoc]
    congr 1
    · exact LI_congr fun i hi => (if_pos hi).symm
    · show _ = [D.int (if m0 < m0 then _ else if m0 = m0 then x else 0)]
      rw [if_neg (by omega), if_pos rfl]
  obtain ⟨v2, c2, k2, m2, hv2, ok2, e2⟩ := p_draw (more := []) (n := m0) ok1 OkM.nil (by omega) (by omega)
  obtain ⟨n', c3, k3, m3, hn', ok3, e3⟩ := p_pick (more := []) (xs := [((v2 + 1 : Nat) : Int), (m0 : Int)]) ok2 OkM.nil (by simp) (by simp)
  obtain ⟨n, rfl, hn1, hn2⟩ : ∃ n : Nat, n' = (n : Int) ∧ 1 ≤ n ∧ n ≤ m0 := by
    simp at hn'
    rcases hn' with rfl | rfl
    · exact ⟨v2 + 1, by simp, by omega, by omega⟩
    · exact ⟨m0, rfl, by omega, Nat.le_refl _⟩
  refine ⟨c3, k3, m3, ok3, ?_⟩
  have mjI := W.inv
  have szP : ∀ j, j ≤ 16 → Sz (m0 + 1) (pw (inv w) j) := fun j hj => Sz_of (mjI.pw j) (by omega) (by omega)
  have shI : Sh (m0 + 1) (inv w) := Sh_of mjI (by omega) (by omega)
  have shP : Sh (m0 + 1) (pw (inv w) n) := Sh_of (mjI.pw n) (by omega) (by omega)
  have lag : (n : Int) * G u n = pw (inv w) n (n - 1) := by
    obtain ⟨p, rfl⟩ : ∃ p, n = p + 1 := ⟨n - 1, by omega⟩
    rw [G_lag R.z R.o p, Nat.add_sub_cancel]
    exact pw_congr (M := m0) (fun i hi => (We i hi).symm) (p + 1) p (by omega)
  have szn : ((n : Nat) : Int).natAbs.log2 < 400000 := sz_of (e := 20) (by simp; omega) (by decide)
  have e4 : eSl (eV 1) (oS (eC (.int 1))) oN [some (.ptr 1), some (.tup (LI (m0 + 1) u)), some (.int ((m0 + 1 : Nat) : Int)), some (.tup (LI (m0 + 1) (G u))), none, none, none, none, none, none] (Bg c k m []) = .ok (.tup (LI m0 (tl u))) (Bg c k m []) := by
    rw [← LI_drop1]
    exact u_from (v_V rfl) rfl rfl (by rw [LI_len]; omega)
  have e5 : gA 4 (eO2 dAdd (eSl (eV 1) (oS (eC (.int 1))) oN) (eT (aC (eO2 dSub (eF 2 m_law_draw (aC (eV 0) (aC (eO2 dAdd (eO2 dMulA (eC (.int 2)) (eO2 dPow (eC (.int 10)) (eC (.int 6)))) (eC (.int 1))) aN))) (eO2 dPow (eC (.int 10)) (eC (.int 6)))) aN)))
      [some (.ptr 1), some (.tup (LI (m0 + 1) u)), some (.int ((m0 + 1 : Nat) : Int)), some (.tup (LI (m0 + 1) (G u))), none, none, none, none, none, none] (Bg c k m []) =
      .nx [some (.ptr 1), some (.tup (LI (m0 + 1) u)), some (.int ((m0 + 1 : Nat) : Int)), some (.tup (LI (m0 + 1) (G u))), some (.tup (LI (m0 + 1) w)), none, none, none, none, none] (Bg c1 k1 m1 []) := by
    refine w_A (v_O2 e4 (v_T (S1 := Bg c1 k1 m1 []) (v_aC (v_O2 (S1 := Bg c1 k1 m1 []) (v_Fr (u_aC (v_V rfl) (u_aC (d := .int 2000001) rfl v_aN)) rfl e1) rfl rfl) v_aN) (by show 1 ≤ 100000; decide)) ?_)
    rw [← hw]
    show (if (LI m0 (tl u)).length + 1 ≤ 100000 then some (D.tup (LI m0 (tl u) ++ [D.int x])) else none) = _
    rw [if_pos (by rw [LI_len]; omega)]
  refine m_rtS [] (by simp [Bg]) okB rfl ?_
  rw [List.append_nil]
  refine w_Sq (w_P (u_aC (u_B (u_aC (v_V rfl) v_aN) ((len_seq rfl).trans (by rw [LI_len]))) (u_aC (u_Fr (u_aC (v_V rfl) v_aN) rfl (p_oturned okB h0 hM R)) v_aN))) (w_Sq e5 (w_Sq (w_A (u_Fr (u_aC (u_L (v_lB (u_aC (v_V rfl) v_aN) list_LI)) v_aN) rfl (p_own_other okB (by omega) hM W))) (w_Sq (w_A (u_Fr (u_aC (v_V rfl) v_aN) rfl (p_other okB (by omega) hM W))) (w_Sq (w_ok ?_) (w_Sq (w_A (d := .int (n : Int)) ?_) (w_Sq (S1 := Bg c3 k3 m3 []) (w_P (u_aC (u_B (u_aC (u_Fr (u_aC (v_V rfl) (u_aC (v_V rfl) v_aN)) rfl (p_opower okB (by omega) (by omega) (by omega) (W.szI (by omega)) fun j hj => szP j (by omega))) v_aN) (tup_seq rfl)) (u_aC (u_Fr (u_aC (v_V rfl) (u_aC (v_V rfl) v_aN)) rfl (p_power okB (by omega) (by omega) (by omega) (W.szI (by omega)) fun j hj => szP j (by omega))) v_aN))) (w_Sq (w_ok ?_) (w_R ?_))))))))
  · exact u_Fr (u_aC (u_L (u_lD (u_aC (v_V rfl) (u_aC (u_Fkr (u_aC (v_V rfl) v_aN) rfl rfl (p_other okB (by omega) hM W)) v_aN)) (by show 2 ≤ 100000; decide))) (u_aC (u_L (u_lD (u_aC (u_B (u_aC (v_V rfl) v_aN) (tup_seq rfl)) (u_aC (u_B (u_aC (v_V rfl) v_aN) (tup_seq rfl)) v_aN)) (by show 2 ≤ 100000; decide))) v_aN)) rfl (same_rowL okB (by omega) shI)
  · have d1 : ∀ ρ : Envm, ρ[0]? = some (some (.ptr 1)) → ρ[2]? = some (some (.int ((m0 + 1 : Nat) : Int))) → eO2 dAdd (eC (.int 1)) (eF 2 m_law_draw (aC (eV 0) (aC (eO2 dSub (eV 2) (eC (.int 1))) aN))) ρ (Bg c1 k1 m1 []) = .ok (.int ((v2 + 1 : Nat) : Int)) (Bg c2 k2 m2 []) := fun ρ q0 q2 =>
      v_O2 rfl (v_Fr (as := [.ptr 1, .int (m0 : Int)]) (u_aC (v_V q0) (u_aC (u_O2 (v_V q2) rfl (by show some (D.int (((m0 + 1 : Nat) : Int) - 1)) = _; congr 2; omega)) v_aN)) rfl e2) (by show some (D.int (1 + (v2 : Int))) = _; congr 2; omega)
    exact v_Fr (as := [.ptr 1, .lst [.int ((v2 + 1 : Nat) : Int), .int (m0 : Int)]]) (v_aC (S1 := Bg c1 k1 m1 []) (v_V rfl) (v_aC (S1 := Bg c2 k2 m2 []) (v_L (v_lD (v_aC (d1 _ rfl rfl) (u_aC (u_O2 (v_V rfl) rfl (by show some (D.int (((m0 + 1 : Nat) : Int) - 1)) = _; congr 2; omega)) v_aN)) (by show 2 ≤ 100000; decide))) v_aN)) rfl e3
  · exact u_Fr (u_aC (u_L (u_lD (u_aC (v_V rfl) (u_aC (u_Fkr (u_aC (v_V rfl) (u_aC (v_V rfl) v_aN)) rfl rfl (p_power okB (by omega) (by omega) (by omega) (W.szI (by omega)) fun j hj => szP j (by omega))) v_aN)) (by show 2 ≤ 100000; decide))) (u_aC (u_L (u_lD (u_aC (v_V rfl) (u_aC (v_V rfl) v_aN)) (by show 2 ≤ 100000; decide))) v_aN)) rfl (same_rowL okB (by omega) shP)
  · have i1 : ∀ (ρ : Envm) (j : Nat), ρ[j]? = some (some (.tup (LI (m0 + 1) (pw (inv w) n)))) → ρ[7]? = some (some (.int (n : Int))) → eO2 dIx (eV j) (eO2 dSub (eV 7) (eC (.int 1))) ρ (Bg c3 k3 m3 []) = .ok (.int (pw (inv w) n (n - 1))) (Bg c3 k3 m3 []) := fun ρ j q q7 =>
      u_O2 (v_V q) (u_O2 (v_V q7) rfl rfl) (ix_LI (S := Bg c3 k3 m3 []) rfl (i := n - 1) (by omega) (by omega))
    refine v_And (u_O2 (i1 _ 8 rfl rfl) (u_O2 (v_V rfl) (u_O2 (v_V rfl) (v_V rfl) (ix_LI (S := Bg c3 k3 m3 []) rfl rfl (by omega))) (mulA_int szn (R.szG (M := 32) (by decide) n (by omega)))) ?_) ?_
    · rw [lag, eq_int]; simp
    · exact u_Fr (u_aC (u_O2 (v_V rfl) (u_Fr (u_aC (v_V rfl) (u_aC (v_V rfl) v_aN)) rfl (p_titem okB h0 hM R (by omega))) (mulA_int szn (R.szG (M := 32) (by decide) n (by omega)))) (u_aC (i1 _ 9 rfl rfl) v_aN)) rfl (same_int okB lag (shP (n - 1) (by omega)))
end K75


set_option Elab.async false
set_option linter.all false
set_option maxRecDepth 100000
set_option maxHeartbeats 1000000
namespace K75
open PySem L2 Sm Ser
theorem sh_of {x : Int} {e : Nat} (h : x.natAbs ≤ 2 ^ e) (he : e < 1915) : x.natAbs.log2 < 1920 := by
  by_cases hz : x.natAbs = 0
  · rw [hz]; decide
  · rw [Nat.log2_lt hz]
    exact Nat.lt_of_le_of_lt h (Nat.pow_lt_pow_right (by decide) (by omega))
section
variable {a b : Ser.S} (A : Row a) (B : Row b)
include A B
theorem cp_row {n : Nat} (hn : n < 32) : (cp a b n).natAbs ≤ 2 ^ (25 + 25 * n) := by
  have := cp_bd (a := a) (b := b) (p := 20) (q := 20) (k := 0) hn B.z (fun j _ => by rw [Nat.zero_mul]; exact A.b j) (fun i _ => by rw [Nat.zero_mul]; exact B.b i)
  refine Nat.le_trans this (pow_mono ?_)
  omega
theorem cp_G {n : Nat} (hn : n < 32) : (cp (G b) (G a) n).natAbs ≤ 2 ^ (5 + 57 * n) := by
  have := cp_bd (a := G b) (b := G a) (p := 0) (q := 0) (k := 26) hn (G0 a) (fun j hj => B.G j (by omega)) A.G
  refine Nat.le_trans this (pow_mono ?_)
  omega
theorem cp_RG : RowG (cp a b) := by
  refine ⟨by rw [cp_0 B.z, A.z], ?_, fun i hi => sz_of (cp_row A B hi) (by omega), fun i hi => ?_⟩
  · have h1 := A.o
    have h2 := B.o
    rw [cp1 B.z]; grind
  · rw [G_comp A.z A.o B.z B.o]
    exact Nat.le_trans (cp_G A B hi) (pow_mono (by omega))
end
theorem p_both {c : List Int} {k m : Int} {M : Nat} (ok : BOk c k m) (h0 : 2 ≤ M) (hM : M ≤ 16) (hM2 : M ≤ 8) : Good (m_law_are_both_right [.ptr 1, .int (M : Int)] (Bg c k m [])) := by
  obtain ⟨xs, c1, k1, m1, dx, ok1, e1⟩ := p_own_row (most := 4) ok h0 (by omega) (by decide)
  obtain ⟨ys, c2, k2, m2, dy, ok2, e2⟩ := p_own_row (most := 4) ok1 h0 (by omega) (by decide)
  have A := dx.row (by decide)
  have B := dy.row (by decide)
  rw [← LI_at, dx.l] at e1
  rw [← LI_at, dy.l] at e2
  generalize at_ xs = a at *
  generalize at_ ys = b at *
  have szPb : ∀ j, j < M → Sz M (pw b j) := fun j hj => Sz_of ((show MJ 20 0 b from fun i _ => by rw [Nat.zero_mul]; exact B.b i).pw j) (by omega) (by omega)
  have szPG : ∀ j, j < M → Sz M (pw (G a) j) := fun j hj => Sz_of (A.G.pw j) (by omega) (by omega)
  have shT : Sh M (cp a b) := fun i hi => sh_of (cp_row A B (by omega)) (by omega)
  have shB : Sh M (cp (G b) (G a)) := fun i hi => sh_of (cp_G A B (by omega)) (by omega)
  have eT : LI M (fs a b M) = LI M (cp a b) := LI_congr fun i hi => fs_cp B.z hi a
  have eBk : LI M (fs (G b) (G a) M) = LI M (cp (G b) (G a)) := LI_congr fun i hi => fs_cp (G0 a) hi (G b)
  refine ⟨c2, k2, m2, ok2, m_rtS [] (by simp [Bg]) okB rfl ?_⟩
  rw [List.append_nil]
  refine w_Sq (S1 := Bg c2 k2 m2 []) (w_P (v_aC (v_Fr (u_aC (v_V rfl) (u_aC (v_V rfl) (u_aC rfl v_aN))) rfl e1) (v_aC (v_Fr (u_aC (v_V rfl) (u_aC (v_V rfl) (u_aC rfl v_aN))) rfl e2) v_aN))) (w_Sq (w_P (d := .tup (LI M (cp a b))) (e := .tup (LI M (cp a b))) (u_aC ?_ (u_aC ?_ v_aN))) (w_Sq (w_ok (u_Fr (u_aC (v_V rfl) (u_aC (v_V rfl) v_aN)) rfl (same_row okB (by omega) (fun _ _ => rfl) shT))) (w_Sq (w_P (u_aC (u_Fr (u_aC (v_V rfl) v_aN) rfl (p_oturned okB h0 hM A)) (u_aC (u_Fr (u_aC (v_V rfl) v_aN) rfl (p_oturned okB h0 hM B)) v_aN))) (w_Sq (S1 := Bg c2 k2 m2 []) (w_A (d := .tup (LI M (cp (G b) (G a)))) ?_) (w_Sq (w_P (u_aC (u_Fr (u_aC (v_V rfl) v_aN) rfl (p_about okB h0 hM A)) (u_aC (u_Fr (u_aC (v_V rfl) v_aN) rfl (p_about okB h0 hM B)) v_aN))) (w_Sq (w_ok ?_) (w_R ?_)))))))
  · refine u_B (u_aC (u_Fr (u_aC (v_V rfl) (u_aC (v_V rfl) v_aN)) rfl (p_oput (M := M) (f := a) (g := b) okB rfl rfl (lo_tup _ _ _) (by omega) (by omega) (A.szU (by omega)) (B.szU (by omega)) szPb)) v_aN) ?_
    rw [eT]; exact tup_seq rfl
  · exact u_Fr (u_aC (v_V rfl) (u_aC (v_V rfl) v_aN)) rfl (p_series_put okB (by omega) (by omega) B.z (A.szU (by omega)) (B.szU (by omega)) szPb)
  · refine u_B (u_aC (u_Fr (u_aC (v_V rfl) (u_aC (v_V rfl) v_aN)) rfl (p_oput (M := M) (f := G b) (g := G a) okB rfl rfl (lo_tup _ _ _) (by omega) (by omega) (B.szG (by omega)) (A.szG (by omega)) szPG)) v_aN) ?_
    rw [eBk]; exact tup_seq rfl
  · exact u_Fr (u_aC (u_L (u_lD (u_aC (v_V rfl) (u_aC (v_V rfl) v_aN)) (by show 2 ≤ 100000; decide))) (u_aC (u_L (u_lD (u_aC (v_V rfl) (u_aC (v_V rfl) v_aN)) (by show 2 ≤ 100000; decide))) v_aN)) rfl (same_row2 okB (by omega) (by omega) (fun _ _ => rfl) (fun _ _ => rfl) (A.shG (by omega)) (B.shG (by omega)))
  · refine u_Fr (u_aC (u_L (u_lD (u_aC (u_Fr (u_aC (v_V rfl) v_aN) rfl (p_aboutG okB h0 hM (cp_RG A B))) (u_aC (u_Fr (u_aC (v_V rfl) (u_aC (v_V rfl) v_aN)) rfl (p_series_put okB (by omega) (by omega) (G0 a) (B.szG (by omega)) (A.szG (by omega)) szPG)) v_aN)) (by show 2 ≤ 100000; decide))) (u_aC (u_L (u_lD (u_aC (v_V rfl) (u_aC (v_V rfl) v_aN)) (by show 2 ≤ 100000; decide))) v_aN)) rfl (same_row2 okB (by omega) (by omega) (fun i _ => by rw [G_comp A.z A.o B.z B.o]) (fun _ _ => rfl) shB shB)
end K75


set_option Elab.async false
set_option linter.all false
set_option maxRecDepth 100000
set_option maxHeartbeats 1000000
namespace K75
open PySem L2 Sm Ser
/-- rows that are refused -/
inductive Bad : List D → Prop
  | one (x : Int) : Bad [.int x]
  | two {a b : Int} {r : List D} (h : a ≠ 0 ∨ (b ≠ 1 ∧ b ≠ -1)) (hl : r.length ≤ 100) : Bad (.int a :: .int b :: r)
theorem v_or1 {ρ : Envm} {S S1 : Store} {f g : F Bool} (h : f ρ S = .ok true S1) : tOr_ f g ρ S = .ok true S1 := by rw [v_tOr h, if_pos rfl]
theorem v_or0 {ρ : Envm} {S S1 : Store} {f g : F Bool} {r : Sm.R Bool} (h : f ρ S = .ok false S1) (h2 : g ρ S1 = r) : tOr_ f g ρ S = r := by rw [v_tOr h, if_neg (by decide)]; exact h2
theorem p_bad {S : Store} {ds : List D} (hS : OkS S) (h : Bad ds) : m_turned_about [.tup ds] S = .exc ⟨"Unfit", []⟩ S := by
  refine m_exc (ρ := [some (.tup ds), none, none, none]) [] hS (w_SeqX ?_)
  rw [List.append_nil]
  refine w_If (S1 := S) ?_ rfl
  cases h with
  | one x => exact v_or1 (u_tV (u_O2 (u_B (u_aC (v_V rfl) v_aN) (len_seq rfl)) rfl rfl))
  | @two a b r h hl =>
    refine v_or0 (S1 := S) (u_tV (u_O2 (u_B (u_aC (v_V rfl) v_aN) (len_seq rfl)) rfl ?_)) ?_
    · show some (D.bl (decide (((r.length + 2 : Nat) : Int) < 2))) = _
      rw [decide_eq_false (by omega)]
    · have i0 : dIx S (.tup (.int a :: .int b :: r)) (.int 0) = some (.int a) := by
        show atI (D.int a :: D.int b :: r) ((0 : Nat) : Int) = _
        rw [Sm.atI_nat (by simp)]; rfl
      have i1 : dIx S (.tup (.int a :: .int b :: r)) (.int 1) = some (.int b) := by
        show atI (D.int a :: D.int b :: r) ((1 : Nat) : Int) = _
        rw [Sm.atI_nat (by simp)]; rfl
      by_cases ha : a = 0
      · subst ha
        have hb : b ≠ 1 ∧ b ≠ -1 := by
          rcases h with h | h
          · exact absurd rfl h
          · exact h
        refine v_or0 (S1 := S) (u_tV (u_O2 (u_O2 (v_V rfl) rfl i0) rfl ne_int)) (u_tV (u_O2 (u_O2 (v_V rfl) rfl i1) (u_T (u_aC rfl (u_aC (u_O1 rfl rfl) v_aN)) (by decide)) (dIn01.trans ?_)))
        rw [decide_eq_false hb.1, decide_eq_false hb.2]; rfl
      · refine v_or1 (u_tV (u_O2 (u_O2 (v_V rfl) rfl i0) rfl (ne_int.trans ?_)))
        have : (a == 0) = false := by simpa using ha
        rw [this]; rfl
abbrev bE : List Bool := [true, false, false, false, false, false, false, false, false, false]
theorem lo_due (n : Nat) : lo n (dueE bE) = true := rfl
theorem p_ask1 {S : Store} {ds : List D} {n : Int} (hS : OkS S) (h : Bad ds) : m_law_asked [.int 1, .tup ds, .int n] S = .ok (dueE bE) S := by
  refine m_rt0 hS (lo_due _) ?_
  have e : gSeq (gI (tV (eO2 dEq (eV 0) (eC (.int 0)))) (gR (eF 1 m_root_series (aC (eV 1) aN))) gNx) (gR (eIf (tV (eO2 dEq (eV 0) (eC (.int 1)))) (eF 1 m_turned_about (aC (eV 1) aN)) (eF 2 m_turned_item (aC (eV 1) (aC (eV 2) aN))))) [some (.int 1), some (.tup ds), some (.int n), none] S = .exc ⟨"Unfit", []⟩ [some (.int 1), some (.tup ds), some (.int n), none] S := by
    exact w_Sq (w_Else (u_tV (u_O2 (v_V rfl) rfl rfl)) rfl) (w_RX (v_IfT (u_tV (u_O2 (v_V rfl) rfl rfl)) (u_Fr (u_aC (v_V rfl) v_aN) rfl (p_bad hS h))))
  show gTryE "Unfit" 3 (dueE bE) _ [some (.int 1), some (.tup ds), some (.int n), none] S = _
  unfold gTryE
  rw [e]; rfl
theorem p_ask2 {S : Store} {ds : List D} {n : Int} (hS : OkS S) (h : Bad ds) : m_law_asked [.int 2, .tup ds, .int n] S = .ok (dueE bE) S := by
  refine m_rt0 hS (lo_due _) ?_
  have e0 : m_turned_item [.tup ds, .int n] S = .exc ⟨"Unfit", []⟩ S := by
    refine m_exc (ρ := [some (.tup ds), some (.int n)]) [] hS ?_
    rw [List.append_nil]
    exact w_RX (v_O2X (u_Fr (u_aC (v_V rfl) v_aN) rfl (p_bad hS h)))
  have e : gSeq (gI (tV (eO2 dEq (eV 0) (eC (.int 0)))) (gR (eF 1 m_root_series (aC (eV 1) aN))) gNx) (gR (eIf (tV (eO2 dEq (eV 0) (eC (.int 1)))) (eF 1 m_turned_about (aC (eV 1) aN)) (eF 2 m_turned_item (aC (eV 1) (aC (eV 2) aN))))) [some (.int 2), some (.tup ds), some (.int n), none] S = .exc ⟨"Unfit", []⟩ [some (.int 2), some (.tup ds), some (.int n), none] S := by
    exact w_Sq (w_Else (u_tV (u_O2 (v_V rfl) rfl rfl)) rfl) (w_RX (v_IfF (u_tV (u_O2 (v_V rfl) rfl rfl)) (u_Fr (u_aC (v_V rfl) (u_aC (v_V rfl) v_aN)) rfl e0)))
  show gTryE "Unfit" 3 (dueE bE) _ [some (.int 2), some (.tup ds), some (.int n), none] S = _
  unfold gTryE
  rw [e]; rfl
theorem bls_nc (n : Nat) : ∀ bs : List Bool, ∃ xs, NcA n bs.length (bs.map .bl) xs
  | [] => ⟨_, .nil⟩
  | b :: bs => by
    obtain ⟨xs, h⟩ := bls_nc n bs
    refine ⟨.bool b :: xs, ?_⟩
    have := NcA.cons (n := n) (Nc.bl (b := b)) h
    rwa [Nat.zero_add, Nat.add_comm 1] at this
theorem nc_due (n : Nat) : ∃ x, Nc (n + 2) 12 (dueE bE) x := by
  obtain ⟨xs, h⟩ := bls_nc n bE
  exact ⟨_, (NcA.cons h.lst (NcA.cons Nc.non .nil)).lst⟩
/-- the value of [[k == 0 for k in range(10)], None] -/
theorem unfit_ok {ρ : Envm} {S : Store} {j : Nat} (hj : j < ρ.length) (hm : OkS S) : eL (lD (aC (eL (lC [j] (tgN j) (iR1 (aC (eC (.int 10)) aN)) tAll (eO2 dEq (eV j) (eC (.int 0))))) (aC (eC .non) aN))) ρ S = .ok (dueE bE) S := by
  refine u_L (u_lD (u_aC (u_L ?_) (u_aC rfl v_aN)) (by show 2 ≤ 100000; decide))
  refine v_lCr (S1 := S) (v_Rn (n := 10) (u_aC rfl v_aN) rfl (by decide)) ?_
  have q := comp_rng (τ := tgN j) (fe := eO2 dEq (eV j) (eC (.int 0))) (ρ := wipeE ρ [j]) (S := S) (fun i => .bl (((0 : Int) + (i : Int)) == 0)) 0 10 (by decide) fun i hi => ⟨_, rfl, u_O2 (v_V (d := .int (0 + (i : Int))) (by
    show ((wipeE ρ [j]).set j (some (.int (0 + (i : Int)))))[j]? = _
    rw [List.getElem?_set_self]
    show j < (ρ.set j none).length
    rw [List.length_set]; exact hj)) rfl eq_int⟩
  rw [q]; rfl
theorem p_refused {c : List Int} {k m : Int} {M : Nat} {u : Ser.S} (ok : BOk c k m) (h0 : 2 ≤ M) (hM : M ≤ 16) (R : Row u) : Good (m_law_are_refused [.ptr 1, .tup (LI M u)] (Bg c k m [])) := by
  obtain ⟨p, rfl⟩ : ∃ p, M = p + 2 := ⟨M - 2, by omega⟩
  obtain ⟨v, c1, k1, m1, hv, ok1, e1⟩ := p_draw (more := []) (n := 999999) ok OkM.nil (by decide) (by decide)
  let bad : Int := 2 + (v : Int)
  obtain ⟨x, c2, k2, m2, hx, ok2, e2⟩ := p_pick (more := []) (xs := [1, -1, bad, -bad]) ok1 OkM.nil (by simp) (by simp)
  have hx0 : x ≠ 0 := by
    have hb : 2 ≤ bad := by show 2 ≤ 2 + (v : Int); omega
    simp at hx
    rcases hx with rfl | rfl | rfl | rfl <;> omega
  have hb1 : bad ≠ 1 ∧ bad ≠ -1 := by constructor <;> (show 2 + (v : Int) ≠ _; omega)
  have hb2 : -bad ≠ 1 ∧ -bad ≠ -1 := by constructor <;> (show -(2 + (v : Int)) ≠ _; omega)
  obtain ⟨y, c3, k3, m3, hy, ok3, e3⟩ := p_pick (more := []) (xs := [2, -2]) ok2 OkM.nil (by simp) (by simp)
  have hy2 : y ≠ 1 ∧ y ≠ -1 := by
    simp at hy
    rcases hy with rfl | rfl <;> constructor <;> decide
  let r : List D := LI p (tl (tl u))
  have hr : r.length ≤ 100 := by show (LI p _).length ≤ 100; rw [LI_len]; omega
  have hrow : LI (p + 2) u = .int (u 0) :: .int (u 1) :: r := by rw [LI_cons, LI_cons]; rfl
  let L : List (List D) := [[.int 0], [.int x], .int x :: .int (u 1) :: r, .int 0 :: .int 0 :: r, .int 0 :: .int bad :: r, .int 0 :: .int (-bad) :: r, .int 0 :: .int y :: r, .int x :: .int bad :: r]
  have hL : ∀ ds, ds ∈ L → Bad ds ∧ 0 < ds.length ∧ ds.length ≤ 1000 := by
    intro ds hds
    have lr : ∀ a b : D, 0 < (a :: b :: r).length ∧ (a :: b :: r).length ≤ 1000 := fun a b => ⟨by simp, by simp; omega⟩
    simp only [L, List.mem_cons, List.not_mem_nil, or_false] at hds
    rcases hds with rfl | rfl | rfl | rfl | rfl | rfl | rfl | rfl
    · exact ⟨.one 0, by simp, by simp⟩
    · exact ⟨.one x, by simp, by simp⟩
    · exact ⟨.two (.inl hx0) hr, lr _ _⟩
    · exact ⟨.two (.inr (by decide)) hr, lr _ _⟩
    · exact ⟨.two (.inr hb1) hr, lr _ _⟩
    · exact ⟨.two (.inr hb2) hr, lr _ _⟩
    · exact ⟨.two (.inr hy2) hr, lr _ _⟩
    · exact ⟨.two (.inl hx0) hr, lr _ _⟩
  let rho : Option D → Option D → Envm := fun a b => [some (.ptr 1), some (.tup (LI (p + 2) u)), some (.int bad), some (dueE bE), some (.int x), a, b, none]
  obtain ⟨ρ9, S9, e9, q9⟩ := loop_inv (τ := tgN 5) (g := gSeq (gA 6 (eF 2 m_law_draw (aC (eV 0) (aC (eB dLen (aC (eV 5) aN)) aN)))) (gI (tNo (tV (eF 2 m_law_same (aC (eL (lD (aC (eF 3 m_law_asked (aC (eC (.int 1)) (aC (eV 5) (aC (eC (.int 0)) aN)))) (aC (eF 3 m_law_asked (aC (eC (.int 2)) (aC (eV 5) (aC (eV 6) aN)))) aN)))) (aC (eL (lD (aC (eV 3) (aC (eV 3) aN)))) aN))))) (gR (eC (.bl false))) gNx))
    (fun i ρ S' => ∃ (c' : List Int) (k' m' : Int) (a b : Option D), BOk c' k' m' ∧ S' = Bg c' k' m' [] ∧ ρ = rho a b) (L.map .tup) 0 (rho none none) (Bg c3 k3 m3 []) ⟨c3, k3, m3, none, none, ok3, rfl, rfl⟩ fun i ρ S' z hz hp => by
    obtain ⟨c4, k4, m4, a, b, ok4, rfl, rfl⟩ := hp
    rw [List.getElem?_map] at hz
    obtain ⟨ds, hds, rfl⟩ := Option.map_eq_some_iff.mp hz
    obtain ⟨hbad, l0, l1⟩ := hL ds (List.mem_of_getElem? hds)
    obtain ⟨v5, c5, k5, m5, hv5, ok5, e5⟩ := p_draw (more := []) (n := ds.length) ok4 OkM.nil l0 (by omega)
    obtain ⟨nx, hn⟩ := nc_due 5
    exact ⟨_, _, _, rfl, w_Sq (S1 := Bg c5 k5 m5 []) (w_A (v_Fr (u_aC (v_V rfl) (u_aC (u_B (u_aC (v_V rfl) v_aN) (len_seq rfl)) v_aN)) rfl e5)) (w_ok (u_Fr (u_aC (u_L (u_lD (u_aC (u_Fr (u_aC rfl (u_aC (v_V rfl) (u_aC rfl v_aN))) rfl (p_ask1 okB hbad)) (u_aC (u_Fr (u_aC rfl (u_aC (v_V rfl) (u_aC (v_V rfl) v_aN))) rfl (p_ask2 okB hbad)) v_aN)) (by show 2 ≤ 100000; decide))) (u_aC (u_L (u_lD (u_aC (v_V rfl) (u_aC (v_V rfl) v_aN)) (by show 2 ≤ 100000; decide))) v_aN)) rfl (p_same okB (NcA.cons hn (NcA.cons hn .nil)).lst (by decide) (.inr (.inr ⟨_, rfl⟩))))), c5, k5, m5, _, _, ok5, rfl, rfl⟩
  obtain ⟨c4, k4, m4, a, b, ok4, rfl, rfl⟩ := q9
  refine ⟨c4, k4, m4, ok4, m_rtS [] (by simp [Bg]) okB rfl ?_⟩
  rw [List.append_nil]
  have s1 : ∀ ρ S, ρ[1]? = some (some (.tup (LI (p + 2) u))) → eSl (eV 1) (oS (eC (.int 1))) oN ρ S = .ok (.tup (.int (u 1) :: r)) S := fun ρ S h => by
    have := u_from (S := S) (g := eC (.int 1)) (k := 1) (v_V h) rfl rfl (by rw [LI_len]; omega)
    rw [hrow] at this
    exact this
  have s2 : ∀ ρ S, ρ[1]? = some (some (.tup (LI (p + 2) u))) → eSl (eV 1) (oS (eC (.int 2))) oN ρ S = .ok (.tup r) S := fun ρ S h => by
    have := u_from (S := S) (g := eC (.int 2)) (k := 2) (v_V h) rfl rfl (by rw [LI_len]; omega)
    rw [hrow] at this
    exact this
  refine w_Sq (S1 := Bg c1 k1 m1 []) (w_A (d := .int bad) (v_O2 (S1 := Bg c k m []) rfl (v_Fr (u_aC (v_V rfl) (u_aC (d := .int 999999) rfl v_aN)) rfl e1) rfl)) (w_Sq (S1 := Bg c2 k2 m2 []) (w_P (v_aC (S1 := Bg c1 k1 m1 []) (unfit_ok (by simp) okB) (v_aC (S1 := Bg c2 k2 m2 []) (v_Fr (u_aC (v_V rfl) (u_aC (u_L (u_lD (u_aC rfl (u_aC (u_O1 rfl rfl) (u_aC (v_V rfl) (u_aC (u_O1 (v_V rfl) rfl) v_aN)))) (by show 4 ≤ 100000; decide))) v_aN)) rfl e2) v_aN))) (w_Sq ((w_F (S1 := Bg c3 k3 m3 []) (v_iSeq (d := .lst (L.map .tup)) ?_ rfl)).trans e9) (w_R rfl)))
  have two : ∀ a b : D, a :: b :: r = [a, b] ++ r := fun _ _ => rfl
  have l2 : ∀ a b : D, [a, b].length + r.length ≤ 100000 := fun a b => by simp; omega
  have lr1 : ([D.int x]).length + (D.int (u 1) :: r).length ≤ 100000 := by simp; omega
  have s1l : ∀ a : D, [a].length ≤ 100000 := fun _ => by show 1 ≤ 100000; decide
  have s2l : ∀ a b : D, [a, b].length ≤ 100000 := fun _ _ => by show 2 ≤ 100000; decide
  refine v_L (v_lD (v_aC (u_T (u_aC rfl v_aN) (s1l _)) (v_aC (u_T (u_aC (v_V rfl) v_aN) (s1l _)) (v_aC (u_add (u_T (u_aC (v_V rfl) v_aN) (s1l _)) (s1 _ _ rfl) lr1 rfl) (v_aC (u_add (u_T (u_aC rfl (u_aC rfl v_aN)) (s2l _ _)) (s2 _ _ rfl) (l2 _ _) rfl) (v_aC (u_add (u_T (u_aC rfl (u_aC (v_V rfl) v_aN)) (s2l _ _)) (s2 _ _ rfl) (l2 _ _) rfl) (v_aC (u_add (u_T (u_aC rfl (u_aC (u_O1 (v_V rfl) rfl) v_aN)) (s2l _ _)) (s2 _ _ rfl) (l2 _ _) rfl) (v_aC (S1 := Bg c3 k3 m3 []) (d := .tup (.int 0 :: .int y :: r)) ?_ (v_aC (u_add (u_T (u_aC (v_V rfl) (u_aC (v_V rfl) v_aN)) (s2l _ _)) (s2 _ _ rfl) (l2 _ _) rfl) v_aN)))))))) (by show 8 ≤ 100000; decide))
  refine v_O2 (S1 := Bg c3 k3 m3 []) (a := .tup [.int 0, .int y]) (b := .tup r) (v_T (v_aC (S1 := Bg c2 k2 m2 []) rfl (v_aC (S1 := Bg c3 k3 m3 []) (v_Fr (u_aC (v_V rfl) (u_aC (u_L (u_lD (u_aC rfl (u_aC (u_O1 rfl rfl) v_aN)) (by show 2 ≤ 100000; decide))) v_aN)) rfl e3) v_aN)) (by show 2 ≤ 100000; decide)) (s2 _ _ rfl) ?_
  show (if _ then some (D.tup ([D.int 0, D.int y] ++ r)) else none) = _
  rw [if_pos (l2 _ _)]; rfl
end K75


set_option Elab.async false
set_option linter.all false
set_option maxRecDepth 100000
set_option maxHeartbeats 1000000
namespace K75
open PySem L2 Sm Ser
theorem loop_exit {τ : Tg} {g : G} (P : Nat → Envm → Store → Prop) (Out : RS → Prop) (hO : ∀ r, Out r → (∃ d S, r = .rt d S) ∨ ∃ x ρ S, r = .exc x ρ S) : ∀ (j : Nat) (xs : List D) (k : Nat) (ρ : Envm) (S : Store), j < xs.length → P k ρ S →
    (∀ i ρ S x, i < j → xs[i]? = some x → P (k + i) ρ S → ∃ ρ1 ρ2 S2, τ x ρ = some ρ1 ∧ g ρ1 S = .nx ρ2 S2 ∧ P (k + i + 1) ρ2 S2) →
    (∀ ρ S x, xs[j]? = some x → P (k + j) ρ S → ∃ ρ1, τ x ρ = some ρ1 ∧ Out (g ρ1 S)) → Out (loopL τ g xs ρ S)
  | _, [], _, _, _, h, _, _, _ => absurd h (Nat.not_lt_zero _)
  | 0, x :: xs, k, ρ, S, _, p, _, fin => by
    obtain ⟨ρ1, e1, o⟩ := fin ρ S x rfl p
    rcases hO _ o with ⟨d, S', e⟩ | ⟨y, ρ', S', e⟩
    · simp only [loopL, e1, e]; rw [e] at o; exact o
    · simp only [loopL, e1, e]; rw [e] at o; exact o
  | j + 1, x :: xs, k, ρ, S, hl, p, st, fin => by
    obtain ⟨ρ1, ρ2, S2, e1, e2, p2⟩ := st 0 ρ S x (Nat.succ_pos j) rfl p
    have ih := loop_exit P Out hO j xs (k + 1) ρ2 S2 (by simpa using hl) p2 (fun i ρ S y hi hy hp => by
      obtain ⟨a, b, c, q1, q2, q3⟩ := st (i + 1) ρ S y (by omega) (by simpa using hy) (by rw [show k + (i + 1) = k + 1 + i by omega]; exact hp)
      exact ⟨a, b, c, q1, q2, by rw [show k + 1 + i + 1 = k + (i + 1) + 1 by omega]; exact q3⟩) fun ρ S y hy hp => fin ρ S y (by simpa using hy) (by rw [show k + (j + 1) = k + 1 + j by omega]; exact hp)
    simp only [loopL, e1, e2]
    exact ih
/-- numbers of a row whose root is asked for -/
structure Rq (q : Ser.S) : Prop where
  b : ∀ i, (q i).natAbs ≤ 2 ^ 46
theorem Rq.t {q : Ser.S} (h : Rq q) {n : Nat} (hn : n < 16) : (T q n).natAbs ≤ 2 ^ (52 * n) := by
  cases n with
  | zero => rw [T0]; decide
  | succ n =>
    have := T_bd h.b (n + 1) (by omega) hn
    omega
theorem Rq.sz {q : Ser.S} (h : Rq q) {M : Nat} (hM : M ≤ 16) : Sz M (T q) := fun i hi => sz_of (h.t (by omega)) (by omega)
theorem Rq.sh {q : Ser.S} (h : Rq q) {M : Nat} (hM : M ≤ 16) : Sh M (T q) := fun i hi => sh_of (h.t (by omega)) (by omega)
def Ev (q : Ser.S) (M : Nat) : Prop := ∀ n, n + 1 < M → lft q (T q) (n + 1) % 2 = 0
abbrev rtSum : F D := eB dSum (aC (eL (lC [4] (tgN 4) (iR2 (aC (eC (.int 1)) (aC (eV 2) aN))) tAll (eO2 dMulA (eO2 dIx (eV 1) (eV 4)) (eO2 dIx (eV 1) (eO2 dSub (eV 2) (eV 4)))))) aN)
theorem rt_sum {S : Store} {M i : Nat} {q : Ser.S} {d : D} {x y : Option D} (h : Rq q) (hM : M ≤ 16) (hi : i + 1 < M) :
    rtSum [some d, some (.ptr S.length), some (.int (1 + (i : Int))), x, y] (S ++ [O.lst (LI (i + 1) (T q))]) = .ok (.int (inn (T q) (i + 1))) (S ++ [O.lst (LI (i + 1) (T q))]) := by
  refine u_B (as := [.lst ((List.range i).map fun j => D.int (T q (j + 1) * T q (i + 1 - 1 - j)))]) (u_aC (u_L ?_) v_aN) (by rw [sum_ints]; rfl)
  refine v_lCr (S1 := S ++ [O.lst (LI (i + 1) (T q))]) (v_Rm (m := 1) (n := i + 1) (i := 1) (j := 1 + (i : Int)) (u_aC rfl (u_aC (v_V rfl) v_aN)) rfl (by omega) (by decide) (by omega)) ?_
  rw [Nat.add_sub_cancel]
  refine comp_rng (fun j => .int (T q (j + 1) * T q (i - j))) 1 i (by omega) fun j hj => ⟨_, rfl, ?_⟩
  exact u_O2 (u_O2 (v_V rfl) (v_V rfl) (ix_LI (seq_new _ _) (i := j + 1) (by omega) (by omega))) (u_O2 (v_V rfl) (u_O2 (v_V rfl) (v_V rfl) rfl) (ix_LI (seq_new _ _) (i := i - j) (by omega) (by omega))) (mulA_int (h.sz (M := 16) (by decide) (j + 1) (by omega)) (h.sz (M := 16) (by decide) (i - j) (by omega)))
section
variable {S : Store} {M : Nat} {q : Ser.S} (hS : OkS S) (h0 : 0 < M) (hM : M ≤ 16) (h : Rq q)
/-- what stands in the room behind i steps -/
def rtP (S : Store) (M : Nat) (q : Ser.S) (i : Nat) (ρ : Envm) (S' : Store) : Prop := S' = S ++ [O.lst (LI (i + 1) (T q))] ∧ ∃ x y z, ρ = [some (.tup (LI M q)), some (.ptr S.length), x, y, z]
abbrev gA3 : G := gA 3 (eO2 dSub (eO2 dIx (eV 0) (eV 2)) rtSum)
abbrev gApp : G := gX (eM isTrk mApp (eV 1) (aC (eO2 dDiv (eV 3) (eC (.int 2))) aN))
abbrev tP : F Bool := tV (eO2 dEq (eO2 dBand (eV 3) (eC (.int 1))) (eC (.int 1)))
abbrev tO' : F Bool := tV (eO2 dEq (eO2 dMod (eB dInt (aC (eV 3) aN)) (eC (.int 2))) (eC (.int 1)))
theorem tP_ok {ρ : Envm} {S : Store} {t : Int} (h : ρ[3]? = some (some (.int t))) : tP ρ S = .ok (t % 2 == 1) S := by
  refine u_tV (u_O2 (u_O2 (v_V h) rfl (?_ : dBand S (.int t) (.int 1) = some (.int (t % 2)))) rfl rfl)
  show some (D.int (Builtin.bitAnd t 1)) = _
  rw [PyProof.Rows.bitAnd_m1]
theorem tO_ok {ρ : Envm} {S : Store} {t : Int} (h : ρ[3]? = some (some (.int t))) : tO' ρ S = .ok (t % 2 == 1) S :=
  u_tV (u_O2 (b := .int 1) (u_O2 (b := .int 2) (u_B (u_aC (v_V h) v_aN) rfl) rfl (mod_ok (by decide))) rfl rfl)
include h hM in
theorem rt_3 {i : Nat} {x y z : Option D} (hi : i + 1 < M) : gA3 [some (.tup (LI M q)), some (.ptr S.length), some (.int (1 + (i : Int))), y, z] (S ++ [O.lst (LI (i + 1) (T q))]) = .nx [some (.tup (LI M q)), some (.ptr S.length), some (.int (1 + (i : Int))), some (.int (lft q (T q) (i + 1))), z] (S ++ [O.lst (LI (i + 1) (T q))]) :=
  w_A (u_O2 (u_O2 (v_V rfl) (v_V rfl) (ix_LI (S := S ++ [O.lst (LI (i + 1) (T q))]) rfl (i := i + 1) (by omega) hi)) (rt_sum h hM hi) rfl)
theorem rt_app {i : Nat} {ρ : Envm} (hi : i + 1 < 16) (h1 : ρ[1]? = some (some (.ptr S.length))) (h3 : ρ[3]? = some (some (.int (lft q (T q) (i + 1))))) : gApp ρ (S ++ [O.lst (LI (i + 1) (T q))]) = .nx ρ (S ++ [O.lst (LI (i + 1 + 1) (T q))]) := by
  refine w_X (d := .non) (v_M (v_V h1) (trk_new _ _) (u_aC (u_O2 (d := .int (T q (i + 1))) (v_V h3) rfl ?_) v_aN) ?_)
  · rw [T_at]; exact div_ok (k := 2) (by decide) (by decide)
  · rw [app_new _ _ _ (by rw [LI_len]; omega), LI_snoc (i + 1)]
include h hM in
theorem rt_step (tst : F Bool) (hit : G) (ht : ∀ (ρ : Envm) (S : Store) (t : Int), ρ[3]? = some (some (.int t)) → tst ρ S = .ok (t % 2 == 1) S) (i : Nat) (ρ : Envm) (S' : Store) (hi : i + 1 < M) (hp : rtP S M q i ρ S') (he : lft q (T q) (i + 1) % 2 = 0) :
    ∃ ρ1 ρ2 S2, tgN 2 (.int (1 + (i : Int))) ρ = some ρ1 ∧ gSeq gA3 (gSeq (gI tst hit gNx) gApp) ρ1 S' = .nx ρ2 S2 ∧ rtP S M q (i + 1) ρ2 S2 := by
  obtain ⟨rfl, x, y, z, rfl⟩ := hp
  refine ⟨_, _, _, rfl, w_Sq (rt_3 (x := x) hM h hi) (w_Sq (w_Else (S1 := S ++ [O.lst (LI (i + 1) (T q))]) ?_ rfl) (rt_app (by omega) rfl rfl)), rfl, _, _, _, rfl⟩
  rw [ht _ _ _ rfl, he]; rfl
include h hM in
theorem rt_stop (tst : F Bool) (hit : G) (ht : ∀ (ρ : Envm) (S : Store) (t : Int), ρ[3]? = some (some (.int t)) → tst ρ S = .ok (t % 2 == 1) S) (Out : RS → Prop) (hO : ∀ r, Out r → (∃ d S, r = .rt d S) ∨ ∃ x ρ S, r = .exc x ρ S)
    (hh : ∀ ρ l, Out (hit ρ (S ++ [O.lst l]))) (i : Nat) (ρ : Envm) (S' : Store) (hi : i + 1 < M) (hp : rtP S M q i ρ S') (he : lft q (T q) (i + 1) % 2 ≠ 0) :
    ∃ ρ1, tgN 2 (.int (1 + (i : Int))) ρ = some ρ1 ∧ Out (gSeq gA3 (gSeq (gI tst hit gNx) gApp) ρ1 S') := by
  obtain ⟨rfl, x, y, z, rfl⟩ := hp
  refine ⟨_, rfl, ?_⟩
  have e1 : lft q (T q) (i + 1) % 2 = 1 := by omega
  have e : gI tst hit gNx [some (.tup (LI M q)), some (.ptr S.length), some (.int (1 + (i : Int))), some (.int (lft q (T q) (i + 1))), z] (S ++ [O.lst (LI (i + 1) (T q))]) = hit [some (.tup (LI M q)), some (.ptr S.length), some (.int (1 + (i : Int))), some (.int (lft q (T q) (i + 1))), z] (S ++ [O.lst (LI (i + 1) (T q))]) :=
    w_If (by rw [ht _ _ _ rfl, e1]; rfl) rfl
  have o := hh [some (.tup (LI M q)), some (.ptr S.length), some (.int (1 + (i : Int))), some (.int (lft q (T q) (i + 1))), z] (LI (i + 1) (T q))
  have e2 : gSeq gA3 (gSeq (gI tst hit gNx) gApp) ([some (.tup (LI M q)), some (.ptr S.length), x, y, z].set 2 (some (.int (1 + (i : Int))))) (S ++ [O.lst (LI (i + 1) (T q))]) = hit [some (.tup (LI M q)), some (.ptr S.length), some (.int (1 + (i : Int))), some (.int (lft q (T q) (i + 1))), z] (S ++ [O.lst (LI (i + 1) (T q))]) := by
    refine w_Sq (rt_3 (x := x) hM h hi) ?_
    unfold gSeq
    rw [e]
    rcases hO _ o with ⟨d, S', e3⟩ | ⟨y, ρ', S', e3⟩ <;> rw [e3]
  rw [e2]; exact o
include h hM h0 in
/-- the loop goes through, or it stops -/
theorem rt_loop (tst : F Bool) (hit : G) (ht : ∀ (ρ : Envm) (S : Store) (t : Int), ρ[3]? = some (some (.int t)) → tst ρ S = .ok (t % 2 == 1) S) :
    (Ev q M → ∃ x y z, loopL (tgN 2) (gSeq gA3 (gSeq (gI tst hit gNx) gApp)) (rngD 1 (M - 1)) [some (.tup (LI M q)), some (.ptr S.length), none, none, none] (S ++ [O.lst (LI 1 (T q))]) = .nx [some (.tup (LI M q)), some (.ptr S.length), x, y, z] (S ++ [O.lst (LI M (T q))])) ∧
    (¬ Ev q M → ∀ (Out : RS → Prop), (∀ r, Out r → (∃ d S, r = .rt d S) ∨ ∃ x ρ S, r = .exc x ρ S) → (∀ ρ l, Out (hit ρ (S ++ [O.lst l]))) → Out (loopL (tgN 2) (gSeq gA3 (gSeq (gI tst hit gNx) gApp)) (rngD 1 (M - 1)) [some (.tup (LI M q)), some (.ptr S.length), none, none, none] (S ++ [O.lst (LI 1 (T q))]))) := by
  refine ⟨fun ev => ?_, fun nev Out hO hh => ?_⟩
  · obtain ⟨ρ2, S2, e2, p⟩ := loop_rng (τ := tgN 2) (g := gSeq gA3 (gSeq (gI tst hit gNx) gApp)) (rtP S M q) 1 (M - 1) [some (.tup (LI M q)), some (.ptr S.length), none, none, none] (S ++ [O.lst (LI 1 (T q))]) ⟨rfl, _, _, _, rfl⟩ fun i ρ S' hi hp => rt_step hM h tst hit ht i ρ S' (by omega) hp (ev i (by omega))
    obtain ⟨rfl, x, y, z, rfl⟩ := p
    rw [show M - 1 + 1 = M by omega] at e2
    exact ⟨x, y, z, e2⟩
  · have : ∃ n, n + 1 < M ∧ lft q (T q) (n + 1) % 2 ≠ 0 ∧ ∀ i, i < n → lft q (T q) (i + 1) % 2 = 0 := by
      have key : ∀ N, (∀ i, i < N → i + 1 < M → lft q (T q) (i + 1) % 2 = 0) ∨ ∃ n, n + 1 < M ∧ lft q (T q) (n + 1) % 2 ≠ 0 ∧ ∀ i, i < n → lft q (T q) (i + 1) % 2 = 0 := by
        intro N
        induction N with
        | zero => exact .inl fun i hi => absurd hi (Nat.not_lt_zero i)
        | succ N ih =>
          rcases ih with ih | ih
          · by_cases hN : N + 1 < M
            · by_cases he : lft q (T q) (N + 1) % 2 = 0
              · refine .inl fun i hi hM => ?_
                by_cases hiN : i = N
                · subst hiN; exact he
                · exact ih i (by omega) hM
              · exact .inr ⟨N, hN, he, fun i hi => ih i hi (by omega)⟩
            · exact .inl fun i hi hM => ih i (by omega) hM
          · exact .inr ih
      rcases key M with k | k
      · exact absurd (fun n hn => k n (by omega) hn) nev
      · exact k
    obtain ⟨n, hn, hodd, hev⟩ := this
    refine loop_exit (rtP S M q) Out hO n (rngD 1 (M - 1)) 0 _ _ (by rw [rng_len]; omega) ⟨rfl, _, _, _, rfl⟩ (fun i ρ S' x hi hx hp => ?_) fun ρ S' x hx hp => ?_
    · obtain ⟨hi2, rfl⟩ := rng_get hx
      rw [Nat.zero_add] at hp ⊢
      exact rt_step hM h tst hit ht i ρ S' (by omega) hp (hev i hi)
    · obtain ⟨hi2, rfl⟩ := rng_get hx
      rw [Nat.zero_add] at hp
      exact rt_stop hM h tst hit ht Out hO hh n ρ S' hn hp hodd
end
theorem rt_eq {S : Store} {M : Nat} {q : Ser.S} (h0 : 0 < M) (h1 : q 0 = 1) : tV (eO2 dNe (eO2 dIx (eV 0) (eC (.int 0))) (eC (.int 1))) [some (.tup (LI M q)), none, none, none, none] S = .ok false S :=
  u_tV (u_O2 (u_O2 (v_V rfl) rfl (ix_LI (S := S) rfl (i := 0) rfl h0)) rfl (ne_int.trans (by rw [h1]; rfl)))
theorem rt_ne {S : Store} {M : Nat} {q : Ser.S} (h0 : 0 < M) (h1 : q 0 ≠ 1) : tV (eO2 dNe (eO2 dIx (eV 0) (eC (.int 0))) (eC (.int 1))) [some (.tup (LI M q)), none, none, none, none] S = .ok true S :=
  u_tV (u_O2 (u_O2 (v_V rfl) rfl (ix_LI (S := S) rfl (i := 0) rfl h0)) rfl (ne_int.trans (by
    have : (q 0 == 1) = false := by simpa using h1
    rw [this]; rfl)))
theorem LI1 (q : Ser.S) : LI 1 (T q) = [.int 1] := by rw [LI_cons, T0]; rfl
section
variable {S : Store} {M : Nat} {q : Ser.S} (hS : OkS S) (h0 : 0 < M) (hM : M ≤ 16) (h : Rq q)
include hS h0 hM h
theorem p_root_ok (h1 : q 0 = 1) (ev : Ev q M) : m_root_series [.tup (LI M q)] S = .ok (.tup (LI M (T q))) S := by
  obtain ⟨x, y, z, e⟩ := (rt_loop (S := S) h0 hM h tP (gRaise "Unfit") fun ρ S t h => tP_ok h).1 ev
  rw [LI1] at e
  refine m_rt [O.lst (LI M (T q))] hS (lo_tup _ _ _) (w_Sq (w_Else (S1 := S) ?_ rfl) (w_Sq (w_A (v_N (u_lD (u_aC rfl v_aN) (by show 1 ≤ 100000; decide)))) (w_Sq ((w_F (v_Rm (m := 1) (n := M) (u_aC rfl (u_aC (u_B (u_aC (v_V rfl) v_aN) (len_seq rfl)) v_aN)) rfl (by rw [LI_len]) (by decide) (by omega))).trans e) (w_R (u_B (u_aC (v_V rfl) v_aN) (tup_seq (seq_new _ _)))))))
  exact rt_eq h0 h1
theorem p_root_odd (h1 : q 0 = 1) (ev : ¬ Ev q M) : m_root_series [.tup (LI M q)] S = .exc ⟨"Unfit", []⟩ S := by
  obtain ⟨ρ, l, e⟩ := (rt_loop (S := S) h0 hM h tP (gRaise "Unfit") fun ρ S t h => tP_ok h).2 ev (fun r => ∃ ρ l, r = .exc ⟨"Unfit", []⟩ ρ (S ++ [O.lst l])) (fun r ⟨ρ, l, e⟩ => .inr ⟨_, _, _, e⟩) fun ρ l => ⟨ρ, l, rfl⟩
  rw [LI1] at e
  refine m_exc [O.lst l] hS (w_Sq (w_Else (S1 := S) ?_ rfl) (w_Sq (w_A (v_N (u_lD (u_aC rfl v_aN) (by show 1 ≤ 100000; decide)))) (w_SeqX ((w_F (v_Rm (m := 1) (n := M) (u_aC rfl (u_aC (u_B (u_aC (v_V rfl) v_aN) (len_seq rfl)) v_aN)) rfl (by rw [LI_len]) (by decide) (by omega))).trans e))))
  exact rt_eq h0 h1
theorem p_root_not (h1 : q 0 ≠ 1) : m_root_series [.tup (LI M q)] S = .exc ⟨"Unfit", []⟩ S := by
  refine m_exc (ρ := [some (.tup (LI M q)), none, none, none, none]) [] hS (w_SeqX ?_)
  rw [List.append_nil]
  refine w_If (S1 := S) ?_ rfl
  exact rt_ne h0 h1
theorem p_oroot_ok (h1 : q 0 = 1) (ev : Ev q M) : m_law_own_root [.tup (LI M q)] S = .ok (.tup (LI M (T q))) S := by
  obtain ⟨x, y, z, e⟩ := (rt_loop (S := S) h0 hM h tO' (gR (eC .non)) fun ρ S t h => tO_ok h).1 ev
  rw [LI1] at e
  refine m_rt [O.lst (LI M (T q))] hS (lo_tup _ _ _) (w_Sq (w_Else (S1 := S) ?_ rfl) (w_Sq (w_A (v_N (u_lD (u_aC rfl v_aN) (by show 1 ≤ 100000; decide)))) (w_Sq ((w_F (v_Rm (m := 1) (n := M) (u_aC rfl (u_aC (u_B (u_aC (v_V rfl) v_aN) (len_seq rfl)) v_aN)) rfl (by rw [LI_len]) (by decide) (by omega))).trans e) (w_R (u_B (u_aC (v_V rfl) v_aN) (tup_seq (seq_new _ _)))))))
  exact rt_eq h0 h1
theorem p_oroot_odd (h1 : q 0 = 1) (ev : ¬ Ev q M) : m_law_own_root [.tup (LI M q)] S = .ok .non S := by
  obtain ⟨l, e⟩ := (rt_loop (S := S) h0 hM h tO' (gR (eC .non)) fun ρ S t h => tO_ok h).2 ev (fun r => ∃ l, r = .rt .non (S ++ [O.lst l])) (fun r ⟨l, e⟩ => .inl ⟨_, _, e⟩) fun ρ l => ⟨l, rfl⟩
  rw [LI1] at e
  refine m_rt [O.lst l] hS rfl (w_Sq (w_Else (S1 := S) ?_ rfl) (w_Sq (w_A (v_N (u_lD (u_aC rfl v_aN) (by show 1 ≤ 100000; decide)))) (w_SeqR ((w_F (v_Rm (m := 1) (n := M) (u_aC rfl (u_aC (u_B (u_aC (v_V rfl) v_aN) (len_seq rfl)) v_aN)) rfl (by rw [LI_len]) (by decide) (by omega))).trans e))))
  exact rt_eq h0 h1
theorem p_oroot_not (h1 : q 0 ≠ 1) : m_law_own_root [.tup (LI M q)] S = .ok .non S := by
  refine m_rt0 hS rfl (w_SeqR ?_)
  refine w_If (S1 := S) ?_ rfl
  exact rt_ne h0 h1
/-- asked for the root: the own root, or the error as it is told -/
theorem p_ask0 : ∃ r : D, m_law_own_root [.tup (LI M q)] S = .ok r S ∧ (r = .non ∧ m_law_asked [.int 0, .tup (LI M q), .int 0] S = .ok (dueE bE) S ∨ r = .tup (LI M (T q)) ∧ m_law_asked [.int 0, .tup (LI M q), .int 0] S = .ok r S) := by
  have no : m_root_series [.tup (LI M q)] S = .exc ⟨"Unfit", []⟩ S → m_law_asked [.int 0, .tup (LI M q), .int 0] S = .ok (dueE bE) S := fun hx => by
    refine m_rt0 hS (lo_due _) ?_
    have e : gSeq (gI (tV (eO2 dEq (eV 0) (eC (.int 0)))) (gR (eF 1 m_root_series (aC (eV 1) aN))) gNx) (gR (eIf (tV (eO2 dEq (eV 0) (eC (.int 1)))) (eF 1 m_turned_about (aC (eV 1) aN)) (eF 2 m_turned_item (aC (eV 1) (aC (eV 2) aN))))) [some (.int 0), some (.tup (LI M q)), some (.int 0), none] S = .exc ⟨"Unfit", []⟩ [some (.int 0), some (.tup (LI M q)), some (.int 0), none] S :=
      w_SeqX (w_If (S1 := S) (u_tV (u_O2 (v_V rfl) rfl rfl)) (w_RX (u_Fr (u_aC (v_V rfl) v_aN) rfl hx)))
    show gTryE "Unfit" 3 (dueE bE) _ [some (.int 0), some (.tup (LI M q)), some (.int 0), none] S = _
    unfold gTryE
    rw [e]; rfl
  by_cases h1 : q 0 = 1
  · by_cases ev : Ev q M
    · refine ⟨_, p_oroot_ok hS h0 hM h h1 ev, .inr ⟨rfl, m_rt0 hS (lo_tup _ _ _) ?_⟩⟩
      have e : gSeq (gI (tV (eO2 dEq (eV 0) (eC (.int 0)))) (gR (eF 1 m_root_series (aC (eV 1) aN))) gNx) (gR (eIf (tV (eO2 dEq (eV 0) (eC (.int 1)))) (eF 1 m_turned_about (aC (eV 1) aN)) (eF 2 m_turned_item (aC (eV 1) (aC (eV 2) aN))))) [some (.int 0), some (.tup (LI M q)), some (.int 0), none] S = .rt (.tup (LI M (T q))) S :=
        w_SeqR (w_If (S1 := S) (u_tV (u_O2 (v_V rfl) rfl rfl)) (w_R (u_Fr (u_aC (v_V rfl) v_aN) rfl (p_root_ok hS h0 hM h h1 ev))))
      show gTryE "Unfit" 3 (dueE bE) _ [some (.int 0), some (.tup (LI M q)), some (.int 0), none] S = _
      unfold gTryE
      rw [e]
    · exact ⟨_, p_oroot_odd hS h0 hM h h1 ev, .inl ⟨rfl, no (p_root_odd hS h0 hM h h1 ev)⟩⟩
  · exact ⟨_, p_oroot_not hS h0 hM h h1, .inl ⟨rfl, no (p_root_not hS h0 hM h h1)⟩⟩
end
end K75


set_option Elab.async false
set_option linter.all false
set_option maxRecDepth 100000
set_option maxHeartbeats 1000000
namespace K75
open PySem L2 Sm Ser
/-- a comprehension that draws -/
theorem comp_dr {τ : Tg} {fe : F D} {ρ : Envm} {B : Nat} (h : ∀ x c k m, BOk c k m → ∃ ρ1 v c' k' m', τ x ρ = some ρ1 ∧ fe ρ1 (Bg c k m []) = .ok (.int v) (Bg c' k' m' []) ∧ v.natAbs ≤ B ∧ BOk c' k' m') :
    ∀ (xs : List D), xs.length ≤ 100000 → ∀ c k m, BOk c k m → ∃ (vs : List Int) (c' : List Int) (k' m' : Int), vs.length = xs.length ∧ (∀ v, v ∈ vs → v.natAbs ≤ B) ∧ BOk c' k' m' ∧ compL τ tAll fe xs ρ (Bg c k m []) = .ok (vs.map .int) (Bg c' k' m' [])
  | [], _, c, k, m, ok => ⟨[], c, k, m, rfl, fun _ h => (List.not_mem_nil h).elim, ok, rfl⟩
  | x :: xs, hl, c, k, m, ok => by
    obtain ⟨ρ1, v, c1, k1, m1, e1, e2, hv, ok1⟩ := h x c k m ok
    obtain ⟨vs, c2, k2, m2, l, hb, ok2, e3⟩ := comp_dr h xs (by simp at hl; omega) c1 k1 m1 ok1
    refine ⟨v :: vs, c2, k2, m2, by simp [l], fun y hy => ?_, ok2, ?_⟩
    · rcases List.mem_cons.mp hy with rfl | hy
      · exact hv
      · exact hb y hy
    · have hl2 : (vs.map D.int).length ≤ 100000 := by simp at hl ⊢; omega
      simp only [compL, e1, tAll, noX, bind_ok, if_true, e2, e3, if_pos hl2, List.map_cons]
abbrev drawRow (ft ft2 : F D) : F D := eB dTup (aC (eL (lO2 lAdd (eL (lD (aC (eC (.int 1)) aN))) (eL (lC [12] (tgN 12) (iR1 (aC (eO2 dSub (eV 1) (eC (.int 1))) aN)) tAll (eO2 dSub (eF 2 m_law_draw (aC (eV 0) (aC (eO2 dAdd (eO2 dMulA (eC (.int 2)) ft) (eC (.int 1))) aN))) ft2))))) aN)
/-- numbers of a root -/
structure Rt (r : Ser.S) : Prop where
  z : r 0 = 1
  b : ∀ i, (r i).natAbs ≤ 2 ^ 20
theorem p_drawRow {ft ft2 : F D} {top : Nat} {x : D} {t : Envm} {c : List Int} {k m : Int} {M : Nat} (ok : BOk c k m) (h0 : 1 ≤ M) (hM : M ≤ 16) (ht : top ≤ 10 ^ 6)
    (hf : ∀ ρ S, ρ[2]? = some (some x) → ft ρ S = .ok (.int (top : Int)) S) (hf2 : ∀ ρ S, ρ[2]? = some (some x) → ft2 ρ S = .ok (.int (top : Int)) S) :
    ∃ (r : Ser.S) (c' : List Int) (k' m' : Int), Rt r ∧ BOk c' k' m' ∧ drawRow ft ft2 (some (.ptr 1) :: some (.int (M : Int)) :: some x :: t) (Bg c k m []) = .ok (.tup (LI M r)) (Bg c' k' m' []) := by
  obtain ⟨vs, c', k', m', l, hb, ok', e⟩ := comp_dr (τ := tgN 12) (fe := eO2 dSub (eF 2 m_law_draw (aC (eV 0) (aC (eO2 dAdd (eO2 dMulA (eC (.int 2)) ft) (eC (.int 1))) aN))) ft2) (ρ := some (.ptr 1) :: some (.int (M : Int)) :: some x :: t.set 9 none) (B := top) (fun y c k m ok => by
    obtain ⟨v, c4, k4, m4, hv, ok4, e4⟩ := p_draw (more := []) (n := 2 * top + 1) ok OkM.nil (by omega) (Nat.le_trans (by omega : 2 * top + 1 ≤ 2000001) (by decide))
    have cast : ((2 * top + 1 : Nat) : Int) = 2 * (top : Int) + 1 := by omega
    rw [cast] at e4
    exact ⟨_, (v : Int) - (top : Int), c4, k4, m4, rfl, v_O2 (v_Fr (u_aC (v_V rfl) (u_aC (u_O2 (u_O2 rfl (hf _ _ rfl) (mulA_int (by decide) (sz_of (e := 20) (by simp; omega) (by decide)))) rfl rfl) v_aN)) rfl e4) (hf2 _ _ rfl) rfl, by omega, ok4⟩) (rngD 0 (M - 1)) (by rw [rng_len]; omega) c k m ok
  rw [rng_len] at l
  refine ⟨at_ (1 :: vs), c', k', m', ⟨rfl, fun i => ?_⟩, ok', ?_⟩
  · show ((1 :: vs).getD i 0).natAbs ≤ _
    rw [List.getD_eq_getElem?_getD]
    cases e : (1 :: vs)[i]? with
    | none => exact Nat.zero_le _
    | some y =>
      rcases List.mem_cons.mp (List.mem_of_getElem? e) with rfl | hy
      · show 1 ≤ 2 ^ 20; decide
      · exact Nat.le_trans (hb y hy) (Nat.le_trans ht (by decide))
  · have hlen : (1 :: vs).length = M := by simp [l]; omega
    rw [← hlen, LI_at, hlen]
    refine v_B (S1 := Bg c' k' m' []) (v_aC (v_L (v_lO2 (S1 := Bg c k m []) (u_L (u_lD (u_aC rfl v_aN) (by show 1 ≤ 100000; decide))) (v_L (v_lCr (S1 := Bg c k m []) (v_Rn (n := M - 1) (u_aC (u_O2 (v_V rfl) rfl rfl) v_aN) (by omega) (by omega)) e)) (?_ : lAdd _ _ _ = some ([D.int 1] ++ vs.map .int)))) v_aN) (tup_seq rfl)
    show (if _ then _ else _) = _
    rw [if_pos (by simp; omega)]
/-- the first 16 of a series -/
def cut16 (f : Ser.S) : Ser.S := fun i => if i < 16 then f i else 0
def pert (q : Ser.S) (at' : Nat) (more : Int) : Ser.S := fun i => if i = at' then q i + more else q i
theorem LI_pert {M : Nat} {q : Ser.S} {a : Nat} {x : Int} (h : a < M) : ((LI M q).take a ++ [.int (q a + x)]) ++ (LI M q).drop (a + 1) = LI M (pert q a x) := by
  apply List.ext_getElem
  · simp [LI_len]; omega
  · intro i h1 h2
    simp only [LI_len] at h2
    simp only [LI, List.getElem_append, List.getElem_map, List.getElem_range, List.getElem_take, List.getElem_drop, List.length_append, List.length_take, List.length_map, List.length_range, List.length_cons, List.length_nil, List.getElem_singleton, pert]
    have hm : min a M = a := by omega
    simp only [hm]
    split
    · split
      · rw [if_neg (by omega)]
      · rw [if_pos (by omega)]; congr 2; congr 1; omega
    · rw [if_neg (by omega)]; congr 2; omega
theorem Rt.sq {r : Ser.S} (h : Rt r) : ∀ i, (cut16 (mul r r) i).natAbs ≤ 2 ^ 45 := fun i => by
  unfold cut16
  split
  · have := (MJ.mul (f := r) (g := r) (a := 20) (b := 20) (k := 0) (fun i _ => by rw [Nat.zero_mul]; exact h.b i) (fun i _ => by rw [Nat.zero_mul]; exact h.b i)) i (by omega)
    rwa [Nat.zero_mul] at this
  · exact Nat.zero_le _
theorem Rt.rq {r : Ser.S} (h : Rt r) (a : Nat) {x : Int} (hx : x.natAbs ≤ 15) : Rq (pert (cut16 (mul r r)) a x) := ⟨fun i => by
  have := h.sq i
  unfold pert
  split
  · have : (2 : Nat) ^ 46 = 2 ^ 45 + 2 ^ 45 := by decide
    have : 15 ≤ 2 ^ 45 := by decide
    omega
  · exact Nat.le_trans this (by decide)⟩
theorem Rt.rq0 {r : Ser.S} (h : Rt r) : Rq (cut16 (mul r r)) := ⟨fun i => Nat.le_trans (h.sq i) (by decide)⟩
theorem Rt.T {r : Ser.S} (h : Rt r) {M : Nat} (hM : M ≤ 16) : ∀ n, n < M → Ser.T (cut16 (mul r r)) n = r n := fun n hn =>
  (T_sq (M := M) h.z (fun i hi => by unfold cut16; rw [if_pos (by omega)]) n hn).1
theorem Rt.ev {r : Ser.S} (h : Rt r) {M : Nat} (hM : M ≤ 16) : Ev (cut16 (mul r r)) M := fun n hn => by
  have := (T_sq (q := cut16 (mul r r)) (M := M) h.z (fun i hi => by unfold cut16; rw [if_pos (by omega)]) (n + 1) hn).2 (by omega)
  rw [this]; omega
theorem Rt.one {r : Ser.S} (h : Rt r) : cut16 (mul r r) 0 = 1 := by
  show r 0 * r 0 = 1
  rw [h.z]; rfl
theorem LI_cut {M : Nat} (hM : M ≤ 16) (f : Ser.S) : LI M (cut16 f) = LI M f := LI_congr fun i hi => by unfold cut16; rw [if_pos (by omega)]
section
variable {S : Store} {M : Nat} {r : Ser.S} (hS : OkS S) (h0 : 0 < M) (hM : M ≤ 16) (h : Rt r)
include hM h
theorem Rt.sz : Sz M r := Sz_of (a := 20) (k := 0) (fun i _ => by rw [Nat.zero_mul]; exact h.b i) (by omega) (by decide)
theorem Rt.sh : Sh M r := Sh_of (a := 20) (k := 0) (fun i _ => by rw [Nat.zero_mul]; exact h.b i) (by omega) (by omega)
theorem Rt.shq : Sh M (mul r r) := fun i hi => by
  have := h.sq i
  unfold cut16 at this
  rw [if_pos (by omega)] at this
  exact sh_of this (by omega)
include hS h0
theorem p_root_sq : m_root_series [.tup (LI M (mul r r))] S = .ok (.tup (LI M r)) S := by
  have := p_root_ok (S := S) (M := M) hS h0 hM h.rq0 h.one (h.ev hM)
  rw [LI_cut hM, LI_congr (h.T hM)] at this
  exact this
theorem p_sq : m_series_product [.tup (LI M r), .tup (LI M r)] S = .ok (.tup (LI M (mul r r))) S := p_prod hS (by omega) (h.sz hM) (h.sz hM)
theorem p_lsq : m_law_product [.tup (LI M r), .tup (LI M r)] S = .ok (.lst (LI M (mul r r))) S := p_lprod hS rfl rfl (by omega) (h.sz hM) (h.sz hM)
theorem p_pw2 : m_series_power [.tup (LI M r), .int 2] S = .ok (.tup (LI M (mul r r))) S := by
  have e : pw r 2 = mul r r := by show mul (mul one r) r = _; rw [one_mul]
  have := p_power (S := S) (k := 2) (f := r) hS h0 (by omega) (by decide) (h.sz hM) (fun j hj => by
    rcases (by omega : j = 0 ∨ j = 1) with rfl | rfl
    · intro i hi; show (one i).natAbs.log2 < _; unfold one; split <;> decide
    · show Sz M (mul one r); rw [one_mul]; exact h.sz hM)
  rw [e] at this
  exact this
end
end K75


set_option Elab.async false
set_option linter.all false
set_option maxRecDepth 100000
set_option maxHeartbeats 1000000
namespace K75
open PySem L2 Sm Ser
abbrev someE : F D := eO2 dAdd (eO2 dAdd (eSl (eV 4) oN (oS (eV 7))) (eT (aC (eO2 dAdd (eO2 dIx (eV 4) (eV 7)) (eV 8)) aN))) (eSl (eV 4) (oS (eO2 dAdd (eV 7) (eC (.int 1)))) oN)
theorem some_ok {ρ : Envm} {S : Store} {M : Nat} {q : Ser.S} {a : Nat} {x : Int} (hM : M ≤ 16) (ha : a < M) (h4 : ρ[4]? = some (some (.tup (LI M q)))) (h7 : ρ[7]? = some (some (.int (a : Int)))) (h8 : ρ[8]? = some (some (.int x))) : someE ρ S = .ok (.tup (LI M (pert q a x))) S := by
  have e1 : eSl (eV 4) oN (oS (eV 7)) ρ S = .ok (.tup ((LI M q).take a)) S := u_to (v_V h4) (v_V h7) rfl (by rw [LI_len]; omega)
  have e2 : eSl (eV 4) (oS (eO2 dAdd (eV 7) (eC (.int 1)))) oN ρ S = .ok (.tup ((LI M q).drop (a + 1))) S := u_from (v_V h4) (u_O2 (v_V h7) rfl rfl) (by omega) (by rw [LI_len]; omega)
  have e3 : eT (aC (eO2 dAdd (eO2 dIx (eV 4) (eV 7)) (eV 8)) aN) ρ S = .ok (.tup [.int (q a + x)]) S := u_T (u_aC (u_O2 (u_O2 (v_V h4) (v_V h7) (ix_LI (S := S) rfl (i := a) rfl ha)) (v_V h8) rfl) v_aN) (by show 1 ≤ 100000; decide)
  refine u_add (u_add e1 e3 ?_ rfl) e2 ?_ (LI_pert ha)
  · simp [LI_len]; omega
  · simp [LI_len]; omega
abbrev gAsk : G := gSeq (gA 9 someE) (gSeq (gA 10 (eF 1 m_law_own_root (aC (eV 9) aN))) (gI (tNo (tV (eF 2 m_law_same (aC (eF 3 m_law_asked (aC (eC (.int 0)) (aC (eV 9) (aC (eC (.int 0)) aN)))) (aC (eIf (tV (eO2 dIsN (eV 10) (eC .non))) (eV 6) (eV 10)) aN))))) (gR (eC (.bl false))) gNx))
theorem ask_ok {S : Store} (hS : OkS S) {M : Nat} {q : Ser.S} {a : Nat} {x : Int} (h0 : 0 < M) (hM : M ≤ 16) (ha : a < M) (hq : Rq (pert (cut16 q) a x)) {x0 x1 x2 x3 x5 x9 x10 x11 x12 : Option D} :
    ∃ y9 y10, gAsk [x0, x1, x2, x3, some (.tup (LI M q)), x5, some (dueE bE), some (.int (a : Int)), some (.int x), x9, x10, x11, x12] S = .nx [x0, x1, x2, x3, some (.tup (LI M q)), x5, some (dueE bE), some (.int (a : Int)), some (.int x), y9, y10, x11, x12] S := by
  have e1 : LI M q = LI M (cut16 q) := (LI_cut hM q).symm
  rw [e1]
  obtain ⟨r, e2, e3⟩ := p_ask0 hS h0 hM hq
  refine ⟨_, some r, w_Sq (w_A (some_ok hM ha rfl rfl rfl)) (w_Sq (w_A (u_Fr (u_aC (v_V rfl) v_aN) rfl e2)) (w_ok ?_))⟩
  rcases e3 with ⟨rfl, e3⟩ | ⟨rfl, e3⟩
  · obtain ⟨nx, hn⟩ := nc_due 6
    exact u_Fr (u_aC (u_Fr (u_aC rfl (u_aC (v_V rfl) (u_aC rfl v_aN))) rfl e3) (u_aC (v_IfT (u_tV (u_O2 (v_V rfl) rfl rfl)) (v_V rfl)) v_aN)) rfl (p_same hS hn (by decide) (.inr (.inr ⟨_, rfl⟩)))
  · exact u_Fr (u_aC (u_Fr (u_aC rfl (u_aC (v_V rfl) (u_aC rfl v_aN))) rfl e3) (u_aC (v_IfF (S1 := S) (u_tV (u_O2 (v_V rfl) rfl rfl)) (v_V rfl)) v_aN)) rfl (same_row hS (by omega) (fun _ _ => rfl) (hq.sh hM))
theorem pow106 (ρ : Envm) (S : Store) : eO2 dPow (eC (.int 10)) (eC (.int 6)) ρ S = .ok (.int ((1000000 : Nat) : Int)) S := u_O2 rfl rfl rfl
def atsE : F (List D) := lD (aC (eT (aC (eO2 dSub (eV 1) (eC (.int 1))) (aC (eC (.int 1)) aN))) (aC (eT (aC (eO2 dSub (eV 1) (eC (.int 1))) (aC (eO1 dNeg (eC (.int 1))) aN))) (aC (eT (aC (eF 2 m_law_draw (aC (eV 0) (aC (eV 1) aN))) (aC (eC (.int 1)) aN))) (aC (eT (aC (eF 2 m_law_draw (aC (eV 0) (aC (eV 1) aN))) (aC (eC (.int 2)) aN))) (aC (eT (aC (eC (.int 0)) (aC (eO1 dNeg (eC (.int 1))) aN))) (aC (eT (aC (eF 2 m_law_draw (aC (eV 0) (aC (eV 1) aN))) (aC (eO1 dNeg (eC (.int 2))) aN))) (aC (eT (aC (eC (.int 0)) (aC (eF 2 m_law_pick (aC (eV 0) (aC (eL (lD (aC (eC (.int 3)) (aC (eO1 dNeg (eC (.int 2))) (aC (eC (.int 8)) (aC (eC (.int 15)) aN)))))) aN))) aN))) (aC (eT (aC (eO2 dSub (eV 1) (eC (.int 1))) (aC (eC (.int 2)) aN))) aN))))))))
def atD (L : List (Nat × Int)) : List D := L.map fun p => .tup [.int (p.1 : Int), .int p.2]
theorem two_t {ρ : Envm} {S S1 S2 : Store} {fa fb : F D} {a b : D} (h1 : fa ρ S = .ok a S1) (h2 : fb ρ S1 = .ok b S2) : eT (aC fa (aC fb aN)) ρ S = .ok (.tup [a, b]) S2 := v_T (v_aC h1 (v_aC h2 v_aN)) (by show 2 ≤ 100000; decide)
theorem p_ats {ρ : Envm} {c : List Int} {k m : Int} {M : Nat} (ok3 : BOk c k m) (h0 : 0 < M) (hM : M ≤ 16) (r0 : ρ[0]? = some (some (.ptr 1))) (r1 : ρ[1]? = some (some (.int (M : Int)))) :
    ∃ (L : List (Nat × Int)) (c' : List Int) (k' m' : Int), (∀ p, p ∈ L → p.1 < M ∧ p.2.natAbs ≤ 15) ∧ BOk c' k' m' ∧ atsE ρ (Bg c k m []) = .ok (atD L) (Bg c' k' m' []) := by
  obtain ⟨d4, c4, k4, m4, h4, ok4, e4⟩ := p_draw (more := []) (n := M) ok3 OkM.nil h0 (by omega)
  obtain ⟨d5, c5, k5, m5, h5, ok5, e5⟩ := p_draw (more := []) (n := M) ok4 OkM.nil h0 (by omega)
  obtain ⟨d6, c6, k6, m6, h6, ok6, e6⟩ := p_draw (more := []) (n := M) ok5 OkM.nil h0 (by omega)
  obtain ⟨y, c7, k7, m7, hy0, ok7, e7⟩ := p_pick (more := []) (xs := [3, -2, 8, 15]) ok6 OkM.nil (by simp) (by simp)
  have hy : y.natAbs ≤ 15 := by
    simp at hy0
    rcases hy0 with rfl | rfl | rfl | rfl <;> decide
  obtain ⟨l, hl1, hl2⟩ : ∃ l : Nat, l = M - 1 ∧ ((M : Int) - 1) = (l : Int) := ⟨M - 1, rfl, by omega⟩
  have hl : l < M := by omega
  have n1 : (1 : Int).natAbs ≤ 15 := by decide
  have n2 : (2 : Int).natAbs ≤ 15 := by decide
  have n3 : (-1 : Int).natAbs ≤ 15 := by decide
  have n4 : (-2 : Int).natAbs ≤ 15 := by decide
  refine ⟨[(l, 1), (l, -1), (d4, 1), (d5, 2), (0, -1), (d6, -2), (0, y), (l, 2)], c7, k7, m7, ?_, ok7, ?_⟩
  · intro p hp
    simp only [List.mem_cons, List.not_mem_nil, or_false] at hp
    rcases hp with rfl | rfl | rfl | rfl | rfl | rfl | rfl | rfl
    · exact ⟨hl, n1⟩
    · exact ⟨hl, n3⟩
    · exact ⟨h4, n1⟩
    · exact ⟨h5, n2⟩
    · exact ⟨h0, n3⟩
    · exact ⟨h6, n4⟩
    · exact ⟨h0, hy⟩
    · exact ⟨hl, n2⟩
  · have sub : ∀ (S : Store), eO2 dSub (eV 1) (eC (.int 1)) ρ S = .ok (.int (l : Int)) S := fun S => u_O2 (v_V r1) rfl (by rw [← hl2]; rfl)
    have cc : ∀ (d : D) (S : Store), eC d ρ S = .ok d S := fun _ _ => rfl
    have ng : ∀ (i : Int) (S : Store), eO1 dNeg (eC (.int i)) ρ S = .ok (.int (-i)) S := fun _ _ => u_O1 rfl rfl
    have d4' : eF 2 m_law_draw (aC (eV 0) (aC (eV 1) aN)) ρ (Bg c k m []) = .ok (.int (d4 : Int)) (Bg c4 k4 m4 []) := v_Fr (u_aC (v_V r0) (u_aC (v_V r1) v_aN)) rfl e4
    have d5' : eF 2 m_law_draw (aC (eV 0) (aC (eV 1) aN)) ρ (Bg c4 k4 m4 []) = .ok (.int (d5 : Int)) (Bg c5 k5 m5 []) := v_Fr (u_aC (v_V r0) (u_aC (v_V r1) v_aN)) rfl e5
    have d6' : eF 2 m_law_draw (aC (eV 0) (aC (eV 1) aN)) ρ (Bg c5 k5 m5 []) = .ok (.int (d6 : Int)) (Bg c6 k6 m6 []) := v_Fr (u_aC (v_V r0) (u_aC (v_V r1) v_aN)) rfl e6
    have d7' : eF 2 m_law_pick (aC (eV 0) (aC (eL (lD (aC (eC (.int 3)) (aC (eO1 dNeg (eC (.int 2))) (aC (eC (.int 8)) (aC (eC (.int 15)) aN)))))) aN)) ρ (Bg c6 k6 m6 []) = .ok (.int y) (Bg c7 k7 m7 []) := v_Fr (u_aC (v_V r0) (u_aC (u_L (u_lD (u_aC (cc _ _) (u_aC (ng _ _) (u_aC (cc _ _) (u_aC (cc _ _) v_aN)))) (by show 4 ≤ 100000; decide))) v_aN)) rfl e7
    exact v_lD (v_aC (two_t (sub _) (cc _ _)) (v_aC (two_t (sub _) (ng _ _)) (v_aC (two_t d4' (cc _ _)) (v_aC (two_t d5' (cc _ _)) (v_aC (two_t (cc _ _) (ng _ _)) (v_aC (two_t d6' (ng _ _)) (v_aC (two_t (cc _ _) d7') (v_aC (two_t (sub _) (cc _ _)) v_aN)))))))) (by show 8 ≤ 100000; decide)
theorem p_asks {S : Store} (hS : OkS S) {M : Nat} {r : Ser.S} (h0 : 0 < M) (hM : M ≤ 16) (R : Rt r) (L : List (Nat × Int)) (hL : ∀ p, p ∈ L → p.1 < M ∧ p.2.natAbs ≤ 15) {x0 x1 x2 x3 x5 : Option D} :
    ∃ x7 x8 x9 x10 : Option D, loopL (tgT ((tgN 7) :: (tgN 8) :: [])) gAsk (atD L) [x0, x1, x2, x3, some (.tup (LI M (mul r r))), x5, some (dueE bE), none, none, none, none, none, none] S = .nx [x0, x1, x2, x3, some (.tup (LI M (mul r r))), x5, some (dueE bE), x7, x8, x9, x10, none, none] S := by
  obtain ⟨ρ9, S9, e9, q9⟩ := loop_inv (τ := tgT ((tgN 7) :: (tgN 8) :: [])) (g := gAsk)
    (fun i ρ S' => S' = S ∧ ∃ x7 x8 x9 x10 : Option D, ρ = [x0, x1, x2, x3, some (.tup (LI M (mul r r))), x5, some (dueE bE), x7, x8, x9, x10, none, none]) (atD L) 0
    [x0, x1, x2, x3, some (.tup (LI M (mul r r))), x5, some (dueE bE), none, none, none, none, none, none] S ⟨rfl, _, _, _, _, rfl⟩ fun i ρ S' z hz hp => by
    obtain ⟨rfl, x7, x8, x9, x10, rfl⟩ := hp
    unfold atD at hz
    rw [List.getElem?_map] at hz
    obtain ⟨p, hp, rfl⟩ := Option.map_eq_some_iff.mp hz
    obtain ⟨ha, hb⟩ := hL p (List.mem_of_getElem? hp)
    obtain ⟨y9, y10, e⟩ := ask_ok (S := S') hS (q := mul r r) h0 hM ha (R.rq p.1 hb) (x0 := x0) (x1 := x1) (x2 := x2) (x3 := x3) (x5 := x5) (x9 := x9) (x10 := x10) (x11 := none) (x12 := none)
    exact ⟨_, _, _, rfl, e, rfl, _, _, _, _, rfl⟩
  obtain ⟨rfl, x7, x8, x9, x10, rfl⟩ := q9
  exact ⟨x7, x8, x9, x10, e9⟩
theorem p_roots {c : List Int} {k m : Int} (ok : BOk c k m) : Good (m_law_are_roots_right [.ptr 1] (Bg c k m [])) := by
  obtain ⟨v, c1, k1, m1, hv, ok1, e1⟩ := p_draw (more := []) (n := 16) ok OkM.nil (by decide) (by decide)
  obtain ⟨top, c2, k2, m2, hx, ok2, e2⟩ := p_pick (more := []) (xs := [2, 9, 200, 200]) ok1 OkM.nil (by simp) (by simp)
  obtain ⟨t, rfl, ht⟩ : ∃ t : Nat, top = (t : Int) ∧ t ≤ 10 ^ 6 := by
    simp at hx
    rcases hx with rfl | rfl | rfl
    · exact ⟨2, rfl, by decide⟩
    · exact ⟨9, rfl, by decide⟩
    · exact ⟨200, rfl, by decide⟩
  obtain ⟨M, hM1, hM2⟩ : ∃ M : Nat, M = v + 1 ∧ (1 + (v : Int)) = (M : Int) := ⟨v + 1, rfl, by omega⟩
  have h0 : 0 < M := by omega
  have hM : M ≤ 16 := by omega
  obtain ⟨r, c3, k3, m3, R, ok3, e3⟩ := p_drawRow (ft := eV 2) (ft2 := eV 2) (top := t) (x := .int (t : Int)) (t := List.replicate 10 none) (M := M) ok2 (by omega) hM ht (fun ρ S h => v_V h) (fun ρ S h => v_V h)
  obtain ⟨L, c7, k7, m7, hL, ok7, e7⟩ := p_ats (ρ := [some (.ptr 1), some (.int (M : Int)), some (.int (t : Int)), some (.tup (LI M r)), some (.tup (LI M (mul r r))), some (.tup (LI M r)), some (dueE bE), none, none, none, none, none, none]) ok3 h0 hM rfl rfl
  obtain ⟨x7, x8, x9, x10, e9⟩ := p_asks (S := Bg c7 k7 m7 []) okB h0 hM R L hL (x0 := some (.ptr 1)) (x1 := some (.int (M : Int))) (x2 := some (.int (t : Int))) (x3 := some (.tup (LI M r))) (x5 := some (.tup (LI M r)))
  obtain ⟨r', c8, k8, m8, R', ok8, e8⟩ := p_drawRow (ft := eO2 dPow (eC (.int 10)) (eC (.int 6))) (ft2 := eO2 dPow (eC (.int 10)) (eC (.int 6))) (top := 1000000) (x := .int (t : Int)) (t := [some (.tup (LI M r)), some (.tup (LI M (mul r r))), some (.tup (LI M r)), some (dueE bE), x7, x8, x9, x10, none, none]) (M := M) ok7 (by omega) hM (by decide) (fun ρ S h => pow106 _ _) (fun ρ S h => pow106 _ _)
  have s2 : ∀ a b : D, [a, b].length ≤ 100000 := fun _ _ => by show 2 ≤ 100000; decide
  refine ⟨c8, k8, m8, ok8, m_rtS [] (by simp [Bg]) okB rfl ?_⟩
  rw [List.append_nil]
  refine w_Sq (S1 := Bg c2 k2 m2 []) (ρ' := [some (.ptr 1), some (.int (M : Int)), some (.int (t : Int)), none, none, none, none, none, none, none, none, none, none]) (w_T (d := .tup [.int (M : Int), .int (t : Int)]) (two_t (S1 := Bg c1 k1 m1 []) (v_O2 (S1 := Bg c k m []) rfl (v_Fr (u_aC (v_V rfl) (u_aC (d := .int 16) rfl v_aN)) rfl e1) (by rw [← hM2]; rfl)) (v_Fr (u_aC (v_V rfl) (u_aC (u_L (u_lD (u_aC rfl (u_aC rfl (u_aC rfl (u_aC rfl v_aN)))) (by show 4 ≤ 100000; decide))) v_aN)) rfl e2)) rfl) ?_
  refine w_Sq (S1 := Bg c3 k3 m3 []) (w_A e3) ?_
  refine w_Sq (w_A (d := .tup (LI M (mul r r))) (S1 := Bg c3 k3 m3 []) (u_B (u_aC (u_Fr (u_aC (v_V rfl) (u_aC (v_V rfl) v_aN)) rfl (p_lsq okB h0 hM R)) v_aN) (tup_seq rfl))) ?_
  refine w_Sq (S1 := Bg c3 k3 m3 []) (w_P (d := .tup (LI M r)) (e := dueE bE) (u_aC (u_Fr (u_aC (v_V rfl) v_aN) rfl (p_root_sq okB h0 hM R)) (u_aC (unfit_ok (by simp) okB) v_aN))) ?_
  refine w_Sq (S1 := Bg c3 k3 m3 []) (w_ok (u_Fr (as := [.lst [.tup (LI M r), .tup (LI M r)], .lst [.tup (LI M r), .tup (LI M r)]]) (u_aC (u_L (u_lD (u_aC (v_V rfl) (u_aC (u_Fkr (u_aC (v_V rfl) v_aN) rfl rfl (p_root_sq okB h0 hM R)) v_aN)) (s2 _ _))) (u_aC (u_L (u_lD (u_aC (v_V rfl) (u_aC (v_V rfl) v_aN)) (s2 _ _))) v_aN)) rfl (same_row2 okB (by omega) (by omega) (fun _ _ => rfl) (fun _ _ => rfl) (R.sh hM) (R.sh hM)))) ?_
  refine w_Sq (S1 := Bg c3 k3 m3 []) (w_ok (u_Fr (as := [.lst [.tup (LI M (mul r r)), .tup (LI M (mul r r))], .lst [.tup (LI M (mul r r)), .tup (LI M (mul r r))]]) (u_aC (u_L (u_lD (u_aC (u_Fr (u_aC (v_V rfl) (u_aC rfl v_aN)) rfl (p_pw2 okB h0 hM R)) (u_aC (u_Fkr (u_aC (v_V rfl) (u_aC (v_V rfl) v_aN)) rfl rfl (p_sq okB h0 hM R)) v_aN)) (s2 _ _))) (u_aC (u_L (u_lD (u_aC (v_V rfl) (u_aC (v_V rfl) v_aN)) (s2 _ _))) v_aN)) rfl (same_row2 okB (by omega) (by omega) (fun _ _ => rfl) (fun _ _ => rfl) (R.shq hM) (R.shq hM)))) ?_
  refine w_Sq ((w_F (S1 := Bg c7 k7 m7 []) (v_iSeq (d := .lst (atD L)) (v_L e7) rfl)).trans e9) ?_
  refine w_Sq (S1 := Bg c8 k8 m8 []) (w_A e8) ?_
  refine w_Sq (S1 := Bg c8 k8 m8 []) (w_A (d := .tup (LI M (mul r' r'))) (u_Fr (u_aC (v_V rfl) (u_aC (v_V rfl) v_aN)) rfl (p_sq okB h0 hM R'))) (w_R ?_)
  refine v_And (S1 := Bg c8 k8 m8 []) (u_Fr (as := [.tup (LI M (mul r' r')), .tup (LI M (mul r' r'))]) (u_aC (v_V rfl) (u_aC (u_B (u_aC (u_Fr (u_aC (v_V rfl) (u_aC (v_V rfl) v_aN)) rfl (p_lsq okB h0 hM R')) v_aN) (tup_seq rfl)) v_aN)) rfl (same_row okB (by omega) (fun _ _ => rfl) (R'.shq hM))) ?_
  exact u_Fr (as := [.tup (LI M r'), .tup (LI M r')]) (u_aC (u_Fr (u_aC (v_V rfl) v_aN) rfl (p_root_sq okB h0 hM R')) (u_aC (v_V rfl) v_aN)) rfl (same_row okB (by omega) (fun _ _ => rfl) (R'.sh hM))
end K75


set_option Elab.async false
set_option linter.all false
set_option maxRecDepth 100000
set_option maxHeartbeats 1000000
namespace K75
open PySem L2 Sm Ser
/-- choices of i out of x -/
def chs (x : Int) : Ser.S
  | 0 => 1
  | i + 1 => chs x i * (x - i) / (i + 1)
theorem chs_bd {x : Int} (hx : x.natAbs ≤ 500) : ∀ i, i ≤ 500 → (chs x i).natAbs ≤ 2 ^ (10 * i)
  | 0, _ => by show 1 ≤ _; decide
  | i + 1, h => by
    have ih := chs_bd hx i (by omega)
    show (chs x i * (x - i) / (i + 1)).natAbs ≤ _
    refine Nat.le_trans (Int.natAbs_ediv_le_natAbs _ _) ?_
    rw [Int.natAbs_mul, show 10 * (i + 1) = 10 * i + 10 by omega, Nat.pow_add]
    exact Nat.mul_le_mul ih (by have : (2 : Nat) ^ 10 = 1024 := by decide
                                omega)
theorem chs_sz {x : Int} (hx : x.natAbs ≤ 500) {M : Nat} (hM : M ≤ 500) : Sz M (chs x) := fun i hi => sz_of (chs_bd hx i (by omega)) (by omega)
theorem sub_sz {x : Int} (hx : x.natAbs ≤ 500) {i : Nat} (hi : i ≤ 500) : (x - (i : Int)).natAbs.log2 < 400000 := sz_of (e := 10) (by
  have : (2 : Nat) ^ 10 = 1024 := by decide
  omega) (by decide)
theorem chs_step {ρ : Envm} {S : Store} {fv fx fk : F D} {x : Int} {i : Nat} (hx : x.natAbs ≤ 500) (hi : i < 500) (h1 : fv ρ S = .ok (.int (chs x i)) S) (h2 : fx ρ S = .ok (.int x) S) (h3 : fk ρ S = .ok (.int (0 + (i : Int))) S) :
    eO2 dDiv (eO2 dMulA fv (eO2 dSub fx fk)) (eO2 dAdd fk (eC (.int 1))) ρ S = .ok (.int (chs x (i + 1))) S := by
  rw [Int.zero_add] at h3
  refine u_O2 (a := .int (chs x i * (x - (i : Int)))) (b := .int ((i : Int) + 1)) (u_O2 h1 (u_O2 h2 h3 rfl) (mulA_int (chs_sz hx (M := 500) (by decide) i hi) (sub_sz hx (by omega)))) (u_O2 h3 rfl rfl) ?_

  have := div_ok (S := S) (a := chs x i * (x - (i : Int))) (k := i + 1) (by omega) (by omega)
  exact this
theorem p_choose {S : Store} {x : Int} {n : Nat} (hS : OkS S) (hx : x.natAbs ≤ 500) (hn : n ≤ 400) : m_law_choose [.int x, .int (n : Int)] S = .ok (.int (chs x n)) S := by
  obtain ⟨ρ2, S2, e2, p⟩ := loop_rng (τ := tgN 3) (g := gA 2 (eO2 dDiv (eO2 dMulA (eV 2) (eO2 dSub (eV 0) (eV 3))) (eO2 dAdd (eV 3) (eC (.int 1)))))
    (fun i ρ S' => S' = S ∧ ∃ y, ρ = [some (.int x), some (.int (n : Int)), some (.int (chs x i)), y]) 0 n [some (.int x), some (.int (n : Int)), some (.int 1), none] S ⟨rfl, _, rfl⟩ fun i ρ S' hi hp => by
    obtain ⟨rfl, y, rfl⟩ := hp
    exact ⟨_, _, _, rfl, w_A (chs_step hx (by omega) (v_V rfl) (v_V rfl) (v_V rfl)), rfl, _, rfl⟩
  obtain ⟨rfl, y, rfl⟩ := p
  exact m_rt0 hS rfl (w_Sq (w_A rfl) (w_Sq ((w_F (v_Rn (n := n) (u_aC (v_V rfl) v_aN) rfl (by omega))).trans e2) (w_R (v_V rfl))))
/-- a row of choices, asked for many = n + 1 -/
theorem p_choices {S : Store} {x : Int} {n : Nat} (hS : OkS S) (hx : x.natAbs ≤ 500) (hn : n ≤ 400) : m_choices_row [.int x, .int ((n + 1 : Nat) : Int)] S = .ok (.lst (LI (n + 1) (chs x))) S := by
  obtain ⟨ρ2, S2, e2, p⟩ := loop_rng (τ := tgN 3) (g := gX (eM isTrk mApp (eV 2) (aC (eO2 dDiv (eO2 dMulA (eO2 dIx (eV 2) (eV 3)) (eO2 dSub (eV 0) (eV 3))) (eO2 dAdd (eV 3) (eC (.int 1)))) aN)))
    (fun i ρ S' => S' = S ++ [O.lst (LI (i + 1) (chs x))] ∧ ∃ y, ρ = [some (.int x), some (.int ((n + 1 : Nat) : Int)), some (.ptr S.length), y]) 0 n [some (.int x), some (.int ((n + 1 : Nat) : Int)), some (.ptr S.length), none] (S ++ [O.lst (LI 1 (chs x))]) ⟨rfl, _, rfl⟩ fun i ρ S' hi hp => by
    obtain ⟨rfl, y, rfl⟩ := hp
    refine ⟨_, _, _, rfl, w_X (d := .non) (S1 := S ++ [O.lst (LI (i + 1 + 1) (chs x))]) (v_M (v_V rfl) (trk_new _ _) (u_aC (chs_step hx (by omega) (u_O2 (v_V rfl) (v_V rfl) (ix_LI (seq_new _ _) (i := i) (by omega) (by omega))) (v_V rfl) (v_V rfl)) v_aN) ?_), rfl, _, rfl⟩
    rw [app_new _ _ _ (by rw [LI_len]; omega), LI_snoc (i + 1)]
  obtain ⟨rfl, y, rfl⟩ := p
  exact m_rtp hS (los_LI _ _ _) (w_Sq (w_A (v_N (u_lD (u_aC rfl v_aN) (by show 1 ≤ 100000; decide)))) (w_Sq ((w_F (v_Rn (n := n) (u_aC (u_O2 (v_V rfl) rfl rfl) v_aN) (by omega) (by omega))).trans e2) (w_R (v_V rfl))))
/-- the family's row -/
def fam (a j : Int) : Ser.S
  | 0 => 0
  | k + 1 => chs j k * a ^ k
theorem pow_bd {a : Int} (ha : a.natAbs ≤ 2) : ∀ k, (a ^ k).natAbs ≤ 2 ^ k
  | 0 => by simp
  | k + 1 => by
    rw [Int.pow_succ, Int.natAbs_mul, Nat.pow_succ]
    exact Nat.mul_le_mul (pow_bd ha k) ha
theorem p_family {S : Store} {a j : Int} {n : Nat} (hS : OkS S) (ha : a.natAbs ≤ 2) (hj : j.natAbs ≤ 500) (hn : n ≤ 400) : m_law_own_family [.int ((n + 1 : Nat) : Int), .int a, .int j] S = .ok (.tup (LI (n + 1) (fam a j))) S := by
  obtain ⟨ρ2, S2, e2, p⟩ := loop_rng (τ := tgN 5) (g := gSeq (gX (eM isTrk mApp (eV 3) (aC (eO2 dMulA (eF 2 m_law_choose (aC (eV 2) (aC (eV 5) aN))) (eV 4)) aN))) (gA 4 (eO2 dMulA (eV 4) (eV 1))))
    (fun i ρ S' => S' = S ++ [O.lst (LI (i + 1) (fam a j))] ∧ ∃ z, z = a ^ i ∧ ∃ y, ρ = [some (.int ((n + 1 : Nat) : Int)), some (.int a), some (.int j), some (.ptr S.length), some (.int z), y]) 0 n [some (.int ((n + 1 : Nat) : Int)), some (.int a), some (.int j), some (.ptr S.length), some (.int 1), none] (S ++ [O.lst (LI 1 (fam a j))]) ⟨rfl, 1, (Int.pow_zero a).symm, _, rfl⟩ fun i ρ S' hi hp => by
    obtain ⟨rfl, z, rfl, y, rfl⟩ := hp
    have hS' : OkS (S ++ [O.lst (LI (i + 1) (fam a j))]) := hS.snoc (los_LI _ _ _)
    have ec := p_choose (x := j) (n := i) hS' hj (by omega)
    refine ⟨_, _, _, rfl, w_Sq (S1 := S ++ [O.lst (LI (i + 1 + 1) (fam a j))]) (w_X (d := .non) (v_M (v_V rfl) (trk_new _ _) (u_aC (u_O2 (u_Fr (u_aC (v_V rfl) (u_aC (v_V rfl) v_aN)) rfl (by rw [Int.zero_add]; exact ec)) (v_V rfl) (mulA_int (chs_sz hj (M := 500) (by decide) i (by omega)) (sz_of (pow_bd ha i) (by omega)))) v_aN) ?_)) (w_A (u_O2 (v_V rfl) (v_V rfl) (mulA_int (sz_of (pow_bd ha i) (by omega)) (sz_of (e := 1) ha (by decide))))), rfl, _, (Int.pow_succ a i).symm, _, rfl⟩
    rw [app_new _ _ _ (by rw [LI_len]; omega), LI_snoc (i + 1)]; rfl
  obtain ⟨rfl, z, _, y, rfl⟩ := p
  exact m_rt [O.lst (LI (n + 1) (fam a j))] hS (lo_tup _ _ _) (w_Sq (w_P (v_aC (v_N (u_lD (u_aC rfl v_aN) (by show 1 ≤ 100000; decide))) (v_aC rfl v_aN))) (w_Sq ((w_F (v_Rn (n := n) (u_aC (u_O2 (v_V rfl) rfl rfl) v_aN) (by omega) (by omega))).trans e2) (w_R (u_B (u_aC (v_V rfl) v_aN) (tup_seq (seq_new _ _))))))
end K75


set_option Elab.async false
set_option linter.all false
set_option maxRecDepth 100000
set_option maxHeartbeats 1000000
namespace K75
open PySem L2 Sm Ser
def fv (f g : Ser.S) (N : Nat) : Int := ((List.range N).map fun i => f i * g i).sum
def prd : D → D
  | .tup [.int a, .int b] => .int (a * b)
  | d => d
theorem comp_zip {ρ : Envm} {S : Store} {N u v : Nat} {f g : Ser.S} (hN : N ≤ 1000) (bf : Sz N f) (bg : Sz N g) (hu : u < ρ.length) (hv : v < ρ.length) (huv : u ≠ v) :
    compL (tgT ((tgN u) :: (tgN v) :: [])) tAll (eO2 dMulA (eV u) (eV v)) (List.zipWith pairD (LI N f) (LI N g)) ρ S = .ok ((List.range N).map fun i => D.int (f i * g i)) S := by
  rw [zip_LI]
  have q := comp_all (τ := tgT ((tgN u) :: (tgN v) :: [])) (fe := eO2 dMulA (eV u) (eV v)) (ρ := ρ) (S := S) prd ((List.range N).map fun i => D.tup [.int (f i), .int (g i)]) (by simp; omega) fun x hx => by
    obtain ⟨i, hi, rfl⟩ := List.mem_map.mp hx
    have hi := List.mem_range.mp hi
    refine ⟨(ρ.set u (some (.int (f i)))).set v (some (.int (g i))), rfl, u_O2 (v_V (d := .int (f i)) ?_) (v_V (d := .int (g i)) ?_) (mulA_int (bf i hi) (bg i hi))⟩
    · rw [List.getElem?_set_ne (by omega), List.getElem?_set_self hu]
    · rw [List.getElem?_set_self (by rw [List.length_set]; exact hv)]
  exact q.trans (by rw [List.map_map]; rfl)
theorem zip_ok {ρ : Envm} {S S1 : Store} {fs : F (List D)} {a b : List D} (h : fs ρ S = .ok [.tup a, .lst b] S1) : Sm.iZip fs ρ S = .ok (List.zipWith pairD a b) S1 := by unfold Sm.iZip; rw [h]; rfl
theorem p_fall_value {S : Store} {f : Ser.S} {n : Nat} {x : Int} (hS : OkS S) (hx : x.natAbs ≤ 500) (hn : n ≤ 400) (bf : Sz (n + 1) f) : m_fall_value [.tup (LI (n + 1) f), .int x] S = .ok (.int (fv f (chs x) (n + 1))) S := by
  refine m_rt0 hS rfl (w_R (u_B (u_aC (u_L (v_lCr (S1 := S) (xs := List.zipWith pairD (LI (n + 1) f) (LI (n + 1) (chs x))) ?_ (comp_zip (by omega) bf (chs_sz hx (by omega)) (by show 2 < 4; decide) (by show 3 < 4; decide) (by decide)))) v_aN) (sum_ints _ _)))
  have e : aC (eV 0) (aC (eF 2 m_choices_row (aC (eV 1) (aC (eB dLen (aC (eV 0) aN)) aN))) aN) [some (.tup (LI (n + 1) f)), some (.int x), none, none] S = .ok [.tup (LI (n + 1) f), .lst (LI (n + 1) (chs x))] S :=
    u_aC (v_V rfl) (u_aC (u_Fr (u_aC (v_V rfl) (u_aC (u_B (u_aC (v_V rfl) v_aN) (len_seq rfl)) v_aN)) rfl (by rw [LI_len]; exact p_choices hS hx hn)) v_aN)
  exact zip_ok e
theorem p_row_of_fall {S : Store} {f : Ser.S} {n M : Nat} (hS : OkS S) (hn : n ≤ 400) (hM : M ≤ 400) (bf : Sz (n + 1) f) : m_row_of_fall [.tup (LI (n + 1) f), .int (M : Int)] S = .ok (.tup (LI M fun x => fv f (chs (x : Int)) (n + 1))) S := by
  refine m_rt0 hS (lo_tup _ _ _) (w_R (u_B (as := [.lst (LI M fun x => fv f (chs (x : Int)) (n + 1))]) (u_aC (u_L (v_lCr (v_Rn (n := M) (u_aC (v_V rfl) v_aN) rfl (by omega)) ?_)) v_aN) (tup_seq rfl)))
  exact comp_rng (fun i => .int (fv f (chs (i : Int)) (n + 1))) 0 M (by omega) fun i hi => ⟨_, rfl, u_Fr (u_aC (v_V rfl) (u_aC (v_V rfl) v_aN)) rfl (by rw [Int.zero_add]; exact p_fall_value hS (by omega) hn bf)⟩
/-- a single power -/
def unit (p : Nat) : Ser.S := fun i => if i = p then 1 else 0
theorem unit_sz {p M : Nat} : Sz M (unit p) := fun i _ => by unfold unit; split <;> decide
theorem unit_LI (p : Nat) : LI p (fun _ => 0) ++ [.int 1] = LI (p + 1) (unit p) := by
  rw [LI_snoc]
  have : LI p (fun _ => 0) = LI p (unit p) := LI_congr fun i hi => by unfold unit; rw [if_neg (by omega)]
  rw [this]
  unfold unit
  rw [if_pos rfl]
theorem fv_unit (g : Ser.S) (p : Nat) : fv (unit p) g (p + 1) = g p := by
  have key : ∀ q, q ≤ p → fv (unit p) g q = 0 := by
    intro q
    induction q with
    | zero => intro _; rfl
    | succ q ih =>
      intro h
      have := ih (by omega)
      unfold fv at this ⊢
      rw [List.range_succ, List.map_append, List.sum_append, this]
      simp only [List.map_cons, List.map_nil, List.sum_cons, List.sum_nil, unit]
      rw [if_neg (by omega)]; omega
  have := key p (Nat.le_refl _)
  unfold fv at this ⊢
  rw [List.range_succ, List.map_append, List.sum_append, this]
  simp only [List.map_cons, List.map_nil, List.sum_cons, List.sum_nil, unit, if_true]
  omega
/-- the value of a single power is a choice -/
theorem p_value_unit {S : Store} {p : Nat} {x : Int} (hS : OkS S) (hx : x.natAbs ≤ 500) (hp : p ≤ 400) : m_fall_value [.tup (LI (p + 1) (unit p)), .int x] S = .ok (.int (chs x p)) S := by
  rw [p_fall_value hS hx hp unit_sz, fv_unit]
theorem pad_unit {ρ : Envm} {S : Store} {fk : F D} {p : Nat} (hp : p ≤ 400) (h : fk ρ S = .ok (.int (p : Int)) S) : eO2 dAdd (eO2 dMulA (eT (aC (eC (.int 0)) aN)) fk) (eT (aC (eC (.int 1)) aN)) ρ S = .ok (.tup (LI (p + 1) (unit p))) S :=
  u_add (u_O2 (u_T (u_aC rfl v_aN) (by show 1 ≤ 100000; decide)) h (mulT1 (by omega))) (u_T (u_aC rfl v_aN) (by show 1 ≤ 100000; decide)) (by rw [LI_len]; show p + 1 ≤ 100000; omega) (unit_LI p)
theorem p_ones {S : Store} {M : Nat} (hS : OkS S) (hM : M ≤ 400) : m_row_of_fall [.tup [.int 1], .int (M : Int)] S = .ok (.tup (LI M fun _ => 1)) S := by
  have := p_row_of_fall (S := S) (f := unit 0) (n := 0) (M := M) hS (by decide) hM unit_sz
  have e : LI 1 (unit 0) = [.int 1] := rfl
  rw [e] at this
  rw [this, LI_congr (g := fun _ => 1) fun i _ => fv_unit _ 0]
end K75


set_option linter.all false
set_option maxRecDepth 10000
namespace Ser
/-! ### trees and the two rows of ones -/
theorem sum_mulN : ∀ (n : Nat) (a b : S), ((List.range (n + 1)).map fun i => a i * b (n - i)).sum = mulN n a b := by
  intro n
  induction n with
  | zero => intro a b; simp [mulN]
  | succ n ih =>
    intro a b
    rw [List.range_succ_eq_map, List.map_cons, List.sum_cons, List.map_map]
    have := ih (tl a) b
    rw [mulN, ← this]
    congr 2
    apply List.map_congr_left
    intro i hi
    show a (i + 1) * b (n + 1 - (i + 1)) = tl a i * b (n - i)
    rw [show n + 1 - (i + 1) = n - i by omega]
    rfl
theorem mul_inn {f : S} (h : f 0 = 0) (p : Nat) : mul f f (p + 1) = inn f (p + 1) := by
  have e := sum_mulN p (tl f) f
  rw [List.range_succ, List.map_append, List.sum_append] at e
  show f 0 * f (p + 1) + mulN p (tl f) f = _
  rw [← e, h]
  unfold inn
  simp only [List.map_cons, List.map_nil, List.sum_cons, List.sum_nil, Nat.sub_self, Nat.add_sub_cancel, h]
  have e2 : ((List.range p).map fun j => tl f j * f (p - j)).sum = ((List.range p).map fun j => f (j + 1) * f (p - j)).sum := rfl
  rw [e2]
  grind
def tr : S := add X (sc (-1) (mul X X))
theorem tr0 : tr 0 = 0 := by decide
theorem tr1 : tr 1 = 1 := by decide
theorem tr_u : tr 1 * tr 1 = 1 := by decide
theorem tr_at (n : Nat) : tr n = if n = 1 then 1 else if n = 2 then -1 else 0 := by
  cases n with
  | zero => decide
  | succ n =>
    show X (n + 1) + -1 * mul X X (n + 1) = _
    rw [X_mul]
    unfold X
    by_cases h0 : n = 0
    · subst h0; decide
    · by_cases h1 : n = 1
      · subst h1; decide
      · rw [if_neg (by omega), if_neg (by omega), if_neg (by omega), if_neg (by omega)]; decide
theorem tr_eq (n : Nat) : G tr n = X n + mul (G tr) (G tr) n := by
  have e := G_right tr0 tr_u n
  have c : cp tr (G tr) n = cp X (G tr) n + -1 * cp (mul X X) (G tr) n := by
    show cp (add X (sc (-1) (mul X X))) (G tr) n = _
    rw [cp_add (G0 tr), cp_sc (G0 tr)]
  have d : cp (mul X X) (G tr) n = mul (G tr) (G tr) n := by
    rw [cp_mul (G0 tr)]
    have : cp X (G tr) = G tr := funext (cp_X (G0 tr))
    rw [this]
  rw [cp_X (G0 tr), d] at c
  omega
theorem tr_rec (p : Nat) : G tr (p + 2) = inn (G tr) (p + 2) := by
  rw [tr_eq, mul_inn (G0 tr)]
  show (if p + 2 = 1 then 1 else 0) + _ = _
  rw [if_neg (by omega), Int.zero_add]
def q4 : S := add one (sc (-4) X)
def r4 : S := add one (sc (-2) (G tr))
theorem r4_0 : r4 0 = 1 := by
  show 1 + -2 * G tr 0 = 1
  rw [G0]; rfl
theorem r4_s (n : Nat) : r4 (n + 1) = -2 * G tr (n + 1) := by
  show (if n + 1 = 0 then 1 else 0) + -2 * G tr (n + 1) = _
  rw [if_neg (by omega)]; omega
theorem r4_sq (n : Nat) : mul r4 r4 n = q4 n := by
  have e : mul r4 r4 = add (add one (sc (-2) (G tr))) (sc (-2) (add (G tr) (sc (-2) (mul (G tr) (G tr))))) := by
    unfold r4
    rw [add_mul, one_mul, sc_mul, mul_add, mul_one, mul_sc]
  rw [e]
  show (one n + -2 * G tr n) + -2 * (G tr n + -2 * mul (G tr) (G tr) n) = one n + -4 * X n
  have := tr_eq n
  omega
def geo : S := fun n => if n = 0 then 0 else 1
def alt : S := fun n => if n = 0 then 0 else if n % 2 = 1 then 1 else -1
theorem geo_eq : geo = add X (mul X geo) := funext fun n => by
  cases n with
  | zero => decide
  | succ n =>
    show (1 : Int) = X (n + 1) + mul X geo (n + 1)
    rw [X_mul]
    unfold X geo
    by_cases h : n = 0
    · subst h; decide
    · rw [if_neg (by omega), if_neg h]; decide
theorem alt_eq : add alt (mul X alt) = X := funext fun n => by
  cases n with
  | zero => decide
  | succ n =>
    show alt (n + 1) + mul X alt (n + 1) = _
    rw [X_mul]
    by_cases h : n = 0
    · subst h; decide
    · have c : X (n + 1) = 0 := by unfold X; rw [if_neg (by omega)]
      by_cases h2 : n % 2 = 1
      · have a : alt (n + 1) = -1 := by unfold alt; rw [if_neg (by omega), if_neg (by omega)]
        have b : alt n = 1 := by unfold alt; rw [if_neg h, if_pos h2]
        rw [a, b, c]; rfl
      · have a : alt (n + 1) = 1 := by unfold alt; rw [if_neg (by omega), if_pos (by omega)]
        have b : alt n = -1 := by unfold alt; rw [if_neg h, if_neg h2]
        rw [a, b, c]; rfl
theorem alt_geo : cp alt geo = X := by
  have g0 : geo 0 = 0 := rfl
  have h1 : add (cp alt geo) (mul geo (cp alt geo)) = geo := funext fun n => by
    have a : cp (add alt (mul X alt)) geo n = cp X geo n := by rw [alt_eq]
    rw [cp_add g0, cp_mul g0, cp_X g0] at a
    have b : cp X geo = geo := funext (cp_X g0)
    rw [b] at a
    exact a
  have h2 : mul X geo = mul geo (cp alt geo) :=
    calc mul X geo = mul X (add (cp alt geo) (mul geo (cp alt geo))) := by rw [h1]
      _ = add (mul X (cp alt geo)) (mul (mul X geo) (cp alt geo)) := by rw [mul_add, assoc]
      _ = mul (add X (mul X geo)) (cp alt geo) := (add_mul _ _ _).symm
      _ = mul geo (cp alt geo) := by rw [← geo_eq]
  exact funext fun n => by
    have a := congrFun h1 n
    have b := congrFun geo_eq n
    rw [← h2] at a
    have a' : cp alt geo n + mul X geo n = geo n := a
    have b' : geo n = X n + mul X geo n := b
    omega
theorem alt0 : alt 0 = 0 := rfl
theorem G_alt : G alt = geo := (G_uniq (v := alt) (b := geo) rfl (by decide) rfl alt_geo).symm
theorem G_geo : G geo = alt := by rw [← G_alt]; exact G_two (u := alt) rfl (by decide)
theorem row_tr : Row tr := ⟨tr0, tr_u, fun i => by rw [tr_at]; split; decide; split <;> decide⟩
theorem row_geo : Row geo := ⟨rfl, by decide, fun i => by unfold geo; split <;> decide⟩
theorem row_alt : Row alt := ⟨rfl, by decide, fun i => by unfold alt; split; decide; split <;> decide⟩
end Ser


set_option Elab.async false
set_option linter.all false
set_option maxRecDepth 100000
set_option maxHeartbeats 1000000
namespace K75
open PySem L2 Sm Ser
def catS : Ser.S := fun i => [0, 1, 1, 2, 5, 14, 42, 132, 429, 1430, 4862, 16796, 58786, 208012, 742900, 2674440].getD i 0
theorem cat_rec : ∀ n, n < 16 → 2 ≤ n → inn catS n = catS n := by decide
theorem cat_G : ∀ n, n < 16 → G tr n = catS n := by
  intro n
  induction n using Nat.strongRecOn with
  | _ n ih =>
    intro hn
    match n, ih, hn with
    | 0, _, _ => rfl
    | 1, _, _ => rw [G1]; exact tr1
    | p + 2, ih, hn => rw [tr_rec, inn_congr fun i hi => ih i hi (by omega)]; exact cat_rec _ hn (by omega)
theorem cat_chs : ∀ i : Nat, i < 15 → chs (2 * (i : Int)) i = ((i : Int) + 1) * catS (i + 1) := by decide
theorem r4_MJ : MJ 1 26 r4 := fun i hi => by
  cases i with
  | zero => rw [r4_0]; decide
  | succ i =>
    rw [r4_s, Int.natAbs_mul, Nat.pow_add]
    have := row_tr.G (i + 1) hi
    rw [Nat.zero_add] at this
    exact Nat.mul_le_mul (by decide) this
theorem q4_rq : Rq q4 := ⟨fun i => by
  show (one i + -4 * X i).natAbs ≤ 2 ^ 46
  have : (2 : Nat) ^ 46 = 70368744177664 := by decide
  unfold one X
  split <;> split <;> omega⟩
theorem q4_sh {M : Nat} : Sh M q4 := fun i hi => sh_of (q4_rq.b i) (by decide)
section
variable {S : Store} {M : Nat} (hS : OkS S) (h0 : 2 ≤ M) (hM : M ≤ 16)
include hS h0 hM
theorem p_root4 : m_root_series [.tup (LI M q4)] S = .ok (.tup (LI M r4)) S := by
  have t := T_sq (r := r4) (q := q4) (M := M) r4_0 fun i _ => (r4_sq i).symm
  rw [p_root_ok hS (by omega) hM q4_rq (by decide) fun n hn => by rw [(t (n + 1) hn).2 (by omega)]; omega]
  rw [LI_congr fun i hi => (t i hi).1]
theorem p_sq4 : m_series_product [.tup (LI M r4), .tup (LI M r4)] S = .ok (.tup (LI M q4)) S := by
  rw [p_prod hS (by omega) (Sz_of r4_MJ (by omega) (by decide)) (Sz_of r4_MJ (by omega) (by decide))]
  rw [LI_congr fun i _ => r4_sq i]
end
abbrev gTree : G := gX (eM isTrk mApp (eV 1) (aC (eB dSum (aC (eL (lC [8] (tgN 8) (iR2 (aC (eC (.int 1)) (aC (eV 2) aN))) tAll (eO2 dMulA (eO2 dIx (eV 1) (eV 8)) (eO2 dIx (eV 1) (eO2 dSub (eV 2) (eV 8)))))) aN)) aN))
theorem LI2 : LI 2 (G tr) = [.int 0, .int 1] := by
  have e1 : G tr 1 = 1 := by rw [G1]; exact tr1
  show [D.int (G tr 0), D.int (G tr 1)] = _
  rw [e1]; rfl
theorem p_trees_loop {S : Store} {M : Nat} (h0 : 2 ≤ M) (hM : M ≤ 16) {x0 : Option D} : ∃ y2, loopL (tgN 2) gTree (rngD 2 (M - 2)) [x0, some (.ptr S.length), none, none, none, none, none, none, none, none] (S ++ [O.lst (LI 2 (G tr))]) = .nx [x0, some (.ptr S.length), y2, none, none, none, none, none, none, none] (S ++ [O.lst (LI M (G tr))]) := by
  have sz : Sz 16 (G tr) := row_tr.szG (by decide)
  obtain ⟨ρ2, S2, e2, p⟩ := loop_rng (τ := tgN 2) (g := gTree) (fun i ρ S' => S' = S ++ [O.lst (LI (i + 2) (G tr))] ∧ ∃ y, ρ = [x0, some (.ptr S.length), y, none, none, none, none, none, none, none]) 2 (M - 2) _ _ ⟨rfl, none, rfl⟩ fun i ρ S' hi hp => by
    obtain ⟨rfl, y, rfl⟩ := hp
    have es : eB dSum (aC (eL (lC [8] (tgN 8) (iR2 (aC (eC (.int 1)) (aC (eV 2) aN))) tAll (eO2 dMulA (eO2 dIx (eV 1) (eV 8)) (eO2 dIx (eV 1) (eO2 dSub (eV 2) (eV 8)))))) aN) [x0, some (.ptr S.length), some (.int (2 + (i : Int))), none, none, none, none, none, none, none] (S ++ [O.lst (LI (i + 2) (G tr))]) = .ok (.int (inn (G tr) (i + 2))) (S ++ [O.lst (LI (i + 2) (G tr))]) := by
      refine u_B (as := [.lst ((List.range (i + 1)).map fun j => D.int (G tr (j + 1) * G tr (i + 2 - 1 - j)))]) (u_aC (u_L ?_) v_aN) (by rw [sum_ints]; rfl)
      refine v_lCr (S1 := S ++ [O.lst (LI (i + 2) (G tr))]) (v_Rm (m := 1) (n := i + 2) (i := 1) (j := 2 + (i : Int)) (u_aC rfl (u_aC (v_V rfl) v_aN)) rfl (by omega) (by decide) (by omega)) ?_
      refine comp_rng (fun j => .int (G tr (j + 1) * G tr (i + 1 - j))) 1 (i + 1) (by omega) fun j hj => ⟨_, rfl, ?_⟩
      exact u_O2 (u_O2 (v_V rfl) (v_V rfl) (ix_LI (seq_new _ _) (i := j + 1) (by omega) (by omega))) (u_O2 (v_V rfl) (u_O2 (v_V rfl) (v_V rfl) rfl) (ix_LI (seq_new _ _) (i := i + 1 - j) (by omega) (by omega))) (mulA_int (sz (j + 1) (by omega)) (sz (i + 1 - j) (by omega)))
    refine ⟨_, _, _, rfl, w_X (d := .non) (S1 := S ++ [O.lst (LI (i + 1 + 2) (G tr))]) (v_M (v_V rfl) (trk_new _ _) (u_aC es v_aN) ?_), rfl, _, rfl⟩
    rw [app_new _ _ _ (by rw [LI_len]; omega), ← tr_rec, show i + 1 + 2 = i + 2 + 1 by omega, LI_snoc (i + 2)]
  obtain ⟨rfl, y, rfl⟩ := p
  rw [show M - 2 + 2 = M by omega] at e2
  exact ⟨y, e2⟩
abbrev gVal : G := gI (tNo (tV (eF 2 m_law_same (aC (eFk 2 [0, 1] 0 2 m_fall_value aN (aC (eO2 dAdd (eO2 dMulA (eT (aC (eC (.int 0)) aN)) (eO2 dSub (eV 2) (eC (.int 1)))) (eT (aC (eC (.int 1)) aN))) (aC (eO2 dSub (eO2 dMulA (eC (.int 2)) (eV 2)) (eC (.int 2))) aN))) (aC (eO2 dMulA (eV 2) (eO2 dIx (eV 3) (eV 2))) aN))))) (gR (eC (.bl false))) gNx
theorem p_vals_loop {S : Store} {M : Nat} (hS : OkS S) (h0 : 2 ≤ M) (hM : M ≤ 16) {x0 x1 x2 x4 : Option D} : ∃ y2, loopL (tgN 2) gVal (rngD 1 (M - 1)) [x0, x1, x2, some (.tup (LI M (G tr))), x4, none, none, none, none, none] S = .nx [x0, x1, y2, some (.tup (LI M (G tr))), x4, none, none, none, none, none] S := by
  have sz : Sz 16 (G tr) := row_tr.szG (by decide)
  have small : ∀ n, n < 16 → (catS n).natAbs ≤ 2 ^ 30 := by decide
  obtain ⟨ρ2, S2, e2, p⟩ := loop_rng (τ := tgN 2) (g := gVal) (fun i ρ S' => S' = S ∧ ∃ y, ρ = [x0, x1, y, some (.tup (LI M (G tr))), x4, none, none, none, none, none]) 1 (M - 1) [x0, x1, x2, some (.tup (LI M (G tr))), x4, none, none, none, none, none] S ⟨rfl, x2, rfl⟩ fun i ρ S' hi hp => by
    obtain ⟨rfl, y, rfl⟩ := hp
    have e1 : eO2 dAdd (eO2 dMulA (eT (aC (eC (.int 0)) aN)) (eO2 dSub (eV 2) (eC (.int 1)))) (eT (aC (eC (.int 1)) aN)) [x0, x1, some (.int (1 + (i : Int))), some (.tup (LI M (G tr))), x4, none, none, none, none, none] S' = .ok (.tup (LI (i + 1) (unit i))) S' :=
      pad_unit (by omega) (u_O2 (a := .int (1 + (i : Int))) (b := .int 1) (v_V rfl) rfl (by
        show some (D.int (1 + (i : Int) - 1)) = _
        rw [show 1 + (i : Int) - 1 = (i : Int) by omega]))
    have e3 : eO2 dSub (eO2 dMulA (eC (.int 2)) (eV 2)) (eC (.int 2)) [x0, x1, some (.int (1 + (i : Int))), some (.tup (LI M (G tr))), x4, none, none, none, none, none] S' = .ok (.int (2 * (i : Int))) S' :=
      u_O2 (a := .int (2 * (1 + (i : Int)))) (b := .int 2) (u_O2 rfl (v_V rfl) (mulA_int (by decide) (sz_of (e := 5) (by omega) (by decide)))) rfl (by
        show some (D.int (2 * (1 + (i : Int)) - 2)) = _
        rw [show 2 * (1 + (i : Int)) - 2 = 2 * (i : Int) by omega])
    have e4 : eO2 dMulA (eV 2) (eO2 dIx (eV 3) (eV 2)) [x0, x1, some (.int (1 + (i : Int))), some (.tup (LI M (G tr))), x4, none, none, none, none, none] S' = .ok (.int ((1 + (i : Int)) * G tr (i + 1))) S' :=
      u_O2 (v_V rfl) (u_O2 (v_V rfl) (v_V rfl) (ix_LI (S := S') rfl (i := i + 1) (by omega) (by omega))) (mulA_int (sz_of (e := 5) (by omega) (by decide)) (sz (i + 1) (by omega)))
    have ev : chs (2 * (i : Int)) i = (1 + (i : Int)) * G tr (i + 1) := by
      rw [cat_chs i (by omega), cat_G (i + 1) (by omega), Int.add_comm]
    refine ⟨_, _, _, rfl, w_ok (u_Fr (u_aC (u_Fkr (u_aC e1 (u_aC e3 v_aN)) rfl rfl (p_value_unit hS (by omega) (by omega))) (u_aC e4 v_aN)) rfl (same_int hS ev (sh_of (e := 40) ?_ (by decide)))), rfl, _, rfl⟩
    rw [cat_G (i + 1) (by omega), Int.natAbs_mul]
    have a := small (i + 1) (by omega)
    exact Nat.le_trans (Nat.mul_le_mul (show (1 + (i : Int)).natAbs ≤ 2 ^ 10 by have : (2 : Nat) ^ 10 = 1024 := by decide
                                                                                omega) a) (by decide)
  obtain ⟨rfl, y, rfl⟩ := p
  exact ⟨y, e2⟩
end K75


set_option Elab.async false
set_option linter.all false
set_option maxRecDepth 100000
set_option maxHeartbeats 1000000
namespace K75
open PySem L2 Sm Ser
theorem LI3 : LI 3 tr = [.int 0, .int 1, .int (-1)] := by
  have e2 : tr 2 = -1 := by decide
  show [D.int (tr 0), D.int (tr 1), D.int (tr 2)] = _
  rw [tr0, tr1, e2]
theorem LIq : LI 2 q4 = [.int 1, .int (-4)] := by
  have e1 : q4 0 = 1 := by decide
  have e2 : q4 1 = -4 := by decide
  show [D.int (q4 0), D.int (q4 1)] = _
  rw [e1, e2]
theorem q4_z : ∀ i, 2 ≤ i → q4 i = 0 := fun i hi => by
  show one i + -4 * X i = 0
  unfold one X
  rw [if_neg (by omega), if_neg (by omega)]; rfl
theorem tr_z : ∀ i, 3 ≤ i → tr i = 0 := fun i hi => by
  rw [tr_at, if_neg (by omega), if_neg (by omega)]
def m2 : D → D
  | .int i => .int (-2 * i)
  | d => d
theorem same_ri {S : Store} {M : Nat} {f : Ser.S} {x : Int} (hS : OkS S) (hM : M ≤ 1000) (h : Sh M f) (hx : x.natAbs.log2 < 1920) : m_law_same [.lst [.tup (LI M f), .int x], .lst [.tup (LI M f), .int x]] S = .ok (.bl true) S := by
  obtain ⟨xs, q⟩ := NcA.ints (n := 6) h
  exact p_same hS (NcA.cons q.tup (NcA.cons (Nc.int hx) .nil)).lst (by omega) (.inr (.inr ⟨_, rfl⟩))
/-- the row of the root, as the law tells it -/
theorem due_root {S : Store} {p : Nat} (hM : p + 1 ≤ 16) {x0 x1 x2 x4 x5 : Option D} :
    eB dTup (aC (eL (lO2 lAdd (eL (lD (aC (eC (.int 1)) aN))) (eL (lC [9] (tgN 9) (iSeq (eSl (eV 3) (oS (eC (.int 1))) oN)) tAll (eO2 dMulA (eO1 dNeg (eC (.int 2))) (eV 9)))))) aN) [x0, x1, x2, some (.tup (LI (p + 1) (G tr))), x4, x5, none, none, none, none] S = .ok (.tup (LI (p + 1) r4)) S := by
  have sz : Sz 16 (G tr) := row_tr.szG (by decide)
  have e1 : lC [9] (tgN 9) (iSeq (eSl (eV 3) (oS (eC (.int 1))) oN)) tAll (eO2 dMulA (eO1 dNeg (eC (.int 2))) (eV 9)) [x0, x1, x2, some (.tup (LI (p + 1) (G tr))), x4, x5, none, none, none, none] S = .ok ((LI p (tl (G tr))).map m2) S := by
    refine v_lCr (S1 := S) (xs := LI p (tl (G tr))) (v_iSeq (d := .tup ((LI (p + 1) (G tr)).drop 1)) (u_from (k := 1) (v_V rfl) rfl rfl (by rw [LI_len]; omega)) (by rw [LI_drop1]; rfl)) ?_
    refine comp_all m2 (LI p (tl (G tr))) (by rw [LI_len]; omega) fun x hx => ?_
    obtain ⟨i, hi, rfl⟩ := List.mem_map.mp hx
    have hi := List.mem_range.mp hi
    exact ⟨_, rfl, u_O2 (a := .int (-2)) (u_O1 rfl rfl) (v_V rfl) (mulA_int (by decide) (sz (i + 1) (by omega)))⟩
  have e2 : (LI p (tl (G tr))).map m2 = LI p (tl r4) := by
    unfold LI
    rw [List.map_map]
    apply List.map_congr_left
    intro i hi
    show D.int (-2 * G tr (i + 1)) = D.int (r4 (i + 1))
    rw [r4_s]
  rw [e2] at e1
  have e3 : [D.int 1] ++ LI p (tl r4) = LI (p + 1) r4 := by rw [LI_cons, r4_0]; rfl
  refine u_B (u_aC (u_L (v_lO2 (u_L (u_lD (u_aC rfl v_aN) (by show 1 ≤ 100000; decide))) (u_L e1) (?_ : lAdd _ _ _ = some (LI (p + 1) r4)))) v_aN) (tup_seq rfl)
  show (if _ then _ else _) = _
  rw [if_pos (by rw [LI_len]; show 1 + p ≤ 100000; omega), e3]
/-- the turns row -/
theorem turns_row {S : Store} {p : Nat} (hM : p + 1 ≤ 16) {x1 x2 x3 x4 x5 : Option D} :
    eB dTup (aC (eL (lO2 lAdd (eL (lD (aC (eC (.int 0)) aN))) (eL (lC [8] (tgN 8) (iR1 (aC (eO2 dSub (eV 0) (eC (.int 1))) aN)) tAll (eIf (tV (eO2 dEq (eO2 dMod (eB dInt (aC (eV 8) aN)) (eC (.int 2))) (eC (.int 0)))) (eC (.int 1)) (eO1 dNeg (eC (.int 1)))))))) aN) [some (.int ((p + 1 : Nat) : Int)), x1, x2, x3, x4, x5, none, none, none, none] S = .ok (.tup (LI (p + 1) alt)) S := by
  have e1 : lC [8] (tgN 8) (iR1 (aC (eO2 dSub (eV 0) (eC (.int 1))) aN)) tAll (eIf (tV (eO2 dEq (eO2 dMod (eB dInt (aC (eV 8) aN)) (eC (.int 2))) (eC (.int 0)))) (eC (.int 1)) (eO1 dNeg (eC (.int 1)))) [some (.int ((p + 1 : Nat) : Int)), x1, x2, x3, x4, x5, none, none, none, none] S = .ok (LI p (tl alt)) S := by
    refine v_lCr (S1 := S) (v_Rn (n := p) (u_aC (u_O2 (v_V rfl) rfl rfl) v_aN) (by omega) (by omega)) ?_
    refine comp_rng (fun i => .int (tl alt i)) 0 p (by omega) fun i hi => ⟨_, rfl, ?_⟩
    have t : ∀ (ρ : Envm), ρ[8]? = some (some (.int (0 + (i : Int)))) → tV (eO2 dEq (eO2 dMod (eB dInt (aC (eV 8) aN)) (eC (.int 2))) (eC (.int 0))) ρ S = .ok ((0 + (i : Int)) % 2 == 0) S := fun ρ h =>
      u_tV (u_O2 (b := .int 0) (u_O2 (b := .int 2) (u_B (u_aC (v_V h) v_aN) rfl) rfl (mod_ok (by decide))) rfl rfl)
    by_cases h : (0 + (i : Int)) % 2 = 0
    · have a : tl alt i = 1 := by show alt (i + 1) = 1; unfold alt; rw [if_neg (by omega), if_pos (by omega)]
      rw [a]
      exact v_IfT (S1 := S) (by rw [t _ rfl, h]; rfl) rfl
    · have a : tl alt i = -1 := by show alt (i + 1) = -1; unfold alt; rw [if_neg (by omega), if_neg (by omega)]
      rw [a]
      exact v_IfF (S1 := S) (by rw [t _ rfl]; have : ((0 + (i : Int)) % 2 == 0) = false := by simpa using h
                                rw [this]) (u_O1 rfl rfl)
  have e3 : [D.int 0] ++ LI p (tl alt) = LI (p + 1) alt := by rw [LI_cons]; rfl
  refine u_B (u_aC (u_L (v_lO2 (u_L (u_lD (u_aC rfl v_aN) (by show 1 ≤ 100000; decide))) (u_L e1) (?_ : lAdd _ _ _ = some (LI (p + 1) alt)))) v_aN) (tup_seq rfl)
  show (if _ then _ else _) = _
  rw [if_pos (by rw [LI_len]; show 1 + p ≤ 100000; omega), e3]
end K75


set_option Elab.async false
set_option linter.all false
set_option maxRecDepth 100000
set_option maxHeartbeats 1000000
namespace K75
open PySem L2 Sm Ser
theorem sub1 {ρ : Envm} {S : Store} {p i : Nat} (h : ρ[i]? = some (some (.int ((p + 1 : Nat) : Int)))) : eO2 dSub (eV i) (eC (.int 1)) ρ S = .ok (.int (p : Int)) S :=
  u_O2 (a := .int ((p + 1 : Nat) : Int)) (b := .int 1) (v_V h) rfl (by
    show some (D.int (((p + 1 : Nat) : Int) - 1)) = _
    rw [show ((p + 1 : Nat) : Int) - 1 = (p : Int) by omega])
theorem tr_ri {S : Store} {p : Nat} (hS : OkS S) (h0 : 1 ≤ p) (hM : p + 1 ≤ 16) {x1 x2 : Option D} :
    gI (tNo (tV (eF 2 m_law_same (aC (eL (lD (aC (eF 1 m_turned_about (aC (eV 4) aN)) (aC (eF 2 m_turned_item (aC (eV 4) (aC (eO2 dSub (eV 0) (eC (.int 1))) aN))) aN)))) (aC (eL (lD (aC (eV 3) (aC (eO2 dIx (eV 3) (eO2 dSub (eV 0) (eC (.int 1)))) aN)))) aN))))) (gR (eC (.bl false))) gNx
      [some (.int ((p + 1 : Nat) : Int)), x1, x2, some (.tup (LI (p + 1) (G tr))), some (.tup (LI (p + 1) tr)), none, none, none, none, none] S = .nx [some (.int ((p + 1 : Nat) : Int)), x1, x2, some (.tup (LI (p + 1) (G tr))), some (.tup (LI (p + 1) tr)), none, none, none, none, none] S := by
  have s2 : ∀ a b : D, [a, b].length ≤ 100000 := fun _ _ => by show 2 ≤ 100000; decide
  have sh : Sh 16 (G tr) := row_tr.shG (by decide)
  refine w_ok (u_Fr (u_aC (u_L (u_lD (u_aC (u_Fr (u_aC (v_V rfl) v_aN) rfl (p_about hS (by omega) hM row_tr)) (u_aC (u_Fr (u_aC (v_V rfl) (u_aC (sub1 rfl) v_aN)) rfl (p_titem hS (by omega) hM row_tr (by omega))) v_aN)) (s2 _ _))) (u_aC (u_L (u_lD (u_aC (v_V rfl) (u_aC (u_O2 (v_V rfl) (sub1 rfl) (ix_LI (S := S) rfl (i := p) rfl (by omega))) v_aN)) (s2 _ _))) v_aN)) rfl (same_ri hS (by omega) (fun i hi => sh i (by omega)) (sh p (by omega))))
theorem q4_row {S : Store} {ρ : Envm} {M : Nat} (hM : M ≤ 16) (h : ρ[0]? = some (some (.int (M : Int)))) : eSl (eO2 dAdd (eT (aC (eC (.int 1)) (aC (eO1 dNeg (eC (.int 4))) aN))) (eO2 dMulA (eT (aC (eC (.int 0)) aN)) (eC (.int 14)))) oN (oS (eV 0)) ρ S = .ok (.tup (LI M q4)) S :=
  few_row (K := 2) (z := 14) (f := q4) (by rw [LIq]; exact u_aC rfl (u_aC (u_O1 rfl rfl) v_aN)) (v_V h) (by decide) (by decide) (by omega) q4_z
theorem ones_row {S : Store} {ρ : Envm} {fk : F D} {p : Nat} (hp : p ≤ 400) (h : fk ρ S = .ok (.int (p : Int)) S) : eO2 dMulA (eT (aC (eC (.int 1)) aN)) fk ρ S = .ok (.tup (LI p fun _ => 1)) S :=
  u_O2 (u_T (u_aC rfl v_aN) (by show 1 ≤ 100000; decide)) h (mulT1 (by omega))
theorem geo_row {S : Store} {ρ : Envm} {p i : Nat} (hp : p ≤ 400) (h : ρ[i]? = some (some (.tup (LI p fun _ => 1)))) : eO2 dAdd (eT (aC (eC (.int 0)) aN)) (eV i) ρ S = .ok (.tup (LI (p + 1) geo)) S :=
  u_add (u_T (u_aC rfl v_aN) (by show 1 ≤ 100000; decide)) (v_V h) (by rw [LI_len]; show 1 + p ≤ 100000; omega) (by rw [LI_cons]; rfl)
theorem sh_one {M : Nat} : Sh M fun _ => 1 := fun _ _ => by show (1 : Int).natAbs.log2 < 1920; decide
theorem p_trees {S : Store} {p : Nat} (hS : OkS S) (h0 : 1 ≤ p) (hM : p + 1 ≤ 16) : m_law_are_trees_right [.int ((p + 1 : Nat) : Int)] S = .ok (.bl true) S := by
  have s2 : ∀ a b : D, [a, b].length ≤ 100000 := fun _ _ => by show 2 ≤ 100000; decide
  obtain ⟨y2, e1⟩ := p_trees_loop (S := S) (M := p + 1) (by omega) hM (x0 := some (.int ((p + 1 : Nat) : Int)))
  have hS1 : OkS (S ++ [O.lst (LI (p + 1) (G tr))]) := hS.snoc (los_LI _ _ _)
  obtain ⟨y3, e3⟩ := p_vals_loop (S := S ++ [O.lst (LI (p + 1) (G tr))]) (M := p + 1) hS1 (by omega) hM (x0 := some (.int ((p + 1 : Nat) : Int))) (x1 := some (.ptr S.length)) (x2 := y2) (x4 := some (.tup (LI (p + 1) tr)))
  refine m_rt [O.lst (LI (p + 1) (G tr))] hS rfl ?_
  refine w_Sq (S1 := S ++ [O.lst (LI 2 (G tr))]) (w_A (d := .ptr S.length) (v_N (u_lD (by rw [LI2]; exact u_aC rfl (u_aC rfl v_aN)) (by rw [LI_len]; decide)))) ?_
  refine w_Sq ((w_F (v_Rm (m := 2) (n := p + 1) (u_aC rfl (u_aC (v_V rfl) v_aN)) rfl rfl (by decide) (by omega))).trans e1) ?_
  generalize hgS : S ++ [O.lst (LI (p + 1) (G tr))] = S1 at *
  have hq : seqD S1 (.ptr S.length) = some (LI (p + 1) (G tr)) := by rw [← hgS]; exact seq_new _ _
  refine w_Sq (S1 := S1) (w_A (d := .tup (LI (p + 1) (G tr))) (u_B (u_aC (v_V rfl) v_aN) (tup_seq hq))) ?_
  refine w_Sq (S1 := S1) (w_A (d := .tup (LI (p + 1) tr)) (few_row (K := 3) (z := 13) (f := tr) (by rw [LI3]; exact u_aC rfl (u_aC rfl (u_aC (u_O1 rfl rfl) v_aN))) (v_V rfl) (by decide) (by decide) (by omega) tr_z)) ?_
  refine w_Sq (tr_ri hS1 h0 hM) ?_
  refine w_Sq ((w_F (v_Rm (m := 1) (n := p + 1) (u_aC rfl (u_aC (v_V rfl) v_aN)) rfl rfl (by decide) (by omega))).trans e3) ?_
  have shr : Sh (p + 1) r4 := Sh_of r4_MJ (by omega) (by omega)
  refine w_Sq (S1 := S1) (w_A (d := .tup (LI (p + 1) r4)) (u_Fr (u_aC (q4_row hM rfl) v_aN) rfl (p_root4 hS1 (by omega) hM))) ?_
  refine w_Sq (S1 := S1) (w_ok (u_Fr (u_aC (v_V rfl) (u_aC (due_root hM) v_aN)) rfl (same_row hS1 (by omega) (fun _ _ => rfl) shr))) ?_
  refine w_Sq (S1 := S1) (w_ok (u_Fr (u_aC (u_Fr (u_aC (v_V rfl) (u_aC (v_V rfl) v_aN)) rfl (p_sq4 hS1 (by omega) hM)) (u_aC (q4_row hM rfl) v_aN)) rfl (same_row hS1 (by omega) (fun _ _ => rfl) q4_sh))) ?_
  refine w_Sq (S1 := S1) (w_A (d := .tup (LI (p + 1) alt)) (turns_row hM)) ?_
  refine w_Sq (S1 := S1) (w_A (d := .tup (LI p fun _ => 1)) (ones_row (by omega) (sub1 rfl))) ?_
  refine w_Sq (S1 := S1) (w_ok (u_Fr (u_aC (u_L (u_lD (u_aC (u_Fr (u_aC (u_T (u_aC rfl v_aN) (by show 1 ≤ 100000; decide)) (u_aC (sub1 rfl) v_aN)) rfl (p_ones hS1 (by omega))) (u_aC (u_Fkr (u_aC (sub1 rfl) (u_aC (u_T (u_aC rfl v_aN) (by show 1 ≤ 100000; decide)) v_aN)) rfl rfl (p_ones hS1 (by omega))) v_aN)) (s2 _ _))) (u_aC (u_L (u_lD (u_aC (v_V rfl) (u_aC (v_V rfl) v_aN)) (s2 _ _))) v_aN)) rfl (same_row2 hS1 (by omega) (by omega) (fun _ _ => rfl) (fun _ _ => rfl) sh_one sh_one))) ?_
  refine w_R (u_Fr (u_aC (u_L (u_lD (u_aC (u_Fkr (u_aC (v_V rfl) v_aN) rfl rfl (p_about hS1 (by omega) hM row_alt)) (u_aC (u_Fr (u_aC (geo_row (by omega) rfl) v_aN) rfl (p_about hS1 (by omega) hM row_geo)) v_aN)) (s2 _ _))) (u_aC (u_L (u_lD (u_aC (geo_row (by omega) rfl) (u_aC (v_V rfl) v_aN)) (s2 _ _))) v_aN)) rfl (same_row2 hS1 (by omega) (by omega) (fun i _ => by rw [G_alt]) (fun i _ => by rw [G_geo]) (row_geo.shU (by omega)) (row_alt.shU (by omega))))
end K75


set_option Elab.async false
set_option linter.all false
set_option maxRecDepth 100000
set_option maxHeartbeats 1000000
namespace K75
open PySem L2 Sm Ser
def Bn (a j : Int) : Ser.S := fun n => chs j n * a ^ n
def bs (a : Int) : Ser.S := fun n => if n = 0 then 1 else if n = 1 then a else 0
theorem bs_u (a : Int) : bs a 0 * bs a 0 = 1 := rfl
theorem mul_bs (a : Int) (f : Ser.S) (n : Nat) : mul (bs a) f (n + 1) = f (n + 1) + a * f n := by
  have e : tl (bs a) = sc a one := funext fun i => by
    show (if i + 1 = 0 then 1 else if i + 1 = 1 then a else 0) = a * (if i = 0 then 1 else 0)
    rw [if_neg (by omega)]
    by_cases h : i = 0
    · rw [if_pos (by omega), if_pos h, Int.mul_one]
    · rw [if_neg (by omega), if_neg h, Int.mul_zero]
  rw [mulS, e, sc_mul, one_mul]
  show 1 * f (n + 1) + a * f n = _
  rw [Int.one_mul]
theorem pascal0 : ∀ m : Nat, m < 100 → ∀ n, n < 9 → chs ((m : Int) - 50 + 1) (n + 1) = chs ((m : Int) - 50) (n + 1) + chs ((m : Int) - 50) n := by decide
theorem pascal {j : Int} (h1 : -50 ≤ j) (h2 : j < 50) {n : Nat} (hn : n < 9) : chs (j + 1) (n + 1) = chs j (n + 1) + chs j n := by
  have := pascal0 (j + 50).toNat (by omega) n hn
  rwa [show (((j + 50).toNat : Nat) : Int) - 50 = j by omega] at this
theorem mul_bs_B {a j : Int} (h1 : -50 ≤ j) (h2 : j < 50) {n : Nat} (hn : n < 10) : mul (bs a) (Bn a j) n = Bn a (j + 1) n := by
  cases n with
  | zero => show (1 : Int) * (1 * a ^ 0) = 1 * a ^ 0; rw [Int.one_mul]
  | succ n =>
    rw [mul_bs]
    show chs j (n + 1) * a ^ (n + 1) + a * (chs j n * a ^ n) = chs (j + 1) (n + 1) * a ^ (n + 1)
    rw [pascal h1 h2 (by omega), Int.pow_succ]
    grind
theorem chs0 : ∀ n, n < 10 → chs 0 n = one n := by decide
theorem Bn0 (a : Int) {n : Nat} (hn : n < 10) : Bn a 0 n = one n := by
  show chs 0 n * a ^ n = _
  rw [chs0 n hn]
  unfold one
  split
  · next h => subst h; simp
  · rw [Int.zero_mul]
theorem B_pw (a : Int) : ∀ m : Nat, m ≤ 50 → ∀ n, n < 10 → pw (bs a) m n = Bn a (m : Int) n
  | 0, _, n, hn => (Bn0 a hn).symm
  | m + 1, h, n, hn => by
    rw [pw_s]
    have e : mul (bs a) (pw (bs a) m) n = mul (bs a) (Bn a (m : Int)) n := congrN n (fun _ _ => rfl) fun i hi => B_pw a m (by omega) i (by omega)
    rw [e, mul_bs_B (by omega) (by omega) hn]
    rfl
theorem B_inv (a : Int) : ∀ m : Nat, m ≤ 50 → ∀ n, n < 10 → pw (inv (bs a)) m n = Bn a (-(m : Int)) n
  | 0, _, n, hn => (Bn0 a hn).symm
  | m + 1, h, n, hn => by
    rw [pw_s]
    have e1 : ∀ i, i < 10 → mul (bs a) (Bn a (-((m + 1 : Nat) : Int))) i = pw (inv (bs a)) m i := fun i hi => by
      rw [mul_bs_B (by omega) (by omega) hi, B_inv a m (by omega) i hi]
      congr 1; omega
    have e2 : mul (inv (bs a)) (pw (inv (bs a)) m) n = mul (inv (bs a)) (mul (bs a) (Bn a (-((m + 1 : Nat) : Int)))) n := congrN n (fun _ _ => rfl) fun i hi => (e1 i (by omega)).symm
    rw [e2, ← assoc, mul_comm (inv (bs a)), mul_inv (bs_u a), one_mul]
theorem pw_add (a : Ser.S) (i : Nat) : ∀ j, pw a (i + j) = mul (pw a i) (pw a j)
  | 0 => (mul_one _).symm
  | j + 1 => by
    show mul (pw a (i + j)) a = mul (pw a i) (mul (pw a j) a)
    rw [pw_add a i j, assoc]
theorem pw_pw (a : Ser.S) (i : Nat) : ∀ j, pw (pw a i) j = pw a (i * j)
  | 0 => rfl
  | j + 1 => by
    show mul (pw (pw a i) j) (pw a i) = _
    rw [pw_pw a i j, ← pw_add, Nat.mul_succ]
theorem pw_unit {w : Ser.S} (h : w 0 * w 0 = 1) : ∀ k, pw w k 0 * pw w k 0 = 1
  | 0 => rfl
  | k + 1 => by
    have ih := pw_unit h k
    show (pw w k 0 * w 0) * (pw w k 0 * w 0) = 1
    grind
theorem inv_pw {w : Ser.S} (h : w 0 * w 0 = 1) (k : Nat) : inv (pw w k) = pw (inv w) k := funext fun n => by
  refine (inv_uniq (M := n + 1) (pw_unit h k) (f := pw (inv w) k) (fun i _ => ?_) n (by omega)).symm
  rw [← pw_mul, mul_inv h, pw_one]
theorem inv_inv {w : Ser.S} (h : w 0 * w 0 = 1) : inv (inv w) = w := funext fun n => by
  have h' : inv w 0 * inv w 0 = 1 := by rw [inv0 h]; exact h
  exact (inv_uniq (M := n + 1) h' (f := w) (fun i _ => by rw [mul_comm, mul_inv h]) n (by omega)).symm
end K75


set_option Elab.async false
set_option linter.all false
set_option maxRecDepth 100000
set_option maxHeartbeats 1000000
namespace K75
open PySem L2 Sm Ser
/-- the family's row, cut -/
def famc (a j : Int) : Ser.S := fun i => if i < 9 then fam a j i else 0
def As : List Int := [1, -1, 2, -2]
theorem fam_b0 : ∀ a, a ∈ As → ∀ m : Nat, m < 11 → ∀ i, i < 9 → (fam a ((m : Int) - 5) i).natAbs ≤ 10 ^ 6 := by decide
theorem fam_b {a j : Int} (ha : a ∈ As) (h1 : -5 ≤ j) (h2 : j ≤ 5) {i : Nat} (hi : i < 9) : (fam a j i).natAbs ≤ 10 ^ 6 := by
  have := fam_b0 a ha (j + 5).toNat (by omega) i hi
  rwa [show (((j + 5).toNat : Nat) : Int) - 5 = j by omega] at this
theorem famc_row {a j : Int} (ha : a ∈ As) (h1 : -5 ≤ j) (h2 : j ≤ 5) : Row (famc a j) := ⟨rfl, by
  show (1 * a ^ 0) * (1 * a ^ 0) = (1 : Int)
  simp, fun i => by
  unfold famc
  split
  · next h => exact Nat.le_trans (fam_b ha h1 h2 h) (by decide)
  · exact Nat.zero_le _⟩
theorem famc_tl {a j : Int} {i : Nat} (hi : i < 8) : tl (famc a j) i = Bn a j i := by
  show (if i + 1 < 9 then fam a j (i + 1) else 0) = _
  rw [if_pos (by omega)]; rfl
theorem bs_inv_u (a : Int) : inv (bs a) 0 * inv (bs a) 0 = 1 := by rw [inv0 (bs_u a)]; exact bs_u a
/-- the turned family -/
theorem fam_G {a j : Int} (ha : a ∈ As) (h1 : -5 ≤ j) (h2 : j ≤ 5) {n : Nat} (hn : n < 8) : ((n + 1 : Nat) : Int) * G (famc a j) (n + 1) = Bn a (0 - j * ((n + 1 : Nat) : Int)) n := by
  have R := famc_row ha h1 h2
  rw [G_lag R.z R.o]
  rcases Int.le_total 0 j with h | h
  · obtain ⟨k, rfl⟩ : ∃ k : Nat, j = (k : Int) := ⟨j.toNat, by omega⟩
    have e : ∀ i, i < 8 → inv (tl (famc a (k : Int))) i = pw (inv (bs a)) k i := fun i hi => by
      rw [← inv_pw (bs_u a)]
      exact inv_congr (M := 8) R.o (pw_unit (bs_u a) k) (fun i hi => by rw [famc_tl hi, B_pw a k (by omega) i (by omega)]) i hi
    rw [pw_congr (M := 8) e (n + 1) n hn, pw_pw, B_inv a (k * (n + 1)) (Nat.le_trans (Nat.mul_le_mul (show k ≤ 5 by omega) (show n + 1 ≤ 8 by omega)) (by decide)) n (by omega)]
    congr 1
    rw [Int.natCast_mul, Int.zero_sub]
  · obtain ⟨k, rfl⟩ : ∃ k : Nat, j = -(k : Int) := ⟨(-j).toNat, by omega⟩
    have e : ∀ i, i < 8 → inv (tl (famc a (-(k : Int)))) i = pw (bs a) k i := fun i hi => by
      have q : inv (pw (inv (bs a)) k) = pw (bs a) k := by rw [inv_pw (bs_inv_u a), inv_inv (bs_u a)]
      rw [← q]
      exact inv_congr (M := 8) R.o (pw_unit (bs_inv_u a) k) (fun i hi => by rw [famc_tl hi, B_inv a k (by omega) i (by omega)]) i hi
    rw [pw_congr (M := 8) e (n + 1) n hn, pw_pw, B_pw a (k * (n + 1)) (Nat.le_trans (Nat.mul_le_mul (show k ≤ 5 by omega) (show n + 1 ≤ 8 by omega)) (by decide)) n (by omega)]
    congr 1
    rw [Int.natCast_mul, Int.zero_sub, Int.neg_mul, Int.neg_neg]
/-- the power of the base, or its other, is the family moved by one -/
theorem fam_pw (a : Int) {m n : Nat} (hm : m ≤ 50) (hn : n < 10) : pw (bs a) m n = tl (fam a (m : Int)) n := B_pw a m hm n hn
theorem fam_inv (a : Int) {m n : Nat} (hm : m ≤ 50) (hn : n < 10) : inv (pw (bs a) m) n = tl (fam a (-(m : Int))) n := by
  rw [inv_pw (bs_u a)]; exact B_inv a m hm n hn
end K75


set_option Elab.async false
set_option linter.all false
set_option maxRecDepth 100000
set_option maxHeartbeats 1000000
namespace K75
open PySem L2 Sm Ser
theorem lSl_ptr {ρ : Envm} {S : Store} {i : Nat} {fh : F D} {k : Int} {ds : List D} {a : Nat} (h1 : ρ[i]? = some (some (.ptr a))) (h2 : seqD S (.ptr a) = some ds) (h3 : fh ρ S = .ok (.int k) S) : lSl (eV i) oN (oS fh) ρ S = .ok (cutD ds none (some k)) S := by
  unfold lSl
  rw [v_V h1, bind_ok, v_oN, bind_ok, v_oS h3, bind_ok]
  show (match seqD S (.ptr a) with | some ds => Sm.R.ok (cutD ds none (some k)) S | none => .bad) = _
  rw [h2]
theorem p_trimmed {S : Store} {a p : Nat} {f : Ser.S} (hS : OkS S) (hp : p ≤ 400) (hr : seqD S (.ptr a) = some (LI (p + 1) f)) (hf : f p ≠ 0) : m_fall_trimmed [.ptr a] S = .ok (.tup (LI (p + 1) f)) S := by
  refine m_rt0 hS (lo_tup _ _ _) (w_Sq (w_A (d := .int ((p + 1 : Nat) : Int)) (u_B (u_aC (v_V rfl) v_aN) (by rw [len_seq hr, LI_len]))) (w_Sq (ρ' := [some (.ptr a), some (.int ((p + 1 : Nat) : Int))]) (S1 := S) ?_ (w_R (u_B (u_aC (u_L (lSl_ptr rfl hr (v_V rfl))) v_aN) ?_))))
  · show gWh _ _ (99 + 1) _ _ = _
    have t1 : tV (eO2 (dCmp fun i j => decide (j < i)) (eV 1) (eC (.int 0))) [some (.ptr a), some (.int ((p + 1 : Nat) : Int))] S = .ok true S := u_tV (u_O2 (b := .int 0) (v_V rfl) rfl (by
      show some (D.bl (decide ((0 : Int) < ((p + 1 : Nat) : Int)))) = _
      rw [decide_eq_true (by omega)]))
    have t2 : tV (eO2 dEq (eO2 dIx (eV 0) (eO2 dSub (eV 1) (eC (.int 1)))) (eC (.int 0))) [some (.ptr a), some (.int ((p + 1 : Nat) : Int))] S = .ok false S := u_tV (u_O2 (u_O2 (v_V rfl) (sub1 rfl) (ix_LI hr (i := p) rfl (by omega))) rfl (eq_int.trans (by
      have : (f p == 0) = false := by simpa using hf
      rw [this])))
    have t3 : ∀ g, gWh (tAn (tV (eO2 (dCmp fun i j => decide (j < i)) (eV 1) (eC (.int 0)))) (tV (eO2 dEq (eO2 dIx (eV 0) (eO2 dSub (eV 1) (eC (.int 1)))) (eC (.int 0))))) g (99 + 1) [some (.ptr a), some (.int ((p + 1 : Nat) : Int))] S = .nx [some (.ptr a), some (.int ((p + 1 : Nat) : Int))] S := fun g => by
      unfold gWh
      rw [v_tAn t1, if_pos rfl, t2, toS_ok, if_neg (by decide)]
    exact t3 _
  · rw [cut_to (by rw [LI_len]; omega), LI_take f (by omega)]
    exact tup_seq rfl
/-- what a single power is, moved -/
def mov (s : Nat) : Ser.S := fun i => chs (s : Int) (s - i)
abbrev gMov : G := gX (eM isTrk mApp (eV 3) (aC (eB dSum (aC (eL (lC [5, 6] (tgT ((tgN 5) :: (tgN 6) :: [])) (Sm.iZip (aC (eSl (eV 0) (oS (eV 4)) oN) (aC (eV 2) aN))) tAll (eO2 dMulA (eV 5) (eV 6)))) aN)) aN))
theorem drop_unit {s i : Nat} (h : i ≤ s) : (LI (s + 1) (unit s)).drop i = LI (s - i + 1) (unit (s - i)) := by
  apply List.ext_getElem
  · simp [LI_len]; omega
  · intro k h1 h2
    simp only [LI_len] at h2
    simp only [LI, List.getElem_drop, List.getElem_map, List.getElem_range, unit]
    by_cases h3 : k = s - i
    · rw [if_pos (by omega), if_pos h3]
    · rw [if_neg (by omega), if_neg h3]
theorem zip_take {N K : Nat} (f g : Ser.S) (h : N ≤ K) : List.zipWith pairD (LI N f) (LI K g) = List.zipWith pairD (LI N f) (LI N g) := by
  apply List.ext_getElem
  · simp [LI_len]; omega
  · intro k h1 h2
    simp [LI]
theorem p_shifted {S : Store} {s : Nat} (hS : OkS S) (hs : s ≤ 100) : m_fall_shifted [.tup (LI (s + 1) (unit s)), .int (s : Int)] S = .ok (.tup (LI (s + 1) (mov s))) S := by
  have ec : eF 2 m_choices_row (aC (eV 1) (aC (eB dLen (aC (eV 0) aN)) aN)) [some (.tup (LI (s + 1) (unit s))), some (.int (s : Int)), none, none, none, none, none] S = .ok (.lst (LI (s + 1) (chs (s : Int)))) S :=
    u_Fr (u_aC (v_V rfl) (u_aC (u_B (u_aC (v_V rfl) v_aN) (len_seq rfl)) v_aN)) rfl (by rw [LI_len]; exact p_choices hS (by omega) (by omega))
  obtain ⟨ρ2, S2, e2, p⟩ := loop_rng (τ := tgN 4) (g := gMov) (fun i ρ S' => S' = S ++ [O.lst (LI i (mov s))] ∧ ∃ y, ρ = [some (.tup (LI (s + 1) (unit s))), some (.int (s : Int)), some (.lst (LI (s + 1) (chs (s : Int)))), some (.ptr S.length), y, none, none]) 0 (s + 1) [some (.tup (LI (s + 1) (unit s))), some (.int (s : Int)), some (.lst (LI (s + 1) (chs (s : Int)))), some (.ptr S.length), none, none, none] (S ++ [O.lst []]) ⟨rfl, none, rfl⟩ fun i ρ S' hi hp => by
    obtain ⟨rfl, y, rfl⟩ := hp
    have ez : aC (eSl (eV 0) (oS (eV 4)) oN) (aC (eV 2) aN) [some (.tup (LI (s + 1) (unit s))), some (.int (s : Int)), some (.lst (LI (s + 1) (chs (s : Int)))), some (.ptr S.length), some (.int (0 + (i : Int))), none, none] (S ++ [O.lst (LI i (mov s))]) = .ok [.tup (LI (s - i + 1) (unit (s - i))), .lst (LI (s + 1) (chs (s : Int)))] (S ++ [O.lst (LI i (mov s))]) := by
      rw [← drop_unit (by omega)]
      exact u_aC (u_from (v_V rfl) (v_V rfl) (by omega) (by rw [LI_len]; omega)) (u_aC (v_V rfl) v_aN)
    have es : eB dSum (aC (eL (lC [5, 6] (tgT ((tgN 5) :: (tgN 6) :: [])) (Sm.iZip (aC (eSl (eV 0) (oS (eV 4)) oN) (aC (eV 2) aN))) tAll (eO2 dMulA (eV 5) (eV 6)))) aN) [some (.tup (LI (s + 1) (unit s))), some (.int (s : Int)), some (.lst (LI (s + 1) (chs (s : Int)))), some (.ptr S.length), some (.int (0 + (i : Int))), none, none] (S ++ [O.lst (LI i (mov s))]) = .ok (.int (mov s i)) (S ++ [O.lst (LI i (mov s))]) := by
      have := fv_unit (chs (s : Int)) (s - i)
      refine u_B (u_aC (u_L (v_lCr (zip_ok ez) (by rw [zip_take _ _ (by omega)]; exact comp_zip (by omega) unit_sz (chs_sz (by omega) (by omega)) (by show 5 < 7; decide) (by show 6 < 7; decide) (by decide)))) v_aN) ?_
      rw [sum_ints]
      exact congrArg (fun x => some (D.int x)) this
    refine ⟨_, _, _, rfl, w_X (d := .non) (S1 := S ++ [O.lst (LI (i + 1) (mov s))]) (v_M (v_V rfl) (trk_new _ _) (u_aC es v_aN) ?_), rfl, _, rfl⟩
    rw [app_new _ _ _ (by rw [LI_len]; omega), LI_snoc i]
  obtain ⟨rfl, y, rfl⟩ := p
  have hS1 : OkS (S ++ [O.lst (LI (s + 1) (mov s))]) := hS.snoc (los_LI _ _ _)
  refine m_rt [O.lst (LI (s + 1) (mov s))] hS (lo_tup _ _ _) (w_Sq (S1 := S ++ [O.lst []]) (w_P (v_aC ec (v_aC (v_N (u_lD v_aN (by decide))) v_aN))) (w_Sq ((w_F (v_Rn (n := s + 1) (u_aC (u_B (u_aC (v_V rfl) v_aN) (len_seq rfl)) v_aN) (by rw [LI_len]) (by omega))).trans e2) (w_R (u_Fr (u_aC (v_V rfl) v_aN) rfl (p_trimmed hS1 (by omega) (seq_new _ _) ?_)))))
  show chs (s : Int) (s - s) ≠ 0
  rw [Nat.sub_self]; show (1 : Int) ≠ 0; decide
end K75


set_option Elab.async false
set_option linter.all false
set_option maxRecDepth 100000
set_option maxHeartbeats 1000000
namespace K75
open PySem L2 Sm Ser
theorem As_b {a : Int} (ha : a ∈ As) : a.natAbs ≤ 2 := by
  simp [As] at ha
  rcases ha with rfl | rfl | rfl | rfl <;> decide
theorem bs_MJ {a : Int} (ha : a ∈ As) : MJ 1 0 (bs a) := fun i _ => by
  have := As_b ha
  unfold bs
  rw [Nat.zero_mul]
  split
  · decide
  · split
    · exact this
    · exact Nat.zero_le _
theorem Bn_bd {a j : Int} (ha : a ∈ As) (hj : j.natAbs ≤ 500) {i : Nat} (hi : i ≤ 100) : (Bn a j i).natAbs ≤ 2 ^ (11 * i) := by
  show (chs j i * a ^ i).natAbs ≤ _
  rw [Int.natAbs_mul, show 11 * i = 10 * i + i by omega, Nat.pow_add]
  exact Nat.mul_le_mul (chs_bd hj i (by omega)) (pow_bd (As_b ha) i)
theorem Bn_sh {a j : Int} (ha : a ∈ As) (hj : j.natAbs ≤ 500) {M : Nat} (hM : M ≤ 16) : Sh M (tl (fam a j)) := fun i hi => sh_of (e := 11 * i) (Bn_bd ha hj (by omega)) (by omega)
theorem p_pwb {S : Store} {a : Int} {M m : Nat} (hS : OkS S) (ha : a ∈ As) (h0 : 0 < M) (hM : M ≤ 9) (hm : m ≤ 16) : m_series_power [.tup (LI M (bs a)), .int (m : Int)] S = .ok (.tup (LI M (tl (fam a (m : Int))))) S := by
  rw [p_power hS h0 (by omega) (by omega) (Sz_of (bs_MJ ha) (by omega) (by decide)) (fun j hj => Sz_of ((bs_MJ ha).pw j) (by omega) (by omega))]
  rw [LI_congr fun i hi => fam_pw a (m := m) (by omega) (show i < 10 by omega)]
def pwc (a : Int) (m : Nat) : Ser.S := fun i => if i < 9 then pw (bs a) m i else 0
theorem pwc_b0 : ∀ a, a ∈ As → ∀ m : Nat, m < 6 → ∀ i, i < 9 → (Bn a (m : Int) i).natAbs ≤ 2 ^ 20 := by decide
theorem pwc_wr {a : Int} {m : Nat} (ha : a ∈ As) (hm : m < 6) : Wr (pwc a m) := ⟨pw_unit (bs_u a) m, fun i => by
  unfold pwc
  split
  · next h => rw [B_pw a m (by omega) i (by omega)]; exact pwc_b0 a ha m hm i h
  · exact Nat.zero_le _⟩
theorem p_oth {S : Store} {a : Int} {M m : Nat} (hS : OkS S) (ha : a ∈ As) (h0 : 0 < M) (hM : M ≤ 9) (hm : m < 6) : m_series_other [.tup (LI M (tl (fam a (m : Int))))] S = .ok (.tup (LI M (tl (fam a (-(m : Int)))))) S := by
  have e : LI M (tl (fam a (m : Int))) = LI M (pwc a m) := LI_congr fun i hi => by
    unfold pwc
    rw [if_pos (by omega)]; exact (fam_pw a (by omega) (by omega)).symm
  rw [e, p_other hS h0 (by omega) (pwc_wr ha hm)]
  have q : ∀ i, i < M → inv (pwc a m) i = tl (fam a (-(m : Int))) i := fun i hi => by
    rw [← fam_inv a (m := m) (by omega) (show i < 10 by omega)]
    exact inv_congr (M := 9) (pwc_wr ha hm).o (pw_unit (bs_u a) m) (fun j hj => by unfold pwc; rw [if_pos hj]) i (by omega)
  rw [LI_congr q]
theorem mov_fam0 : ∀ s, s < 5 → ∀ x : Nat, x < 8 → fv (mov s) (chs (x : Int)) (s + 1) = tl (fam (-1) (-1 - (s : Int))) x := by decide
theorem mov_sz {s M : Nat} (hs : s ≤ 100) (hM : M ≤ 100) : Sz M (mov s) := fun i hi => chs_sz (x := (s : Int)) (by omega) (M := 500) (by decide) (s - i) (by omega)
theorem p_mov {S : Store} {s p : Nat} (hS : OkS S) (hs : s < 5) (hp : p ≤ 8) : m_row_of_fall [.tup (LI (s + 1) (mov s)), .int (p : Int)] S = .ok (.tup (LI p (tl (fam (-1) (-1 - (s : Int)))))) S := by
  rw [p_row_of_fall hS (by omega) (by omega) (mov_sz (by omega) (by omega))]
  rw [LI_congr fun i hi => mov_fam0 s hs i (by omega)]
/-- the row's largest is not large -/
theorem max_test {S : Store} {a j : Int} {p : Nat} (ha : a ∈ As) (h1 : -5 ≤ j) (h2 : j ≤ 5) (hp : p + 1 ≤ 9) {ρ : Envm} (h : ρ[4]? = some (some (.tup (LI (p + 1) (fam a j))))) (hl : ρ.length = 15) :
    tV (eO2 (dCmp fun i j => decide (j < i)) (eB dMax (aC (eL (lC [14] (tgN 14) (iSeq (eV 4)) tAll (eB dAbs (aC (eV 14) aN)))) aN)) (eO2 dPow (eC (.int 10)) (eC (.int 6)))) ρ S = .ok false S := by
  have e1 : lC [14] (tgN 14) (iSeq (eV 4)) tAll (eB dAbs (aC (eV 14) aN)) ρ S = .ok (LI (p + 1) fun i => if fam a j i < 0 then -(fam a j i) else fam a j i) S := by
    refine v_lCr (S1 := S) (xs := LI (p + 1) (fam a j)) (v_iSeq (v_V h) rfl) ?_
    have q := comp_all (τ := tgN 14) (fe := eB dAbs (aC (eV 14) aN)) (ρ := wipeE ρ [14]) (S := S) (fun d => match d with | .int i => .int (if i < 0 then -i else i) | d => d) (LI (p + 1) (fam a j)) (by rw [LI_len]; omega) fun x hx => by
      obtain ⟨i, hi, rfl⟩ := List.mem_map.mp hx
      exact ⟨_, rfl, u_B (u_aC (v_V (d := .int (fam a j i)) (by
        show ((ρ.set 14 none).set 14 (some (.int (fam a j i))))[14]? = _
        rw [List.getElem?_set_self (by rw [List.length_set]; omega)])) v_aN) rfl⟩
    rw [q]
    unfold LI
    rw [List.map_map]; rfl
  have e2 : ∃ B : Int, dMax S [.lst (LI (p + 1) fun i => if fam a j i < 0 then -(fam a j i) else fam a j i)] = some (.int B) ∧ B ≤ 1000000 := by
    have hne : ((List.range (p + 1)).map fun i => if fam a j i < 0 then -(fam a j i) else fam a j i) ≠ [] := by simp
    refine ⟨maxI ((List.range (p + 1)).map fun i => if fam a j i < 0 then -(fam a j i) else fam a j i), ?_, ?_⟩
    · show (intsD (LI (p + 1) _)).bind _ = _
      rw [LI_ints]
      show (if _ then _ else _) = _
      rw [if_neg hne]
    · have := (maxI_mem hne).1
      obtain ⟨i, hi, e⟩ := List.mem_map.mp this
      rw [← e]
      have b := fam_b ha h1 h2 (i := i) (by have := List.mem_range.mp hi; omega)
      have c : (10 : Nat) ^ 6 = 1000000 := by decide
      split <;> omega
  obtain ⟨B, e3, hB⟩ := e2
  refine u_tV (u_O2 (u_B (u_aC (u_L e1) v_aN) e3) (pow106 _ _) ?_)
  show some (D.bl (decide (((1000000 : Nat) : Int) < B))) = _
  rw [decide_eq_false (by omega)]
end K75


set_option Elab.async false
set_option linter.all false
set_option maxRecDepth 100000
set_option maxHeartbeats 1000000
namespace K75
open PySem L2 Sm Ser
abbrev jn : F D := eO2 dSub (eC (.int 0)) (eO2 dMulA (eV 3) (eV 12))
abbrev gDue : G := gSeq (gA 13 (eF 2 m_law_choose (aC jn (aC (eO2 dSub (eV 12) (eC (.int 1))) aN)))) (gSeq (gI (tNo (tV (eF 2 m_law_same (aC (eF 2 m_fall_value (aC (eO2 dAdd (eO2 dMulA (eT (aC (eC (.int 0)) aN)) (eO2 dSub (eV 12) (eC (.int 1)))) (eT (aC (eC (.int 1)) aN))) (aC jn aN))) (aC (eV 13) aN))))) (gR (eC (.bl false))) gNx) (gSeq (gX (eM isTrk mApp (eV 10) (aC (eO2 dDiv (eO2 dMulA (eV 13) (eV 11)) (eV 12)) aN))) (gA 11 (eO2 dMulA (eV 11) (eV 2)))))
theorem p_due_loop {S : Store} {a j : Int} {M : Nat} (hS : OkS S) (ha : a ∈ As) (h1 : -5 ≤ j) (h2 : j ≤ 5) (hM : M ≤ 9) {x0 x1 x4 x5 x6 x7 x8 x9 x14 : Option D} :
    ∃ y11 y12 y13, loopL (tgN 12) gDue (rngD 1 (M - 1)) [x0, x1, some (.int a), some (.int j), x4, x5, x6, x7, x8, x9, some (.ptr S.length), some (.int 1), none, none, x14] (S ++ [O.lst (LI 1 (G (famc a j)))]) =
      .nx [x0, x1, some (.int a), some (.int j), x4, x5, x6, x7, x8, x9, some (.ptr S.length), y11, y12, y13, x14] (S ++ [O.lst (LI (M - 1 + 1) (G (famc a j)))]) := by
  have aB := As_b ha
  obtain ⟨ρ2, S2, e2, p⟩ := loop_rng (τ := tgN 12) (g := gDue) (fun i ρ S' => S' = S ++ [O.lst (LI (i + 1) (G (famc a j)))] ∧ ∃ z, z = a ^ i ∧ ∃ y12 y13, ρ = [x0, x1, some (.int a), some (.int j), x4, x5, x6, x7, x8, x9, some (.ptr S.length), some (.int z), y12, y13, x14]) 1 (M - 1)
    [x0, x1, some (.int a), some (.int j), x4, x5, x6, x7, x8, x9, some (.ptr S.length), some (.int 1), none, none, x14] (S ++ [O.lst (LI 1 (G (famc a j)))]) ⟨rfl, 1, (Int.pow_zero a).symm, none, none, rfl⟩ fun i ρ S' hi hp => by
    obtain ⟨rfl, z, hz, y12, y13, rfl⟩ := hp
    have hS1 : OkS (S ++ [O.lst (LI (i + 1) (G (famc a j)))]) := hS.snoc (los_LI _ _ _)
    generalize hg : S ++ [O.lst (LI (i + 1) (G (famc a j)))] = S1 at *
    have hjb : (j * (1 + (i : Int))).natAbs ≤ 40 := by
      rw [Int.natAbs_mul]
      exact Nat.le_trans (Nat.mul_le_mul (show j.natAbs ≤ 5 by omega) (show (1 + (i : Int)).natAbs ≤ 8 by omega)) (by decide)
    have hx : (0 - j * (1 + (i : Int))).natAbs ≤ 500 := by omega
    have ej : ∀ ρ : Envm, ρ[3]? = some (some (.int j)) → ρ[12]? = some (some (.int (1 + (i : Int)))) → jn ρ S1 = .ok (.int (0 - j * (1 + (i : Int)))) S1 := fun ρ q3 q12 =>
      u_O2 rfl (u_O2 (v_V q3) (v_V q12) (mulA_int (sz_of (e := 10) (by omega) (by decide)) (sz_of (e := 10) (by omega) (by decide)))) rfl
    have en : ∀ ρ : Envm, ρ[12]? = some (some (.int (1 + (i : Int)))) → eO2 dSub (eV 12) (eC (.int 1)) ρ S1 = .ok (.int (i : Int)) S1 := fun ρ q => u_O2 (a := .int (1 + (i : Int))) (b := .int 1) (v_V q) rfl (by
      show some (D.int (1 + (i : Int) - 1)) = _
      rw [show 1 + (i : Int) - 1 = (i : Int) by omega])
    have zb : z.natAbs ≤ 2 ^ i := by rw [hz]; exact pow_bd aB i
    have cb : (chs (0 - j * (1 + (i : Int))) i).natAbs ≤ 2 ^ (10 * i) := chs_bd hx i (by omega)
    have eG : chs (0 - j * (1 + (i : Int))) i * z / ((i + 1 : Nat) : Int) = G (famc a j) (i + 1) := by
      have q := fam_G ha h1 h2 (n := i) (by omega)
      have c1 : ((i + 1 : Nat) : Int) = 1 + (i : Int) := by omega
      have q2 : Bn a (0 - j * ((i + 1 : Nat) : Int)) i = chs (0 - j * (1 + (i : Int))) i * z := by rw [hz, c1]; rfl
      rw [q2] at q
      rw [← q]
      exact Int.mul_ediv_cancel_left _ (by omega)
    have ed : dDiv S1 (.int (chs (0 - j * (1 + (i : Int))) i * z)) (.int (1 + (i : Int))) = some (.int (G (famc a j) (i + 1))) := by
      rw [show 1 + (i : Int) = ((i + 1 : Nat) : Int) by omega, div_ok (by omega) (by omega), show ((i + 1 : Nat) : Int) = 1 + (i : Int) by omega]
      rw [show ((i + 1 : Nat) : Int) = 1 + (i : Int) by omega] at eG
      rw [eG]
    refine ⟨_, _, _, rfl, w_Sq (S1 := S1) (w_A (u_Fr (u_aC (ej _ rfl rfl) (u_aC (en _ rfl) v_aN)) rfl (p_choose hS1 hx (by omega)))) (w_Sq (S1 := S1) (w_ok (u_Fr (u_aC (u_Fr (u_aC (pad_unit (by omega) (en _ rfl)) (u_aC (ej _ rfl rfl) v_aN)) rfl (p_value_unit hS1 hx (by omega))) (u_aC (v_V rfl) v_aN)) rfl (same_int hS1 rfl (sh_of cb (by omega))))) (w_Sq (S1 := S ++ [O.lst (LI (i + 1 + 1) (G (famc a j)))]) (w_X (d := .non) (v_M (v_V rfl) (by rw [← hg]; exact trk_new _ _) (u_aC (u_O2 (u_O2 (v_V rfl) (v_V rfl) (mulA_int (sz_of cb (by omega)) (sz_of zb (by omega)))) (v_V rfl) ed) v_aN) ?_)) (w_A (u_O2 (v_V rfl) (v_V rfl) (mulA_int (sz_of zb (by omega)) (sz_of (e := 1) aB (by decide))))))), rfl, _, ?_, _, _, rfl⟩
    · rw [← hg, app_new _ _ _ (by rw [LI_len]; omega), LI_snoc (i + 1)]
    · rw [hz]; exact (Int.pow_succ a i).symm
  obtain ⟨rfl, z, _, y12, y13, rfl⟩ := p
  exact ⟨_, _, _, e2⟩
end K75


set_option Elab.async false
set_option linter.all false
set_option maxRecDepth 100000
set_option maxHeartbeats 1000000
namespace K75
open PySem L2 Sm Ser
theorem add1 {ρ : Envm} {S : Store} {p i : Nat} (h : ρ[i]? = some (some (.int (p : Int)))) : eO2 dAdd (eV i) (eC (.int 1)) ρ S = .ok (.int ((p + 1 : Nat) : Int)) S := u_O2 (v_V h) rfl rfl
theorem abs_j {ρ : Envm} {S : Store} {j : Int} {m : Nat} (hm : m = j.natAbs) (h : ρ[3]? = some (some (.int j))) : eB dAbs (aC (eV 3) aN) ρ S = .ok (.int (m : Int)) S :=
  u_B (u_aC (v_V h) v_aN) (by
    show some (D.int (if j < 0 then -j else j)) = _
    rw [show (if j < 0 then -j else j) = (m : Int) by split <;> omega])
theorem fam_cut {a j : Int} {M : Nat} (hM : M ≤ 9) : LI M (fam a j) = LI M (famc a j) := LI_congr fun i hi => by unfold famc; rw [if_pos (by omega)]
theorem bs_row {S : Store} {ρ : Envm} {M : Nat} {a : Int} (hM : M ≤ 16) (h2 : ρ[2]? = some (some (.int a))) (h1 : ρ[1]? = some (some (.int (M : Int)))) : eSl (eO2 dAdd (eT (aC (eC (.int 1)) (aC (eV 2) aN))) (eO2 dMulA (eT (aC (eC (.int 0)) aN)) (eC (.int 14)))) oN (oS (eV 1)) ρ S = .ok (.tup (LI M (bs a))) S :=
  few_row (K := 2) (z := 14) (f := bs a) (u_aC rfl (u_aC (v_V h2) v_aN)) (v_V h1) (by decide) (by decide) (by omega) fun i hi => by unfold bs; rw [if_neg (by omega), if_neg (by omega)]
theorem from1 {ρ : Envm} {S : Store} {fe : F D} {p : Nat} {f : Ser.S} (h : fe ρ S = .ok (.tup (LI (p + 1) f)) S) : eSl fe (oS (eC (.int 1))) oN ρ S = .ok (.tup (LI p (tl f))) S := by
  have := u_from (S := S) (g := eC (.int 1)) (k := 1) h rfl rfl (by rw [LI_len]; omega)
  rw [LI_drop1] at this
  exact this
abbrev sE : F D := eO2 dSub (eO1 dNeg (eV 3)) (eC (.int 1))
abbrev uE : F D := eO2 dAdd (eO2 dMulA (eT (aC (eC (.int 0)) aN)) sE) (eT (aC (eC (.int 1)) aN))
abbrev gMoved : G := gI (tAn (tV (eO2 (dCmp fun i j => decide (i < j)) (eV 3) (eC (.int 0)))) (tV (eO2 dEq (eV 2) (eO1 dNeg (eC (.int 1)))))) (gSeq (gA 9 (eF 2 m_fall_shifted (aC uE (aC sE aN)))) (gSeq (gA 7 (eFk 2 [1, 0] 0 2 m_fall_shifted aN (aC sE (aC uE aN)))) (gI (tOr_ (tNo (tV (eF 2 m_law_same (aC (eF 2 m_row_of_fall (aC (eV 9) (aC (eO2 dSub (eV 1) (eC (.int 1))) aN))) (aC (eSl (eV 4) (oS (eC (.int 1))) oN) aN))))) (tNo (tV (eF 2 m_law_same (aC (eV 7) (aC (eV 9) aN)))))) (gR (eC (.bl false))) gNx))) gNx
theorem p_moved {S : Store} {a j : Int} {p : Nat} (hS : OkS S) (ha : a ∈ As) (h1 : -5 ≤ j) (h2 : j ≤ 5) (hp : p + 1 ≤ 9) {x0 x5 x6 x7 x8 x9 x10 x11 x12 x13 x14 : Option D} :
    ∃ y7 y9, gMoved [x0, some (.int ((p + 1 : Nat) : Int)), some (.int a), some (.int j), some (.tup (LI (p + 1) (fam a j))), x5, x6, x7, x8, x9, x10, x11, x12, x13, x14] S = .nx [x0, some (.int ((p + 1 : Nat) : Int)), some (.int a), some (.int j), some (.tup (LI (p + 1) (fam a j))), x5, x6, y7, x8, y9, x10, x11, x12, x13, x14] S := by
  have t1 : tV (eO2 (dCmp fun i j => decide (i < j)) (eV 3) (eC (.int 0))) [x0, some (.int ((p + 1 : Nat) : Int)), some (.int a), some (.int j), some (.tup (LI (p + 1) (fam a j))), x5, x6, x7, x8, x9, x10, x11, x12, x13, x14] S = .ok (decide (j < 0)) S := u_tV (u_O2 (v_V rfl) rfl rfl)
  have t2 : tV (eO2 dEq (eV 2) (eO1 dNeg (eC (.int 1)))) [x0, some (.int ((p + 1 : Nat) : Int)), some (.int a), some (.int j), some (.tup (LI (p + 1) (fam a j))), x5, x6, x7, x8, x9, x10, x11, x12, x13, x14] S = .ok (a == -1) S := u_tV (u_O2 (b := .int (-1)) (v_V rfl) (u_O1 rfl rfl) eq_int)
  by_cases hj : j < 0
  · by_cases hA : a = -1
    · subst hA
      obtain ⟨s, rfl, hs⟩ : ∃ s : Nat, j = -1 - (s : Int) ∧ s < 5 := ⟨(-1 - j).toNat, by omega, by omega⟩
      have es : ∀ ρ : Envm, ρ[3]? = some (some (.int (-1 - (s : Int)))) → sE ρ S = .ok (.int (s : Int)) S := fun ρ h => u_O2 (a := .int (-(-1 - (s : Int)))) (b := .int 1) (u_O1 (v_V h) rfl) rfl (by
        show some (D.int (-(-1 - (s : Int)) - 1)) = _
        rw [show -(-1 - (s : Int)) - 1 = (s : Int) by omega])
      have shm : Sh (s + 1) (mov s) := fun i hi => sh_of (chs_bd (x := (s : Int)) (by omega) (s - i) (by omega)) (by omega)
      refine ⟨_, _, w_If (S1 := S) ?_ (w_Sq (w_A (u_Fr (u_aC (pad_unit (by omega) (es _ rfl)) (u_aC (es _ rfl) v_aN)) rfl (p_shifted hS (by omega)))) (w_Sq (w_A (u_Fkr (u_aC (es _ rfl) (u_aC (pad_unit (by omega) (es _ rfl)) v_aN)) rfl rfl (p_shifted hS (by omega)))) (w_Else (S1 := S) (v_or0 (S1 := S) (v_tNo (b := true) (u_tV ?_)) (v_tNo (b := true) (u_tV ?_))) rfl)))⟩
      · rw [v_tAn t1, decide_eq_true hj, if_pos rfl, t2]; rfl
      · exact u_Fr (u_aC (u_Fr (u_aC (v_V rfl) (u_aC (sub1 rfl) v_aN)) rfl (p_mov hS hs (by omega))) (u_aC (from1 (v_V rfl)) v_aN)) rfl (same_row hS (by omega) (fun _ _ => rfl) (Bn_sh ha (by omega) (by omega)))
      · exact u_Fr (u_aC (v_V rfl) (u_aC (v_V rfl) v_aN)) rfl (same_row hS (by omega) (fun _ _ => rfl) shm)
    · refine ⟨_, _, w_Else (S1 := S) ?_ rfl⟩
      have : (a == -1) = false := by simpa using hA
      rw [v_tAn t1, decide_eq_true hj, if_pos rfl, t2, this]
  · refine ⟨_, _, w_Else (S1 := S) ?_ rfl⟩
    rw [v_tAn t1, decide_eq_false hj, if_neg (by decide)]
end K75


set_option Elab.async false
set_option linter.all false
set_option maxRecDepth 100000
set_option maxHeartbeats 1000000
namespace K75
open PySem L2 Sm Ser
theorem p_families {c : List Int} {k m : Int} {p : Nat} (ok : BOk c k m) (h0 : 1 ≤ p) (hp : p + 1 ≤ 9) : Good (m_law_are_families_right [.ptr 1, .int ((p + 1 : Nat) : Int)] (Bg c k m [])) := by
  have s2 : ∀ a b : D, [a, b].length ≤ 100000 := fun _ _ => by show 2 ≤ 100000; decide
  obtain ⟨a, c1, k1, m1, hx, ok1, e1⟩ := p_pick (more := []) (xs := [1, -1, 1, -1, 2, -2]) ok OkM.nil (by simp) (by simp)
  have ha : a ∈ As := by
    simp at hx
    simp [As]
    omega
  obtain ⟨v, c2, k2, m2', hv, ok2, e2⟩ := p_draw (more := []) (n := 11) ok1 OkM.nil (by decide) (by decide)
  obtain ⟨j, hj⟩ : ∃ j : Int, j = (v : Int) - 5 := ⟨_, rfl⟩
  have h1 : -5 ≤ j := by omega
  have h2 : j ≤ 5 := by omega
  obtain ⟨u, hu⟩ : ∃ u : Nat, u = j.natAbs := ⟨_, rfl⟩
  have aB := As_b ha
  obtain ⟨v3, c3, k3, m3, hv3, ok3, e3⟩ := p_draw (more := []) (n := 11) ok2 OkM.nil (by decide) (by decide)
  obtain ⟨w, hw⟩ : ∃ w : Nat, w = 6 + v3 := ⟨_, rfl⟩
  have R := famc_row ha h1 h2
  obtain ⟨v4, c4, k4, m4, hv4, ok4, e4⟩ := p_draw (more := [O.lst (LI (p + 1) (G (famc a j)))]) (n := p) ok3 OkM.one h0 (by omega)
  obtain ⟨n, hn⟩ : ∃ n : Nat, n = 1 + v4 := ⟨_, rfl⟩
  refine ⟨c4, k4, m4, ok4, m_rtS [O.lst (LI (p + 1) (G (famc a j)))] (by simp [Bg]) okB rfl ?_⟩
  refine w_Sq (S1 := Bg c2 k2 m2' []) (w_P (d := .int a) (e := .int j) (v_aC (S1 := Bg c1 k1 m1 []) (v_Fr (u_aC (v_V rfl) (u_aC (u_L (u_lD (u_aC rfl (u_aC (u_O1 rfl rfl) (u_aC rfl (u_aC (u_O1 rfl rfl) (u_aC rfl (u_aC (u_O1 rfl rfl) v_aN)))))) (by show 6 ≤ 100000; decide))) v_aN)) rfl e1) (v_aC (S1 := Bg c2 k2 m2' []) (v_O2 (S1 := Bg c2 k2 m2' []) (v_Fr (u_aC (v_V rfl) (u_aC (d := .int 11) rfl v_aN)) rfl e2) rfl (by rw [hj]; rfl)) v_aN))) ?_
  refine w_Sq (S1 := Bg c2 k2 m2' []) (w_A (d := .tup (LI (p + 1) (fam a j))) (u_Fr (u_aC (v_V rfl) (u_aC (v_V rfl) (u_aC (v_V rfl) v_aN))) rfl (p_family okB aB (by omega) (by omega)))) ?_
  refine w_Sq (w_Else (S1 := Bg c2 k2 m2' []) (max_test ha h1 h2 hp rfl rfl) rfl) ?_
  refine w_Sq (S1 := Bg c2 k2 m2' []) (w_A (d := .tup (LI (p + 1) (bs a))) (bs_row (by omega) rfl rfl)) ?_
  refine w_Sq (S1 := Bg c2 k2 m2' []) (w_P (d := .tup (LI (p + 1) (tl (fam a (u : Int))))) (e := .tup (LI (p + 1 + 1) (fam a (u : Int)))) (u_aC (u_Fr (u_aC (v_V rfl) (u_aC (abs_j hu rfl) v_aN)) rfl (p_pwb okB ha (by omega) hp (by omega))) (u_aC (u_Fr (u_aC (add1 rfl) (u_aC (v_V rfl) (u_aC (abs_j hu rfl) v_aN))) rfl (p_family okB aB (by omega) (by omega))) v_aN))) ?_
  have shu : Sh (p + 1) (tl (fam a (u : Int))) := Bn_sh ha (by omega) (by omega)
  refine w_Sq (S1 := Bg c2 k2 m2' []) (w_ok (u_Fr (u_aC (u_L (u_lD (u_aC (v_V rfl) (u_aC (u_Fkr (u_aC (abs_j hu rfl) (u_aC (v_V rfl) v_aN)) rfl rfl (p_pwb okB ha (by omega) hp (by omega))) v_aN)) (s2 _ _))) (u_aC (u_L (u_lD (u_aC (from1 (v_V rfl)) (u_aC (from1 (v_V rfl)) v_aN)) (s2 _ _))) v_aN)) rfl (same_row2 okB (by omega) (by omega) (fun _ _ => rfl) (fun _ _ => rfl) shu shu))) ?_
  refine w_Sq (S1 := Bg c2 k2 m2' []) (w_A (d := .tup (LI (p + 1) (tl (fam a j)))) ?_) ?_
  · have t : ∀ ρ : Envm, ρ[3]? = some (some (.int j)) → tV (eO2 (dCmp fun i j => decide (j ≤ i)) (eV 3) (eC (.int 0))) ρ (Bg c2 k2 m2' []) = .ok (decide (0 ≤ j)) (Bg c2 k2 m2' []) := fun ρ h => u_tV (u_O2 (v_V h) rfl rfl)
    by_cases hj0 : 0 ≤ j
    · have : j = (u : Int) := by omega
      rw [this]
      exact v_IfT (S1 := Bg c2 k2 m2' []) (by rw [t _ (by rw [← this]; rfl), decide_eq_true hj0]) (v_V rfl)
    · have e : j = -(u : Int) := by omega
      refine v_IfF (S1 := Bg c2 k2 m2' []) (by rw [t _ rfl, decide_eq_false hj0]) ?_
      refine (u_Fr (u_aC (v_V rfl) v_aN) rfl (p_oth okB ha (by omega) hp (by omega))).trans ?_
      rw [← e]
  refine w_Sq (S1 := Bg c2 k2 m2' []) (w_A (d := .tup (LI (p + 1 + 1) (fam a j))) (u_Fr (u_aC (add1 rfl) (u_aC (v_V rfl) (u_aC (v_V rfl) v_aN))) rfl (p_family okB aB (by omega) (by omega)))) ?_
  refine w_Sq (S1 := Bg c3 k3 m3 []) (w_A (d := .int (w : Int)) (v_O2 (S1 := Bg c2 k2 m2' []) rfl (v_Fr (u_aC (v_V rfl) (u_aC (d := .int 11) rfl v_aN)) rfl e3) (by rw [hw, Int.natCast_add]; rfl))) ?_
  refine w_Sq (S1 := Bg c3 k3 m3 []) (w_ok (u_Fr (u_aC (u_L (u_lD (u_aC (v_V rfl) (u_aC (u_Fr (u_aC (v_V rfl) (u_aC (v_V rfl) v_aN)) rfl (p_pwb okB ha (by omega) hp (by omega))) v_aN)) (s2 _ _))) (u_aC (u_L (u_lD (u_aC (from1 (v_V rfl)) (u_aC (from1 (u_Fr (u_aC (add1 rfl) (u_aC (v_V rfl) (u_aC (v_V rfl) v_aN))) rfl (p_family okB aB (by omega) (by omega)))) v_aN)) (s2 _ _))) v_aN)) rfl (same_row2 okB (by omega) (by omega) (fun _ _ => rfl) (fun _ _ => rfl) (Bn_sh ha (by omega) (by omega)) (Bn_sh ha (by omega) (by omega))))) ?_
  obtain ⟨y7, y9, em⟩ := p_moved (S := Bg c3 k3 m3 []) okB ha h1 h2 hp (x0 := some (.ptr 1)) (x5 := some (.tup (LI (p + 1) (bs a)))) (x6 := some (.tup (LI (p + 1) (tl (fam a j))))) (x7 := some (.tup (LI (p + 1 + 1) (fam a j)))) (x8 := some (.int (w : Int))) (x9 := none) (x10 := none) (x11 := none) (x12 := none) (x13 := none) (x14 := none)
  refine w_Sq em ?_
  obtain ⟨y11, y12, y13, el⟩ := p_due_loop (S := Bg c3 k3 m3 []) (M := p + 1) okB ha h1 h2 hp (x0 := some (.ptr 1)) (x1 := some (.int ((p + 1 : Nat) : Int))) (x4 := some (.tup (LI (p + 1) (fam a j)))) (x5 := some (.tup (LI (p + 1) (bs a)))) (x6 := some (.tup (LI (p + 1) (tl (fam a j))))) (x7 := y7) (x8 := some (.int (w : Int))) (x9 := y9) (x14 := none)
  rw [show p + 1 - 1 + 1 = p + 1 by omega] at el
  refine w_Sq (S1 := Bg c3 k3 m3 [] ++ [O.lst (LI 1 (G (famc a j)))]) (w_P (d := .ptr (Bg c3 k3 m3 []).length) (e := .int 1) (v_aC (v_N (u_lD (u_aC rfl v_aN) (by show 1 ≤ 100000; decide))) (v_aC rfl v_aN))) ?_
  refine w_Sq ((w_F (v_Rm (m := 1) (n := p + 1) (u_aC rfl (u_aC (v_V rfl) v_aN)) rfl rfl (by decide) (by omega))).trans el) ?_
  have hB : OkS (Bg c3 k3 m3 [] ++ [O.lst (LI (p + 1) (G (famc a j)))]) := OkM.one.ok c3 k3 m3
  have hB4 : OkS (Bg c4 k4 m4 [O.lst (LI (p + 1) (G (famc a j)))]) := OkM.one.ok c4 k4 m4
  have shG : Sh (p + 1) (G (famc a j)) := R.shG (by omega)
  refine w_Sq (S1 := Bg c3 k3 m3 [O.lst (LI (p + 1) (G (famc a j)))]) (w_ok (u_Fr (as := [.tup (LI (p + 1) (G (famc a j))), .tup (LI (p + 1) (G (famc a j)))]) (u_aC (u_Fr (u_aC (v_V rfl) v_aN) rfl (by rw [fam_cut hp]; exact p_about hB (by omega) (by omega) R)) (u_aC (u_B (u_aC (v_V rfl) v_aN) (tup_seq (seq_new _ _))) v_aN)) rfl (same_row hB (by omega) (fun _ _ => rfl) shG))) ?_
  refine w_Sq (S1 := Bg c4 k4 m4 [O.lst (LI (p + 1) (G (famc a j)))]) (w_A (d := .int (n : Int)) (v_O2 (S1 := Bg c3 k3 m3 [O.lst (LI (p + 1) (G (famc a j)))]) rfl (v_Fr (u_aC (v_V rfl) (u_aC (sub1 rfl) v_aN)) rfl e4) (by rw [hn, Int.natCast_add]; rfl))) ?_
  refine w_R (u_Fr (as := [.int (G (famc a j) n), .int (G (famc a j) n)]) (u_aC (u_Fr (u_aC (v_V rfl) (u_aC (v_V rfl) v_aN)) rfl (by rw [fam_cut hp]; exact p_titem hB4 (by omega) (by omega) R (by omega))) (u_aC (u_O2 (v_V rfl) (v_V rfl) (ix_LI (S := Bg c4 k4 m4 [O.lst (LI (p + 1) (G (famc a j)))]) (d := .ptr 2) (M := p + 1) (f := G (famc a j)) rfl (i := n) rfl (by omega))) v_aN)) rfl (same_int hB4 rfl (shG n (by omega))))
end K75


set_option Elab.async false
set_option linter.all false
set_option maxRecDepth 100000
set_option maxHeartbeats 1000000
namespace K75
open PySem L2 Sm Ser
theorem repr_all {M : Nat} {f : Ser.S} (hM : M ≤ 1000) (h : Sh M f) : ∃ t : Str, PyData.strOk t = true ∧ ∀ S, dRepr S [.tup (LI M f)] = some (.str t) := by
  obtain ⟨xs, q⟩ := NcA.ints (n := 7) h
  have q := q.tup
  have ok : okR (.tuple xs) = true := by
    unfold okR
    rw [q.sh, q.shaped, decide_eq_true (Nat.le_trans q.bk (by omega))]; rfl
  refine ⟨PyData.shown (.tuple xs), ok_shown q.br, fun S => ?_⟩
  show (pyD S Sm.dp (.tup (LI M f))).bind (fun x => if okR x then some (D.str x.shown) else none) = _
  rw [q.py, Option.bind_some, if_pos ok]
theorem draw_e {ρ : Envm} {S S1 : Store} {n : Int} {v : D} (h : ρ[1]? = some (some (.ptr 1))) (e : m_law_draw [.ptr 1, .int n] S = .ok v S1) : eF 2 m_law_draw (aC (eV 1) (aC (eC (.int n)) aN)) ρ S = .ok v S1 := v_Fr (u_aC (v_V h) (u_aC rfl v_aN)) rfl e
/-- what a good answer does to the bag -/
theorem g_not {ρ : Envm} {S S1 : Store} {f : F D} (h : f ρ S = .ok (.bl true) S1) : tNo (tV f) ρ S = .ok false S1 := v_tNo (b := true) (v_tV h)
theorem g_or {ρ : Envm} {S S1 S2 : Store} {f g : F D} (h : f ρ S = .ok (.bl true) S1) (h2 : g ρ S1 = .ok (.bl true) S2) : gI (tOr_ (tNo (tV f)) (tNo (tV g))) (gR (eC (.bl false))) gNx ρ S = .nx ρ S2 := w_Else (v_or0 (g_not h) (g_not h2)) rfl
theorem g_one {ρ : Envm} {S S1 : Store} {f : F D} (h : f ρ S = .ok (.bl true) S1) : gI (tNo (tV f)) (gR (eC (.bl false))) gNx ρ S = .nx ρ S1 := w_Else (g_not h) rfl
theorem one_of {ρ : Envm} {c : List Int} {k m : Int} {t : F Bool} {fa fb : F D} {b : Bool} {P : Nat → Prop} {S0 : Store} (ht : t ρ S0 = .ok b (Bg c k m []))
    (ha : b = true → ∃ (M : Nat) (c' : List Int) (k' m' : Int), P M ∧ BOk c' k' m' ∧ fa ρ (Bg c k m []) = .ok (.int (M : Int)) (Bg c' k' m' []))
    (hb : ∃ (M : Nat) (c' : List Int) (k' m' : Int), P M ∧ BOk c' k' m' ∧ fb ρ (Bg c k m []) = .ok (.int (M : Int)) (Bg c' k' m' [])) :
    ∃ (M : Nat) (c' : List Int) (k' m' : Int), P M ∧ BOk c' k' m' ∧ eIf t fa fb ρ S0 = .ok (.int (M : Int)) (Bg c' k' m' []) := by
  cases b with
  | true => obtain ⟨M, c', k', m', p, ok, e⟩ := ha rfl; exact ⟨M, c', k', m', p, ok, v_IfT ht e⟩
  | false => obtain ⟨M, c', k', m', p, ok, e⟩ := hb; exact ⟨M, c', k', m', p, ok, v_IfF ht e⟩
theorem dr {ρ : Envm} {c : List Int} {k m : Int} {n : Nat} (ok : BOk c k m) (hn : 0 < n) (hn2 : n ≤ 100) (h : ρ[1]? = some (some (.ptr 1))) :
    ∃ (v : Nat) (c' : List Int) (k' m' : Int), v < n ∧ BOk c' k' m' ∧ eF 2 m_law_draw (aC (eV 1) (aC (eC (.int (n : Int))) aN)) ρ (Bg c k m []) = .ok (.int (v : Int)) (Bg c' k' m' []) := by
  obtain ⟨v, c', k', m', hv, ok', e⟩ := p_draw (more := []) ok OkM.nil hn (Nat.le_trans hn2 (by decide))
  exact ⟨v, c', k', m', hv, ok', draw_e h e⟩
theorem dr2 {ρ : Envm} {c : List Int} {k m : Int} {n : Nat} (ok : BOk c k m) (hn : 0 < n) (hn2 : n ≤ 100) (h : ρ[1]? = some (some (.ptr 1))) :
    ∃ (v : Nat) (c' : List Int) (k' m' : Int), (2 ≤ v ∧ v < 2 + n) ∧ BOk c' k' m' ∧ eO2 dAdd (eC (.int 2)) (eF 2 m_law_draw (aC (eV 1) (aC (eC (.int (n : Int))) aN))) ρ (Bg c k m []) = .ok (.int (v : Int)) (Bg c' k' m' []) := by
  obtain ⟨v, c', k', m', hv, ok', e⟩ := dr ok hn hn2 h
  exact ⟨2 + v, c', k', m', ⟨by omega, by omega⟩, ok', v_O2 (S1 := Bg c k m []) rfl e (by rw [Int.natCast_add]; rfl)⟩
abbrev manyE : F D := eO2 dAdd (eC (.int 2)) (eIf (tV (eO2 dEq (eF 2 m_law_draw (aC (eV 1) (aC (eC (.int 5)) aN))) (eC (.int 0)))) (eF 2 m_law_draw (aC (eV 1) (aC (eC (.int 15)) aN))) (eF 2 m_law_draw (aC (eV 1) (aC (eC (.int 9)) aN))))
theorem p_many {ρ : Envm} {c : List Int} {k m : Int} (ok : BOk c k m) (h : ρ[1]? = some (some (.ptr 1))) :
    ∃ (M : Nat) (c' : List Int) (k' m' : Int), (2 ≤ M ∧ M ≤ 16) ∧ BOk c' k' m' ∧ manyE ρ (Bg c k m []) = .ok (.int (M : Int)) (Bg c' k' m' []) := by
  obtain ⟨v, c1, k1, m1, hv, ok1, e1⟩ := dr (n := 5) ok (by decide) (by decide) h
  obtain ⟨M, c2, k2, m2, hM, ok2, e2⟩ := one_of (P := fun M => M < 15) (t := tV (eO2 dEq (eF 2 m_law_draw (aC (eV 1) (aC (eC (.int 5)) aN))) (eC (.int 0)))) (fa := eF 2 m_law_draw (aC (eV 1) (aC (eC (.int 15)) aN))) (fb := eF 2 m_law_draw (aC (eV 1) (aC (eC (.int 9)) aN))) (S0 := Bg c k m []) (v_tV (v_O2 e1 rfl eq_int)) (fun _ => dr (n := 15) ok1 (by decide) (by decide) h) (by
    obtain ⟨M, c2, k2, m2, hM, ok2, e2⟩ := dr (n := 9) ok1 (by decide) (by decide) h
    exact ⟨M, c2, k2, m2, by omega, ok2, e2⟩)
  exact ⟨2 + M, c2, k2, m2, ⟨by omega, by omega⟩, ok2, v_O2 (S1 := Bg c k m []) rfl e2 (by rw [Int.natCast_add]; rfl)⟩
theorem p_few {ρ : Envm} {c : List Int} {k m : Int} {M : Nat} (ok : BOk c k m) (h : ρ[1]? = some (some (.ptr 1))) (h2 : ρ[2]? = some (some (.int (M : Int)))) :
    ∃ (F : Nat) (c' : List Int) (k' m' : Int), (2 ≤ F ∧ F ≤ 9) ∧ BOk c' k' m' ∧ eIf (tV (eO2 (dCmp fun i j => decide (i < j)) (eV 2) (eC (.int 11)))) (eO2 dAdd (eC (.int 2)) (eF 2 m_law_draw (aC (eV 1) (aC (eC (.int 8)) aN)))) (eO2 dAdd (eC (.int 2)) (eF 2 m_law_draw (aC (eV 1) (aC (eC (.int 4)) aN)))) ρ (Bg c k m []) = .ok (.int (F : Int)) (Bg c' k' m' []) :=
  one_of (P := fun M => 2 ≤ M ∧ M ≤ 9) (v_tV (v_O2 (v_V h2) rfl rfl)) (fun _ => by
    obtain ⟨M, c2, k2, m2, hM, ok2, e2⟩ := dr2 (n := 8) ok (by decide) (by decide) h
    exact ⟨M, c2, k2, m2, ⟨by omega, by omega⟩, ok2, e2⟩) (by
    obtain ⟨M, c2, k2, m2, hM, ok2, e2⟩ := dr2 (n := 4) ok (by decide) (by decide) h
    exact ⟨M, c2, k2, m2, ⟨by omega, by omega⟩, ok2, e2⟩)
theorem p_tree_n {ρ : Envm} {c : List Int} {k m : Int} {M : Nat} (ok : BOk c k m) (h : ρ[1]? = some (some (.ptr 1))) (h2 : ρ[2]? = some (some (.int (M : Int)))) :
    ∃ (F : Nat) (c' : List Int) (k' m' : Int), (2 ≤ F ∧ F ≤ 16) ∧ BOk c' k' m' ∧ eIf (tAn (tV (eO2 dEq (eF 2 m_law_draw (aC (eV 1) (aC (eC (.int 9)) aN))) (eC (.int 0)))) (tV (eO2 (dCmp fun i j => decide (i < j)) (eV 2) (eC (.int 8))))) (eC (.int 16)) (eO2 dAdd (eC (.int 2)) (eF 2 m_law_draw (aC (eV 1) (aC (eC (.int 8)) aN)))) ρ (Bg c k m []) = .ok (.int (F : Int)) (Bg c' k' m' []) := by
  obtain ⟨v, c1, k1, m1, hv, ok1, e1⟩ := dr (n := 9) ok (by decide) (by decide) h
  have t : ∃ b, tAn (tV (eO2 dEq (eF 2 m_law_draw (aC (eV 1) (aC (eC (.int 9)) aN))) (eC (.int 0)))) (tV (eO2 (dCmp fun i j => decide (i < j)) (eV 2) (eC (.int 8)))) ρ (Bg c k m []) = .ok b (Bg c1 k1 m1 []) := by
    have t0 : tV (eO2 dEq (eF 2 m_law_draw (aC (eV 1) (aC (eC (.int 9)) aN))) (eC (.int 0))) ρ (Bg c k m []) = .ok ((v : Int) == 0) (Bg c1 k1 m1 []) := v_tV (v_O2 e1 rfl eq_int)
    rw [v_tAn t0]
    split
    · exact ⟨_, v_tV (v_O2 (v_V h2) rfl rfl)⟩
    · exact ⟨_, rfl⟩
  obtain ⟨b, t⟩ := t
  exact one_of (P := fun M => 2 ≤ M ∧ M ≤ 16) t (fun _ => ⟨16, c1, k1, m1, ⟨by decide, by decide⟩, ok1, rfl⟩) (by
    obtain ⟨M, c2, k2, m2, hM, ok2, e2⟩ := dr2 (n := 8) ok1 (by decide) (by decide) h
    exact ⟨M, c2, k2, m2, ⟨by omega, by omega⟩, ok2, e2⟩)
theorem law_true (ns : List Int) (h : ns.length ≤ 63) : m_law [.frl (ns.map .int)] [] = .ok (.bl true) [] := by
  obtain ⟨c0, m0, ok0, e0⟩ := p_own_bag ns h
  obtain ⟨M, c1, k1, m1, hM, ok1, e1⟩ := p_many (ρ := [some (.frl (ns.map .int)), some (.ptr 1), none, none, none, none]) ok0 rfl
  obtain ⟨mo, c2, k2, m2, hmo, ok2, e2⟩ := p_pick (more := []) (xs := [3, 9, ((1000000 : Nat) : Int)]) ok1 OkM.nil (by simp) (by simp)
  obtain ⟨most, rfl, hmost⟩ : ∃ t : Nat, mo = (t : Int) ∧ t ≤ 10 ^ 6 := by
    simp at hmo
    rcases hmo with rfl | rfl | rfl
    · exact ⟨3, rfl, by decide⟩
    · exact ⟨9, rfl, by decide⟩
    · exact ⟨1000000, rfl, by decide⟩
  obtain ⟨xs, c3, k3, m3, dx, ok3, e3⟩ := p_own_row (most := most) ok2 hM.1 (by omega) hmost
  have R := dx.row (by have : (2 : Nat) ^ 20 = 1048576 := by decide
                       have : (10 : Nat) ^ 6 = 1000000 := by decide
                       omega)
  rw [← LI_at, dx.l] at e3
  generalize at_ xs = u at *
  obtain ⟨t, st, et⟩ := repr_all (M := M) (f := u) (by omega) (R.shU (by omega))
  obtain ⟨c4, k4, m4, ok4, e4⟩ := p_turned ok3 hM.1 hM.2 R
  obtain ⟨c5, k5, m5, ok5, e5⟩ := p_powers ok4 hM.1 hM.2 R
  obtain ⟨F, c6, k6, m6, hF, ok6, e6⟩ := p_few (M := M) (ρ := [some (.frl (ns.map .int)), some (.ptr 1), some (.int (M : Int)), some (.tup (LI M u)), some (.str t), none]) ok5 rfl rfl
  obtain ⟨f, rfl⟩ : ∃ f, F = f + 1 := ⟨F - 1, by omega⟩
  obtain ⟨c7, k7, m7, ok7, e7⟩ := p_families ok6 (p := f) (by omega) (by omega)
  let ρ5 : Envm := [some (.frl (ns.map .int)), some (.ptr 1), some (.int (M : Int)), some (.tup (LI M u)), some (.str t), some (.int ((f + 1 : Nat) : Int))]
  obtain ⟨B, c8, k8, m8, hB, ok8, e8⟩ := dr2 (ρ := ρ5) (n := 6) ok7 (by decide) (by decide) rfl
  obtain ⟨c9, k9, m9, ok9, e9⟩ := p_both ok8 hB.1 (by omega) (by omega)
  obtain ⟨N, c10, k10, m10, hN, ok10, e10⟩ := p_tree_n (M := M) (ρ := ρ5) ok9 rfl rfl
  obtain ⟨q, rfl⟩ : ∃ q, N = q + 1 := ⟨N - 1, by omega⟩
  obtain ⟨c11, k11, m11, ok11, e11⟩ := p_roots ok10
  obtain ⟨c12, k12, m12, ok12, e12⟩ := p_refused ok11 hM.1 hM.2 R
  have all : g_law_are_all_right [some (.frl (ns.map .int)), none, none, none, none, none] [] = .rt (.bl true) (Bg c12 k12 m12 []) := by
    refine w_Sq (w_A (v_Fr (u_aC (v_V rfl) v_aN) rfl e0)) ?_
    refine w_Sq (w_A e1) ?_
    refine w_Sq (w_A (v_Fr (v_aC (v_V rfl) (v_aC (v_V rfl) (v_aC (v_Fr (u_aC (v_V rfl) (u_aC (u_L (u_lD (u_aC rfl (u_aC rfl (u_aC (pow106 _ _) v_aN))) (by show 3 ≤ 100000; decide))) v_aN)) rfl e2) v_aN))) rfl e3)) ?_
    refine w_Sq (w_A (u_B (u_aC (v_V rfl) v_aN) (et _))) ?_
    refine w_Sq (g_or (v_Fr (u_aC (v_V rfl) (u_aC (v_V rfl) v_aN)) rfl e4) (v_Fr (u_aC (v_V rfl) (u_aC (v_V rfl) v_aN)) rfl e5)) ?_
    refine w_Sq (w_A e6) ?_
    refine w_Sq (g_or (v_Fr (u_aC (v_V rfl) (u_aC (v_V rfl) v_aN)) rfl e7) (v_Fr (v_aC (v_V rfl) (v_aC e8 v_aN)) rfl e9)) ?_
    refine w_Sq (g_one (v_Fr (v_aC e10 v_aN) rfl (p_trees okB (by omega) (by omega)))) ?_
    refine w_Sq (g_or (v_Fr (u_aC (v_V rfl) v_aN) rfl e11) (v_Fr (u_aC (v_V rfl) (u_aC (v_V rfl) v_aN)) rfl e12)) ?_
    exact w_R (u_O2 (u_B (u_aC (v_V rfl) v_aN) (et _)) (v_V rfl) (str_eq st))
  have a2 : m_law_are_all_right [.frl (ns.map .int)] [] = .ok (.bl true) [] := m_rtS (S' := []) (Bg c12 k12 m12 []) rfl rfl rfl all
  refine m_rt0 rfl rfl ?_
  show gTry0 _ _ _ = _
  unfold gTry0
  rw [show gR (eF 1 m_law_are_all_right (aC (eV 0) aN)) _ [] = _ from w_R (v_Fr (u_aC (v_V rfl) v_aN) rfl a2)]
end K75


set_option Elab.async false
set_option linter.all false
set_option maxRecDepth 100000
set_option maxHeartbeats 4000000
namespace K75
open PySem L2 Sm PySem.Spec PyProof.Rows
/-- the top has written the def st under the name x -/
def Has (K : PySem.W.Frag) (x : Str) (st : Stmt) : Prop := ∃ (f : Addr) (oc : Value) (od an : Option Addr) (sl : Array (Option Value)) (kV dc pm cd ct : Value),
  PySem.W.nsIn K mainGlobals x = some (some (.ref f)) ∧ K.lookup f = some ⟨oc, od, .func (PySem.W.fnOf x x (defArgs st) (defBody st) (defScope st) .none kV dc pm an cd ct), sl⟩ ∧ PySem.W.codeIn K cd x = true ∧ PySem.W.keepIn K (.ref f) = true
theorem has_mk {K : PySem.W.Frag} {x : Str} {st : Stmt} {f : Addr} {oc : Value} {od an : Option Addr} {sl : Array (Option Value)} {kV dc pm cd ct : Value} (h1 : PySem.W.nsIn K mainGlobals x = some (some (.ref f))) (h2 : K.lookup f = some ⟨oc, od, .func (PySem.W.fnOf x x (defArgs st) (defBody st) (defScope st) .none kV dc pm an cd ct), sl⟩)
    (h3 : PySem.W.codeIn K cd x = true) (h4 : PySem.W.keepIn K (.ref f) = true) : Has K x st := ⟨f, oc, od, an, sl, kV, dc, pm, cd, ct, h1, h2, h3, h4⟩
theorem Has.out {K : PySem.W.Frag} {h : Heap} {mg : Str → Option Value} {x : Str} {st : Stmt} (a : Has K x st) (X : K.In h) (G : h.Ns mainGlobals mg) : ∃ (f : Addr) (fd : FuncData), Fun K x x st f fd ∧ mg x = some (.ref f) := by
  obtain ⟨f, oc, od, an, sl, kV, dc, pm, cd, ct, h1, h2, h3, h4⟩ := a
  exact ⟨f, _, fun_mk (st := st) h2 h3 h4, PySem.W.mg_of X G h1⟩
/-- the def of the law, with its binding of one argument -/
theorem Has.law {K : PySem.W.Frag} {h : Heap} {mg : Str → Option Value} {fa : Addr} (a : Has K "law" s_law) (X : K.In h) (G : h.Ns mainGlobals mg) (hfa : mg "law" = some (.ref fa)) : ∃ fd : FuncData, Fun K "law" "law" s_law fa fd ∧ ∀ (s : Shared) (v : Value), BindsTo s fd ⟨[v], []⟩ [("script", v)] := by
  obtain ⟨f, oc, od, an, sl, kV, dc, pm, cd, ct, h1, h2, h3, h4⟩ := a
  have e := hfa.symm.trans (PySem.W.mg_of X G h1)
  cases e
  exact ⟨_, fun_mk (st := s_law) h2 h3 h4, fun s v => .of_eq rfl⟩
structure HasE (K : PySem.W.Frag) (x : Str) (C : Addr) : Prop where
  n : PySem.W.nsIn K mainGlobals x = some (some (.ref C))
  k : PySem.W.keepIn K (.ref C) = true
  b : PySem.W.subIn K (.ref C) (.type "BaseException") = some true
  t : PySem.W.typeIn K (.ref C) = some (.type "type")
theorem HasE.out {K : PySem.W.Frag} {h : Heap} {mg : Str → Option Value} {x : Str} {C : Addr} (a : HasE K x C) (X : K.In h) (G : h.Ns mainGlobals mg) : Ecl K mg x C := ⟨PySem.W.mg_of X G a.n, a.k, a.b, a.t⟩
def HasQ (K : PySem.W.Frag) (cC : Addr) (x : Str) (b : Bool) : Prop := ∃ c : Addr, PySem.W.nsIn K mainGlobals x = some (some (.ref c)) ∧ PySem.W.kitOne K (.ref cC) (.ref c) = some b
theorem hasQ_mk {K : PySem.W.Frag} {cC : Addr} {x : Str} {b : Bool} {c : Addr} (h1 : PySem.W.nsIn K mainGlobals x = some (some (.ref c))) (h2 : PySem.W.kitOne K (.ref cC) (.ref c) = some b) : HasQ K cC x b := ⟨c, h1, h2⟩
theorem kit_same {K : PySem.W.Frag} {t : Value} : PySem.W.kitOne K t t = some true := if_pos (beq_self_eq_true _)
theorem kit_ref {K : PySem.W.Frag} {C c : Addr} {b : Bool} (hne : (Value.ref C == Value.ref c) = false) (h1 : PySem.W.hasDictIn K c = true) (h2 : PySem.W.typeIn K (.ref c) = some (.type "type")) (h3 : PySem.W.subIn K (.ref C) (.ref c) = some b) : PySem.W.kitOne K (.ref C) (.ref c) = some b := by
  obtain ⟨cd, hc, _⟩ := PySem.W.any_some h1
  have e2 : ((PySem.W.clsIn K c).isSome && PySem.W.typeIn K (.ref c) == some (.type "type")) = true := by rw [hc, h2] <;> rfl
  show (if (Value.ref C == Value.ref c) = true then some true else if ((PySem.W.clsIn K c).isSome && PySem.W.typeIn K (.ref c) == some (.type "type")) = true then PySem.W.subIn K (.ref C) (.ref c) else none) = some b
  rw [hne, if_neg Bool.false_ne_true, if_pos e2]
  exact h3
theorem HasQ.out {K : PySem.W.Frag} {h : Heap} {mg : Str → Option Value} {cC : Addr} {x : Str} {b : Bool} (a : HasQ K cC x b) (X : K.In h) (G : h.Ns mainGlobals mg) : ∃ c, Ask K mg cC x b c := by
  obtain ⟨c, h1, h2⟩ := a
  exact ⟨c, PySem.W.mg_of X G h1, h2⟩
theorem all_mk {P : Program} {w : World} {K : PySem.W.Frag} {h : Heap} {mg : Str → Option Value} {fa cC cT : Addr} (X : K.In h) (G : h.Ns mainGlobals mg) (hfa : mg "law" = some (.ref fa)) (h_law_own_bag : Has K "_law_own_bag" s_law_own_bag) (h_law_draw : Has K "_law_draw" s_law_draw) (h_law_pick : Has K "_law_pick" s_law_pick) (h_law_own_row : Has K "_law_own_row" s_law_own_row) (h_product_item : Has K "product_item" s_product_item) (h_series_product : Has K "series_product" s_series_product) (h_unit_series : Has K "unit_series" s_unit_series) (h_put_into : Has K "put_into" s_put_into) (h_series_put : Has K "series_put" s_series_put) (h_turned_about : Has K "turned_about" s_turned_about) (h_law_same : Has K "_law_same" s_law_same) (h_law_product : Has K "_law_product" s_law_product) (h_law_unit : Has K "_law_unit" s_law_unit) (h_law_own_put : Has K "_law_own_put" s_law_own_put) (h_law_own_other : Has K "_law_own_other" s_law_own_other) (h_law_own_turned : Has K "_law_own_turned" s_law_own_turned) (h_turned_item : Has K "turned_item" s_turned_item) (h_law_are_items_right : Has K "_law_are_items_right" s_law_are_items_right) (h_law_is_turned_right : Has K "_law_is_turned_right" s_law_is_turned_right) (h_series_other : Has K "series_other" s_series_other) (h_series_power : Has K "series_power" s_series_power) (h_law_own_power : Has K "_law_own_power" s_law_own_power) (h_law_are_powers_right : Has K "_law_are_powers_right" s_law_are_powers_right) (h_choices_row : Has K "choices_row" s_choices_row) (h_fall_value : Has K "fall_value" s_fall_value) (h_row_of_fall : Has K "row_of_fall" s_row_of_fall) (h_fall_trimmed : Has K "fall_trimmed" s_fall_trimmed) (h_fall_shifted : Has K "fall_shifted" s_fall_shifted) (h_law_choose : Has K "_law_choose" s_law_choose) (h_law_own_family : Has K "_law_own_family" s_law_own_family) (h_law_are_families_right : Has K "_law_are_families_right" s_law_are_families_right) (h_root_series : Has K "root_series" s_root_series) (h_law_are_trees_right : Has K "_law_are_trees_right" s_law_are_trees_right) (h_law_are_both_right : Has K "_law_are_both_right" s_law_are_both_right) (h_law_own_root : Has K "_law_own_root" s_law_own_root) (h_law_error : Has K "_law_error" s_law_error) (h_law_asked : Has K "_law_asked" s_law_asked) (h_law_are_roots_right : Has K "_law_are_roots_right" s_law_are_roots_right) (h_law_are_refused : Has K "_law_are_refused" s_law_are_refused) (h_law_are_all_right : Has K "_law_are_all_right" s_law_are_all_right) (h_law : Has K "law" s_law) (z_abs : PySem.W.nsIn K mainGlobals "abs" = some none) (z_int : PySem.W.nsIn K mainGlobals "int" = some none) (z_isinstance : PySem.W.nsIn K mainGlobals "isinstance" = some none) (z_len : PySem.W.nsIn K mainGlobals "len" = some none) (z_list : PySem.W.nsIn K mainGlobals "list" = some none) (z_max : PySem.W.nsIn K mainGlobals "max" = some none) (z_range : PySem.W.nsIn K mainGlobals "range" = some none) (z_repr : PySem.W.nsIn K mainGlobals "repr" = some none) (z_reversed : PySem.W.nsIn K mainGlobals "reversed" = some none) (z_sum : PySem.W.nsIn K mainGlobals "sum" = some none) (z_tuple : PySem.W.nsIn K mainGlobals "tuple" = some none) (z_zip : PySem.W.nsIn K mainGlobals "zip" = some none) (e0 : HasE K "Unfit" cC) (e1 : HasE K "TermError" cT) (ex : PySem.W.excIn K cC [.type "ValueError", .type "Exception", .type "BaseException", .type "object"] "ValueError.__new__" = true) (et : PySem.W.exmOne K (.ref cC) (.ref cT) = some true) (X0 : ExcC K cC) (q0 : HasQ K cC "Unfit" true) (q1 : HasQ K cC "TooMany" false) (q2 : HasQ K cC "BadText" false) (q3 : HasQ K cC "BadPolynomial" false) (q4 : HasQ K cC "BadLog" false) (q5 : HasQ K cC "Refused" false) (q6 : HasQ K cC "NothingToUndo" false) (q7 : HasQ K cC "NothingToRedo" false) (q8 : HasQ K cC "NoName" false) (q9 : HasQ K cC "NoVersion" false) :
    ∃ fd : FuncData, (∀ (s : Shared) (v : Value), BindsTo s fd ⟨[v], []⟩ [("script", v)]) ∧ ∀ base : Heap, K.In base → base.Ns mainGlobals mg → FnG P w K mg base (L2.CX P w) 9 fa fd ["script"] (spM K mg 1 m_law) := by
  obtain ⟨a_law_own_bag, f_law_own_bag, F_law_own_bag, g_law_own_bag⟩ := h_law_own_bag.out X G
  obtain ⟨a_law_draw, f_law_draw, F_law_draw, g_law_draw⟩ := h_law_draw.out X G
  obtain ⟨a_law_pick, f_law_pick, F_law_pick, g_law_pick⟩ := h_law_pick.out X G
  obtain ⟨a_law_own_row, f_law_own_row, F_law_own_row, g_law_own_row⟩ := h_law_own_row.out X G
  obtain ⟨a_product_item, f_product_item, F_product_item, g_product_item⟩ := h_product_item.out X G
  obtain ⟨a_series_product, f_series_product, F_series_product, g_series_product⟩ := h_series_product.out X G
  obtain ⟨a_unit_series, f_unit_series, F_unit_series, g_unit_series⟩ := h_unit_series.out X G
  obtain ⟨a_put_into, f_put_into, F_put_into, g_put_into⟩ := h_put_into.out X G
  obtain ⟨a_series_put, f_series_put, F_series_put, g_series_put⟩ := h_series_put.out X G
  obtain ⟨a_turned_about, f_turned_about, F_turned_about, g_turned_about⟩ := h_turned_about.out X G
  obtain ⟨a_law_same, f_law_same, F_law_same, g_law_same⟩ := h_law_same.out X G
  obtain ⟨a_law_product, f_law_product, F_law_product, g_law_product⟩ := h_law_product.out X G
  obtain ⟨a_law_unit, f_law_unit, F_law_unit, g_law_unit⟩ := h_law_unit.out X G
  obtain ⟨a_law_own_put, f_law_own_put, F_law_own_put, g_law_own_put⟩ := h_law_own_put.out X G
  obtain ⟨a_law_own_other, f_law_own_other, F_law_own_other, g_law_own_other⟩ := h_law_own_other.out X G
  obtain ⟨a_law_own_turned, f_law_own_turned, F_law_own_turned, g_law_own_turned⟩ := h_law_own_turned.out X G
  obtain ⟨a_turned_item, f_turned_item, F_turned_item, g_turned_item⟩ := h_turned_item.out X G
  obtain ⟨a_law_are_items_right, f_law_are_items_right, F_law_are_items_right, g_law_are_items_right⟩ := h_law_are_items_right.out X G
  obtain ⟨a_law_is_turned_right, f_law_is_turned_right, F_law_is_turned_right, g_law_is_turned_right⟩ := h_law_is_turned_right.out X G
  obtain ⟨a_series_other, f_series_other, F_series_other, g_series_other⟩ := h_series_other.out X G
  obtain ⟨a_series_power, f_series_power, F_series_power, g_series_power⟩ := h_series_power.out X G
  obtain ⟨a_law_own_power, f_law_own_power, F_law_own_power, g_law_own_power⟩ := h_law_own_power.out X G
  obtain ⟨a_law_are_powers_right, f_law_are_powers_right, F_law_are_powers_right, g_law_are_powers_right⟩ := h_law_are_powers_right.out X G
  obtain ⟨a_choices_row, f_choices_row, F_choices_row, g_choices_row⟩ := h_choices_row.out X G
  obtain ⟨a_fall_value, f_fall_value, F_fall_value, g_fall_value⟩ := h_fall_value.out X G
  obtain ⟨a_row_of_fall, f_row_of_fall, F_row_of_fall, g_row_of_fall⟩ := h_row_of_fall.out X G
  obtain ⟨a_fall_trimmed, f_fall_trimmed, F_fall_trimmed, g_fall_trimmed⟩ := h_fall_trimmed.out X G
  obtain ⟨a_fall_shifted, f_fall_shifted, F_fall_shifted, g_fall_shifted⟩ := h_fall_shifted.out X G
  obtain ⟨a_law_choose, f_law_choose, F_law_choose, g_law_choose⟩ := h_law_choose.out X G
  obtain ⟨a_law_own_family, f_law_own_family, F_law_own_family, g_law_own_family⟩ := h_law_own_family.out X G
  obtain ⟨a_law_are_families_right, f_law_are_families_right, F_law_are_families_right, g_law_are_families_right⟩ := h_law_are_families_right.out X G
  obtain ⟨a_root_series, f_root_series, F_root_series, g_root_series⟩ := h_root_series.out X G
  obtain ⟨a_law_are_trees_right, f_law_are_trees_right, F_law_are_trees_right, g_law_are_trees_right⟩ := h_law_are_trees_right.out X G
  obtain ⟨a_law_are_both_right, f_law_are_both_right, F_law_are_both_right, g_law_are_both_right⟩ := h_law_are_both_right.out X G
  obtain ⟨a_law_own_root, f_law_own_root, F_law_own_root, g_law_own_root⟩ := h_law_own_root.out X G
  obtain ⟨a_law_error, f_law_error, F_law_error, g_law_error⟩ := h_law_error.out X G
  obtain ⟨a_law_asked, f_law_asked, F_law_asked, g_law_asked⟩ := h_law_asked.out X G
  obtain ⟨a_law_are_roots_right, f_law_are_roots_right, F_law_are_roots_right, g_law_are_roots_right⟩ := h_law_are_roots_right.out X G
  obtain ⟨a_law_are_refused, f_law_are_refused, F_law_are_refused, g_law_are_refused⟩ := h_law_are_refused.out X G
  obtain ⟨a_law_are_all_right, f_law_are_all_right, F_law_are_all_right, g_law_are_all_right⟩ := h_law_are_all_right.out X G
  obtain ⟨f_law, F_law, b_law⟩ := h_law.law X G hfa
  obtain ⟨c0, Q0⟩ := q0.out X G
  obtain ⟨c1, Q1⟩ := q1.out X G
  obtain ⟨c2, Q2⟩ := q2.out X G
  obtain ⟨c3, Q3⟩ := q3.out X G
  obtain ⟨c4, Q4⟩ := q4.out X G
  obtain ⟨c5, Q5⟩ := q5.out X G
  obtain ⟨c6, Q6⟩ := q6.out X G
  obtain ⟨c7, Q7⟩ := q7.out X G
  obtain ⟨c8, Q8⟩ := q8.out X G
  obtain ⟨c9, Q9⟩ := q9.out X G
  have T : Txt2 K mg cC cT := { n_abs := PySem.W.mg_none_of X G z_abs, n_int := PySem.W.mg_none_of X G z_int, n_isinstance := PySem.W.mg_none_of X G z_isinstance, n_len := PySem.W.mg_none_of X G z_len, n_list := PySem.W.mg_none_of X G z_list, n_max := PySem.W.mg_none_of X G z_max, n_range := PySem.W.mg_none_of X G z_range, n_repr := PySem.W.mg_none_of X G z_repr, n_reversed := PySem.W.mg_none_of X G z_reversed, n_sum := PySem.W.mg_none_of X G z_sum, n_tuple := PySem.W.mg_none_of X G z_tuple, n_zip := PySem.W.mg_none_of X G z_zip, x_Unfit := ex, e_Unfit := e0.out X G, e_TermError := e1.out X G, t_Unfit := et }
  refine ⟨f_law, b_law, fun base _ _ => ?_⟩
  have d_law_own_bag := ok_law_own_bag (P := P) (w := w) (base := base) T F_law_own_bag g_law_own_bag  
  have d_law_draw := ok_law_draw (P := P) (w := w) (base := base) T F_law_draw g_law_draw  
  have d_law_pick := ok_law_pick (P := P) (w := w) (base := base) T F_law_pick g_law_pick d_law_draw 
  have d_law_own_row := ok_law_own_row (P := P) (w := w) (base := base) T F_law_own_row g_law_own_row d_law_pick d_law_draw 
  have d_product_item := ok_product_item (P := P) (w := w) (base := base) T F_product_item g_product_item  
  have d_series_product := ok_series_product (P := P) (w := w) (base := base) T F_series_product g_series_product d_product_item 
  have d_unit_series := ok_unit_series (P := P) (w := w) (base := base) T F_unit_series g_unit_series  
  have d_put_into := ok_put_into (P := P) (w := w) (base := base) T F_put_into g_put_into d_unit_series d_series_product 
  have d_series_put := ok_series_put (P := P) (w := w) (base := base) T F_series_put g_series_put d_put_into 
  have d_turned_about := ok_turned_about (P := P) (w := w) (base := base) T F_turned_about g_turned_about d_put_into 
  have d_law_same := ok_law_same (P := P) (w := w) (base := base) T F_law_same g_law_same  
  have d_law_product := ok_law_product (P := P) (w := w) (base := base) T F_law_product g_law_product  
  have d_law_unit := ok_law_unit (P := P) (w := w) (base := base) T F_law_unit g_law_unit  
  have d_law_own_put := ok_law_own_put (P := P) (w := w) (base := base) T F_law_own_put g_law_own_put d_law_unit d_law_product 
  have d_law_own_other := ok_law_own_other (P := P) (w := w) (base := base) T F_law_own_other g_law_own_other  
  have d_law_own_turned := ok_law_own_turned (P := P) (w := w) (base := base) T F_law_own_turned g_law_own_turned d_law_own_other d_law_unit d_law_product 
  have d_turned_item := ok_turned_item (P := P) (w := w) (base := base) T F_turned_item g_turned_item d_turned_about 
  have k_turned_item_n_row : KBn K f_turned_item ["row", "n"] 0 ["n", "row"] (pkW [1, 0]) (pkV [1, 0]) := kb_of F_turned_item fun _ _ _ _ _ _ ws hl => match ws, hl with | [_, _], _ => rfl
  have d_law_are_items_right := ok_law_are_items_right (P := P) (w := w) (base := base) T F_law_are_items_right g_law_are_items_right d_law_draw d_law_same d_turned_item k_turned_item_n_row
  have k_turned_about_row : KBn K f_turned_about ["row"] 0 ["row"] (pkW [0]) (pkV [0]) := kb_of F_turned_about fun _ _ _ _ _ _ ws hl => match ws, hl with | [_], _ => rfl
  have k_series_put_other_one : KBn K f_series_put ["one", "other"] 0 ["other", "one"] (pkW [1, 0]) (pkV [1, 0]) := kb_of F_series_put fun _ _ _ _ _ _ ws hl => match ws, hl with | [_, _], _ => rfl
  have d_law_is_turned_right := ok_law_is_turned_right (P := P) (w := w) (base := base) T F_law_is_turned_right g_law_is_turned_right d_law_own_turned d_turned_about d_law_same d_law_own_put d_series_put d_law_are_items_right k_turned_about_row k_series_put_other_one
  have d_series_other := ok_series_other (P := P) (w := w) (base := base) T F_series_other g_series_other  
  have d_series_power := ok_series_power (P := P) (w := w) (base := base) T F_series_power g_series_power d_unit_series d_series_product 
  have d_law_own_power := ok_law_own_power (P := P) (w := w) (base := base) T F_law_own_power g_law_own_power d_law_unit d_law_product 
  have k_series_other_row : KBn K f_series_other ["row"] 0 ["row"] (pkW [0]) (pkV [0]) := kb_of F_series_other fun _ _ _ _ _ _ ws hl => match ws, hl with | [_], _ => rfl
  have k_series_power_k_row : KBn K f_series_power ["row", "k"] 0 ["k", "row"] (pkW [1, 0]) (pkV [1, 0]) := kb_of F_series_power fun _ _ _ _ _ _ ws hl => match ws, hl with | [_, _], _ => rfl
  have d_law_are_powers_right := ok_law_are_powers_right (P := P) (w := w) (base := base) T F_law_are_powers_right g_law_are_powers_right d_law_own_turned d_law_draw d_law_own_other d_series_other d_law_same d_law_pick d_law_own_power d_series_power d_turned_item k_series_other_row k_series_power_k_row
  have d_choices_row := ok_choices_row (P := P) (w := w) (base := base) T F_choices_row g_choices_row  
  have d_fall_value := ok_fall_value (P := P) (w := w) (base := base) T F_fall_value g_fall_value d_choices_row 
  have d_row_of_fall := ok_row_of_fall (P := P) (w := w) (base := base) T F_row_of_fall g_row_of_fall d_fall_value 
  have d_fall_trimmed := ok_fall_trimmed (P := P) (w := w) (base := base) T F_fall_trimmed g_fall_trimmed  
  have d_fall_shifted := ok_fall_shifted (P := P) (w := w) (base := base) T F_fall_shifted g_fall_shifted d_choices_row d_fall_trimmed 
  have d_law_choose := ok_law_choose (P := P) (w := w) (base := base) T F_law_choose g_law_choose  
  have d_law_own_family := ok_law_own_family (P := P) (w := w) (base := base) T F_law_own_family g_law_own_family d_law_choose 
  have k_fall_shifted_s_fall : KBn K f_fall_shifted ["fall", "s"] 0 ["s", "fall"] (pkW [1, 0]) (pkV [1, 0]) := kb_of F_fall_shifted fun _ _ _ _ _ _ ws hl => match ws, hl with | [_, _], _ => rfl
  have d_law_are_families_right := ok_law_are_families_right (P := P) (w := w) (base := base) T F_law_are_families_right g_law_are_families_right d_law_pick d_law_draw d_law_own_family d_series_power d_law_same d_series_other d_fall_shifted d_row_of_fall d_law_choose d_fall_value d_turned_about d_turned_item k_series_power_k_row k_fall_shifted_s_fall
  have d_root_series := ok_root_series (P := P) (w := w) (base := base) T F_root_series g_root_series  
  have k_fall_value_fall_x : KBn K f_fall_value ["fall", "x"] 0 ["fall", "x"] (pkW [0, 1]) (pkV [0, 1]) := kb_of F_fall_value fun _ _ _ _ _ _ ws hl => match ws, hl with | [_, _], _ => rfl
  have k_row_of_fall_many_fall : KBn K f_row_of_fall ["fall", "many"] 0 ["many", "fall"] (pkW [1, 0]) (pkV [1, 0]) := kb_of F_row_of_fall fun _ _ _ _ _ _ ws hl => match ws, hl with | [_, _], _ => rfl
  have d_law_are_trees_right := ok_law_are_trees_right (P := P) (w := w) (base := base) T F_law_are_trees_right g_law_are_trees_right d_law_same d_turned_item d_turned_about d_fall_value d_root_series d_series_product d_row_of_fall k_fall_value_fall_x k_row_of_fall_many_fall k_turned_about_row
  have d_law_are_both_right := ok_law_are_both_right (P := P) (w := w) (base := base) T F_law_are_both_right g_law_are_both_right d_law_own_row d_law_own_put d_series_put d_law_same d_law_own_turned d_turned_about 
  have d_law_own_root := ok_law_own_root (P := P) (w := w) (base := base) T F_law_own_root g_law_own_root  
  have dW := ok_law_error (P := P) (w := w) (base := base) T X0 Q0 Q1 Q2 Q3 Q4 Q5 Q6 Q7 Q8 Q9 F_law_error g_law_error
  have d_law_asked := ok_law_asked (P := P) (w := w) (base := base) T F_law_asked g_law_asked d_root_series d_turned_about d_turned_item  dW
  have k_root_series_row : KBn K f_root_series ["row"] 0 ["row"] (pkW [0]) (pkV [0]) := kb_of F_root_series fun _ _ _ _ _ _ ws hl => match ws, hl with | [_], _ => rfl
  have k_series_product_one_other : KBn K f_series_product ["one", "other"] 0 ["one", "other"] (pkW [0, 1]) (pkV [0, 1]) := kb_of F_series_product fun _ _ _ _ _ _ ws hl => match ws, hl with | [_, _], _ => rfl
  have d_law_are_roots_right := ok_law_are_roots_right (P := P) (w := w) (base := base) T F_law_are_roots_right g_law_are_roots_right d_law_draw d_law_pick d_law_product d_root_series d_law_same d_series_product d_series_power d_law_own_root d_law_asked k_root_series_row k_series_product_one_other
  have d_law_are_refused := ok_law_are_refused (P := P) (w := w) (base := base) T F_law_are_refused g_law_are_refused d_law_draw d_law_pick d_law_same d_law_asked 
  have d_law_are_all_right := ok_law_are_all_right (P := P) (w := w) (base := base) T F_law_are_all_right g_law_are_all_right d_law_own_bag d_law_draw d_law_own_row d_law_pick d_law_is_turned_right d_law_are_powers_right d_law_are_families_right d_law_are_both_right d_law_are_trees_right d_law_are_roots_right d_law_are_refused 
  have d_law := ok_law (P := P) (w := w) (base := base) T F_law hfa d_law_are_all_right 
  exact d_law.fn
end K75
open PySem PySem.W PyProof.Rows in
set_option maxRecDepth 100000 in
set_option maxHeartbeats 0 in
theorem PySem.Challenge.cw_leadterms_k75_whole_turned_rows_and_tree_holds : PySem.Challenge.rw_leadterms_k75_whole_turned_rows_and_tree.Holds := by
  w_on; o_law; k_head; (case hw => w_witness2)
  k_fill
  refine Sm.walkG (l := PySem.Challenge.rw_leadterms_k75_whole_turned_rows_and_tree) (n := 63) (k := 9) (x := "script") (m := K75.m_law) rfl (by decide) rfl ⟨rfl, by decide, by decide⟩ rfl (fun w h Y => PySem.W.kIn_of Y) ?F K75.law_true
  case F =>
    intro w mg fa h KX G hmg
    refine' K75.all_mk KX G hmg ?h_law_own_bag ?h_law_draw ?h_law_pick ?h_law_own_row ?h_product_item ?h_series_product ?h_unit_series ?h_put_into ?h_series_put ?h_turned_about ?h_law_same ?h_law_product ?h_law_unit ?h_law_own_put ?h_law_own_other ?h_law_own_turned ?h_turned_item ?h_law_are_items_right ?h_law_is_turned_right ?h_series_other ?h_series_power ?h_law_own_power ?h_law_are_powers_right ?h_choices_row ?h_fall_value ?h_row_of_fall ?h_fall_trimmed ?h_fall_shifted ?h_law_choose ?h_law_own_family ?h_law_are_families_right ?h_root_series ?h_law_are_trees_right ?h_law_are_both_right ?h_law_own_root ?h_law_error ?h_law_asked ?h_law_are_roots_right ?h_law_are_refused ?h_law_are_all_right ?h_law ?z_abs ?z_int ?z_isinstance ?z_len ?z_list ?z_max ?z_range ?z_repr ?z_reversed ?z_sum ?z_tuple ?z_zip ?e0 ?e1 ?ex ?et ?X0 ?q0 ?q1 ?q2 ?q3 ?q4 ?q5 ?q6 ?q7 ?q8 ?q9
    (case h_law_own_bag => refine' K75.has_mk ?y0g0 ?y0g1 ?y0g2 ?y0g3; (case y0g0 => k_is); (case y0g1 => k_is); (case y0g2 => k_is); (case y0g3 => k_is))
    (case h_law_draw => refine' K75.has_mk ?y1g0 ?y1g1 ?y1g2 ?y1g3; (case y1g0 => k_is); (case y1g1 => k_is); (case y1g2 => k_is); (case y1g3 => k_is))
    (case h_law_pick => refine' K75.has_mk ?y2g0 ?y2g1 ?y2g2 ?y2g3; (case y2g0 => k_is); (case y2g1 => k_is); (case y2g2 => k_is); (case y2g3 => k_is))
    (case h_law_own_row => refine' K75.has_mk ?y3g0 ?y3g1 ?y3g2 ?y3g3; (case y3g0 => k_is); (case y3g1 => k_is); (case y3g2 => k_is); (case y3g3 => k_is))
    (case h_product_item => refine' K75.has_mk ?y4g0 ?y4g1 ?y4g2 ?y4g3; (case y4g0 => k_is); (case y4g1 => k_is); (case y4g2 => k_is); (case y4g3 => k_is))
    (case h_series_product => refine' K75.has_mk ?y5g0 ?y5g1 ?y5g2 ?y5g3; (case y5g0 => k_is); (case y5g1 => k_is); (case y5g2 => k_is); (case y5g3 => k_is))
    (case h_unit_series => refine' K75.has_mk ?y6g0 ?y6g1 ?y6g2 ?y6g3; (case y6g0 => k_is); (case y6g1 => k_is); (case y6g2 => k_is); (case y6g3 => k_is))
    (case h_put_into => refine' K75.has_mk ?y7g0 ?y7g1 ?y7g2 ?y7g3; (case y7g0 => k_is); (case y7g1 => k_is); (case y7g2 => k_is); (case y7g3 => k_is))
    (case h_series_put => refine' K75.has_mk ?y8g0 ?y8g1 ?y8g2 ?y8g3; (case y8g0 => k_is); (case y8g1 => k_is); (case y8g2 => k_is); (case y8g3 => k_is))
    (case h_turned_about => refine' K75.has_mk ?y9g0 ?y9g1 ?y9g2 ?y9g3; (case y9g0 => k_is); (case y9g1 => k_is); (case y9g2 => k_is); (case y9g3 => k_is))
    (case h_law_same => refine' K75.has_mk ?y10g0 ?y10g1 ?y10g2 ?y10g3; (case y10g0 => k_is); (case y10g1 => k_is); (case y10g2 => k_is); (case y10g3 => k_is))
    (case h_law_product => refine' K75.has_mk ?y11g0 ?y11g1 ?y11g2 ?y11g3; (case y11g0 => k_is); (case y11g1 => k_is); (case y11g2 => k_is); (case y11g3 => k_is))
    (case h_law_unit => refine' K75.has_mk ?y12g0 ?y12g1 ?y12g2 ?y12g3; (case y12g0 => k_is); (case y12g1 => k_is); (case y12g2 => k_is); (case y12g3 => k_is))
    (case h_law_own_put => refine' K75.has_mk ?y13g0 ?y13g1 ?y13g2 ?y13g3; (case y13g0 => k_is); (case y13g1 => k_is); (case y13g2 => k_is); (case y13g3 => k_is))
    (case h_law_own_other => refine' K75.has_mk ?y14g0 ?y14g1 ?y14g2 ?y14g3; (case y14g0 => k_is); (case y14g1 => k_is); (case y14g2 => k_is); (case y14g3 => k_is))
    (case h_law_own_turned => refine' K75.has_mk ?y15g0 ?y15g1 ?y15g2 ?y15g3; (case y15g0 => k_is); (case y15g1 => k_is); (case y15g2 => k_is); (case y15g3 => k_is))
    (case h_turned_item => refine' K75.has_mk ?y16g0 ?y16g1 ?y16g2 ?y16g3; (case y16g0 => k_is); (case y16g1 => k_is); (case y16g2 => k_is); (case y16g3 => k_is))
    (case h_law_are_items_right => refine' K75.has_mk ?y17g0 ?y17g1 ?y17g2 ?y17g3; (case y17g0 => k_is); (case y17g1 => k_is); (case y17g2 => k_is); (case y17g3 => k_is))
    (case h_law_is_turned_right => refine' K75.has_mk ?y18g0 ?y18g1 ?y18g2 ?y18g3; (case y18g0 => k_is); (case y18g1 => k_is); (case y18g2 => k_is); (case y18g3 => k_is))
    (case h_series_other => refine' K75.has_mk ?y19g0 ?y19g1 ?y19g2 ?y19g3; (case y19g0 => k_is); (case y19g1 => k_is); (case y19g2 => k_is); (case y19g3 => k_is))
    (case h_series_power => refine' K75.has_mk ?y20g0 ?y20g1 ?y20g2 ?y20g3; (case y20g0 => k_is); (case y20g1 => k_is); (case y20g2 => k_is); (case y20g3 => k_is))
    (case h_law_own_power => refine' K75.has_mk ?y21g0 ?y21g1 ?y21g2 ?y21g3; (case y21g0 => k_is); (case y21g1 => k_is); (case y21g2 => k_is); (case y21g3 => k_is))
    (case h_law_are_powers_right => refine' K75.has_mk ?y22g0 ?y22g1 ?y22g2 ?y22g3; (case y22g0 => k_is); (case y22g1 => k_is); (case y22g2 => k_is); (case y22g3 => k_is))
    (case h_choices_row => refine' K75.has_mk ?y23g0 ?y23g1 ?y23g2 ?y23g3; (case y23g0 => k_is); (case y23g1 => k_is); (case y23g2 => k_is); (case y23g3 => k_is))
    (case h_fall_value => refine' K75.has_mk ?y24g0 ?y24g1 ?y24g2 ?y24g3; (case y24g0 => k_is); (case y24g1 => k_is); (case y24g2 => k_is); (case y24g3 => k_is))
    (case h_row_of_fall => refine' K75.has_mk ?y25g0 ?y25g1 ?y25g2 ?y25g3; (case y25g0 => k_is); (case y25g1 => k_is); (case y25g2 => k_is); (case y25g3 => k_is))
    (case h_fall_trimmed => refine' K75.has_mk ?y26g0 ?y26g1 ?y26g2 ?y26g3; (case y26g0 => k_is); (case y26g1 => k_is); (case y26g2 => k_is); (case y26g3 => k_is))
    (case h_fall_shifted => refine' K75.has_mk ?y27g0 ?y27g1 ?y27g2 ?y27g3; (case y27g0 => k_is); (case y27g1 => k_is); (case y27g2 => k_is); (case y27g3 => k_is))
    (case h_law_choose => refine' K75.has_mk ?y28g0 ?y28g1 ?y28g2 ?y28g3; (case y28g0 => k_is); (case y28g1 => k_is); (case y28g2 => k_is); (case y28g3 => k_is))
    (case h_law_own_family => refine' K75.has_mk ?y29g0 ?y29g1 ?y29g2 ?y29g3; (case y29g0 => k_is); (case y29g1 => k_is); (case y29g2 => k_is); (case y29g3 => k_is))
    (case h_law_are_families_right => refine' K75.has_mk ?y30g0 ?y30g1 ?y30g2 ?y30g3; (case y30g0 => k_is); (case y30g1 => k_is); (case y30g2 => k_is); (case y30g3 => k_is))
    (case h_root_series => refine' K75.has_mk ?y31g0 ?y31g1 ?y31g2 ?y31g3; (case y31g0 => k_is); (case y31g1 => k_is); (case y31g2 => k_is); (case y31g3 => k_is))
    (case h_law_are_trees_right => refine' K75.has_mk ?y32g0 ?y32g1 ?y32g2 ?y32g3; (case y32g0 => k_is); (case y32g1 => k_is); (case y32g2 => k_is); (case y32g3 => k_is))
    (case h_law_are_both_right => refine' K75.has_mk ?y33g0 ?y33g1 ?y33g2 ?y33g3; (case y33g0 => k_is); (case y33g1 => k_is); (case y33g2 => k_is); (case y33g3 => k_is))
    (case h_law_own_root => refine' K75.has_mk ?y34g0 ?y34g1 ?y34g2 ?y34g3; (case y34g0 => k_is); (case y34g1 => k_is); (case y34g2 => k_is); (case y34g3 => k_is))
    (case h_law_error => refine' K75.has_mk ?y35g0 ?y35g1 ?y35g2 ?y35g3; (case y35g0 => k_is); (case y35g1 => k_is); (case y35g2 => k_is); (case y35g3 => k_is))
    (case h_law_asked => refine' K75.has_mk ?y36g0 ?y36g1 ?y36g2 ?y36g3; (case y36g0 => k_is); (case y36g1 => k_is); (case y36g2 => k_is); (case y36g3 => k_is))
    (case h_law_are_roots_right => refine' K75.has_mk ?y37g0 ?y37g1 ?y37g2 ?y37g3; (case y37g0 => k_is); (case y37g1 => k_is); (case y37g2 => k_is); (case y37g3 => k_is))
    (case h_law_are_refused => refine' K75.has_mk ?y38g0 ?y38g1 ?y38g2 ?y38g3; (case y38g0 => k_is); (case y38g1 => k_is); (case y38g2 => k_is); (case y38g3 => k_is))
    (case h_law_are_all_right => refine' K75.has_mk ?y39g0 ?y39g1 ?y39g2 ?y39g3; (case y39g0 => k_is); (case y39g1 => k_is); (case y39g2 => k_is); (case y39g3 => k_is))
    (case h_law => refine' K75.has_mk ?y40g0 ?y40g1 ?y40g2 ?y40g3; (case y40g0 => k_is); (case y40g1 => k_is); (case y40g2 => k_is); (case y40g3 => k_is))
    (case z_abs => k_is)
    (case z_int => k_is)
    (case z_isinstance => k_is)
    (case z_len => k_is)
    (case z_list => k_is)
    (case z_max => k_is)
    (case z_range => k_is)
    (case z_repr => k_is)
    (case z_reversed => k_is)
    (case z_sum => k_is)
    (case z_tuple => k_is)
    (case z_zip => k_is)
    (case e0 => refine' ⟨?y53g0, ?y53g1, ?y53g2, ?y53g3⟩; (case y53g0 => k_is); (case y53g1 => k_is); (case y53g2 => k_is); (case y53g3 => k_is))
    (case e1 => refine' ⟨?y54g0, ?y54g1, ?y54g2, ?y54g3⟩; (case y54g0 => k_is); (case y54g1 => k_is); (case y54g2 => k_is); (case y54g3 => k_is))
    (case ex => k_exc)
    (case et => refine' PySem.W.exm_ref ?y56g0 ?y56g1 ?y56g2 ?y56g3; (case y56g0 => k_is); (case y56g1 => k_is); (case y56g2 => k_is); (case y56g3 => k_is))
    (case X0 => refine' ⟨?y57g0, ?y57g1, ?y57g2, ?y57g3, ?y57g4, ?y57g5, ?y57g6, ?y57g7⟩; (case y57g0 => k_is); (case y57g1 => k_is); (case y57g2 => k_is); (case y57g3 => k_is); (case y57g4 => k_is); (case y57g5 => k_is); (case y57g6 => k_is); (case y57g7 => k_is))
    (case q0 => refine' K75.hasQ_mk ?y58g0 K75.kit_same; (case y58g0 => k_is))
    (case q1 => refine' K75.hasQ_mk ?y59g0 (K75.kit_ref ?y59g1 ?y59g2 ?y59g3 ?y59g4); (case y59g0 => k_is); (case y59g1 => first | rfl | decide | k_is); (case y59g2 => k_is); (case y59g3 => k_is); (case y59g4 => k_is))
    (case q2 => refine' K75.hasQ_mk ?y60g0 (K75.kit_ref ?y60g1 ?y60g2 ?y60g3 ?y60g4); (case y60g0 => k_is); (case y60g1 => first | rfl | decide | k_is); (case y60g2 => k_is); (case y60g3 => k_is); (case y60g4 => k_is))
    (case q3 => refine' K75.hasQ_mk ?y61g0 (K75.kit_ref ?y61g1 ?y61g2 ?y61g3 ?y61g4); (case y61g0 => k_is); (case y61g1 => first | rfl | decide | k_is); (case y61g2 => k_is); (case y61g3 => k_is); (case y61g4 => k_is))
    (case q4 => refine' K75.hasQ_mk ?y62g0 (K75.kit_ref ?y62g1 ?y62g2 ?y62g3 ?y62g4); (case y62g0 => k_is); (case y62g1 => first | rfl | decide | k_is); (case y62g2 => k_is); (case y62g3 => k_is); (case y62g4 => k_is))
    (case q5 => refine' K75.hasQ_mk ?y63g0 (K75.kit_ref ?y63g1 ?y63g2 ?y63g3 ?y63g4); (case y63g0 => k_is); (case y63g1 => first | rfl | decide | k_is); (case y63g2 => k_is); (case y63g3 => k_is); (case y63g4 => k_is))
    (case q6 => refine' K75.hasQ_mk ?y64g0 (K75.kit_ref ?y64g1 ?y64g2 ?y64g3 ?y64g4); (case y64g0 => k_is); (case y64g1 => first | rfl | decide | k_is); (case y64g2 => k_is); (case y64g3 => k_is); (case y64g4 => k_is))
    (case q7 => refine' K75.hasQ_mk ?y65g0 (K75.kit_ref ?y65g1 ?y65g2 ?y65g3 ?y65g4); (case y65g0 => k_is); (case y65g1 => first | rfl | decide | k_is); (case y65g2 => k_is); (case y65g3 => k_is); (case y65g4 => k_is))
    (case q8 => refine' K75.hasQ_mk ?y66g0 (K75.kit_ref ?y66g1 ?y66g2 ?y66g3 ?y66g4); (case y66g0 => k_is); (case y66g1 => first | rfl | decide | k_is); (case y66g2 => k_is); (case y66g3 => k_is); (case y66g4 => k_is))
    (case q9 => refine' K75.hasQ_mk ?y67g0 (K75.kit_ref ?y67g1 ?y67g2 ?y67g3 ?y67g4); (case y67g0 => k_is); (case y67g1 => first | rfl | decide | k_is); (case y67g2 => k_is); (case y67g3 => k_is); (case y67g4 => k_is))


