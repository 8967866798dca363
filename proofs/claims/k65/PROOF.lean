import PyProof.Rows.All
import HandS.ForMost
import HandS.Exc
import HandS.ExcOwn
import HandS.TryOnly
import HandS.WordsExc
import HandS.Flow
import HandS.Wide
import HandS.More
import HandS.IsInst
import HandS.TupAny
import HandS.Style
import HandS.StrMore
import HandS.CallLocal
import HandS.SortInts
import HandS.DictComp
import HandS.ExcIs
import PySem.Challenge.RW_meanwithin_k65_forms_reckoned
set_option Elab.async false
set_option linter.all false
set_option maxRecDepth 100000
/-! DW1: data without addresses: values D, a store of cells, and how they stand in the abstract heap. -/
namespace DW
open PySem PySem.Spec PyProof.Rows L2

/-- values: plain data, frozen containers, new containers that nobody holds (tl, td), references to cells of the store -/
inductive D where
  | non | bl (b : Bool) | int (i : Int) | str (x : Str) | tup (ds : List D) | ref (n : Nat)
  | fl (ds : List D) | sl (ds : List D) | tl (ds : List D)
  | fd (ks : List Key) (ds : List D) | td (ks : List Key) (ds : List D)
  | con (a : Addr) | ty (n : String)
  deriving Inhabited
/-- what a cell holds -/
inductive MO where
  | lst (ds : List D) | dic (kvs : List (Key × D)) | obj (C : Addr) (fs : List (Str × D))
  deriving Inhabited

section
variable (K : PySem.W.Frag) (Fr : Hp) (f : List Addr)
mutual
/-- the value v stands for d: Fr is what never changes, f where the cells stand -/
def Rep : D → V → Prop
  | .non, v => v = .non
  | .bl b, v => v = .bl b
  | .int i, v => v = .int i
  | .str x, v => v = .str x
  | .tup ds, v => ∃ a vs, v = .ref a ∧ SqT K Fr a vs ∧ Reps ds vs
  | .ref n, v => ∃ a, f[n]? = some a ∧ v = .ref a
  | .fl ds, v => ∃ a vs, v = .ref a ∧ Fr a = some (.lst vs) ∧ Reps ds vs
  | .sl ds, v => ∃ a vs, v = .ref a ∧ SqL K Fr a vs ∧ Reps ds vs
  | .fd ks ds, v => ∃ a kvs, v = .ref a ∧ Fr a = some (.dK kvs) ∧ kvs.map (·.1) = ks ∧ Reps ds (kvs.map (·.2))
  | .con a, v => v = .ref a
  | .ty n, v => v = .ty n
  | .tl _, _ => False
  | .td _ _, _ => False
def Reps : List D → List V → Prop
  | [], vs => vs = []
  | d :: ds, vs => ∃ v r, vs = v :: r ∧ Rep d v ∧ Reps ds r
end
end

theorem Same.seqT {K : PySem.W.Frag} {H H' : Hp} {a : Addr} {xs : List V} (e : Same H H') (h : SqT K H a xs) : SqT K H' a xs := by
  rcases h with (h | ⟨o, h⟩) | h
  · exact .inl (.inl (e _ _ h))
  · exact .inl (.inr ⟨o, e _ _ h⟩)
  · exact .inr h

theorem pre_get {α : Type} {f f' : List α} (h : f <+: f') {n : Nat} {a : α} (e : f[n]? = some a) : f'[n]? = some a := by
  obtain ⟨t, rfl⟩ := h
  rw [List.getElem?_append_left]
  · exact e
  · exact (List.getElem?_eq_some_iff.mp e).1

section
variable {K : PySem.W.Frag} {Fr Fr' : Hp} {f f' : List Addr}
mutual
theorem Rep.mono (hF : Same Fr Fr') (hf : f <+: f') : ∀ (d : D) (v : V), Rep K Fr f d v → Rep K Fr' f' d v
  | .non, _, h => h
  | .bl _, _, h => h
  | .int _, _, h => h
  | .str _, _, h => h
  | .tup ds, _, h => by
    obtain ⟨a, vs, e, s, r⟩ := h
    exact ⟨a, vs, e, Same.seqT hF s, Reps.mono hF hf ds vs r⟩
  | .ref _, _, h => by
    obtain ⟨a, e, q⟩ := h
    exact ⟨a, pre_get hf e, q⟩
  | .fl ds, _, h => by
    obtain ⟨a, vs, e, s, r⟩ := h
    exact ⟨a, vs, e, hF _ _ s, Reps.mono hF hf ds vs r⟩
  | .sl ds, _, h => by
    obtain ⟨a, vs, e, s, r⟩ := h
    exact ⟨a, vs, e, hF.seq s, Reps.mono hF hf ds vs r⟩
  | .fd ks ds, _, h => by
    obtain ⟨a, kvs, e, s, k, r⟩ := h
    exact ⟨a, kvs, e, hF _ _ s, k, Reps.mono hF hf ds _ r⟩
  | .con _, _, h => h
  | .ty _, _, h => h
  | .tl _, _, h => h
  | .td _ _, _, h => h
theorem Reps.mono (hF : Same Fr Fr') (hf : f <+: f') : ∀ (ds : List D) (vs : List V), Reps K Fr f ds vs → Reps K Fr' f' ds vs
  | [], _, h => h
  | d :: ds, _, h => by
    obtain ⟨v, r, e, h1, h2⟩ := h
    exact ⟨v, r, e, Rep.mono hF hf d v h1, Reps.mono hF hf ds r h2⟩
end

theorem Reps.length : ∀ {ds : List D} {vs : List V}, Reps K Fr f ds vs → ds.length = vs.length
  | [], vs, h => by cases (show vs = [] from h); rfl
  | d :: ds, vs, h => by
    obtain ⟨v, r, rfl, _, h2⟩ := h
    simp [Reps.length h2]
theorem Reps.get : ∀ {ds : List D} {vs : List V} {i : Nat} {d : D}, Reps K Fr f ds vs → ds[i]? = some d → ∃ v, vs[i]? = some v ∧ Rep K Fr f d v
  | [], vs, i, d, _, e => by simp at e
  | x :: ds, vs, 0, d, h, e => by
    obtain ⟨v, r, rfl, h1, _⟩ := h
    simp at e; subst e
    exact ⟨v, rfl, h1⟩
  | x :: ds, vs, i + 1, d, h, e => by
    obtain ⟨v, r, rfl, _, h2⟩ := h
    obtain ⟨w, e1, r1⟩ := Reps.get (i := i) h2 (by simpa using e)
    exact ⟨w, by simpa using e1, r1⟩
theorem Reps.get' {ds : List D} {vs : List V} {i : Nat} {v : V} (h : Reps K Fr f ds vs) (e : vs[i]? = some v) : ∃ d, ds[i]? = some d ∧ Rep K Fr f d v := by
  have hl := h.length
  have hi : i < vs.length := (List.getElem?_eq_some_iff.mp e).1
  obtain ⟨w, e1, r⟩ := Reps.get (i := i) (d := ds[i]'(by omega)) h (List.getElem?_eq_getElem _)
  rw [e] at e1; cases e1
  exact ⟨_, List.getElem?_eq_getElem (by omega), r⟩
theorem Reps.append : ∀ {ds es : List D} {vs ws : List V}, Reps K Fr f ds vs → Reps K Fr f es ws → Reps K Fr f (ds ++ es) (vs ++ ws)
  | [], es, vs, ws, h, h' => by cases (show vs = [] from h); exact h'
  | d :: ds, es, vs, ws, h, h' => by
    obtain ⟨v, r, rfl, h1, h2⟩ := h
    exact ⟨v, r ++ ws, rfl, h1, Reps.append h2 h'⟩
theorem Reps.take : ∀ {ds : List D} {vs : List V} (n : Nat), Reps K Fr f ds vs → Reps K Fr f (ds.take n) (vs.take n)
  | _, _, 0, _ => rfl
  | [], vs, n + 1, h => by cases (show vs = [] from h); rfl
  | d :: ds, vs, n + 1, h => by
    obtain ⟨v, r, rfl, h1, h2⟩ := h
    exact ⟨v, _, rfl, h1, Reps.take n h2⟩
theorem Reps.drop : ∀ {ds : List D} {vs : List V} (n : Nat), Reps K Fr f ds vs → Reps K Fr f (ds.drop n) (vs.drop n)
  | _, _, 0, h => h
  | [], vs, n + 1, h => by cases (show vs = [] from h); rfl
  | d :: ds, vs, n + 1, h => by
    obtain ⟨v, r, rfl, h1, h2⟩ := h
    exact Reps.drop n h2
theorem Reps.set : ∀ {ds : List D} {vs : List V} {d : D} {v : V} (i : Nat), Rep K Fr f d v → Reps K Fr f ds vs → Reps K Fr f (ds.set i d) (vs.set i v)
  | [], vs, d, v, i, _, h => by cases (show vs = [] from h); rfl
  | x :: ds, vs, d, v, 0, r, h => by
    obtain ⟨w, t, rfl, h1, h2⟩ := h
    exact ⟨v, t, rfl, r, h2⟩
  | x :: ds, vs, d, v, i + 1, r, h => by
    obtain ⟨w, t, rfl, h1, h2⟩ := h
    exact ⟨w, _, rfl, h1, Reps.set i r h2⟩
theorem Reps.reverse : ∀ {ds : List D} {vs : List V}, Reps K Fr f ds vs → Reps K Fr f ds.reverse vs.reverse
  | [], vs, h => by cases (show vs = [] from h); rfl
  | d :: ds, vs, h => by
    obtain ⟨v, r, rfl, h1, h2⟩ := h
    rw [List.reverse_cons, List.reverse_cons]
    exact Reps.append (Reps.reverse h2) ⟨v, [], rfl, h1, rfl⟩
theorem Reps.one {d : D} {vs : List V} (h : Reps K Fr f [d] vs) : ∃ v, vs = [v] ∧ Rep K Fr f d v := by
  obtain ⟨v, r, rfl, h1, h2⟩ := h
  cases (show r = [] from h2)
  exact ⟨v, rfl, h1⟩
theorem Reps.two {d e : D} {vs : List V} (h : Reps K Fr f [d, e] vs) : ∃ v w, vs = [v, w] ∧ Rep K Fr f d v ∧ Rep K Fr f e w := by
  obtain ⟨v, r, rfl, h1, h2⟩ := h
  obtain ⟨w, rfl, h3⟩ := Reps.one h2
  exact ⟨v, w, rfl, h1, h3⟩
theorem Reps.of1 {d : D} {v : V} (h : Rep K Fr f d v) : Reps K Fr f [d] [v] := ⟨v, [], rfl, h, rfl⟩
end

/-- a cell's content at the address a -/
def RepO (K : PySem.W.Frag) (Fr : Hp) (f : List Addr) (a : Addr) : MO → HO → Prop
  | .lst ds, o => ∃ vs, o = .lst vs ∧ Reps K Fr f ds vs
  | .dic kvs, o => ∃ ks, o = .dK ks ∧ ks.map (·.1) = kvs.map (·.1) ∧ Reps K Fr f (kvs.map (·.2)) (ks.map (·.2))
  | .obj C fs, o => ∃ dx gs, o = .ins C dx gs ∧ Fr dx = some (.own a) ∧ gs.map (·.1) = fs.map (·.1) ∧ Reps K Fr f (fs.map (·.2)) (gs.map (·.2))
theorem RepO.mono {K : PySem.W.Frag} {Fr Fr' : Hp} {f f' : List Addr} (hF : Same Fr Fr') (hf : f <+: f') {a : Addr} {m : MO} {o : HO} (h : RepO K Fr f a m o) : RepO K Fr' f' a m o := by
  cases m with
  | lst ds => obtain ⟨vs, e, r⟩ := h; exact ⟨vs, e, Reps.mono hF hf _ _ r⟩
  | dic kvs => obtain ⟨ks, e, k, r⟩ := h; exact ⟨ks, e, k, Reps.mono hF hf _ _ r⟩
  | obj C fs => obtain ⟨dx, gs, e, p, k, r⟩ := h; exact ⟨dx, gs, e, hF _ _ p, k, Reps.mono hF hf _ _ r⟩
theorem RepO.mut {K : PySem.W.Frag} {Fr : Hp} {f : List Addr} {a : Addr} {m : MO} {o : HO} (h : RepO K Fr f a m o) : Mut (some o) := by
  cases m with
  | lst ds => obtain ⟨vs, rfl, r⟩ := h; trivial
  | dic kvs => obtain ⟨ks, rfl, k, r⟩ := h; trivial
  | obj C fs => obtain ⟨dx, gs, rfl, p, k, r⟩ := h; trivial

abbrev Sto := List MO
abbrev Slots := List (Option D)

/-- the store alone; Pr: what else must stay as it is, and no value stands there -/
structure SimC (K : PySem.W.Frag) (Pr Fr : Hp) (f : List Addr) (st : Sto) (H : Hp) : Prop where
  fr : Same Fr H
  pr : Same Pr H
  pF : ∀ a o, Pr a = some o → Fr a = none
  pf : ∀ a o, Pr a = some o → a ∉ f
  nd : f.Nodup
  len : f.length = st.length
  nf : ∀ a ∈ f, Fr a = none
  cell : ∀ (n : Nat) (m : MO) (a : Addr), st[n]? = some m → f[n]? = some a → ∃ o, H a = some o ∧ RepO K Fr f a m o
/-- the slots -/
def RepS (K : PySem.W.Frag) (Fr : Hp) (f : List Addr) : Slots → L2.St → Prop
  | [], σ => σ = []
  | d :: ds, σ => ∃ v r, σ = v :: r ∧ (∀ x, d = some x → ∃ y, v = some y ∧ Rep K Fr f x y) ∧ RepS K Fr f ds r
structure Sim (K : PySem.W.Frag) (Pr Fr : Hp) (f : List Addr) (env : Slots) (st : Sto) (σ : L2.St) (H : Hp) : Prop extends SimC K Pr Fr f st H where
  env : RepS K Fr f env σ

section
variable {K : PySem.W.Frag} {Pr Fr Fr' : Hp} {f f' : List Addr} {st : Sto} {H H' : Hp} {σ : L2.St}
theorem RepS.mono (hF : Same Fr Fr') (hf : f <+: f') : ∀ {env : Slots} {σ : L2.St}, RepS K Fr f env σ → RepS K Fr' f' env σ
  | [], _, h => h
  | d :: ds, _, h => by
    obtain ⟨v, r, e, h1, h2⟩ := h
    exact ⟨v, r, e, fun x ex => let ⟨y, e1, r1⟩ := h1 x ex; ⟨y, e1, Rep.mono hF hf _ _ r1⟩, RepS.mono hF hf h2⟩
theorem RepS.get : ∀ {env : Slots} {σ : L2.St} {i : Nat} {x : D}, RepS K Fr f env σ → env[i]? = some (some x) → ∃ y, σ[i]? = some (some y) ∧ Rep K Fr f x y
  | [], σ, i, x, _, e => by simp at e
  | d :: ds, σ, 0, x, h, e => by
    obtain ⟨v, r, rfl, h1, _⟩ := h
    simp at e
    obtain ⟨y, e1, r1⟩ := h1 x e
    exact ⟨y, by simp [e1], r1⟩
  | d :: ds, σ, i + 1, x, h, e => by
    obtain ⟨v, r, rfl, _, h2⟩ := h
    obtain ⟨y, e1, r1⟩ := RepS.get (i := i) h2 (by simpa using e)
    exact ⟨y, by simpa using e1, r1⟩
theorem RepS.set : ∀ {env : Slots} {σ : L2.St} {x : D} {y : V} (i : Nat), Rep K Fr f x y → RepS K Fr f env σ → RepS K Fr f (env.set i (some x)) (σ.set i (some y))
  | [], σ, x, y, i, _, h => by cases (show σ = [] from h); rfl
  | d :: ds, σ, x, y, 0, r, h => by
    obtain ⟨v, t, rfl, h1, h2⟩ := h
    exact ⟨some y, t, rfl, fun z e => by cases e; exact ⟨y, rfl, r⟩, h2⟩
  | d :: ds, σ, x, y, i + 1, r, h => by
    obtain ⟨v, t, rfl, h1, h2⟩ := h
    exact ⟨v, _, rfl, h1, RepS.set i r h2⟩
theorem RepS.unset : ∀ {env : Slots} {σ : L2.St} (i : Nat), RepS K Fr f env σ → RepS K Fr f (env.set i none) (σ.set i none)
  | [], σ, i, h => by cases (show σ = [] from h); rfl
  | d :: ds, σ, 0, h => by
    obtain ⟨v, t, rfl, h1, h2⟩ := h
    exact ⟨none, t, rfl, (fun z e => by cases e), h2⟩
  | d :: ds, σ, i + 1, h => by
    obtain ⟨v, t, rfl, h1, h2⟩ := h
    exact ⟨v, _, rfl, h1, RepS.unset i h2⟩
theorem RepS.length : ∀ {env : Slots} {σ : L2.St}, RepS K Fr f env σ → env.length = σ.length
  | [], σ, h => by cases (show σ = [] from h); rfl
  | d :: ds, σ, h => by
    obtain ⟨v, t, rfl, h1, h2⟩ := h
    simp [RepS.length h2]

/-- a cell -/
theorem SimC.at (S : SimC K Pr Fr f st H) {n : Nat} {m : MO} (e : st[n]? = some m) : ∃ a o, f[n]? = some a ∧ H a = some o ∧ RepO K Fr f a m o := by
  have hn : n < st.length := (List.getElem?_eq_some_iff.mp e).1
  have hf : n < f.length := by rw [S.len]; exact hn
  have ef : f[n]? = some f[n] := List.getElem?_eq_getElem hf
  obtain ⟨o, h1, h2⟩ := S.cell n m _ e ef
  exact ⟨_, o, ef, h1, h2⟩
theorem SimC.lst (S : SimC K Pr Fr f st H) {n : Nat} {ds : List D} (e : st[n]? = some (.lst ds)) : ∃ a vs, f[n]? = some a ∧ H a = some (.lst vs) ∧ Reps K Fr f ds vs := by
  obtain ⟨a, o, h1, h2, vs, rfl, r⟩ := S.at e
  exact ⟨a, vs, h1, h2, r⟩
theorem SimC.dic (S : SimC K Pr Fr f st H) {n : Nat} {kvs : List (Key × D)} (e : st[n]? = some (.dic kvs)) : ∃ a ks, f[n]? = some a ∧ H a = some (.dK ks) ∧ ks.map (·.1) = kvs.map (·.1) ∧ Reps K Fr f (kvs.map (·.2)) (ks.map (·.2)) := by
  obtain ⟨a, o, h1, h2, vs, rfl, r⟩ := S.at e
  exact ⟨a, vs, h1, h2, r⟩
theorem get_inj {f : List Addr} (nd : f.Nodup) {i j : Nat} {a : Addr} (h1 : f[i]? = some a) (h2 : f[j]? = some a) : i = j := by
  obtain ⟨l1, e1⟩ := List.getElem?_eq_some_iff.mp h1
  obtain ⟨l2, e2⟩ := List.getElem?_eq_some_iff.mp h2
  exact (List.getElem_inj nd).mp (e1.trans e2.symm)
/-- a cell is written -/
theorem SimC.write (S : SimC K Pr Fr f st H) {n : Nat} {a : Addr} {m : MO} {o : HO} (ef : f[n]? = some a) (r : RepO K Fr f a m o) : SimC K Pr Fr f (st.set n m) (upd H a o) where
  fr := fun b u e => by
    rw [upd_ne]
    · exact S.fr b u e
    · intro z; subst z
      rw [S.nf _ (List.mem_of_getElem? ef)] at e; cases e
  pr := fun b u e => by
    rw [upd_ne]
    · exact S.pr b u e
    · intro z; subst z
      exact S.pf _ _ e (List.mem_of_getElem? ef)
  pF := S.pF
  pf := S.pf
  nd := S.nd
  len := by rw [S.len, List.length_set]
  nf := S.nf
  cell := fun k m' b e1 e2 => by
    by_cases hk : k = n
    · subst hk
      rw [ef] at e2; cases e2
      have hn : k < st.length := by rw [← S.len]; exact (List.getElem?_eq_some_iff.mp ef).1
      rw [List.getElem?_set_self hn] at e1
      cases e1
      exact ⟨o, upd_same, r⟩
    · rw [List.getElem?_set_ne (Ne.symm hk)] at e1
      obtain ⟨o', h1, h2⟩ := S.cell k m' b e1 e2
      refine ⟨o', ?_, h2⟩
      rw [upd_ne]
      · exact h1
      · intro z; subst z
        exact hk (get_inj S.nd e2 ef)
/-- something new is laid and never changes -/
theorem SimC.lay (S : SimC K Pr Fr f st H) {p : Addr} {o : HO} (hp : H p = none) : SimC K Pr (upd Fr p o) f st (upd H p o) ∧ Same Fr (upd Fr p o) := by
  have hFp : Fr p = none := S.fr.free hp
  have sm : Same Fr (upd Fr p o) := fun b u e => by rw [upd_ne (ne_of_none e hFp)]; exact e
  refine ⟨⟨fun b u e => ?_, fun b u e => ?_, fun b u e => ?_, S.pf, S.nd, S.len, fun a ha => ?_, fun n m a e1 e2 => ?_⟩, sm⟩
  · by_cases hb : b = p
    · subst hb; rw [upd_same] at e ⊢; exact e
    · rw [upd_ne hb] at e ⊢; exact S.fr b u e
  · rw [upd_ne (ne_of_none (S.pr b u e) hp)]; exact S.pr b u e
  · rw [upd_ne (ne_of_none (S.pr b u e) hp)]; exact S.pF b u e
  · rw [upd_ne]
    · exact S.nf a ha
    · intro z; subst z
      obtain ⟨n, hn, e⟩ := List.getElem_of_mem ha
      obtain ⟨b, o', h1, h2, _⟩ := S.at (n := n) (List.getElem?_eq_getElem (by rw [← S.len]; exact hn))
      rw [List.getElem?_eq_getElem hn, e] at h1
      cases h1
      rw [hp] at h2; cases h2
  · obtain ⟨o', h1, h2⟩ := S.cell n m a e1 e2
    exact ⟨o', by rw [upd_ne (ne_of_none h1 hp)]; exact h1, h2.mono sm (List.prefix_refl _)⟩
/-- what stands and nobody holds is frozen -/
theorem SimC.freeze (S : SimC K Pr Fr f st H) {p : Addr} {o : HO} (hp : H p = some o) (hF : Fr p = none) (hP : Pr p = none) (hn : p ∉ f) : SimC K Pr (upd Fr p o) f st H ∧ Same Fr (upd Fr p o) := by
  have sm : Same Fr (upd Fr p o) := fun b u e => by rw [upd_ne (ne_of_none e hF)]; exact e
  refine ⟨⟨fun b u e => ?_, S.pr, fun b u e => ?_, S.pf, S.nd, S.len, fun a ha => ?_, fun n m a e1 e2 => ?_⟩, sm⟩
  · by_cases hb : b = p
    · subst hb; rw [upd_same] at e; cases e; exact hp
    · rw [upd_ne hb] at e; exact S.fr b u e
  · rw [upd_ne (ne_of_none e hP)]; exact S.pF b u e
  · rw [upd_ne]
    · exact S.nf a ha
    · intro z; subst z; exact hn ha
  · obtain ⟨o', h1, h2⟩ := S.cell n m a e1 e2
    exact ⟨o', h1, h2.mono sm (List.prefix_refl _)⟩
/-- .. becomes a cell -/
theorem SimC.box (S : SimC K Pr Fr f st H) {p : Addr} {o : HO} {m : MO} (hp : H p = some o) (hF : Fr p = none) (hP : Pr p = none) (hn : p ∉ f) (r : RepO K Fr f p m o) : SimC K Pr Fr (f ++ [p]) (st ++ [m]) H where
  fr := S.fr
  pr := S.pr
  pF := S.pF
  pf := fun a u e ha => by
    rcases List.mem_append.mp ha with h | h
    · exact S.pf a u e h
    · have : a = p := by simpa using h
      subst this; rw [hP] at e; cases e
  nd := by
    rw [List.nodup_append]
    exact ⟨S.nd, by simp, fun a ha b hb => by
      have : b = p := by simpa using hb
      subst this
      intro z; subst z; exact hn ha⟩
  len := by simp [S.len]
  nf := fun a ha => by
    rcases List.mem_append.mp ha with h | h
    · exact S.nf a h
    · have : a = p := by simpa using h
      subst this; exact hF
  cell := fun n m' a e1 e2 => by
    by_cases hn : n < st.length
    · rw [List.getElem?_append_left hn] at e1
      rw [List.getElem?_append_left (by rw [S.len]; exact hn)] at e2
      obtain ⟨o', h1, h2⟩ := S.cell n m' a e1 e2
      exact ⟨o', h1, h2.mono (Same.refl _) (List.prefix_append _ _)⟩
    · have hn' : n = st.length := by
        have := (List.getElem?_eq_some_iff.mp e1).1
        simp at this
        omega
      subst hn'
      rw [List.getElem?_append_right (Nat.le_refl _)] at e1
      rw [← S.len, List.getElem?_append_right (Nat.le_refl _)] at e2
      simp at e1 e2
      subst e1 e2
      exact ⟨o, hp, r.mono (Same.refl _) (List.prefix_append _ _)⟩
/-- another object, neither frozen nor a cell, is laid or changed -/
theorem SimC.other (S : SimC K Pr Fr f st H) {p : Addr} {o : HO} (hF : Fr p = none) (hP : Pr p = none) (hn : p ∉ f) : SimC K Pr Fr f st (upd H p o) where
  fr := fun b u e => by rw [upd_ne (ne_of_none e hF)]; exact S.fr b u e
  pr := fun b u e => by rw [upd_ne (ne_of_none e hP)]; exact S.pr b u e
  pF := S.pF
  pf := S.pf
  nd := S.nd
  len := S.len
  nf := S.nf
  cell := fun n m a e1 e2 => by
    obtain ⟨o', h1, h2⟩ := S.cell n m a e1 e2
    refine ⟨o', ?_, h2⟩
    rw [upd_ne]
    · exact h1
    · intro z; subst z; exact hn (List.mem_of_getElem? e2)
theorem SimC.notCell (S : SimC K Pr Fr f st H) {p : Addr} (hp : H p = none) : p ∉ f := fun ha => by
  obtain ⟨n, hn, e⟩ := List.getElem_of_mem ha
  obtain ⟨b, o', h1, h2, _⟩ := S.at (n := n) (List.getElem?_eq_getElem (by rw [← S.len]; exact hn))
  rw [List.getElem?_eq_getElem hn, e] at h1
  cases h1
  rw [hp] at h2; cases h2
end
end DW

/-! DW2: what an expression does to data, and how it is lifted to the layer's readings. -/
namespace DW
open PySem PySem.Spec PyProof.Rows L2

abbrev EdT := Addr → Slots → Sto → Prop
abbrev DE := EdT → Slots → Sto → (D → Sto → Prop) → Prop
abbrev DT := EdT → Slots → Sto → (Bool → Sto → Prop) → Prop
abbrev DA := EdT → Slots → Sto → (List D → Sto → Prop) → Prop
abbrev DO := EdT → Slots → Sto → (Option Int → Sto → Prop) → Prop
abbrev noEd : EdT := fun _ _ _ => False
abbrev noW : WX := fun _ _ _ _ => False

def RepX (K : PySem.W.Frag) (Pr Fr : Hp) (f : List Addr) (H : Hp) : D → V → Prop
  | .tl ds, v => ∃ a vs, v = .ref a ∧ H a = some (.lst vs) ∧ Fr a = none ∧ Pr a = none ∧ a ∉ f ∧ Reps K Fr f ds vs
  | .td ks ds, v => ∃ a kvs, v = .ref a ∧ H a = some (.dK kvs) ∧ Fr a = none ∧ Pr a = none ∧ a ∉ f ∧ kvs.map (·.1) = ks ∧ Reps K Fr f ds (kvs.map (·.2))
  | d, v => Rep K Fr f d v
@[reducible] def frz : D → D
  | .tl ds => .fl ds
  | .td ks ds => .fd ks ds
  | d => d

section
variable {K : PySem.W.Frag} {Pr Fr Fr' : Hp} {f f' : List Addr} {st : Sto} {H H' : Hp} {σ : L2.St} {env : Slots}
theorem RepX.of {d : D} {v : V} (r : Rep K Fr f d v) : RepX K Pr Fr f H d v := by
  cases d <;> first | exact r | exact (show False from r).elim
theorem RepX.frz (S : SimC K Pr Fr f st H) {d : D} {v : V} (r : RepX K Pr Fr f H d v) : ∃ Fr', SimC K Pr Fr' f st H ∧ Same Fr Fr' ∧ Rep K Fr' f (frz d) v := by
  cases d with
  | tl ds =>
    obtain ⟨a, vs, rfl, h1, h2, h3, h4, r⟩ := r
    obtain ⟨S', sm⟩ := S.freeze h1 h2 h3 h4
    exact ⟨_, S', sm, a, vs, rfl, upd_same, Reps.mono sm (List.prefix_refl _) _ _ r⟩
  | td ks ds =>
    obtain ⟨a, kvs, rfl, h1, h2, h3, h4, e, r⟩ := r
    obtain ⟨S', sm⟩ := S.freeze h1 h2 h3 h4
    exact ⟨_, S', sm, a, kvs, rfl, upd_same, e, Reps.mono sm (List.prefix_refl _) _ _ r⟩
  | _ => exact ⟨Fr, S, Same.refl _, r⟩
theorem Sim.up (S : Sim K Pr Fr f env st σ H) {st' : Sto} (hF : Same Fr Fr') (hf : f <+: f') (C : SimC K Pr Fr' f' st' H') : Sim K Pr Fr' f' env st' σ H' :=
  ⟨C, RepS.mono hF hf S.env⟩
theorem SimC.frL (S : SimC K Pr Fr f st H) {a : Addr} {vs : List V} (h : SqL K Fr a vs) : SqL K H a vs := S.fr.seq h
theorem SimC.frT (S : SimC K Pr Fr f st H) {a : Addr} {vs : List V} (h : SqT K Fr a vs) : SqT K H a vs := Same.seqT S.fr h
end

/-- a new container becomes a cell -/
def box (st : Sto) : D → D × Sto
  | .tl ds => (.ref st.length, st ++ [.lst ds])
  | .td ks ds => (.ref st.length, st ++ [.dic (ks.zip ds)])
  | d => (d, st)
/-- what is held: a cell (bx) or frozen -/
@[reducible] def keep (bx : Bool) (st : Sto) (x : D) : D × Sto := if bx = true then box st x else (frz x, st)
theorem RepX.box {K : PySem.W.Frag} {Fr : Hp} {f : List Addr} {st : Sto} {H : Hp} (S : SimC K Pr Fr f st H) {d : D} {v : V} (r : RepX K Pr Fr f H d v) : ∃ f', f <+: f' ∧ SimC K Pr Fr f' (box st d).2 H ∧ Rep K Fr f' (box st d).1 v := by
  cases d with
  | tl ds =>
    obtain ⟨a, vs, rfl, h1, h2, h3, h4, r⟩ := r
    refine ⟨f ++ [a], List.prefix_append _ _, S.box (m := .lst ds) h1 h2 h3 h4 ⟨vs, rfl, r⟩, a, ?_, rfl⟩
    rw [← S.len, List.getElem?_append_right (Nat.le_refl _)]
    simp
  | td ks ds =>
    obtain ⟨a, kvs, rfl, h1, h2, h3, h4, e, r⟩ := r
    have hl := r.length
    have hl2 := congrArg List.length e
    simp only [List.length_map] at hl hl2
    refine ⟨f ++ [a], List.prefix_append _ _, S.box (m := .dic (ks.zip ds)) h1 h2 h3 h4 ⟨kvs, rfl, ?_, ?_⟩, a, ?_, rfl⟩
    · rw [List.map_fst_zip (by omega), e]
    · rw [List.map_snd_zip (by omega)]; exact r
    · rw [← S.len, List.getElem?_append_right (Nat.le_refl _)]
      simp
  | _ => exact ⟨f, List.prefix_refl _, S, r⟩
theorem RepX.keep {K : PySem.W.Frag} {Fr : Hp} {f : List Addr} {st : Sto} {H : Hp} (bx : Bool) (S : SimC K Pr Fr f st H) {d : D} {v : V} (r : RepX K Pr Fr f H d v) : ∃ Fr' f', Same Fr Fr' ∧ f <+: f' ∧ SimC K Pr Fr' f' (keep bx st d).2 H ∧ Rep K Fr' f' (keep bx st d).1 v := by
  cases bx with
  | true =>
    obtain ⟨f', p, S', r'⟩ := r.box S
    exact ⟨Fr, f', Same.refl _, p, S', r'⟩
  | false =>
    obtain ⟨Fr', S', s, r'⟩ := r.frz S
    exact ⟨Fr', f, s, List.prefix_refl _, S', r'⟩
theorem keep_false (st : Sto) (x : D) : keep false st x = (frz x, st) := rfl
theorem keep_true (st : Sto) (x : D) : keep true st x = box st x := rfl

/-- a state of the data stands in the layer's state, and what is wished of exceptions is granted -/
structure At (K : PySem.W.Frag) (W : WX) (Ed : EdT) (Pr Fr : Hp) (f : List Addr) (env : Slots) (st : Sto) (σ : L2.St) (H : Hp) : Prop extends Sim K Pr Fr f env st σ H where
  exn : ∀ C env' st' Fr' f' σ' H', Same Fr Fr' → f <+: f' → Sim K Pr Fr' f' env' st' σ' H' → Ed C env' st' → W (.ref C) none σ' H'
theorem At.up {K : PySem.W.Frag} {W : WX} {Ed : EdT} {Pr Fr Fr' : Hp} {f f' : List Addr} {env env' : Slots} {st st' : Sto} {σ σ' : L2.St} {H H' : Hp} (A : At K W Ed Pr Fr f env st σ H) (hF : Same Fr Fr') (hf : f <+: f')
    (S : Sim K Pr Fr' f' env' st' σ' H') : At K W Ed Pr Fr' f' env' st' σ' H' :=
  ⟨S, fun C e s Fr2 f2 σ2 H2 h1 h2 => A.exn C e s Fr2 f2 σ2 H2 (hF.trans h1) (hf.trans h2)⟩

section
variable (K : PySem.W.Frag) (W : WX)
def liftE (d : DE) : TE := fun σ H Q => ∃ Ed Pr Fr f env st Q0, At K W Ed Pr Fr f env st σ H ∧ d Ed env st Q0 ∧
  ∀ x st', Q0 x st' → ∀ v Fr' f' H', Same Fr Fr' → f <+: f' → Sim K Pr Fr' f' env st' σ H' → RepX K Pr Fr' f' H' x v → Q v H'
def liftT (d : DT) : TT := fun σ H Q => ∃ Ed Pr Fr f env st Q0, At K W Ed Pr Fr f env st σ H ∧ d Ed env st Q0 ∧
  ∀ x st', Q0 x st' → ∀ Fr' f' H', Same Fr Fr' → f <+: f' → Sim K Pr Fr' f' env st' σ H' → Q x H'
def liftA (d : DA) : TA := fun σ H Q => ∃ Ed Pr Fr f env st Q0, At K W Ed Pr Fr f env st σ H ∧ d Ed env st Q0 ∧
  ∀ xs st', Q0 xs st' → ∀ vs Fr' f' H', Same Fr Fr' → f <+: f' → Sim K Pr Fr' f' env st' σ H' → Reps K Fr' f' xs vs → Q vs H'
def liftO (d : DO) : TO := fun σ H Q => ∃ Ed Pr Fr f env st Q0, At K W Ed Pr Fr f env st σ H ∧ d Ed env st Q0 ∧
  ∀ x st', Q0 x st' → ∀ Fr' f' H', Same Fr Fr' → f <+: f' → Sim K Pr Fr' f' env st' σ H' → Q x H'
end

section
variable {X : Cx} {e : Expr} {es : List Expr}
theorem PEimp {t t' : TE} (h : PE X e t) (i : ∀ σ H Q, t' σ H Q → t σ H Q) : PE X e t' := ⟨fun pins s σ H Q I q => h.run pins s σ H Q I (i σ H Q q)⟩
theorem PTimp {t t' : TT} (h : PT X e t) (i : ∀ σ H Q, t' σ H Q → t σ H Q) : PT X e t' := ⟨fun pins s σ H Q I q => h.run pins s σ H Q I (i σ H Q q)⟩
theorem PWimp {t t' : TT} (h : PW X e t) (i : ∀ σ H Q, t' σ H Q → t σ H Q) : PW X e t' := ⟨fun w pins s σ H Q I q => h.run w pins s σ H Q I (i σ H Q q)⟩
theorem PAimp {t t' : TA} (h : PA X es t) (i : ∀ σ H Q, t' σ H Q → t σ H Q) : PA X es t' := ⟨fun p pins s σ H Q I q => h.run p pins s σ H Q I (i σ H Q q)⟩
theorem PSimp {s : Stmt} {t t' : TS} (h : PS X s t) (i : ∀ D σ H, t' D σ H → t D σ H) : PS X s t' := ⟨fun pins s σ H D I q => h.run pins s σ H D I (i D σ H q)⟩
theorem PSsimp {s : List Stmt} {t t' : TS} (h : PSs X s t) (i : ∀ D σ H, t' D σ H → t D σ H) : PSs X s t' := ⟨fun pins s σ H D I q => h.run pins s σ H D I (i D σ H q)⟩
end

/-! ### names, constants -/
def dVar (i : Nat) : DE := fun _ env st Q => match env[i]? with
  | some (some x) => Q x st
  | _ => False
def dC (x : D) : DE := fun _ _ st Q => Q x st

section
variable {X : Cx} {W : WX} {pos : Pos}
end
section
variable {X : Cx} {W : WX} {pos : Pos}
theorem de_var {i : Nat} {x : Str} (h : PE X (.Name x pos) (tVar i)) : PE X (.Name x pos) (liftE X.K W (dVar i)) := PEimp h fun σ H Q q => by
  obtain ⟨Ed, Pr, Fr, f, env, st, Q0, A, d, k⟩ := q
  unfold dVar at d
  split at d
  · rename_i x e
    obtain ⟨y, e1, r⟩ := RepS.get A.env e
    exact ⟨y, e1, k x st d y Fr f H (Same.refl _) (List.prefix_refl _) A.toSim (.of r)⟩
  · exact d.elim
/-- what a value that needs no heap stands for -/
def plainD : V → Option D
  | .non => some .non
  | .bl b => some (.bl b)
  | .int i => some (.int i)
  | .str x => some (.str x)
  | .ref a => some (.con a)
  | .ty n => some (.ty n)
  | _ => none
theorem de_c {e : Expr} {v : V} {x : D} (h : PE X e (tC v)) (hx : plainD v = some x := by rfl) : PE X e (liftE X.K W (dC x)) := PEimp h fun σ H Q q => by
  obtain ⟨Ed, Pr, Fr, f, env, st, Q0, A, d, k⟩ := q
  refine k x st d v Fr f H (Same.refl _) (List.prefix_refl _) A.toSim ?_
  cases v <;> first | (cases hx; exact rfl) | exact nomatch hx
end

/-! ### sequences -/
def lisOf (st : Sto) : D → Option (List D)
  | .fl ds => some ds
  | .ref n => match st[n]? with
    | some (.lst ds) => some ds
    | _ => none
  | _ => none
def seqOf (st : Sto) : D → Option (List D)
  | .tup ds => some ds
  | .sl ds => some ds
  | d => lisOf st d
section
variable {K : PySem.W.Frag} {Pr Fr Fr' : Hp} {f f' : List Addr} {st : Sto} {H H' : Hp} {σ : L2.St} {env : Slots}
theorem listOf_rep (S : SimC K Pr Fr f st H) {d : D} {v : V} {ds : List D} (e : lisOf st d = some ds) (r : Rep K Fr f d v) : ∃ a vs, v = .ref a ∧ H a = some (.lst vs) ∧ Reps K Fr f ds vs := by
  unfold lisOf at e
  split at e
  · cases e
    obtain ⟨a, vs, rfl, h1, r⟩ := r
    exact ⟨a, vs, rfl, S.fr _ _ h1, r⟩
  · obtain ⟨a, h1, rfl⟩ := r
    split at e
    · rename_i e1
      cases e
      obtain ⟨b, vs, h2, h3, r⟩ := S.lst e1
      rw [h1] at h2; cases h2
      exact ⟨a, vs, rfl, h3, r⟩
    · cases e
  · cases e
theorem seqOf_rep (S : SimC K Pr Fr f st H) {d : D} {v : V} {ds : List D} (e : seqOf st d = some ds) (r : Rep K Fr f d v) : ∃ a vs, v = .ref a ∧ (SqL K H a vs ∨ SqT K H a vs) ∧ Reps K Fr f ds vs := by
  unfold seqOf at e
  split at e
  · cases e
    obtain ⟨a, vs, rfl, h1, r⟩ := r
    exact ⟨a, vs, rfl, .inr (S.frT h1), r⟩
  · cases e
    obtain ⟨a, vs, rfl, h1, r⟩ := r
    exact ⟨a, vs, rfl, .inl (S.frL h1), r⟩
  · obtain ⟨a, vs, rfl, h1, r⟩ := listOf_rep S e r
    exact ⟨a, vs, rfl, .inl (.inl (.inl h1)), r⟩
end

/-! ### two-place operations -/
/-- an operation on values does what op does on data -/
def OpD (K : PySem.W.Frag) (r : R2) (op : Sto → D → D → (D → Prop) → Prop) : Prop :=
  ∀ (Pr Fr : Hp) (f : List Addr) (st : Sto) (H : Hp) (x y : D) (v u : V) (k : D → Prop) (Q : VK), SimC K Pr Fr f st H → Rep K Fr f x v → Rep K Fr f y u → op st x y k →
    (∀ z w Fr' H', k z → Same Fr Fr' → SimC K Pr Fr' f st H' → RepX K Pr Fr' f H' z w → Q w H') → r v u H Q
def dOp (op : Sto → D → D → (D → Prop) → Prop) (da db : DE) : DE := fun Ed env st Q => da Ed env st fun x st1 => db Ed env st1 fun y st2 => op st2 (frz x) (frz y) fun z => Q z st2
/-- two expressions in a row, both frozen -/
theorem lift2 {K : PySem.W.Frag} {W : WX} {da db : DE} {σ : L2.St} {H : Hp} {Ed : EdT} {Fr : Hp} {f : List Addr} {env : Slots} {st : Sto} {R : D → D → Sto → Prop} {Q : V → V → Hp → Prop} (A : At K W Ed Pr Fr f env st σ H)
    (h : da Ed env st fun x st1 => db Ed env st1 fun y st2 => R (frz x) (frz y) st2)
    (k : ∀ x y st2 v u Fr' f' H', R x y st2 → Same Fr Fr' → f <+: f' → Sim K Pr Fr' f' env st2 σ H' → Rep K Fr' f' x v → Rep K Fr' f' y u → Q v u H') :
    liftE K W da σ H fun v H1 => liftE K W db σ H1 fun u H2 => Q v u H2 := by
  refine ⟨Ed, Pr, Fr, f, env, st, _, A, h, fun x st1 h1 v Fr1 f1 H1 s1 p1 S1 r1 => ?_⟩
  obtain ⟨Fr2, C2, s2, r2⟩ := r1.frz S1.toSimC
  have A2 := A.up (s1.trans s2) p1 (S1.up s2 (List.prefix_refl _) C2)
  refine ⟨Ed, Pr, Fr2, f1, env, st1, _, A2, h1, fun y st2 h2 u Fr3 f3 H3 s3 p3 S3 r3 => ?_⟩
  obtain ⟨Fr4, C4, s4, r4⟩ := r3.frz S3.toSimC
  exact k _ _ _ _ _ _ _ _ h2 (((s1.trans s2).trans s3).trans s4) (p1.trans p3) (S3.up s4 (List.prefix_refl _) C4) (Rep.mono (s3.trans s4) p3 _ _ r2) r4
theorem lift1 {K : PySem.W.Frag} {W : WX} {da : DE} {σ : L2.St} {H : Hp} {Ed : EdT} {Fr : Hp} {f : List Addr} {env : Slots} {st : Sto} {R : D → Sto → Prop} {Q : V → Hp → Prop} (A : At K W Ed Pr Fr f env st σ H)
    (h : da Ed env st fun x st1 => R (frz x) st1)
    (k : ∀ x st1 v Fr' f' H', R x st1 → Same Fr Fr' → f <+: f' → Sim K Pr Fr' f' env st1 σ H' → Rep K Fr' f' x v → Q v H') :
    liftE K W da σ H Q := by
  refine ⟨Ed, Pr, Fr, f, env, st, _, A, h, fun x st1 h1 v Fr1 f1 H1 s1 p1 S1 r1 => ?_⟩
  obtain ⟨Fr2, C2, s2, r2⟩ := r1.frz S1.toSimC
  exact k _ _ _ _ _ _ h1 (s1.trans s2) p1 (S1.up s2 (List.prefix_refl _) C2) r2
theorem lift_op {K : PySem.W.Frag} {W : WX} {r : R2} {op : Sto → D → D → (D → Prop) → Prop} {da db : DE} (ho : OpD K r op) (σ : L2.St) (H : Hp) (Q : VK) (q : liftE K W (dOp op da db) σ H Q) : tOp r (liftE K W da) (liftE K W db) σ H Q := by
  obtain ⟨Ed, Pr, Fr, f, env, st, Q0, A, d, k⟩ := q
  refine lift2 (R := fun x y st2 => op st2 x y fun z => Q0 z st2) A d fun x y st2 v u Fr' f' H' h s p S r1 r2 => ?_
  exact ho Pr Fr' f' st2 H' x y v u _ Q S.toSimC r1 r2 h fun z w Fr2 H2 hz s2 C2 rz => k z st2 hz w Fr2 f' H2 (s.trans s2) p (S.up s2 (List.prefix_refl _) C2) rz

theorem OpD.or {K : PySem.W.Frag} {r r' : R2} {op : Sto → D → D → (D → Prop) → Prop} (h : ∀ st x y k, op st x y k → (∃ o, OpD K r o ∧ o st x y k) ∨ ∃ o, OpD K r' o ∧ o st x y k) : OpD K (fun x y H Q => r x y H Q ∨ r' x y H Q) op := by
  intro Pr Fr f st H x y v u k Q S r1 r2 o q
  rcases h st x y k o with ⟨o', h1, h2⟩ | ⟨o', h1, h2⟩
  · exact .inl (h1 Pr Fr f st H x y v u k Q S r1 r2 h2 q)
  · exact .inr (h1 Pr Fr f st H x y v u k Q S r1 r2 h2 q)
end DW

/-! DW3: the operations. -/
namespace DW
open PySem PySem.Spec PyProof.Rows L2

section
variable {K : PySem.W.Frag} {Fr Fr' : Hp} {f f' : List Addr} {st : Sto} {H H' : Hp} {σ : L2.St} {env : Slots}
theorem lay_tup (S : SimC K Pr Fr f st H) {p : Addr} {ds : List D} {vs : List V} (hp : H p = none) (r : Reps K Fr f ds vs) :
    Same Fr (upd Fr p (.tup vs)) ∧ SimC K Pr (upd Fr p (.tup vs)) f st (upd H p (.tup vs)) ∧ RepX K Pr (upd Fr p (.tup vs)) f (upd H p (.tup vs)) (.tup ds) (.ref p) := by
  obtain ⟨S', sm⟩ := S.lay (o := .tup vs) hp
  exact ⟨sm, S', p, vs, rfl, .inl (.inl upd_same), Reps.mono sm (List.prefix_refl _) _ _ r⟩
theorem lay_lst (S : SimC K Pr Fr f st H) {p : Addr} {ds : List D} {vs : List V} (hp : H p = none) (r : Reps K Fr f ds vs) :
    SimC K Pr Fr f st (upd H p (.lst vs)) ∧ RepX K Pr Fr f (upd H p (.lst vs)) (.tl ds) (.ref p) :=
  ⟨S.other (S.fr.free hp) (S.pr.free hp) (S.notCell hp), p, vs, rfl, upd_same, S.fr.free hp, S.pr.free hp, S.notCell hp, r⟩
theorem lay_dic (S : SimC K Pr Fr f st H) {p : Addr} {ks : List Key} {ds : List D} {kvs : List (Key × V)} (hp : H p = none) (e : kvs.map (·.1) = ks) (r : Reps K Fr f ds (kvs.map (·.2))) :
    SimC K Pr Fr f st (upd H p (.dK kvs)) ∧ RepX K Pr Fr f (upd H p (.dK kvs)) (.td ks ds) (.ref p) :=
  ⟨S.other (S.fr.free hp) (S.pr.free hp) (S.notCell hp), p, kvs, rfl, upd_same, S.fr.free hp, S.pr.free hp, S.notCell hp, e, r⟩
end

/-! ### + - * // % -/
def rAddAny (K : PySem.W.Frag) : R2 := fun x y H Q => rI0 (fun i j => .int (i + j)) x y H Q ∨ (fun x y H Q => ∃ i j, x = V.str i ∧ y = V.str j ∧ i.length + j.length ≤ sizeLine ∧ Q (.str (i ++ j)) H) x y H Q ∨ rCatA K x y H Q ∨ rCat x y H Q
theorem or_add {X : Cx} : OpR X (binaryOp .Add) (rAddAny X.K) := op_add.or (op_add_str.or (op_catA.or op_cat))
def opAdd : Sto → D → D → (D → Prop) → Prop := fun st x y k => match x, y with
  | .int i, .int j => k (.int (i + j))
  | .str a, .str b => a.length + b.length ≤ sizeLine ∧ k (.str (a ++ b))
  | .tup a, .tup b => a.length + b.length ≤ sizeLine ∧ k (.tup (a ++ b))
  | x, y => match lisOf st x, lisOf st y with
    | some a, some b => a.length + b.length ≤ sizeLine ∧ k (.tl (a ++ b))
    | _, _ => False
theorem od_add {K : PySem.W.Frag} : OpD K (rAddAny K) opAdd := by
  intro Pr Fr f st H x y v u k Q S r1 r2 o q
  unfold opAdd at o
  split at o
  · cases (show v = _ from r1); cases (show u = _ from r2)
    exact .inl ⟨_, _, rfl, rfl, q _ _ Fr H o (Same.refl _) S rfl⟩
  · cases (show v = _ from r1); cases (show u = _ from r2)
    exact .inr (.inl ⟨_, _, rfl, rfl, o.1, q _ _ Fr H o.2 (Same.refl _) S rfl⟩)
  · obtain ⟨a, xs, rfl, h1, r1⟩ := r1
    obtain ⟨b, ys, rfl, h2, r2⟩ := r2
    refine .inr (.inr (.inl ⟨a, b, xs, ys, rfl, rfl, S.frT h1, S.frT h2, by rw [← r1.length, ← r2.length]; exact o.1, fun e => ?_, fun _ e => ?_, fun _ _ p hp => ?_⟩))
    · subst e
      rename_i a1 b1
      have e : a1 = [] := List.eq_nil_of_length_eq_zero r1.length
      subst e
      exact q _ _ Fr H o.2 (Same.refl _) S ⟨b, ys, rfl, h2, r2⟩
    · subst e
      rename_i a1 b1 _
      have e : b1 = [] := List.eq_nil_of_length_eq_zero r2.length
      subst e
      exact q _ _ Fr H o.2 (Same.refl _) S ⟨a, xs, rfl, h1, by rw [List.append_nil]; exact r1⟩
    · obtain ⟨sm, S', rx⟩ := lay_tup S hp (r1.append r2)
      exact q _ _ _ _ o.2 sm S' rx
  · split at o
    · rename_i a b e1 e2
      obtain ⟨p1, xs, rfl, h1, r1⟩ := listOf_rep S e1 r1
      obtain ⟨p2, ys, rfl, h2, r2⟩ := listOf_rep S e2 r2
      refine .inr (.inr (.inr ⟨p1, p2, xs, ys, rfl, rfl, h1, h2, by rw [← r1.length, ← r2.length]; exact o.1, fun p hp => ?_⟩))
      obtain ⟨S', rx⟩ := lay_lst S hp (r1.append r2)
      exact q _ _ _ _ o.2 (Same.refl _) S' rx
    · exact o.elim
/-- operations on two ints -/
def opJ (C : Int → Int → Prop) (g : Int → Int → D) : Sto → D → D → (D → Prop) → Prop := fun _ x y k => match x, y with
  | .int i, .int j => C i j ∧ k (g i j)
  | _, _ => False
theorem rep_plain {K : PySem.W.Frag} {Fr : Hp} {f : List Addr} {H : Hp} {w : V} {z : D} (e : plainD w = some z) : RepX K Pr Fr f H z w := by
  cases w <;> first | (cases e; exact rfl) | exact nomatch e
theorem od_I {K : PySem.W.Frag} {C : Int → Int → Prop} {g : Int → Int → V} {g' : Int → Int → D} (hg : ∀ i j, plainD (g i j) = some (g' i j)) : OpD K (rI C g) (opJ C g') := by
  intro Pr Fr f st H x y v u k Q S r1 r2 o q
  unfold opJ at o
  split at o
  · cases (show v = _ from r1); cases (show u = _ from r2)
    rename_i i j
    exact ⟨_, _, rfl, rfl, o.1, q _ _ Fr H o.2 (Same.refl _) S (rep_plain (hg i j))⟩
  · exact o.elim
def opJ0 (g : Int → Int → D) : Sto → D → D → (D → Prop) → Prop := fun _ x y k => match x, y with
  | .int i, .int j => k (g i j)
  | _, _ => False
theorem od_I0 {K : PySem.W.Frag} {g : Int → Int → V} {g' : Int → Int → D} (hg : ∀ i j, plainD (g i j) = some (g' i j)) : OpD K (rI0 g) (opJ0 g') := by
  intro Pr Fr f st H x y v u k Q S r1 r2 o q
  unfold opJ0 at o
  split at o
  · cases (show v = _ from r1); cases (show u = _ from r2)
    rename_i i j
    exact ⟨_, _, rfl, rfl, q _ _ Fr H o (Same.refl _) S (rep_plain (hg i j))⟩
  · exact o.elim
def CDivD (_ j : Int) : Prop := j ≠ 0 ∧ j.natAbs.log2 < 9000
theorem or_sub {X : Cx} : OpR X (binaryOp .Sub) (rI0 fun i j => .int (i - j)) := op_sub
theorem od_sub {K : PySem.W.Frag} : OpD K (rI0 fun i j => .int (i - j)) (opJ0 fun i j => .int (i - j)) := od_I0 fun _ _ => rfl
theorem or_fdiv {X : Cx} : OpR X (binaryOp .FloorDiv) (rI CDivD fun i j => .int (i.fdiv j)) := L2.opI fun _ _ _ _ _ _ _ hc q => floordiv_int hc.1 q (.inl (PyProof.noPylong_of_log2 hc.2))
theorem od_fdiv {K : PySem.W.Frag} : OpD K (rI CDivD fun i j => .int (i.fdiv j)) (opJ CDivD fun i j => .int (i.fdiv j)) := od_I fun _ _ => rfl
theorem or_mod {X : Cx} : OpR X (binaryOp .Mod) (rI (fun _ j => j ≠ 0) fun i j => .int (i.fmod j)) := op_modN
theorem od_mod {K : PySem.W.Frag} : OpD K (rI (fun _ j => j ≠ 0) fun i j => .int (i.fmod j)) (opJ (fun _ j => j ≠ 0) fun i j => .int (i.fmod j)) := od_I fun _ _ => rfl
theorem or_pow {X : Cx} : OpR X (binaryOp .Pow) (rI CPow fun i j => .int (i ^ j.toNat)) := op_pow
theorem od_pow {K : PySem.W.Frag} : OpD K (rI CPow fun i j => .int (i ^ j.toNat)) (opJ CPow fun i j => .int (i ^ j.toNat)) := od_I fun _ _ => rfl
def rMulAny : R2 := fun x y H Q => rI IntMulOk (fun i j => .int (i * j)) x y H Q ∨ rRep x y H Q
theorem or_mul {X : Cx} : OpR X (binaryOp .Mult) rMulAny := (L2.opI fun _ _ _ _ _ _ _ hc q => mul_int q hc).or op_rep
def opMul : Sto → D → D → (D → Prop) → Prop := fun st x y k => match x, y with
  | .int i, .int j => IntMulOk i j ∧ k (.int (i * j))
  | x, .int j => match lisOf st x with
    | some ds => -(2 ^ 63) ≤ j ∧ j < 2 ^ 63 ∧ ds.length * j.toNat ≤ sizeLine ∧ k (.tl (List.replicate j.toNat ds).flatten)
    | none => False
  | _, _ => False
theorem Reps.rep {K : PySem.W.Frag} {Fr : Hp} {f : List Addr} {ds : List D} {vs : List V} (h : Reps K Fr f ds vs) : ∀ n : Nat, Reps K Fr f (List.replicate n ds).flatten (List.replicate n vs).flatten
  | 0 => rfl
  | n + 1 => by
    rw [List.replicate_succ, List.replicate_succ, List.flatten_cons, List.flatten_cons]
    exact h.append (Reps.rep h n)
theorem od_mul {K : PySem.W.Frag} : OpD K rMulAny opMul := by
  intro Pr Fr f st H x y v u k Q S r1 r2 o q
  unfold opMul at o
  split at o
  · cases (show v = _ from r1); cases (show u = _ from r2)
    exact .inl ⟨_, _, rfl, rfl, o.1, q _ _ Fr H o.2 (Same.refl _) S rfl⟩
  · cases (show u = _ from r2)
    split at o
    · rename_i ds e1
      obtain ⟨p1, xs, rfl, h1, r1⟩ := listOf_rep S e1 r1
      obtain ⟨o1, o2, o3, o4⟩ := o
      refine .inr ⟨p1, _, xs, rfl, rfl, h1, o1, o2, by rw [← r1.length]; exact o3, fun p hp => ?_⟩
      obtain ⟨S', rx⟩ := lay_lst S hp (r1.rep _)
      exact q _ _ _ _ o4 (Same.refl _) S' rx
    · exact o.elim
  · exact o.elim
/-- from bounds by powers of two -/
theorem mulOk {i j : Int} (a b : Nat) (ha : i.natAbs < 2 ^ a) (hb : j.natAbs < 2 ^ b) (h : a + b ≤ 1000000 := by decide) : IntMulOk i j := by
  have h1 : i.natAbs < 2 ^ (a + 1) := Nat.lt_of_lt_of_le ha (Nat.pow_le_pow_right (by omega) (by omega))
  have h2 : j.natAbs < 2 ^ (b + 1) := Nat.lt_of_lt_of_le hb (Nat.pow_le_pow_right (by omega) (by omega))
  have x := PySem.Flt.log2_lt_of (by omega) h1
  have y := PySem.Flt.log2_lt_of (by omega) h2
  refine CMulW.ok ?_
  by_cases h0 : a + b < 999998
  · unfold CMulW; omega
  · by_cases ha0 : a = 0
    · subst ha0
      have : i.natAbs = 0 := by simpa using ha
      have e : i.natAbs.log2 = 0 := by rw [this]; decide
      by_cases hb0 : b = 0
      · omega
      · have y' := PySem.Flt.log2_lt_of (by omega) hb
        unfold CMulW; omega
    · by_cases hb0 : b = 0
      · subst hb0
        have : j.natAbs = 0 := by simpa using hb
        have e : j.natAbs.log2 = 0 := by rw [this]; decide
        have x' := PySem.Flt.log2_lt_of (by omega) ha
        unfold CMulW; omega
      · have x' := PySem.Flt.log2_lt_of (by omega) ha
        have y' := PySem.Flt.log2_lt_of (by omega) hb
        unfold CMulW; omega

/-! ### comparisons -/
def rLtAny : R2 := fun x y H Q => rI0 (fun i j => .bl (decide (i < j))) x y H Q ∨ (fun x y H Q => ∃ i j, x = V.str i ∧ y = V.str j ∧ Q (.bl (decide (i.cps.toList < j.cps.toList))) H) x y H Q
def rLeAny : R2 := fun x y H Q => rI0 (fun i j => .bl (decide (i ≤ j))) x y H Q ∨ (fun x y H Q => ∃ i j, x = V.str i ∧ y = V.str j ∧ Q (.bl (!decide (j.cps.toList < i.cps.toList))) H) x y H Q
def rGtAny : R2 := fun x y H Q => rI0 (fun i j => .bl (decide (j < i))) x y H Q ∨ (fun x y H Q => ∃ i j, x = V.str i ∧ y = V.str j ∧ Q (.bl (decide (j.cps.toList < i.cps.toList))) H) x y H Q
def rGeAny : R2 := fun x y H Q => rI0 (fun i j => .bl (decide (j ≤ i))) x y H Q ∨ (fun x y H Q => ∃ i j, x = V.str i ∧ y = V.str j ∧ Q (.bl (!decide (i.cps.toList < j.cps.toList))) H) x y H Q
theorem or_lt {X : Cx} : OpR X (compareOp .Lt) rLtAny := op_lt.or op_lt_str
theorem or_le {X : Cx} : OpR X (compareOp .LtE) rLeAny := op_le.or op_le_str
theorem or_gt {X : Cx} : OpR X (compareOp .Gt) rGtAny := op_gt.or op_gt_str
theorem or_ge {X : Cx} : OpR X (compareOp .GtE) rGeAny := op_ge.or op_ge_str
def opCmp (g : Int → Int → Bool) (g' : List Nat → List Nat → Bool) : Sto → D → D → (D → Prop) → Prop := fun _ x y k => match x, y with
  | .int i, .int j => k (.bl (g i j))
  | .str a, .str b => k (.bl (g' a.cps.toList b.cps.toList))
  | _, _ => False
theorem od_cmp {K : PySem.W.Frag} {g : Int → Int → Bool} {g' : List Nat → List Nat → Bool} : OpD K (fun x y H Q => rI0 (fun i j => .bl (g i j)) x y H Q ∨ (fun x y H Q => ∃ i j, x = V.str i ∧ y = V.str j ∧ Q (.bl (g' i.cps.toList j.cps.toList)) H) x y H Q) (opCmp g g') := by
  intro Pr Fr f st H x y v u k Q S r1 r2 o q
  unfold opCmp at o
  split at o
  · cases (show v = _ from r1); cases (show u = _ from r2)
    exact .inl ⟨_, _, rfl, rfl, q _ _ Fr H o (Same.refl _) S rfl⟩
  · cases (show v = _ from r1); cases (show u = _ from r2)
    exact .inr ⟨_, _, rfl, rfl, q _ _ Fr H o (Same.refl _) S rfl⟩
  · exact o.elim
abbrev opLt := opCmp (fun i j => decide (i < j)) (fun a b => decide (a < b))
abbrev opLe := opCmp (fun i j => decide (i ≤ j)) (fun a b => !decide (b < a))
abbrev opGt := opCmp (fun i j => decide (j < i)) (fun a b => decide (b < a))
abbrev opGe := opCmp (fun i j => decide (j ≤ i)) (fun a b => !decide (a < b))
theorem od_lt {K : PySem.W.Frag} : OpD K rLtAny opLt := od_cmp
theorem od_le {K : PySem.W.Frag} : OpD K rLeAny opLe := od_cmp
theorem od_gt {K : PySem.W.Frag} : OpD K rGtAny opGt := od_cmp
theorem od_ge {K : PySem.W.Frag} : OpD K rGeAny opGe := od_cmp

/-! ### == of data -/
mutual
def toPy : D → PyData
  | .non => .none
  | .bl b => .bool b
  | .int i => .int i
  | .str x => .str x
  | .tup ds => .tuple (toPys ds)
  | .fl ds => .list (toPys ds)
  | .sl ds => .list (toPys ds)
  | _ => .none
def toPys : List D → List PyData
  | [] => []
  | d :: ds => toPy d :: toPys ds
end
mutual
def isDat : D → Bool
  | .non => true
  | .bl _ => true
  | .int _ => true
  | .str _ => true
  | .tup ds => areDat ds
  | .fl ds => areDat ds
  | .sl ds => areDat ds
  | _ => false
def areDat : List D → Bool
  | [] => true
  | d :: ds => isDat d && areDat ds
end
section
variable {K : PySem.W.Frag} {Fr : Hp} {f : List Addr} {st : Sto} {H : Hp}
mutual
theorem dp_of (S : Same Fr H) : ∀ (d : D) (v : V), isDat d = true → Rep K Fr f d v → Dp K H v (toPy d)
  | .non, v, _, r => by cases (show v = _ from r); exact .non
  | .bl _, v, _, r => by cases (show v = _ from r); exact .bl _
  | .int _, v, _, r => by cases (show v = _ from r); exact .int _
  | .str _, v, _, r => by cases (show v = _ from r); exact .str _
  | .tup ds, v, h, r => by
    obtain ⟨a, vs, rfl, h1, r⟩ := r
    exact .tup (Same.seqT S h1) (dps_of S ds vs h r)
  | .fl ds, v, h, r => by
    obtain ⟨a, vs, rfl, h1, r⟩ := r
    exact .lst (.inl (.inl (S _ _ h1))) (dps_of S ds vs h r)
  | .sl ds, v, h, r => by
    obtain ⟨a, vs, rfl, h1, r⟩ := r
    exact .lst (S.seq h1) (dps_of S ds vs h r)
  | .ref _, _, h, _ => by cases h
  | .tl _, _, h, _ => by cases h
  | .td _ _, _, h, _ => by cases h
  | .fd _ _, _, h, _ => by cases h
  | .con _, _, h, _ => by cases h
  | .ty _, _, h, _ => by cases h
theorem dps_of (S : Same Fr H) : ∀ (ds : List D) (vs : List V), areDat ds = true → Reps K Fr f ds vs → DpAll K H vs (toPys ds)
  | [], vs, _, r => by cases (show vs = [] from r); exact .nil
  | d :: ds, vs, h, r => by
    obtain ⟨v, t, rfl, r1, r2⟩ := r
    have h' := Bool.and_eq_true_iff.mp (show (isDat d && areDat ds) = true from h)
    exact .cons (dp_of S d v h'.1 r1) (dps_of S ds t h'.2 r2)
end
end
def opEqW (neg : Bool) : Sto → D → D → (D → Prop) → Prop := fun _ x y k => match x, y with
  | .int i, .int j => k (.bl (neg ^^ (i == j)))
  | .str a, .str b => k (.bl (neg ^^ (a == b)))
  | x, y => isDat x = true ∧ isDat y = true ∧ SeqAt.shaped (toPy x) = true ∧ SeqAt.shaped (toPy y) = true ∧ k (.bl (neg ^^ PyData.eqv (toPy x) (toPy y)))
abbrev opEq := opEqW false
abbrev opNe := opEqW true
def rEqAny (K : PySem.W.Frag) : R2 := fun x y H Q => rEq x y H Q ∨ rEqD K x y H Q
def rNeAny (K : PySem.W.Frag) : R2 := fun x y H Q => rNe x y H Q ∨ rNeD K x y H Q
theorem or_eq {X : Cx} (hu : X.A.units + 64 < cLine) : OpR X (compareOp .Eq) (rEqAny X.K) := op_eq.or (op_eqD hu)
theorem or_ne {X : Cx} (hu : X.A.units + 64 < cLine) : OpR X (compareOp .NotEq) (rNeAny X.K) := op_ne.or (op_neD hu)
theorem od_eq {K : PySem.W.Frag} : OpD K (rEqAny K) opEq := by
  intro Pr Fr f st H x y v u k Q S r1 r2 o q
  unfold opEq opEqW at o
  split at o
  · cases (show v = _ from r1); cases (show u = _ from r2)
    refine .inl ⟨rfl, ?_⟩
    rw [dec_int]
    exact q _ _ Fr H o (Same.refl _) S (by simp [RepX, Rep])
  · cases (show v = _ from r1); cases (show u = _ from r2)
    refine .inl ⟨rfl, ?_⟩
    rw [dec_str]
    exact q _ _ Fr H o (Same.refl _) S (by simp [RepX, Rep])
  · obtain ⟨o1, o2, o3, o4, o5⟩ := o
    exact .inr ⟨_, _, dp_of S.fr _ _ o1 r1, dp_of S.fr _ _ o2 r2, o3, o4, q _ _ Fr H o5 (Same.refl _) S (by simp [RepX, Rep])⟩
theorem od_ne {K : PySem.W.Frag} : OpD K (rNeAny K) opNe := by
  intro Pr Fr f st H x y v u k Q S r1 r2 o q
  unfold opNe opEqW at o
  split at o
  · cases (show v = _ from r1); cases (show u = _ from r2)
    refine .inl ⟨rfl, ?_⟩
    rw [dec_int]
    exact q _ _ Fr H o (Same.refl _) S (by simp [RepX, Rep])
  · cases (show v = _ from r1); cases (show u = _ from r2)
    refine .inl ⟨rfl, ?_⟩
    rw [dec_str]
    exact q _ _ Fr H o (Same.refl _) S (by simp [RepX, Rep])
  · obtain ⟨o1, o2, o3, o4, o5⟩ := o
    exact .inr ⟨_, _, dp_of S.fr _ _ o1 r1, dp_of S.fr _ _ o2 r2, o3, o4, q _ _ Fr H o5 (Same.refl _) S (by simp [RepX, Rep])⟩
end DW

/-! DW4: dicts as lists of pairs; in, subscripts, slices, truth. -/
namespace DW
open PySem PySem.Spec PyProof.Rows L2

/-! ### dicts as lists of pairs -/
section
variable {κ α : Type} [DecidableEq κ]
def valP (kvs : List (κ × α)) (k : κ) : Option α := (kvs.find? fun kv => decide (kv.1 = k)).map (·.2)
def putP (kvs : List (κ × α)) (k : κ) (v : α) : List (κ × α) :=
  if (kvs.any fun kv => decide (kv.1 = k)) = true then kvs.map (fun kv => if kv.1 = k then (kv.1, v) else kv) else kvs ++ [(k, v)]
def dropP (kvs : List (κ × α)) (k : κ) : List (κ × α) := kvs.filter fun kv => decide (kv.1 ≠ k)
end
section
variable {K : PySem.W.Frag} {Fr Fr' : Hp} {f f' : List Addr} {st : Sto} {H H' : Hp}
/-- two tables with the same keys -/
def RepK (K : PySem.W.Frag) (Fr : Hp) (f : List Addr) (kvs : List (Key × D)) (us : List (Key × V)) : Prop := us.map (·.1) = kvs.map (·.1) ∧ Reps K Fr f (kvs.map (·.2)) (us.map (·.2))
theorem RepK.nil : RepK K Fr f [] [] := ⟨rfl, rfl⟩
theorem RepK.inv0 {us : List (Key × V)} (h : RepK K Fr f [] us) : us = [] := by
  obtain ⟨e, _⟩ := h
  simpa using e
theorem RepK.inv {p : Key × D} {kvs : List (Key × D)} {us : List (Key × V)} (h : RepK K Fr f (p :: kvs) us) : ∃ v r, us = (p.1, v) :: r ∧ Rep K Fr f p.2 v ∧ RepK K Fr f kvs r := by
  obtain ⟨e, r⟩ := h
  cases us with
  | nil => simp at e
  | cons u us =>
    simp only [List.map_cons, List.cons.injEq] at e
    obtain ⟨v, t, e2, r1, r2⟩ := r
    simp only [List.map_cons, List.cons.injEq] at e2
    obtain ⟨e3, e4⟩ := e2
    subst e3 e4
    exact ⟨u.2, us, by rw [← e.1], r1, e.2, r2⟩
theorem RepK.cons {p : Key × D} {kvs : List (Key × D)} {v : V} {r : List (Key × V)} (h1 : Rep K Fr f p.2 v) (h2 : RepK K Fr f kvs r) : RepK K Fr f (p :: kvs) ((p.1, v) :: r) :=
  ⟨by simp [h2.1], v, _, rfl, h1, h2.2⟩
theorem RepK.mono (hF : Same Fr Fr') (hf : f <+: f') {kvs : List (Key × D)} {us : List (Key × V)} (h : RepK K Fr f kvs us) : RepK K Fr' f' kvs us := ⟨h.1, Reps.mono hF hf _ _ h.2⟩
theorem RepK.length {kvs : List (Key × D)} {us : List (Key × V)} (h : RepK K Fr f kvs us) : us.length = kvs.length := by
  have := congrArg List.length h.1
  simpa using this
theorem RepK.append : ∀ {kvs ms : List (Key × D)} {us ws : List (Key × V)}, RepK K Fr f kvs us → RepK K Fr f ms ws → RepK K Fr f (kvs ++ ms) (us ++ ws) := fun h h' =>
  ⟨by simp [h.1, h'.1], by simpa using h.2.append h'.2⟩
theorem RepK.val (k : Key) : ∀ {kvs : List (Key × D)} {us : List (Key × V)}, RepK K Fr f kvs us → (∀ d, valP kvs k = some d → ∃ v, valV us k = some v ∧ Rep K Fr f d v) ∧ (valP kvs k = none → valV us k = none)
  | [], us, h => by
    cases h.inv0
    exact ⟨fun d e => by simp [valP] at e, fun _ => rfl⟩
  | p :: kvs, us, h => by
    obtain ⟨v, r, rfl, h1, h2⟩ := h.inv
    by_cases e : p.1 = k
    · refine ⟨fun d q => ?_, fun q => ?_⟩
      · have q' : p.2 = d := by simpa [valP, List.find?_cons, e] using q
        subst q'
        exact ⟨v, valV_pos (p := (p.1, v)) e, h1⟩
      · simp [valP, List.find?_cons, e] at q
    · have ih := RepK.val k h2
      have e1 : valP (p :: kvs) k = valP kvs k := by simp [valP, List.find?_cons, e]
      have e2 : valV ((p.1, v) :: r) k = valV r k := valV_neg (p := (p.1, v)) e
      rw [e1, e2]
      exact ih
theorem RepK.some {k : Key} {kvs : List (Key × D)} {us : List (Key × V)} (h : RepK K Fr f kvs us) : (valV us k).isSome = (valP kvs k).isSome := by
  have := RepK.val k h
  cases e : valP kvs k with
  | none => rw [this.2 e]; rfl
  | some d => obtain ⟨v, e1, _⟩ := this.1 d e; rw [e1] <;> rfl
theorem RepK.any {k : Key} : ∀ {kvs : List (Key × D)} {us : List (Key × V)}, RepK K Fr f kvs us → (us.any fun kv => decide (kv.1 = k)) = kvs.any fun kv => decide (kv.1 = k)
  | [], us, h => by cases h.inv0; rfl
  | p :: kvs, us, h => by
    obtain ⟨v, r, rfl, h1, h2⟩ := h.inv
    simp only [List.any_cons, RepK.any h2]
theorem RepK.repl {k : Key} {d : D} {v : V} (hr : Rep K Fr f d v) : ∀ {kvs : List (Key × D)} {us : List (Key × V)}, RepK K Fr f kvs us →
    RepK K Fr f (kvs.map fun kv => if kv.1 = k then (kv.1, d) else kv) (us.map fun kv => if kv.1 = k then (kv.1, v) else kv)
  | [], us, h => by cases h.inv0; exact .nil
  | p :: kvs, us, h => by
    obtain ⟨w, r, rfl, h1, h2⟩ := h.inv
    have ih := RepK.repl (k := k) hr h2
    rw [List.map_cons, List.map_cons]
    by_cases e : p.1 = k
    · rw [if_pos e, if_pos e]
      exact RepK.cons (p := (p.1, d)) hr ih
    · rw [if_neg e, if_neg e]
      exact RepK.cons h1 ih
theorem RepK.put {k : Key} {d : D} {v : V} (hr : Rep K Fr f d v) {kvs : List (Key × D)} {us : List (Key × V)} (h : RepK K Fr f kvs us) : RepK K Fr f (putP kvs k d) (putK us k v) := by
  unfold putP putK
  rw [h.any]
  split
  · exact h.repl hr
  · exact h.append (RepK.cons (p := (k, d)) hr .nil)
theorem RepK.drop {k : Key} : ∀ {kvs : List (Key × D)} {us : List (Key × V)}, RepK K Fr f kvs us → RepK K Fr f (dropP kvs k) (dropK us k)
  | [], us, h => by cases h.inv0; exact .nil
  | p :: kvs, us, h => by
    obtain ⟨w, r, rfl, h1, h2⟩ := h.inv
    have ih := RepK.drop (k := k) h2
    unfold dropP dropK at *
    by_cases e : p.1 = k
    · rw [List.filter_cons_of_neg (by simp [e]), List.filter_cons_of_neg (by simp [e])]
      exact ih
    · rw [List.filter_cons_of_pos (by simp [e]), List.filter_cons_of_pos (by simp [e])]
      exact RepK.cons h1 ih
end
def dicOf (st : Sto) : D → Option (List (Key × D))
  | .fd ks ds => some (ks.zip ds)
  | .ref n => match st[n]? with
    | some (.dic kvs) => some kvs
    | _ => none
  | _ => none
theorem dicOf_rep {K : PySem.W.Frag} {Fr : Hp} {f : List Addr} {st : Sto} {H : Hp} (S : SimC K Pr Fr f st H) {d : D} {v : V} {kvs : List (Key × D)} (e : dicOf st d = some kvs) (r : Rep K Fr f d v) :
    ∃ a us, v = .ref a ∧ H a = some (.dK us) ∧ RepK K Fr f kvs us := by
  unfold dicOf at e
  split at e
  · cases e
    obtain ⟨a, us, rfl, h1, e1, r⟩ := r
    have hl := r.length
    have hl2 := congrArg List.length e1
    simp only [List.length_map] at hl hl2
    refine ⟨a, us, rfl, S.fr _ _ h1, ?_, ?_⟩
    · rw [List.map_fst_zip (by omega), e1]
    · rw [List.map_snd_zip (by omega)]
      exact r
  · obtain ⟨a, h1, rfl⟩ := r
    split at e
    · rename_i e1
      cases e
      obtain ⟨b, us, h2, h3, e2, r⟩ := S.dic e1
      rw [h1] at h2; cases h2
      exact ⟨a, us, rfl, h3, e2, r⟩
    · cases e
  · cases e
def keyOf : D → Option Key
  | .int i => some (.inl i)
  | .str x => some (.inr x)
  | _ => none
theorem keyOf_rep {K : PySem.W.Frag} {Fr : Hp} {f : List Addr} {d : D} {v : V} {k : Key} (e : keyOf d = some k) (r : Rep K Fr f d v) : v = kV k := by
  cases d <;> first | (cases e; exact r) | exact nomatch e
def unkey : Key → D
  | .inl i => .int i
  | .inr x => .str x

/-! ### in, not in -/
def flatD : D → Bool
  | .non => true
  | .bl _ => true
  | .int _ => true
  | .str _ => true
  | _ => false
def eqD : D → D → Bool
  | .non, .non => true
  | .bl a, .bl b => a == b
  | .bl a, .int b => (if a then 1 else 0) == b
  | .int a, .bl b => a == (if b then 1 else 0)
  | .int a, .int b => a == b
  | .str a, .str b => a == b
  | _, _ => false
section
variable {K : PySem.W.Frag} {Fr : Hp} {f : List Addr}
theorem flat_rep {d : D} {v : V} (h : flatD d = true) (r : Rep K Fr f d v) : flatV v = true := by
  cases d <;> first | (cases (show v = _ from r); rfl) | (cases h; done)
theorem eqD_rep {d e : D} {v u : V} (h1 : flatD d = true) (h2 : flatD e = true) (r1 : Rep K Fr f d v) (r2 : Rep K Fr f e u) : eqV v u = eqD d e := by
  cases d <;> first
    | (cases h1; done)
    | (cases (show v = _ from r1)
       cases e <;> first
        | (cases h2; done)
        | (cases (show u = _ from r2); rfl))
theorem flats_rep : ∀ {ds : List D} {vs : List V}, ds.all flatD = true → Reps K Fr f ds vs → vs.all flatV = true
  | [], vs, _, r => by cases (show vs = [] from r); rfl
  | d :: ds, vs, h, r => by
    obtain ⟨v, t, rfl, r1, r2⟩ := r
    simp only [List.all_cons, Bool.and_eq_true] at h ⊢
    exact ⟨flat_rep h.1 r1, flats_rep h.2 r2⟩
theorem inV_rep {x : D} {u : V} (hx : flatD x = true) (rx : Rep K Fr f x u) : ∀ {ds : List D} {vs : List V}, ds.all flatD = true → Reps K Fr f ds vs → inV u vs = ds.any fun d => eqD d x
  | [], vs, _, r => by cases (show vs = [] from r); rfl
  | d :: ds, vs, h, r => by
    obtain ⟨v, t, rfl, r1, r2⟩ := r
    simp only [List.all_cons, Bool.and_eq_true] at h
    have ih := inV_rep hx rx h.2 r2
    unfold inV at ih ⊢
    rw [List.any_cons, List.any_cons, ih, eqD_rep h.1 hx r1 rx]
end
def rInDic : R2 := fun x y H Q => ∃ a o, y = .ref a ∧ DGet H a x o ∧ Q (.bl o.isSome) H
def rNotInDic : R2 := fun x y H Q => ∃ a o, y = .ref a ∧ DGet H a x o ∧ Q (.bl (!o.isSome)) H
theorem op_in_dic {X : Cx} (hu : X.A.units + 1 < cLine) : OpR X (compareOp .In) rInDic := by
  intro pins s σ H x y v u Q I rx ry h
  obtain ⟨a, o, rfl, g, q⟩ := h
  cases ry
  exact d_in hu I g rx fun s' I' => ⟨.bl _, H, I', rfl, q⟩
theorem op_notIn_dic {X : Cx} (hu : X.A.units + 1 < cLine) : OpR X (compareOp .NotIn) rNotInDic := by
  intro pins s σ H x y v u Q I rx ry h
  obtain ⟨a, o, rfl, g, q⟩ := h
  cases ry
  exact d_notIn hu I g rx fun s' I' => ⟨.bl _, H, I', rfl, q⟩
def rInAny (K : PySem.W.Frag) : R2 := fun x y H Q => rIn K false x y H Q ∨ (fun x y H Q => ∃ (c : Nat) (z : Str), x = .str ⟨#[c]⟩ ∧ y = .str z ∧ Q (.bl (decide (c ∈ z.cps.toList))) H) x y H Q ∨ rInDic x y H Q
def rNotInAny (K : PySem.W.Frag) : R2 := fun x y H Q => rIn K true x y H Q ∨ (fun x y H Q => ∃ (c : Nat) (z : Str), x = .str ⟨#[c]⟩ ∧ y = .str z ∧ Q (.bl (!decide (c ∈ z.cps.toList))) H) x y H Q ∨ rNotInDic x y H Q
theorem or_in {X : Cx} (hu : X.A.units + 64 < cLine) : OpR X (compareOp .In) (rInAny X.K) := op_in_seq.or (op_in_sign.or (op_in_dic (by omega)))
theorem or_notIn {X : Cx} (hu : X.A.units + 64 < cLine) : OpR X (compareOp .NotIn) (rNotInAny X.K) := op_notIn_seq.or (op_notIn_sign.or (op_notIn_dic (by omega)))
def opInW (neg : Bool) : Sto → D → D → (D → Prop) → Prop := fun st x y k => match x, y with
  | .str a, .str b => ∃ c : Nat, a = ⟨#[c]⟩ ∧ k (.bl (neg ^^ decide (c ∈ b.cps.toList)))
  | x, y => match seqOf st y with
    | some ds => flatD x = true ∧ ds.all flatD = true ∧ k (.bl (neg ^^ ds.any fun d => eqD d x))
    | none => match dicOf st y, keyOf x with
      | some kvs, some q => k (.bl (neg ^^ (valP kvs q).isSome))
      | _, _ => False
abbrev opIn := opInW false
abbrev opNotIn := opInW true
theorem od_in {K : PySem.W.Frag} : OpD K (rInAny K) opIn := by
  intro Pr Fr f st H x y v u k Q S r1 r2 o q
  unfold opIn opInW at o
  split at o
  · obtain ⟨c, rfl, o⟩ := o
    cases (show v = _ from r1); cases (show u = _ from r2)
    exact .inr (.inl ⟨c, _, rfl, rfl, q _ _ Fr H o (Same.refl _) S (by simp [RepX, Rep])⟩)
  · split at o
    · rename_i ds e
      obtain ⟨o1, o2, o⟩ := o
      obtain ⟨a, vs, rfl, h1, r2⟩ := seqOf_rep S e r2
      refine .inl ⟨a, vs, rfl, h1, flat_rep o1 r1, flats_rep o2 r2, ?_⟩
      rw [if_neg (by simp)]
      exact q _ _ Fr H o (Same.refl _) S (by simp [RepX, Rep, inV_rep o1 r1 o2 r2])
    · split at o
      · rename_i kvs kk e1 e2
        obtain ⟨a, us, rfl, h1, r2⟩ := dicOf_rep S e1 r2
        obtain rfl := keyOf_rep e2 r1
        refine .inr (.inr ⟨a, _, rfl, DGet.k h1, ?_⟩)
        exact q _ _ Fr H o (Same.refl _) S (by simp [RepX, Rep, r2.some])
      · exact o.elim
theorem od_notIn {K : PySem.W.Frag} : OpD K (rNotInAny K) opNotIn := by
  intro Pr Fr f st H x y v u k Q S r1 r2 o q
  unfold opNotIn opInW at o
  split at o
  · obtain ⟨c, rfl, o⟩ := o
    cases (show v = _ from r1); cases (show u = _ from r2)
    exact .inr (.inl ⟨c, _, rfl, rfl, q _ _ Fr H o (Same.refl _) S (by simp [RepX, Rep])⟩)
  · split at o
    · rename_i ds e
      obtain ⟨o1, o2, o⟩ := o
      obtain ⟨a, vs, rfl, h1, r2⟩ := seqOf_rep S e r2
      refine .inl ⟨a, vs, rfl, h1, flat_rep o1 r1, flats_rep o2 r2, ?_⟩
      rw [if_pos rfl]
      exact q _ _ Fr H o (Same.refl _) S (by simp [RepX, Rep, inV_rep o1 r1 o2 r2])
    · split at o
      · rename_i kvs kk e1 e2
        obtain ⟨a, us, rfl, h1, r2⟩ := dicOf_rep S e1 r2
        obtain rfl := keyOf_rep e2 r1
        refine .inr (.inr ⟨a, _, rfl, DGet.k h1, ?_⟩)
        exact q _ _ Fr H o (Same.refl _) S (by simp [RepX, Rep, r2.some])
      · exact o.elim
/-! ### is -/
def rIsAny : R2 := fun x y H Q => rIsB x y H Q ∨ (fun x y H Q => y = V.non ∧ Q (.bl (decide (x = V.non))) H) x y H Q
def rNotIsAny : R2 := fun x y H Q => rNotB x y H Q ∨ (fun x y H Q => y = V.non ∧ Q (.bl (!decide (x = V.non))) H) x y H Q
theorem or_is {X : Cx} : OpR X (compareOp .Is) rIsAny := op_isBl.or op_isN
theorem or_isNot {X : Cx} : OpR X (compareOp .IsNot) rNotIsAny := op_notBl.or op_notN
def isNonD : D → Bool
  | .non => true
  | _ => false
def opIsW (neg : Bool) : Sto → D → D → (D → Prop) → Prop := fun _ x y k => match x, y with
  | .bl a, .bl b => k (.bl (neg ^^ (a == b)))
  | x, .non => k (.bl (neg ^^ isNonD x))
  | _, _ => False
abbrev opIs := opIsW false
abbrev opIsNot := opIsW true
theorem dec_beq {a b : Bool} : decide (a = b) = (a == b) := by cases a <;> cases b <;> rfl
theorem isNon_rep {K : PySem.W.Frag} {Fr : Hp} {f : List Addr} {d : D} {v : V} (r : Rep K Fr f d v) : decide (v = V.non) = isNonD d := by
  cases d with
  | tup _ => obtain ⟨a, _, rfl, _⟩ := r; rfl
  | ref _ => obtain ⟨a, _, rfl⟩ := r; rfl
  | fl _ => obtain ⟨a, _, rfl, _⟩ := r; rfl
  | sl _ => obtain ⟨a, _, rfl, _⟩ := r; rfl
  | fd _ _ => obtain ⟨a, _, rfl, _⟩ := r; rfl
  | tl _ => exact (show False from r).elim
  | td _ _ => exact (show False from r).elim
  | _ => cases (show v = _ from r); rfl
theorem od_is {K : PySem.W.Frag} : OpD K rIsAny opIs := by
  intro Pr Fr f st H x y v u k Q S r1 r2 o q
  unfold opIs opIsW at o
  split at o
  · cases (show v = _ from r1); cases (show u = _ from r2)
    refine .inl ⟨_, _, rfl, rfl, q _ _ Fr H o (Same.refl _) S ?_⟩
    simp only [RepX, Rep, Bool.false_xor, V.bl.injEq]
    exact dec_beq
  · cases (show u = _ from r2)
    refine .inr ⟨rfl, q _ _ Fr H o (Same.refl _) S ?_⟩
    simp only [RepX, Rep, Bool.false_xor, V.bl.injEq]
    exact isNon_rep r1
  · exact o.elim
theorem od_isNot {K : PySem.W.Frag} : OpD K rNotIsAny opIsNot := by
  intro Pr Fr f st H x y v u k Q S r1 r2 o q
  unfold opIsNot opIsW at o
  split at o
  · cases (show v = _ from r1); cases (show u = _ from r2)
    refine .inl ⟨_, _, rfl, rfl, q _ _ Fr H o (Same.refl _) S ?_⟩
    show V.bl _ = V.bl (true ^^ _)
    rw [Bool.true_xor, dec_beq]
  · cases (show u = _ from r2)
    refine .inr ⟨rfl, q _ _ Fr H o (Same.refl _) S ?_⟩
    show V.bl _ = V.bl (true ^^ _)
    rw [Bool.true_xor, isNon_rep r1]
  · exact o.elim

/-! ### subscripts -/
def rIxDic : R2 := fun x y H Q => ∃ a v, x = .ref a ∧ DGet H a y (some v) ∧ Q v H
theorem ix_dic {X : Cx} (hu : X.A.units + 1 < cLine) : IxR X rIxDic := by
  intro value slice pins s σ H x y v u Q I rx ry h hs
  obtain ⟨a, w, rfl, g, q⟩ := h
  obtain rfl : v = Value.ref a := rx
  exact tail_any (dict_typeIs I g) PySem.F.slot_dict_getitem.lookup (d_getItem hu I g ry fun w' s' I' r' => ⟨w, H, I', r', q⟩) hs
def rIxAny (K : PySem.W.Frag) : R2 := fun x y H Q => rIx K x y H Q ∨ rIxDic x y H Q
theorem xr_any {X : Cx} (hu : X.A.units + 64 < cLine) : IxR X (rIxAny X.K) := ix_seq.or (ix_dic (by omega))
def opIxDic : Sto → D → D → (D → Prop) → Prop := fun st x y k => match dicOf st x, keyOf y with
  | some kvs, some q => (match valP kvs q with
    | some d => k d
    | none => False)
  | _, _ => False
def opIx : Sto → D → D → (D → Prop) → Prop := fun st x y k => match y with
  | .int i => (match x with
    | .str z => z.length ≤ sizeLine ∧ (match atI z.cps.toList i with
      | some c => k (.str ⟨#[c]⟩)
      | none => False)
    | x => (match seqOf st x with
      | some ds => (match atI ds i with
        | some d => k d
        | none => False)
      | none => opIxDic st x (.int i) k))
  | y => opIxDic st x y k
theorem atI_rep {K : PySem.W.Frag} {Fr : Hp} {f : List Addr} {ds : List D} {vs : List V} {i : Int} {d : D} (r : Reps K Fr f ds vs) (e : atI ds i = some d) : ∃ v, atI vs i = some v ∧ Rep K Fr f d v := by
  unfold atI at e ⊢
  rw [← r.length]
  cases h : ixN ds.length i with
  | none => rw [h] at e; cases e
  | some j =>
    rw [h] at e
    obtain ⟨v, e1, r1⟩ := r.get (show ds[j]? = some d from e)
    exact ⟨v, e1, r1⟩
theorem od_ixDic {K : PySem.W.Frag} : OpD K (rIxAny K) opIxDic := by
  intro Pr Fr f st H x y v u k Q S r1 r2 o q
  unfold opIxDic at o
  split at o
  · rename_i kvs kk e1 e2
    obtain ⟨a, us, rfl, h1, r1⟩ := dicOf_rep S e1 r1
    obtain rfl := keyOf_rep e2 r2
    split at o
    · rename_i d ed
      obtain ⟨w, ew, rw'⟩ := (RepK.val kk r1).1 d ed
      exact .inr ⟨a, w, rfl, by rw [← ew]; exact DGet.k h1, q _ _ Fr H o (Same.refl _) S (.of rw')⟩
    · exact o.elim
  · exact o.elim
theorem od_ix {K : PySem.W.Frag} : OpD K (rIxAny K) opIx := by
  intro Pr Fr f st H x y v u k Q S r1 r2 o q
  unfold opIx at o
  split at o
  · cases (show u = _ from r2)
    split at o
    · cases (show v = _ from r1)
      obtain ⟨o1, o⟩ := o
      split at o
      · rename_i c e
        exact .inl (.inr (.inr ⟨_, _, c, rfl, rfl, o1, e, q _ _ Fr H o (Same.refl _) S rfl⟩))
      · exact o.elim
    · split at o
      · rename_i ds e
        obtain ⟨a, vs, rfl, h1, r1⟩ := seqOf_rep S e r1
        split at o
        · rename_i d ed
          obtain ⟨w, ew, rw'⟩ := atI_rep r1 ed
          rcases h1 with h1 | h1
          · exact .inl (.inl ⟨a, vs, _, w, rfl, rfl, h1, ew, q _ _ Fr H o (Same.refl _) S (.of rw')⟩)
          · exact .inl (.inr (.inl ⟨a, vs, _, w, rfl, rfl, h1, ew, q _ _ Fr H o (Same.refl _) S (.of rw')⟩))
        · exact o.elim
      · exact od_ixDic Pr Fr f st H _ (.int _) _ _ k Q S r1 rfl o q
  · exact od_ixDic Pr Fr f st H _ _ _ _ k Q S r1 r2 o q

/-! ### slices -/
def cutD {α : Type} (xs : List α) (lo hi : Option Int) : List α := (xs.drop (HT.sIx xs.length 0 lo)).take (HT.sIx xs.length xs.length hi - HT.sIx xs.length 0 lo)
theorem Reps.cut {K : PySem.W.Frag} {Fr : Hp} {f : List Addr} {ds : List D} {vs : List V} (r : Reps K Fr f ds vs) (lo hi : Option Int) : Reps K Fr f (cutD ds lo hi) (cutV vs lo hi) := by
  unfold cutD cutV
  rw [← r.length]
  exact (r.drop _).take _
theorem cutD_whole {α : Type} {xs : List α} {lo hi : Option Int} (h : HT.sIx xs.length 0 lo = 0 ∧ HT.sIx xs.length xs.length hi = xs.length) : cutD xs lo hi = xs := by
  unfold cutD
  rw [h.1, h.2]
  simp
def rSlAny (K : PySem.W.Frag) : V → Option Int → Option Int → Hp → VK → Prop := fun x lo hi H Q => rSlS x lo hi H Q ∨ rSlA K x lo hi H Q ∨ rSlL K x lo hi H Q
theorem sr_any {X : Cx} : SlR X (rSlAny X.K) := sl_str.or (sl_tupA.or sl_list)
def opSl : Sto → D → Option Int → Option Int → (D → Prop) → Prop := fun st x lo hi k => match x with
  | .str z => z.length ≤ sizeLine ∧ k (.str (cutS z lo hi))
  | .tup ds => k (.tup (cutD ds lo hi))
  | .sl ds => k (.tl (cutD ds lo hi))
  | x => match lisOf st x with
    | some ds => k (.tl (cutD ds lo hi))
    | none => False
def dSl (de : DE) (lo hi : DO) : DE := fun Ed env st Q => de Ed env st fun x st1 => lo Ed env st1 fun l st2 => hi Ed env st2 fun h st3 => opSl st3 (frz x) l h fun z => Q z st3
theorem sl_rep {K : PySem.W.Frag} {Fr : Hp} {f : List Addr} {st : Sto} {H : Hp} {x : D} {v : V} {lo hi : Option Int} {k : D → Prop} {Q : VK} (S : SimC K Pr Fr f st H) (r1 : Rep K Fr f x v) (o : opSl st x lo hi k)
    (q : ∀ z w Fr' H', k z → Same Fr Fr' → SimC K Pr Fr' f st H' → RepX K Pr Fr' f H' z w → Q w H') : rSlAny K v lo hi H Q := by
  unfold opSl at o
  split at o
  · cases (show v = _ from r1)
    exact .inl ⟨_, rfl, o.1, q _ _ Fr H o.2 (Same.refl _) S rfl⟩
  · rename_i ds
    obtain ⟨a, xs, rfl, h1, r1⟩ := r1
    refine .inr (.inl ⟨a, xs, rfl, S.frT h1, fun e => ?_, fun _ p hp => ?_⟩)
    · refine q _ _ Fr H o (Same.refl _) S ⟨a, xs, rfl, h1, ?_⟩
      rw [← r1.length] at e
      rw [cutD_whole e]
      exact r1
    · obtain ⟨sm, S', rx⟩ := lay_tup S hp (r1.cut lo hi)
      exact q _ _ _ _ o sm S' rx
  · obtain ⟨a, xs, rfl, h1, r1⟩ := r1
    refine .inr (.inr ⟨a, xs, rfl, S.frL h1, fun p hp => ?_⟩)
    obtain ⟨S', rx⟩ := lay_lst S hp (r1.cut lo hi)
    exact q _ _ _ _ o (Same.refl _) S' rx
  · split at o
    · rename_i ds e
      obtain ⟨a, xs, rfl, h1, r1⟩ := listOf_rep S e r1
      refine .inr (.inr ⟨a, xs, rfl, .inl (.inl h1), fun p hp => ?_⟩)
      obtain ⟨S', rx⟩ := lay_lst S hp (r1.cut lo hi)
      exact q _ _ _ _ o (Same.refl _) S' rx
    · exact o.elim

/-! ### truth -/
def opTru : Sto → D → (Bool → Prop) → Prop := fun st x k => match x with
  | .non => k false
  | .bl b => k b
  | .int i => k (i != 0)
  | .str z => z.length ≤ sizeLine ∧ k ((z.length : Int) != 0)
  | x => match seqOf st x with
    | some ds => k (!ds.isEmpty)
    | none => match dicOf st x with
      | some kvs => k (!kvs.isEmpty)
      | none => False
theorem tru_rep {K : PySem.W.Frag} {Fr : Hp} {f : List Addr} {st : Sto} {H : Hp} {x : D} {v : V} {k : Bool → Prop} (S : SimC K Pr Fr f st H) (r1 : Rep K Fr f x v) (o : opTru st x k) : ∃ b, TruV K v H b ∧ k b := by
  unfold opTru at o
  split at o
  · cases (show v = _ from r1); exact ⟨_, rfl, o⟩
  · cases (show v = _ from r1); exact ⟨_, rfl, o⟩
  · cases (show v = _ from r1); exact ⟨_, rfl, o⟩
  · cases (show v = _ from r1); exact ⟨_, ⟨o.1, rfl⟩, o.2⟩
  · split at o
    · rename_i ds e
      obtain ⟨a, vs, rfl, h1, r⟩ := seqOf_rep S e r1
      have e : ds.isEmpty = vs.isEmpty := by
        have := r.length
        cases ds <;> cases vs <;> simp_all
      rcases h1 with h1 | h1
      · exact ⟨_, .inl ⟨vs, h1, rfl⟩, by rw [← e]; exact o⟩
      · exact ⟨_, .inr (.inl ⟨vs, h1, rfl⟩), by rw [← e]; exact o⟩
    · split at o
      · rename_i kvs e
        obtain ⟨a, us, rfl, h1, r⟩ := dicOf_rep S e r1
        have e : kvs.isEmpty = us.isEmpty := by
          have := r.length
          cases kvs <;> cases us <;> simp_all
        exact ⟨_, .inr (.inr ⟨us, h1, rfl⟩), by rw [← e]; exact o⟩
      · exact o.elim
end DW

/-! DW5: the rules for expressions. -/
namespace DW
open PySem PySem.Spec PyProof.Rows L2

section
variable {X : Cx} {W : WX} {a b c e o i : Expr} {es rest : List Expr} {da db dc dx : DE} {ds : DA} {pos p1 p2 p3 : Pos}

/-! ### operators -/
theorem de_bin {op : Operator} {r : R2} {f : Sto → D → D → (D → Prop) → Prop} (hr : OpR X (binaryOp op) r) (ho : OpD X.K r f) (ha : PE X a (liftE X.K W da)) (hb : PE X b (liftE X.K W db)) : PE X (.BinOp a op b pos) (liftE X.K W (dOp f da db)) :=
  PEimp (pe_op hr ha hb) (lift_op ho)
theorem de_cmp {op : CmpOp} {r : R2} {f : Sto → D → D → (D → Prop) → Prop} (hr : OpR X (compareOp op) r) (ho : OpD X.K r f) (ha : PE X a (liftE X.K W da)) (hb : PE X b (liftE X.K W db)) (hm : behindInMarks op b = false) : PE X (.Compare a [op] [b] pos) (liftE X.K W (dOp f da db)) :=
  PEimp (pe_cmpR hr ha hb hm) (lift_op ho)
theorem de_ix (hu : X.A.units + 64 < cLine) (ha : PE X a (liftE X.K W da)) (hb : PE X b (liftE X.K W db)) (hs : PlainIx b) : PE X (.Subscript a b pos) (liftE X.K W (dOp opIx da db)) :=
  PEimp (pe_ix (xr_any hu) ha hb hs) (lift_op od_ix)
def dNeg (da : DE) : DE := fun Ed env st Q => da Ed env st fun x st1 => match x with
  | .int i => Q (.int (-i)) st1
  | _ => False
theorem de_neg (ha : PE X a (liftE X.K W da)) : PE X (.UnaryOp .USub a pos) (liftE X.K W (dNeg da)) := PEimp (pe_un un_neg ha) fun σ H Q q => by
  obtain ⟨Ed, Pr, Fr, f, env, st, Q0, A, d, k⟩ := q
  refine ⟨Ed, Pr, Fr, f, env, st, _, A, d, fun x st1 h1 v Fr1 f1 H1 s1 p1 S1 r1 => ?_⟩
  split at h1
  · cases (show v = _ from r1)
    exact ⟨_, rfl, k _ _ h1 _ Fr1 f1 H1 s1 p1 S1 rfl⟩
  · exact h1.elim

/-! ### displays, arguments -/
def dNil : DA := fun _ _ st Q => Q [] st
def dCons (bx : Bool) (da : DE) (ds : DA) : DA := fun Ed env st Q => da Ed env st fun x st1 => ds Ed env (keep bx st1 x).2 fun xs st2 => Q ((keep bx st1 x).1 :: xs) st2
theorem da_nil : PA X [] (liftA X.K W dNil) := PAimp pa_nil fun σ H Q q => by
  obtain ⟨Ed, Pr, Fr, f, env, st, Q0, A, d, k⟩ := q
  exact k _ _ d _ Fr f H (Same.refl _) (List.prefix_refl _) A.toSim rfl
theorem da_cons (bx : Bool) (ha : PE X e (liftE X.K W da)) (hr : PA X es (liftA X.K W ds)) (hs : starEach (e :: es) X.env = (false, eval e X.env) :: starEach es X.env := by rfl) : PA X (e :: es) (liftA X.K W (dCons bx da ds)) := PAimp (pa_cons ha hr hs) fun σ H Q q => by
  obtain ⟨Ed, Pr, Fr, f, env, st, Q0, A, d, k⟩ := q
  refine ⟨Ed, Pr, Fr, f, env, st, _, A, d, fun x st1 h1 v Fr1 f1 H1 s1 p1 S1 r1 => ?_⟩
  obtain ⟨Fr2, f2, s2, p2, C2, r2⟩ := r1.keep bx S1.toSimC
  have A2 := A.up (s1.trans s2) (p1.trans p2) (S1.up s2 p2 C2)
  refine ⟨Ed, Pr, Fr2, f2, env, _, _, A2, h1, fun xs st2 h2 vs Fr3 f3 H3 s3 p3 S3 r3 => ?_⟩
  exact k _ _ h2 _ Fr3 f3 H3 ((s1.trans s2).trans s3) ((p1.trans p2).trans p3) S3 ⟨v, vs, rfl, Rep.mono s3 p3 _ _ r2, r3⟩
theorem liftA1 {K : PySem.W.Frag} {W : WX} {ds : DA} {σ : L2.St} {H : Hp} {Ed : EdT} {Fr : Hp} {f : List Addr} {env : Slots} {st : Sto} {R : List D → Sto → Prop} {Q : List V → Hp → Prop} (A : At K W Ed Pr Fr f env st σ H)
    (h : ds Ed env st R)
    (k : ∀ xs st1 vs Fr' f' H', R xs st1 → Same Fr Fr' → f <+: f' → Sim K Pr Fr' f' env st1 σ H' → Reps K Fr' f' xs vs → Q vs H') : liftA K W ds σ H Q :=
  ⟨Ed, Pr, Fr, f, env, st, _, A, h, fun xs st1 h1 vs Fr1 f1 H1 s1 p1 S1 r1 => k _ _ _ _ _ _ h1 s1 p1 S1 r1⟩
def dTup (ds : DA) : DE := fun Ed env st Q => ds Ed env st fun xs st1 => xs.length ≤ sizeLine ∧ Q (.tup xs) st1
def dLst (ds : DA) : DE := fun Ed env st Q => ds Ed env st fun xs st1 => xs.length ≤ sizeLine ∧ Q (.tl xs) st1
theorem de_tup {k} (h : PA X es (liftA X.K W ds)) : PE X (.Tuple es k pos) (liftE X.K W (dTup ds)) := PEimp (pe_tup h) fun σ H Q q => by
  obtain ⟨Ed, Pr, Fr, f, env, st, Q0, A, d, k⟩ := q
  refine liftA1 A d fun xs st1 vs Fr1 f1 H1 h1 s1 p1 S1 r1 => ⟨by rw [← r1.length]; exact h1.1, fun p hp => ?_⟩
  obtain ⟨sm, S', rx⟩ := lay_tup S1.toSimC hp r1
  exact k _ _ h1.2 _ _ f1 _ (s1.trans sm) p1 (S1.up sm (List.prefix_refl _) S') rx
theorem de_lst (h : PA X es (liftA X.K W ds)) : PE X (.List es pos) (liftE X.K W (dLst ds)) := PEimp (pe_lst h) fun σ H Q q => by
  obtain ⟨Ed, Pr, Fr, f, env, st, Q0, A, d, k⟩ := q
  refine liftA1 A d fun xs st1 vs Fr1 f1 H1 h1 s1 p1 S1 r1 => ⟨by rw [← r1.length]; exact h1.1, fun p hp => ?_⟩
  obtain ⟨S', rx⟩ := lay_lst S1.toSimC hp r1
  exact k _ _ h1.2 _ _ f1 _ s1 p1 (S1.up (Same.refl _) (List.prefix_refl _) S') rx
/-- {} -/
def dDic0 : DE := fun _ _ st Q => Q (.td [] []) st
theorem de_dic0 : PE X (.Dict [] [] pos) (liftE X.K W dDic0) := PEimp pe_dnewK fun σ H Q q => by
  obtain ⟨Ed, Pr, Fr, f, env, st, Q0, A, d, k⟩ := q
  intro p hp
  obtain ⟨S', rx⟩ := lay_dic (ks := []) (ds := []) (kvs := []) A.toSimC hp rfl rfl
  exact k _ _ d _ _ f _ (Same.refl _) (List.prefix_refl _) (A.toSim.up (Same.refl _) (List.prefix_refl _) S') rx

/-! ### slices -/
def oNone : DO := fun _ _ st Q => Q none st
def oSome (de : DE) : DO := fun Ed env st Q => de Ed env st fun x st1 => match x with
  | .int i => Q (some i) st1
  | _ => False
theorem do_none : PO X none (liftO X.K W oNone) := ⟨fun pins s σ H Q I q => po_none.run pins s σ H Q I (by
  obtain ⟨Ed, Pr, Fr, f, env, st, Q0, A, d, k⟩ := q
  exact k _ _ d Fr f H (Same.refl _) (List.prefix_refl _) A.toSim)⟩
theorem do_some (h : PE X e (liftE X.K W dx)) : PO X (some e) (liftO X.K W (oSome dx)) := ⟨fun pins s σ H Q I q => (po_some h).run pins s σ H Q I (by
  obtain ⟨Ed, Pr, Fr, f, env, st, Q0, A, d, k⟩ := q
  refine ⟨Ed, Pr, Fr, f, env, st, _, A, d, fun x st1 h1 v Fr1 f1 H1 s1 p1 S1 r1 => ?_⟩
  split at h1
  · cases (show v = _ from r1)
    exact ⟨_, rfl, k _ _ h1 Fr1 f1 H1 s1 p1 S1⟩
  · exact h1.elim)⟩
theorem liftO1 {K : PySem.W.Frag} {W : WX} {d : DO} {σ : L2.St} {H : Hp} {Ed : EdT} {Fr : Hp} {f : List Addr} {env : Slots} {st : Sto} {R : Option Int → Sto → Prop} {Q : Option Int → Hp → Prop} (A : At K W Ed Pr Fr f env st σ H)
    (h : d Ed env st R) (k : ∀ x st1 Fr' f' H', R x st1 → Same Fr Fr' → f <+: f' → Sim K Pr Fr' f' env st1 σ H' → Q x H') : liftO K W d σ H Q :=
  ⟨Ed, Pr, Fr, f, env, st, _, A, h, fun x st1 h1 Fr1 f1 H1 s1 p1 S1 => k _ _ _ _ _ h1 s1 p1 S1⟩
theorem de_slice {lo hi : Option Expr} {dl dh : DO} (he : PE X e (liftE X.K W dx)) (hl : PO X lo (liftO X.K W dl)) (hh : PO X hi (liftO X.K W dh)) : PE X (.Subscript e (.Slice lo hi none p2) pos) (liftE X.K W (dSl dx dl dh)) :=
  PEimp (pe_slice sr_any he hl hh) fun σ H Q q => by
  obtain ⟨Ed, Pr, Fr, f, env, st, Q0, A, d, k⟩ := q
  refine lift1 (R := fun x st1 => dl Ed env st1 fun l st2 => dh Ed env st2 fun h st3 => opSl st3 x l h fun z => Q0 z st3) A d fun x st1 v Fr1 f1 H1 h1 s1 p1 S1 r1 => ?_
  have A1 := A.up s1 p1 S1
  refine liftO1 A1 h1 fun l st2 Fr2 f2 H2 h2 s2 p2 S2 => ?_
  refine liftO1 (A1.up s2 p2 S2) h2 fun hh st3 Fr3 f3 H3 h3 s3 p3 S3 => ?_
  exact sl_rep S3.toSimC (Rep.mono (s2.trans s3) (p2.trans p3) _ _ r1) h3 fun z w Fr4 H4 hz s4 S4 rz => k _ _ hz w Fr4 f3 H4 (((s1.trans s2).trans s3).trans s4) ((p1.trans p2).trans p3) (S3.up s4 (List.prefix_refl _) S4) rz
def dRev (da : DE) : DE := fun Ed env st Q => da Ed env st fun x st1 => match x with
  | .sl ds => Q (.tl ds.reverse) st1
  | x => match lisOf st1 (frz x) with
    | some ds => Q (.tl ds.reverse) st1
    | none => False
theorem de_rev {k : Nat} (ha : PE X a (liftE X.K W da)) : PE X (.Subscript a (.Slice none none (some (.UnaryOp .USub (.Constant (.int 1) k p1) p2)) p3) pos) (liftE X.K W (dRev da)) := PEimp (pe_revL ha) fun σ H Q q => by
  obtain ⟨Ed, Pr, Fr, f, env, st, Q0, A, d, k⟩ := q
  refine ⟨Ed, Pr, Fr, f, env, st, _, A, d, fun x st1 h1 v Fr1 f1 H1 s1 p1 S1 r1 => ?_⟩
  split at h1
  · obtain ⟨l, vs, rfl, h2, r⟩ := r1
    refine ⟨l, vs, rfl, S1.frL h2, fun p hp => ?_⟩
    obtain ⟨S', rx⟩ := lay_lst S1.toSimC hp r.reverse
    exact k _ _ h1 _ _ f1 _ s1 p1 (S1.up (Same.refl _) (List.prefix_refl _) S') rx
  · split at h1
    · rename_i ds e
      obtain ⟨Fr2, C2, s2, r2⟩ := r1.frz S1.toSimC
      obtain ⟨l, vs, rfl, h2, r⟩ := listOf_rep C2 e r2
      refine ⟨l, vs, rfl, .inl (.inl h2), fun p hp => ?_⟩
      obtain ⟨S', rx⟩ := lay_lst C2 hp r.reverse
      exact k _ _ h1 _ _ f1 _ (s1.trans s2) p1 (S1.up s2 (List.prefix_refl _) S') rx
    · exact h1.elim

/-! ### tests -/
def dTruth (da : DE) : DT := fun Ed env st Q => da Ed env st fun x st1 => opTru st1 (frz x) fun b => Q b st1
theorem lift_tru {K : PySem.W.Frag} (σ : L2.St) (H : Hp) (Q : Bool → Hp → Prop) (q : liftT K W (dTruth da) σ H Q) : liftE K W da σ H fun x H' => ∃ k, TruV K x H' k ∧ Q k H' := by
  obtain ⟨Ed, Pr, Fr, f, env, st, Q0, A, d, k⟩ := q
  refine lift1 (R := fun x st1 => opTru st1 x fun b => Q0 b st1) A d fun x st1 v Fr1 f1 H1 h1 s1 p1 S1 r1 => ?_
  obtain ⟨b, hb, h2⟩ := tru_rep S1.toSimC r1 h1
  exact ⟨b, hb, k _ _ h2 Fr1 f1 H1 s1 p1 S1⟩
/-- a name, a call, a subscript .. as a test -/
theorem dt_tru (ha : PE X a (liftE X.K W da)) (he : ∀ whole, isTrue a X.env whole = (do let v ← whole; standAt a.pos; holding [v] (truthy v)) := by intro _; rfl) : PT X a (liftT X.K W (dTruth da)) := PTimp (pt_truth ha he) lift_tru
def dBool (da : DE) : DT := fun Ed env st Q => da Ed env st fun x st1 => match x with
  | .bl b => Q b st1
  | _ => False
theorem lift_bool {K : PySem.W.Frag} (σ : L2.St) (H : Hp) (Q : Bool → Hp → Prop) (q : liftT K W (dBool da) σ H Q) : liftE K W da σ H fun x H' => ∃ k, x = .bl k ∧ Q k H' := by
  obtain ⟨Ed, Pr, Fr, f, env, st, Q0, A, d, k⟩ := q
  refine ⟨Ed, Pr, Fr, f, env, st, _, A, d, fun x st1 h1 v Fr1 f1 H1 s1 p1 S1 r1 => ?_⟩
  split at h1
  · cases (show v = _ from r1)
    exact ⟨_, rfl, k _ _ h1 Fr1 f1 H1 s1 p1 S1⟩
  · exact h1.elim
theorem dt_cmp {op : CmpOp} {r : R2} {f : Sto → D → D → (D → Prop) → Prop} (hr : OpR X (compareOp op) r) (ho : OpD X.K r f) (ha : PE X a (liftE X.K W da)) (hb : PE X b (liftE X.K W db)) (hm : behindInMarks op b = false) : PT X (.Compare a [op] [b] pos) (liftT X.K W (dBool (dOp f da db))) :=
  PTimp (pt_cmpR hr ha hb hm) fun σ H Q q => by
  obtain ⟨Ed, Pr, Fr, f, env, st, Q0, A, d, k⟩ := q
  refine lift_op ho σ H _ ⟨Ed, Pr, Fr, f, env, st, _, A, d, fun x st1 h1 v Fr1 f1 H1 s1 p1 S1 r1 => ?_⟩
  split at h1
  · cases (show v = _ from r1)
    exact ⟨_, rfl, k _ _ h1 Fr1 f1 H1 s1 p1 S1⟩
  · exact h1.elim
def dAnd (t u : DT) : DT := fun Ed env st Q => t Ed env st fun c st1 => if c = true then u Ed env st1 Q else Q false st1
def dOr (t u : DT) : DT := fun Ed env st Q => t Ed env st fun c st1 => if c = true then Q true st1 else u Ed env st1 Q
def dNot (t : DT) : DT := fun Ed env st Q => t Ed env st fun c st1 => Q (!c) st1
variable {t u : DT}
theorem dw_one (h : PW X e (liftT X.K W t)) : PT X e (liftT X.K W t) := h.pt
theorem dw_and1 (ha : PT X a (liftT X.K W t)) : PW X (.BoolOp .And [a] pos) (liftT X.K W t) := pw_and1 ha
theorem dw_or1 (ha : PT X a (liftT X.K W t)) : PW X (.BoolOp .Or [a] pos) (liftT X.K W t) := pw_or1 ha
theorem dw_and (ha : PT X a (liftT X.K W t)) (hb : PW X (.BoolOp .And (b :: rest) pos) (liftT X.K W u)) : PW X (.BoolOp .And (a :: b :: rest) pos) (liftT X.K W (dAnd t u)) := PWimp (pw_and ha hb) fun σ H Q q => by
  obtain ⟨Ed, Pr, Fr, f, env, st, Q0, A, d, k⟩ := q
  refine ⟨Ed, Pr, Fr, f, env, st, _, A, d, fun x st1 h1 Fr1 f1 H1 s1 p1 S1 => ?_⟩
  cases x with
  | true => exact ⟨Ed, Pr, Fr1, f1, env, st1, _, A.up s1 p1 S1, h1, fun y st2 h2 Fr2 f2 H2 s2 p2 S2 => k _ _ h2 Fr2 f2 H2 (s1.trans s2) (p1.trans p2) S2⟩
  | false => exact k _ _ h1 Fr1 f1 H1 s1 p1 S1
theorem dw_or (ha : PT X a (liftT X.K W t)) (hb : PW X (.BoolOp .Or (b :: rest) pos) (liftT X.K W u)) : PW X (.BoolOp .Or (a :: b :: rest) pos) (liftT X.K W (dOr t u)) := PWimp (pw_or ha hb) fun σ H Q q => by
  obtain ⟨Ed, Pr, Fr, f, env, st, Q0, A, d, k⟩ := q
  refine ⟨Ed, Pr, Fr, f, env, st, _, A, d, fun x st1 h1 Fr1 f1 H1 s1 p1 S1 => ?_⟩
  cases x with
  | true => exact k _ _ h1 Fr1 f1 H1 s1 p1 S1
  | false => exact ⟨Ed, Pr, Fr1, f1, env, st1, _, A.up s1 p1 S1, h1, fun y st2 h2 Fr2 f2 H2 s2 p2 S2 => k _ _ h2 Fr2 f2 H2 (s1.trans s2) (p1.trans p2) S2⟩
theorem dt_not (ha : PT X a (liftT X.K W t)) : PT X (.UnaryOp .Not a pos) (liftT X.K W (dNot t)) := PTimp (pt_not ha) fun σ H Q q => by
  obtain ⟨Ed, Pr, Fr, f, env, st, Q0, A, d, k⟩ := q
  exact ⟨Ed, Pr, Fr, f, env, st, _, A, d, fun x st1 h1 Fr1 f1 H1 s1 p1 S1 => k _ _ h1 Fr1 f1 H1 s1 p1 S1⟩
/-! as values -/
def dAndV (da db : DE) : DE := fun Ed env st Q => da Ed env st fun x st1 => opTru st1 (frz x) fun b => if b = true then db Ed env st1 Q else Q (frz x) st1
def dOrV (da db : DE) : DE := fun Ed env st Q => da Ed env st fun x st1 => opTru st1 (frz x) fun b => if b = true then Q (frz x) st1 else db Ed env st1 Q
def dNotV (t : DE) : DE := fun Ed env st Q => t Ed env st fun x st1 => opTru st1 (frz x) fun b => Q (.bl (!b)) st1
theorem de_one {op} (ha : PE X a (liftE X.K W da)) : PE X (.BoolOp op [a] pos) (liftE X.K W da) := pe_one ha
theorem de_and (ha : PE X a (liftE X.K W da)) (hb : PE X (.BoolOp .And (b :: rest) pos) (liftE X.K W db)) : PE X (.BoolOp .And (a :: b :: rest) pos) (liftE X.K W (dAndV da db)) := PEimp (pe_andT ha hb) fun σ H Q q => by
  obtain ⟨Ed, Pr, Fr, f, env, st, Q0, A, d, k⟩ := q
  refine lift1 (R := fun x st1 => opTru st1 x fun b => if b = true then db Ed env st1 Q0 else Q0 x st1) A d fun x st1 v Fr1 f1 H1 h1 s1 p1 S1 r1 => ?_
  obtain ⟨b, hb, h2⟩ := tru_rep S1.toSimC r1 h1
  refine ⟨b, hb, ?_⟩
  cases b with
  | true => exact ⟨Ed, Pr, Fr1, f1, env, st1, _, A.up s1 p1 S1, h2, fun y st2 h2 w Fr2 f2 H2 s2 p2 S2 r2 => k _ _ h2 w Fr2 f2 H2 (s1.trans s2) (p1.trans p2) S2 r2⟩
  | false => exact k _ _ h2 v Fr1 f1 H1 s1 p1 S1 (.of r1)
theorem de_or (ha : PE X a (liftE X.K W da)) (hb : PE X (.BoolOp .Or (b :: rest) pos) (liftE X.K W db)) : PE X (.BoolOp .Or (a :: b :: rest) pos) (liftE X.K W (dOrV da db)) := PEimp (pe_orT ha hb) fun σ H Q q => by
  obtain ⟨Ed, Pr, Fr, f, env, st, Q0, A, d, k⟩ := q
  refine lift1 (R := fun x st1 => opTru st1 x fun b => if b = true then Q0 x st1 else db Ed env st1 Q0) A d fun x st1 v Fr1 f1 H1 h1 s1 p1 S1 r1 => ?_
  obtain ⟨b, hb, h2⟩ := tru_rep S1.toSimC r1 h1
  refine ⟨b, hb, ?_⟩
  cases b with
  | true => exact k _ _ h2 v Fr1 f1 H1 s1 p1 S1 (.of r1)
  | false => exact ⟨Ed, Pr, Fr1, f1, env, st1, _, A.up s1 p1 S1, h2, fun y st2 h2 w Fr2 f2 H2 s2 p2 S2 r2 => k _ _ h2 w Fr2 f2 H2 (s1.trans s2) (p1.trans p2) S2 r2⟩
theorem de_not (ha : PE X a (liftE X.K W da)) : PE X (.UnaryOp .Not a pos) (liftE X.K W (dNotV da)) := PEimp (pe_notT ha) fun σ H Q q => by
  obtain ⟨Ed, Pr, Fr, f, env, st, Q0, A, d, k⟩ := q
  refine lift1 (R := fun x st1 => opTru st1 x fun b => Q0 (.bl (!b)) st1) A d fun x st1 v Fr1 f1 H1 h1 s1 p1 S1 r1 => ?_
  obtain ⟨b, hb, h2⟩ := tru_rep S1.toSimC r1 h1
  exact ⟨b, hb, k _ _ h2 _ Fr1 f1 H1 s1 p1 S1 rfl⟩
def dIf (t : DT) (da db : DE) : DE := fun Ed env st Q => t Ed env st fun c st1 => if c = true then da Ed env st1 Q else db Ed env st1 Q
theorem de_if {c : Expr} (hc : PT X c (liftT X.K W t)) (ha : PE X a (liftE X.K W da)) (hb : PE X b (liftE X.K W db)) : PE X (.IfExp c a b pos) (liftE X.K W (dIf t da db)) := PEimp (pe_ifExp hc ha hb) fun σ H Q q => by
  obtain ⟨Ed, Pr, Fr, f, env, st, Q0, A, d, k⟩ := q
  refine ⟨Ed, Pr, Fr, f, env, st, _, A, d, fun x st1 h1 Fr1 f1 H1 s1 p1 S1 => ?_⟩
  cases x with
  | true => exact ⟨Ed, Pr, Fr1, f1, env, st1, _, A.up s1 p1 S1, h1, fun y st2 h2 w Fr2 f2 H2 s2 p2 S2 r2 => k _ _ h2 w Fr2 f2 H2 (s1.trans s2) (p1.trans p2) S2 r2⟩
  | false => exact ⟨Ed, Pr, Fr1, f1, env, st1, _, A.up s1 p1 S1, h1, fun y st2 h2 w Fr2 f2 H2 s2 p2 S2 r2 => k _ _ h2 w Fr2 f2 H2 (s1.trans s2) (p1.trans p2) S2 r2⟩
end
end DW

/-! DW6: built-in functions and methods. -/
namespace DW
open PySem PySem.Spec PyProof.Rows L2

/-- a call of a built-in does what op does on data; the store stays -/
def CallD (K : PySem.W.Frag) (r : List V → Hp → VK → Prop) (op : Sto → List D → (D → Prop) → Prop) : Prop :=
  ∀ (Pr Fr : Hp) (f : List Addr) (st : Sto) (H : Hp) (xs : List D) (vs : List V) (k : D → Prop) (Q : VK), SimC K Pr Fr f st H → Reps K Fr f xs vs → op st xs k →
    (∀ z w Fr' H', k z → Same Fr Fr' → SimC K Pr Fr' f st H' → RepX K Pr Fr' f H' z w → Q w H') → r vs H Q
def dCB (op : Sto → List D → (D → Prop) → Prop) (ds : DA) : DE := fun Ed env st Q => ds Ed env st fun xs st1 => op st1 xs fun z => Q z st1
theorem lift_cb {K : PySem.W.Frag} {W : WX} {r : List V → Hp → VK → Prop} {op : Sto → List D → (D → Prop) → Prop} {ds : DA} (ho : CallD K r op) (σ : L2.St) (H : Hp) (Q : VK) (q : liftE K W (dCB op ds) σ H Q) : tCB r (liftA K W ds) σ H Q := by
  obtain ⟨Ed, Pr, Fr, f, env, st, Q0, A, d, k⟩ := q
  refine liftA1 A d fun xs st1 vs Fr1 f1 H1 h1 s1 p1 S1 r1 => ?_
  exact ho Pr Fr1 f1 st1 H1 xs vs _ Q S1.toSimC r1 h1 fun z w Fr2 H2 hz s2 C2 rz => k z st1 hz w Fr2 f1 H2 (s1.trans s2) p1 (S1.up s2 (List.prefix_refl _) C2) rz
section
variable {X : Cx} {W : WX} {e : Expr} {es : List Expr} {ds : DA} {x : Str} {p pos : Pos} {id T : String} {r : List V → Hp → VK → Prop} {op : Sto → List D → (D → Prop) → Prop}
theorem de_callB (hc : CallR X (.builtin id) r) (ho : CallD X.K r op) (hg : Gl X x) (hm : X.mg x = none) (hv : bootBuiltins x = some (.builtin id)) (ha : PA X (e :: es) (liftA X.K W ds)) (hn : x ≠ "__name__" := by decide) (hdb : (x == ("__debug__" : Str)) = false := by decide)
    (he : starEach (e :: es) X.env = (false, eval e X.env) :: starEach es X.env := by rfl) (hpl : (backTo pos (starEach es X.env)).any (·.1) = false := by rfl) : PE X (.Call (.Name x p) (e :: es) [] pos) (liftE X.K W (dCB op ds)) :=
  PEimp (pe_callB hc hg hm hv ha hn hdb he hpl) (lift_cb ho)
theorem de_callTy (hc : CallR X (.type T) r) (ho : CallD X.K r op) (hg : Gl X x) (hm : X.mg x = none) (hv : bootBuiltins x = some (.type T)) (ha : PA X (e :: es) (liftA X.K W ds)) (hn : x ≠ "__name__" := by decide) (hdb : (x == ("__debug__" : Str)) = false := by decide)
    (he : starEach (e :: es) X.env = (false, eval e X.env) :: starEach es X.env := by rfl) (hpl : (backTo pos (starEach es X.env)).any (·.1) = false := by rfl) : PE X (.Call (.Name x p) (e :: es) [] pos) (liftE X.K W (dCB op ds)) :=
  PEimp (pe_callTy hc hg hm hv ha hn hdb he hpl) (lift_cb ho)
end

/-! abs, max, min of two -/
def opAbs : Sto → List D → (D → Prop) → Prop := fun _ xs k => match xs with
  | [.int i] => k (.int (if i < 0 then -i else i))
  | _ => False
theorem cd_abs {K : PySem.W.Frag} : CallD K (fun xs H Q => ∃ i, xs = [.int i] ∧ Q (.int (if i < 0 then -i else i)) H) opAbs := by
  intro Pr Fr f st H xs vs k Q S r o q
  unfold opAbs at o
  split at o
  · obtain ⟨v, rfl, r1⟩ := r.one
    cases (show v = _ from r1)
    exact ⟨_, rfl, q _ _ Fr H o (Same.refl _) S rfl⟩
  · exact o.elim
def op2I (g : Int → Int → Int) : Sto → List D → (D → Prop) → Prop := fun _ xs k => match xs with
  | [.int i, .int j] => k (.int (g i j))
  | _ => False
theorem cd_2I {K : PySem.W.Frag} {g : Int → Int → Int} : CallD K (fun xs H Q => ∃ i j, xs = [.int i, .int j] ∧ Q (.int (g i j)) H) (op2I g) := by
  intro Pr Fr f st H xs vs k Q S r o q
  unfold op2I at o
  split at o
  · obtain ⟨v, u, rfl, r1, r2⟩ := r.two
    cases (show v = _ from r1); cases (show u = _ from r2)
    exact ⟨_, _, rfl, q _ _ Fr H o (Same.refl _) S rfl⟩
  · exact o.elim
abbrev opMax2 := op2I fun i j => if j > i then j else i
abbrev opMin2 := op2I fun i j => if j < i then j else i
/-! int, str, ord, chr, len -/
def rIntAny : List V → Hp → VK → Prop := fun xs H Q => ((∃ i, xs = [V.int i] ∧ Q (.int i) H) ∨ ∃ k, xs = [V.bl k] ∧ Q (.int (if k then 1 else 0)) H) ∨ ∃ a n, xs = [V.str a] ∧ PySem.intText? a = some n ∧ a.length ≤ 640 ∧ Q (.int n) H
theorem cr_int {X : Cx} : CallR X (.type "int") rIntAny := call_int1.or call_int_str
def opInt : Sto → List D → (D → Prop) → Prop := fun _ xs k => match xs with
  | [.int i] => k (.int i)
  | [.bl b] => k (.int (if b then 1 else 0))
  | [.str a] => a.length ≤ 640 ∧ (match PySem.intText? a with
    | some n => k (.int n)
    | none => False)
  | _ => False
theorem cd_int {K : PySem.W.Frag} : CallD K rIntAny opInt := by
  intro Pr Fr f st H xs vs k Q S r o q
  unfold opInt at o
  split at o
  · obtain ⟨v, rfl, r1⟩ := r.one; cases (show v = _ from r1)
    exact .inl (.inl ⟨_, rfl, q _ _ Fr H o (Same.refl _) S rfl⟩)
  · obtain ⟨v, rfl, r1⟩ := r.one; cases (show v = _ from r1)
    exact .inl (.inr ⟨_, rfl, q _ _ Fr H o (Same.refl _) S rfl⟩)
  · obtain ⟨v, rfl, r1⟩ := r.one; cases (show v = _ from r1)
    obtain ⟨o1, o⟩ := o
    split at o
    · rename_i n e
      exact .inr ⟨_, n, rfl, e, o1, q _ _ Fr H o (Same.refl _) S rfl⟩
    · exact o.elim
  · exact o.elim
def opStrI : Sto → List D → (D → Prop) → Prop := fun _ xs k => match xs with
  | [.int i] => i.natAbs.log2 < 1920 ∧ k (.str (toString i))
  | _ => False
theorem cd_strI {K : PySem.W.Frag} : CallD K (fun xs H Q => ∃ i, xs = [.int i] ∧ i.natAbs.log2 < 1920 ∧ Q (.str (toString i)) H) opStrI := by
  intro Pr Fr f st H xs vs k Q S r o q
  unfold opStrI at o
  split at o
  · obtain ⟨v, rfl, r1⟩ := r.one; cases (show v = _ from r1)
    exact ⟨_, rfl, o.1, q _ _ Fr H o.2 (Same.refl _) S rfl⟩
  · exact o.elim
def opOrd : Sto → List D → (D → Prop) → Prop := fun _ xs k => match xs with
  | [.str x] => x.length = 1 ∧ k (.int (x.cps.getD 0 0 : Nat))
  | _ => False
theorem cd_ord {K : PySem.W.Frag} : CallD K (fun xs H Q => ∃ x, xs = [.str x] ∧ x.length = 1 ∧ Q (.int (x.cps.getD 0 0 : Nat)) H) opOrd := by
  intro Pr Fr f st H xs vs k Q S r o q
  unfold opOrd at o
  split at o
  · obtain ⟨v, rfl, r1⟩ := r.one; cases (show v = _ from r1)
    exact ⟨_, rfl, o.1, q _ _ Fr H o.2 (Same.refl _) S rfl⟩
  · exact o.elim
def rLenAny (K : PySem.W.Frag) : List V → Hp → VK → Prop := fun xs H Q => (∃ p ys, xs = [V.ref p] ∧ (SqL K H p ys ∨ SqT K H p ys) ∧ Q (.int ys.length) H) ∨ (∃ z, xs = [V.str z] ∧ z.length ≤ sizeLine ∧ Q (.int z.length) H) ∨
  ∃ a kvs, xs = [V.ref a] ∧ Rd H a (.dK kvs) ∧ Q (.int kvs.length) H
theorem call_len_dic {X : Cx} : CallR X (.builtin "len") (fun xs H Q => ∃ a kvs, xs = [V.ref a] ∧ Rd H a (.dK kvs) ∧ Q (.int kvs.length) H) := by
  intro pins s σ H xs us Q I r h
  obtain ⟨a, kvs, rfl, e, q⟩ := h
  rw [Vals.ref1 r]
  exact d_len I e fun t s' I' => ⟨.int _, H, I', ⟨_, rfl⟩, q⟩
theorem cr_len {X : Cx} : CallR X (.builtin "len") (rLenAny X.K) := call_len_seq.or (call_len_str.or call_len_dic)
def opLen : Sto → List D → (D → Prop) → Prop := fun st xs k => match xs with
  | [.str z] => z.length ≤ sizeLine ∧ k (.int z.length)
  | [x] => (match seqOf st x with
    | some ds => k (.int ds.length)
    | none => match dicOf st x with
      | some kvs => k (.int kvs.length)
      | none => False)
  | _ => False
theorem cd_len {K : PySem.W.Frag} : CallD K (rLenAny K) opLen := by
  intro Pr Fr f st H xs vs k Q S r o q
  unfold opLen at o
  split at o
  · obtain ⟨v, rfl, r1⟩ := r.one; cases (show v = _ from r1)
    exact .inr (.inl ⟨_, rfl, o.1, q _ _ Fr H o.2 (Same.refl _) S rfl⟩)
  · obtain ⟨v, rfl, r1⟩ := r.one
    split at o
    · rename_i ds e
      obtain ⟨a, ys, rfl, h1, r⟩ := seqOf_rep S e r1
      exact .inl ⟨a, ys, rfl, h1, by rw [← r.length]; exact q _ _ Fr H o (Same.refl _) S rfl⟩
    · split at o
      · rename_i kvs e
        obtain ⟨a, us, rfl, h1, r⟩ := dicOf_rep S e r1
        exact .inr (.inr ⟨a, us, rfl, .inl h1, by rw [r.length]; exact q _ _ Fr H o (Same.refl _) S rfl⟩)
      · exact o.elim
  · exact o.elim
/-! divmod of a written or small divisor; the general one -/
def opDivmod : Sto → List D → (D → Prop) → Prop := fun _ xs k => match xs with
  | [.int i, .int j] => CDiv i j ∧ k (.tup [.int (i / j), .int (i % j)])
  | _ => False
theorem cd_divmod {K : PySem.W.Frag} : CallD K (fun xs H Q => ∃ i j, xs = [.int i, .int j] ∧ CDiv i j ∧ ∀ p, H p = none → Q (.ref p) (upd H p (.tup [.int (i / j), .int (i % j)]))) opDivmod := by
  intro Pr Fr f st H xs vs k Q S r o q
  unfold opDivmod at o
  split at o
  · obtain ⟨v, u, rfl, r1, r2⟩ := r.two
    cases (show v = _ from r1); cases (show u = _ from r2)
    rename_i i j
    refine ⟨_, _, rfl, o.1, fun p hp => ?_⟩
    obtain ⟨sm, S', rx⟩ := lay_tup (ds := [.int (i / j), .int (i % j)]) S hp (vs := [.int (i / j), .int (i % j)]) ⟨_, _, rfl, rfl, _, _, rfl, rfl, rfl⟩
    exact q _ _ _ _ o.2 sm S' rx
  · exact o.elim
/-! list, tuple -/
theorem cr_list {X : Cx} : CallR X (.type "list") (fun xs H Q => ∃ p ys, xs = [.ref p] ∧ (SqL X.K H p ys ∨ SqT X.K H p ys) ∧ ∀ l, H l = none → Q (.ref l) (upd H l (.lst ys))) := call_list_of
def opList : Sto → List D → (D → Prop) → Prop := fun st xs k => match xs with
  | [x] => (match seqOf st x with
    | some ds => k (.tl ds)
    | none => False)
  | _ => False
theorem cd_list {K : PySem.W.Frag} : CallD K (fun xs H Q => ∃ p ys, xs = [.ref p] ∧ (SqL K H p ys ∨ SqT K H p ys) ∧ ∀ l, H l = none → Q (.ref l) (upd H l (.lst ys))) opList := by
  intro Pr Fr f st H xs vs k Q S r o q
  unfold opList at o
  split at o
  · obtain ⟨v, rfl, r1⟩ := r.one
    split at o
    · rename_i ds e
      obtain ⟨a, ys, rfl, h1, r⟩ := seqOf_rep S e r1
      refine ⟨a, ys, rfl, h1, fun l hl => ?_⟩
      obtain ⟨S', rx⟩ := lay_lst S hl r
      exact q _ _ _ _ o (Same.refl _) S' rx
    · exact o.elim
  · exact o.elim
def opTuple : Sto → List D → (D → Prop) → Prop := fun st xs k => match xs with
  | [.tup ds] => k (.tup ds)
  | [.sl ds] => k (.tup ds)
  | [x] => (match lisOf st x with
    | some ds => k (.tup ds)
    | none => False)
  | _ => False
theorem cd_tuple {K : PySem.W.Frag} : CallD K (fun xs H Q => ∃ p ys, xs = [.ref p] ∧ ((SqL K H p ys ∧ ∀ l, H l = none → Q (.ref l) (upd H l (.tup ys))) ∨ (SqT K H p ys ∧ Q (.ref p) H))) opTuple := by
  intro Pr Fr f st H xs vs k Q S r o q
  unfold opTuple at o
  split at o
  · obtain ⟨v, rfl, a, ys, rfl, h1, r⟩ := r.one
    exact ⟨a, ys, rfl, .inr ⟨S.frT h1, q _ _ Fr H o (Same.refl _) S ⟨a, ys, rfl, h1, r⟩⟩⟩
  · obtain ⟨v, rfl, a, ys, rfl, h1, r⟩ := r.one
    refine ⟨a, ys, rfl, .inl ⟨S.frL h1, fun l hl => ?_⟩⟩
    obtain ⟨sm, S', rx⟩ := lay_tup S hl r
    exact q _ _ _ _ o sm S' rx
  · obtain ⟨v, rfl, r1⟩ := r.one
    split at o
    · rename_i ds e
      obtain ⟨a, ys, rfl, h1, r⟩ := listOf_rep S e r1
      refine ⟨a, ys, rfl, .inl ⟨.inl (.inl h1), fun l hl => ?_⟩⟩
      obtain ⟨sm, S', rx⟩ := lay_tup S hl r
      exact q _ _ _ _ o sm S' rx
    · exact o.elim
  · exact o.elim

/-! sum, any, all, sorted -/
def ints? : List D → Option (List Int)
  | [] => some []
  | .int i :: r => (ints? r).map (i :: ·)
  | _ :: _ => none
def bls? : List D → Option (List Bool)
  | [] => some []
  | .bl i :: r => (bls? r).map (i :: ·)
  | _ :: _ => none
def strs? : List D → Option (List Str)
  | [] => some []
  | .str i :: r => (strs? r).map (i :: ·)
  | _ :: _ => none
section
variable {K : PySem.W.Frag} {Fr : Hp} {f : List Addr}
theorem ints_rep : ∀ {ds : List D} {vs : List V} {ns : List Int}, ints? ds = some ns → Reps K Fr f ds vs → vs = ns.map V.int
  | [], vs, ns, e, r => by cases (show vs = [] from r); cases e; rfl
  | d :: ds, vs, ns, e, r => by
    obtain ⟨v, t, rfl, r1, r2⟩ := r
    cases d <;> first | (cases e; done) | skip
    rename_i i
    cases (show v = _ from r1)
    cases h : ints? ds with
    | none => simp [ints?, h] at e
    | some ms =>
      have e' : i :: ms = ns := by simpa [ints?, h] using e
      subst e'
      rw [ints_rep h r2]
      rfl
theorem bls_rep : ∀ {ds : List D} {vs : List V} {ns : List Bool}, bls? ds = some ns → Reps K Fr f ds vs → vs = ns.map V.bl
  | [], vs, ns, e, r => by cases (show vs = [] from r); cases e; rfl
  | d :: ds, vs, ns, e, r => by
    obtain ⟨v, t, rfl, r1, r2⟩ := r
    cases d <;> first | (cases e; done) | skip
    rename_i i
    cases (show v = _ from r1)
    cases h : bls? ds with
    | none => simp [bls?, h] at e
    | some ms =>
      have e' : i :: ms = ns := by simpa [bls?, h] using e
      subst e'
      rw [bls_rep h r2]
      rfl
theorem strs_rep : ∀ {ds : List D} {vs : List V} {ns : List Str}, strs? ds = some ns → Reps K Fr f ds vs → vs = ns.map V.str
  | [], vs, ns, e, r => by cases (show vs = [] from r); cases e; rfl
  | d :: ds, vs, ns, e, r => by
    obtain ⟨v, t, rfl, r1, r2⟩ := r
    cases d <;> first | (cases e; done) | skip
    rename_i i
    cases (show v = _ from r1)
    cases h : strs? ds with
    | none => simp [strs?, h] at e
    | some ms =>
      have e' : i :: ms = ns := by simpa [strs?, h] using e
      subst e'
      rw [strs_rep h r2]
      rfl
theorem reps_ints : ∀ ns : List Int, Reps K Fr f (ns.map D.int) (ns.map V.int)
  | [] => rfl
  | n :: ns => ⟨_, _, rfl, rfl, reps_ints ns⟩
theorem reps_strs : ∀ ns : List Str, Reps K Fr f (ns.map D.str) (ns.map V.str)
  | [] => rfl
  | n :: ns => ⟨_, _, rfl, rfl, reps_strs ns⟩
end
@[simp] theorem ints_map (ns : List Int) : ints? (ns.map D.int) = some ns := by
  induction ns with
  | nil => rfl
  | cons n ns ih => simp [ints?, ih]
@[simp] theorem bls_map (ns : List Bool) : bls? (ns.map D.bl) = some ns := by
  induction ns with
  | nil => rfl
  | cons n ns ih => simp [bls?, ih]
@[simp] theorem strs_map (ns : List Str) : strs? (ns.map D.str) = some ns := by
  induction ns with
  | nil => rfl
  | cons n ns ih => simp [strs?, ih]
def opSum : Sto → List D → (D → Prop) → Prop := fun st xs k => match xs with
  | [x] => (match (lisOf st x).bind ints? with
    | some ns => k (.int ns.sum)
    | none => False)
  | _ => False
theorem listOf_ints {K : PySem.W.Frag} {Fr : Hp} {f : List Addr} {st : Sto} {H : Hp} (S : SimC K Pr Fr f st H) {d : D} {v : V} {ns : List Int} (e : (lisOf st d).bind ints? = some ns) (r : Rep K Fr f d v) : ∃ a, v = .ref a ∧ H a = some (.lst (ns.map V.int)) := by
  cases h : lisOf st d with
  | none => rw [h] at e; cases e
  | some ds =>
    rw [h] at e
    obtain ⟨a, vs, rfl, h1, r⟩ := listOf_rep S h r
    rw [ints_rep (show ints? ds = some ns from e) r] at h1
    exact ⟨a, rfl, h1⟩
theorem cd_sum {K : PySem.W.Frag} : CallD K (L2.rSum K) opSum := by
  intro Pr Fr f st H xs vs k Q S r o q
  unfold opSum at o
  split at o
  · obtain ⟨v, rfl, r1⟩ := r.one
    split at o
    · rename_i ns e
      obtain ⟨a, rfl, h1⟩ := listOf_ints S e r1
      exact ⟨a, ns, rfl, .of h1, q _ _ Fr H o (Same.refl _) S rfl⟩
    · exact o.elim
  · exact o.elim
def opAnyAll (g : List Bool → Bool) : Sto → List D → (D → Prop) → Prop := fun st xs k => match xs with
  | [x] => (match (lisOf st x).bind bls? with
    | some ns => k (.bl (g ns))
    | none => False)
  | _ => False
theorem cd_anyAll {K : PySem.W.Frag} {g : List Bool → Bool} : CallD K (fun vs H Q => ∃ (a : Addr) (bs : List Bool), vs = [V.ref a] ∧ SqL K H a (bs.map V.bl) ∧ Q (.bl (g bs)) H) (opAnyAll g) := by
  intro Pr Fr f st H xs vs k Q S r o q
  unfold opAnyAll at o
  split at o
  · rename_i x
    obtain ⟨v, rfl, r1⟩ := r.one
    split at o
    · rename_i ns e
      cases h : lisOf st x with
      | none => rw [h] at e; cases e
      | some ds =>
        rw [h] at e
        obtain ⟨a, vs, rfl, h1, r⟩ := listOf_rep S h r1
        rw [bls_rep (show bls? ds = some ns from e) r] at h1
        exact ⟨a, ns, rfl, .of h1, q _ _ Fr H o (Same.refl _) S rfl⟩
    · exact o.elim
  · exact o.elim
abbrev opAny := opAnyAll fun bs => bs.any id
abbrev opAll := opAnyAll fun bs => bs.all id
/-- sorted of a list of ints or texts, of a dict with text keys -/
def rSortedAny (K : PySem.W.Frag) : List V → Hp → VK → Prop := fun xs H Q => rSortedI K xs H Q ∨ rSortedS K xs H Q ∨ ∃ (a : Addr) (kvs : List (Key × V)) (ks : List Str), xs = [V.ref a] ∧ Rd H a (.dK kvs) ∧ kvs.map (·.1) = ks.map Sum.inr ∧ ks.length < 64 ∧
    ∀ ys p, ys.Perm ks → sortedS ys = true → H p = none → Q (.ref p) (upd H p (.lst (ys.map V.str)))
theorem cr_sortedAny {X : Cx} (hc : X.calm = true) : CallR X (.builtin "sorted") (rSortedAny X.K) := cr_sortedI.or (cr_sortedS.or (call_sortedD hc))
def strKeys? : List Key → Option (List Str)
  | [] => some []
  | .inr x :: r => (strKeys? r).map (x :: ·)
  | .inl _ :: _ => none
theorem strKeys_eq : ∀ {ks : List Key} {xs : List Str}, strKeys? ks = some xs → ks = xs.map Sum.inr
  | [], xs, e => by cases e; rfl
  | .inl _ :: r, xs, e => by cases e
  | .inr x :: r, xs, e => by
    cases h : strKeys? r with
    | none => simp [strKeys?, h] at e
    | some ms =>
      have e' : x :: ms = xs := by simpa [strKeys?, h] using e
      subst e'
      rw [strKeys_eq h]
      rfl
@[simp] theorem strKeys_map (xs : List Str) : strKeys? (xs.map Sum.inr) = some xs := by
  induction xs with
  | nil => rfl
  | cons n ns ih => simp [strKeys?, ih]
def opSorted : Sto → List D → (D → Prop) → Prop := fun st xs k => match xs with
  | [x] => (match lisOf st x with
    | some ds => (match ints? ds with
      | some ns => ∀ ms : List Int, ms.Perm ns → ms.Pairwise (· ≤ ·) → k (.tl (ms.map D.int))
      | none => match strs? ds with
        | some zs => zs.length < 64 ∧ ∀ ys : List Str, ys.Perm zs → sortedS ys = true → k (.tl (ys.map D.str))
        | none => False)
    | none => match dicOf st x with
      | some kvs => (match strKeys? (kvs.map (·.1)) with
        | some zs => zs.length < 64 ∧ ∀ ys : List Str, ys.Perm zs → sortedS ys = true → k (.tl (ys.map D.str))
        | none => False)
      | none => False)
  | _ => False
theorem cd_sorted {K : PySem.W.Frag} : CallD K (rSortedAny K) opSorted := by
  intro Pr Fr f st H xs vs k Q S r o q
  unfold opSorted at o
  split at o
  · obtain ⟨v, rfl, r1⟩ := r.one
    split at o
    · rename_i ds e
      obtain ⟨a, us, rfl, h1, r⟩ := listOf_rep S e r1
      split at o
      · rename_i ns e1
        rw [ints_rep e1 r] at h1
        refine .inl ⟨a, ns, rfl, .of h1, fun ms p hp hs hn => ?_⟩
        obtain ⟨S', rx⟩ := lay_lst S hn (reps_ints ms)
        exact q _ _ _ _ (o ms hp hs) (Same.refl _) S' rx
      · split at o
        · rename_i zs e1
          rw [strs_rep e1 r] at h1
          refine .inr (.inl ⟨a, zs, rfl, .of h1, o.1, fun ms p hp hs hn => ?_⟩)
          obtain ⟨S', rx⟩ := lay_lst S hn (reps_strs ms)
          exact q _ _ _ _ (o.2 ms hp hs) (Same.refl _) S' rx
        · exact o.elim
    · split at o
      · rename_i kvs e
        obtain ⟨a, us, rfl, h1, r⟩ := dicOf_rep S e r1
        split at o
        · rename_i zs e1
          refine .inr (.inr ⟨a, us, zs, rfl, .inl h1, by rw [r.1]; exact strKeys_eq e1, o.1, fun ms p hp hs hn => ?_⟩)
          obtain ⟨S', rx⟩ := lay_lst S hn (reps_strs ms)
          exact q _ _ _ _ (o.2 ms hp hs) (Same.refl _) S' rx
        · exact o.elim
      · exact o.elim
  · exact o.elim

/-! isinstance of a built-in class -/
def typN (st : Sto) : D → Option String
  | .non => some "NoneType"
  | .bl _ => some "bool"
  | .int _ => some "int"
  | .str _ => some "str"
  | .tup _ => some "tuple"
  | .sl _ => some "list"
  | .fl _ => some "list"
  | .fd _ _ => some "dict"
  | .ref n => match st[n]? with
    | some (.lst _) => some "list"
    | some (.dic _) => some "dict"
    | _ => none
  | _ => none
def isiB (t c : String) : Bool := t == c || (t == "bool" && c == "int")
def opIsi : Sto → List D → (D → Prop) → Prop := fun st xs k => match xs with
  | [x, .ty c] => c ∈ ["int", "bool", "str", "tuple", "list"] ∧ (match typN st x with
    | some t => k (.bl (isiB t c))
    | none => False)
  | _ => False
theorem kit_all : ∀ t ∈ ["NoneType", "bool", "int", "str", "tuple", "list", "dict"], ∀ c ∈ ["int", "bool", "str", "tuple", "list"], kitB t c = some (isiB t c) := by decide +kernel
theorem tyx_L {K : PySem.W.Frag} {H : Hp} {a : Addr} {xs : List V} (h : SqL K H a xs) : TyX K H (.ref a) (.type "list") := by
  rcases h with (h | ⟨o, h⟩) | ⟨o, its, n, h1, h2, _⟩
  · exact .base (.lst h)
  · exact .base (.frz h)
  · exact .kList h1 h2
theorem tyx_T {K : PySem.W.Frag} {H : Hp} {a : Addr} {xs : List V} (h : SqT K H a xs) : TyX K H (.ref a) (.type "tuple") := by
  rcases h with (h | ⟨o, h⟩) | ⟨o, its, n, h1, h2, _⟩
  · exact .base (.tup h)
  · exact .fTuple h
  · exact .kTuple h1 h2
theorem typN_rep {K : PySem.W.Frag} {Fr : Hp} {f : List Addr} {st : Sto} {H : Hp} (S : SimC K Pr Fr f st H) {d : D} {v : V} {t : String} (e : typN st d = some t) (r : Rep K Fr f d v) : TyX K H v (.type t) ∧ t ∈ ["NoneType", "bool", "int", "str", "tuple", "list", "dict"] := by
  unfold typN at e
  split at e
  · cases e; cases (show v = _ from r); exact ⟨.base .non, by decide⟩
  · cases e; cases (show v = _ from r); exact ⟨.base (.bl _), by decide⟩
  · cases e; cases (show v = _ from r); exact ⟨.base (.int _), by decide⟩
  · cases e; cases (show v = _ from r); exact ⟨.base (.str _), by decide⟩
  · cases e; obtain ⟨a, vs, rfl, h, _⟩ := r; exact ⟨tyx_T (S.frT h), by decide⟩
  · cases e; obtain ⟨a, vs, rfl, h, _⟩ := r; exact ⟨tyx_L (S.frL h), by decide⟩
  · cases e; obtain ⟨a, vs, rfl, h, _⟩ := r; exact ⟨.base (.lst (S.fr _ _ h)), by decide⟩
  · cases e; obtain ⟨a, vs, rfl, h, _⟩ := r; exact ⟨.base (.dK (S.fr _ _ h)), by decide⟩
  · obtain ⟨a, h1, rfl⟩ := r
    split at e
    · rename_i h
      cases e
      obtain ⟨b, vs, h2, h3, _⟩ := S.lst h
      rw [h1] at h2; cases h2
      exact ⟨.base (.lst h3), by decide⟩
    · rename_i h
      cases e
      obtain ⟨b, vs, h2, h3, _⟩ := S.dic h
      rw [h1] at h2; cases h2
      exact ⟨.base (.dK h3), by decide⟩
    · cases e
  · cases e
theorem cd_isi {K : PySem.W.Frag} : CallD K (rIsi K) opIsi := by
  intro Pr Fr f st H xs vs k Q S r o q
  unfold opIsi at o
  split at o
  · obtain ⟨v, u, rfl, r1, r2⟩ := r.two
    cases (show u = _ from r2)
    obtain ⟨hc, o⟩ := o
    split at o
    · rename_i t e
      obtain ⟨ty, ht⟩ := typN_rep S e r1
      exact ⟨_, _, _, _, _, rfl, .ty _, ty, kit_ty (kit_all t ht _ hc), q _ _ Fr H o (Same.refl _) S rfl⟩
    · exact o.elim
  · exact o.elim
end DW

/-! DW7: methods of built-in types; calls of defs. -/
namespace DW
open PySem PySem.Spec PyProof.Rows L2

def tyOk (st : Sto) (T : String) (x : D) : Prop := match x with
  | .str _ => T = "str"
  | .int _ => T = "int"
  | x => (T = "list" ∧ (lisOf st x).isSome = true) ∨ (T = "dict" ∧ (dicOf st x).isSome = true)
theorem tyOk_rep {K : PySem.W.Frag} {Fr : Hp} {f : List Addr} {st : Sto} {H : Hp} (S : SimC K Pr Fr f st H) {d : D} {v : V} {T : String} (e : tyOk st T d) (r : Rep K Fr f d v) : tyV K T v H := by
  unfold tyOk at e
  split at e
  · cases (show v = _ from r); exact e
  · cases (show v = _ from r); exact e
  · rcases e with ⟨e1, e2⟩ | ⟨e1, e2⟩
    · obtain ⟨ds, h⟩ := Option.isSome_iff_exists.mp e2
      obtain ⟨a, vs, rfl, h1, _⟩ := listOf_rep S h r
      exact .inl ⟨e1, vs, .of h1⟩
    · obtain ⟨ds, h⟩ := Option.isSome_iff_exists.mp e2
      obtain ⟨a, vs, rfl, h1, _⟩ := dicOf_rep S h r
      exact .inr (.inr (.inl ⟨e1, .inl ⟨vs, h1⟩⟩))
/-- a method does what op does on data -/
def MethD (K : PySem.W.Frag) (r : V → List V → Hp → VK → Prop) (op : Sto → D → List D → (D → Sto → Prop) → Prop) : Prop :=
  ∀ (Pr Fr : Hp) (f : List Addr) (st : Sto) (H : Hp) (x : D) (v : V) (xs : List D) (vs : List V) (k : D → Sto → Prop) (Q : VK), SimC K Pr Fr f st H → Rep K Fr f x v → Reps K Fr f xs vs → op st x xs k →
    (∀ z st' w Fr' H', k z st' → Same Fr Fr' → SimC K Pr Fr' f st' H' → RepX K Pr Fr' f H' z w → Q w H') → r v vs H Q
def dBM (T : String) (op : Sto → D → List D → (D → Sto → Prop) → Prop) (dx : DE) (ds : DA) : DE := fun Ed env st Q => dx Ed env st fun x st1 => tyOk st1 T (frz x) ∧ ds Ed env st1 fun xs st2 => op st2 (frz x) xs Q
section
variable {X : Cx} {W : WX} {o e : Expr} {es : List Expr} {dx : DE} {ds : DA} {name : Str} {apos cpos : Pos} {T id : String} {r : V → List V → Hp → VK → Prop} {op : Sto → D → List D → (D → Sto → Prop) → Prop}
theorem lift_bm {K : PySem.W.Frag} (hm : MethD K r op) (σ : L2.St) (H : Hp) (Q : VK) (q : liftE K W (dBM T op dx ds) σ H Q) : tBM K T r (liftE K W dx) (liftA K W ds) σ H Q := by
  obtain ⟨Ed, Pr, Fr, f, env, st, Q0, A, d, k⟩ := q
  refine lift1 (R := fun x st1 => tyOk st1 T x ∧ ds Ed env st1 fun xs st2 => op st2 x xs Q0) A d fun x st1 v Fr1 f1 H1 h1 s1 p1 S1 r1 => ⟨tyOk_rep S1.toSimC h1.1 r1, ?_⟩
  refine liftA1 (A.up s1 p1 S1) h1.2 fun xs st2 vs Fr2 f2 H2 h2 s2 p2 S2 r2 => ?_
  exact hm Pr Fr2 f2 st2 H2 x v xs vs Q0 Q S2.toSimC (Rep.mono s2 p2 _ _ r1) r2 h2 fun z st3 w Fr3 H3 hz s3 C3 rz => k z st3 hz w Fr3 f2 H3 ((s1.trans s2).trans s3) (p1.trans p2) ⟨C3, RepS.mono s3 (List.prefix_refl _) S2.env⟩ rz
theorem de_bm (pa : PlainAttrs T) (slot : Slot T name id) (hty : typeOf (.builtin id) = pure (.type "method_descriptor")) (hr : MtR X id r) (hm : MethD X.K r op) (ho : PE X o (liftE X.K W dx)) (ha : PA X (e :: es) (liftA X.K W ds))
    (hbase : attributeBase o name X.env (eval o X.env) = eval o X.env := by rfl)
    (hfew : ((backTo cpos (starEach (e :: es) X.env)).all (fun x => !x.1) && (backToKw cpos (keywordEach [] X.env)).all (fun x => x.1.isSome)
      && decide ((e :: es).length + ([] : List Keyword).length + (if ([] : List Keyword).isEmpty then 0 else 1) < 30)) = true := by rfl)
    (hline : (apos.endLine == cpos.line) = true := by rfl) (hs : starEach (e :: es) X.env = (false, eval e X.env) :: starEach es X.env := by rfl) (hplain : (backTo cpos (starEach es X.env)).any (·.1) = false := by rfl) :
    PE X (.Call (.Attribute o name apos) (e :: es) [] cpos) (liftE X.K W (dBM T op dx ds)) := PEimp (pe_bm pa slot hty hr ho ha hbase hfew hline hs hplain) (lift_bm hm)
theorem de_bm0 (pa : PlainAttrs T) (slot : Slot T name id) (hty : typeOf (.builtin id) = pure (.type "method_descriptor")) (hr : MtR X id r) (hm : MethD X.K r op) (ho : PE X o (liftE X.K W dx))
    (hbase : attributeBase o name X.env (eval o X.env) = eval o X.env := by rfl) (hline : (apos.endLine == cpos.line) = true := by rfl) : PE X (.Call (.Attribute o name apos) [] [] cpos) (liftE X.K W (dBM T op dx dNil)) :=
  PEimp (pe_bm0 pa slot hty hr ho hbase hline) fun σ H Q q => by
  obtain ⟨Ed, Pr, Fr, f, env, st, Q0, A, d, k⟩ := q
  refine lift1 (R := fun x st1 => tyOk st1 T x ∧ op st1 x [] Q0) A d fun x st1 v Fr1 f1 H1 h1 s1 p1 S1 r1 => ⟨tyOk_rep S1.toSimC h1.1 r1, ?_⟩
  exact hm Pr Fr1 f1 st1 H1 x v [] [] Q0 Q S1.toSimC r1 rfl h1.2 fun z st3 w Fr3 H3 hz s3 C3 rz => k z st3 hz w Fr3 f1 H3 (s1.trans s3) p1 ⟨C3, RepS.mono s3 (List.prefix_refl _) S1.env⟩ rz
end

/-! ### lists -/
def onList (st : Sto) (x : D) (k : Nat → List D → Prop) : Prop := match x with
  | .ref n => (match st[n]? with
    | some (.lst ds) => k n ds
    | _ => False)
  | _ => False
theorem onList_rep {K : PySem.W.Frag} {Fr : Hp} {f : List Addr} {st : Sto} {H : Hp} (S : SimC K Pr Fr f st H) {x : D} {v : V} {k : Nat → List D → Prop} (o : onList st x k) (r : Rep K Fr f x v) :
    ∃ n ds a vs, v = .ref a ∧ st[n]? = some (.lst ds) ∧ f[n]? = some a ∧ H a = some (.lst vs) ∧ Reps K Fr f ds vs ∧ k n ds := by
  unfold onList at o
  split at o
  · rename_i n
    split at o
    · rename_i ds e
      obtain ⟨a, h1, rfl⟩ := r
      obtain ⟨b, vs, h2, h3, r⟩ := S.lst e
      rw [h1] at h2; cases h2
      exact ⟨n, ds, a, vs, rfl, e, h1, h3, r, o⟩
    · exact o.elim
  · exact o.elim
def opAppend : Sto → D → List D → (D → Sto → Prop) → Prop := fun st x xs k => onList st x fun n ds => match xs with
  | [y] => ds.length < sizeLine ∧ k .non (st.set n (.lst (ds ++ [y])))
  | _ => False
theorem md_append {K : PySem.W.Frag} : MethD K rAppend opAppend := by
  intro Pr Fr f st H x v xs vs k Q S r rs o q
  obtain ⟨n, ds, a, us, rfl, e, ef, h, r, o⟩ := onList_rep S o r
  split at o
  · obtain ⟨u, rfl, ru⟩ := rs.one
    exact ⟨a, us, u, rfl, rfl, h, by rw [← r.length]; exact o.1, q _ _ _ Fr _ o.2 (Same.refl _) (S.write ef ⟨_, rfl, r.append (.of1 ru)⟩) rfl⟩
  · exact o.elim
def opExtend : Sto → D → List D → (D → Sto → Prop) → Prop := fun st x xs k => onList st x fun n ds => match xs with
  | [y] => (match lisOf st y with
    | some es => ds.length + es.length ≤ sizeLine ∧ k .non (st.set n (.lst (ds ++ es)))
    | none => False)
  | _ => False
theorem md_extend {K : PySem.W.Frag} : MethD K rExtend opExtend := by
  intro Pr Fr f st H x v xs vs k Q S r rs o q
  obtain ⟨n, ds, a, us, rfl, e, ef, h, r, o⟩ := onList_rep S o r
  split at o
  · obtain ⟨u, rfl, ru⟩ := rs.one
    split at o
    · rename_i es e2
      obtain ⟨b, ws, rfl, h2, r2⟩ := listOf_rep S e2 ru
      exact ⟨a, b, us, ws, rfl, rfl, h, h2, by rw [← r.length, ← r2.length]; exact o.1, q _ _ _ Fr _ o.2 (Same.refl _) (S.write ef ⟨_, rfl, r.append r2⟩) rfl⟩
    · exact o.elim
  · exact o.elim
def rInsert : V → List V → Hp → VK → Prop := fun x vs H Q => ∃ (l : Addr) (xs : List V) (i : Int) (y : V), x = .ref l ∧ vs = [.int i, y] ∧ H l = some (.lst xs) ∧ xs.length < sizeLine ∧ 0 ≤ i ∧ i < 2 ^ 63 ∧
    Q .non (upd H l (.lst (xs.take i.toNat ++ [y] ++ xs.drop i.toNat)))
theorem mr_insert {X : Cx} : MtR X "list.insert" rInsert := mt_insert
def opInsert : Sto → D → List D → (D → Sto → Prop) → Prop := fun st x xs k => onList st x fun n ds => match xs with
  | [.int i, y] => ds.length < sizeLine ∧ 0 ≤ i ∧ i < 2 ^ 63 ∧ k .non (st.set n (.lst (ds.take i.toNat ++ [y] ++ ds.drop i.toNat)))
  | _ => False
theorem md_insert {K : PySem.W.Frag} : MethD K rInsert opInsert := by
  intro Pr Fr f st H x v xs vs k Q S r rs o q
  obtain ⟨n, ds, a, us, rfl, e, ef, h, r, o⟩ := onList_rep S o r
  split at o
  · obtain ⟨u1, u2, rfl, r1, r2⟩ := rs.two
    cases (show u1 = _ from r1)
    exact ⟨a, us, _, u2, rfl, rfl, h, by rw [← r.length]; exact o.1, o.2.1, o.2.2.1, q _ _ _ Fr _ o.2.2.2 (Same.refl _) (S.write ef ⟨_, rfl, ((r.take _).append (.of1 r2)).append (r.drop _)⟩) rfl⟩
  · exact o.elim
def opPop : Sto → D → List D → (D → Sto → Prop) → Prop := fun st x xs k => onList st x fun n ds => match xs with
  | [] => (match ds[ds.length - 1]? with
    | some y => k y (st.set n (.lst ds.dropLast))
    | none => False)
  | _ => False
theorem Reps.dropLast {K : PySem.W.Frag} {Fr : Hp} {f : List Addr} {ds : List D} {vs : List V} (r : Reps K Fr f ds vs) : Reps K Fr f ds.dropLast vs.dropLast := by
  rw [List.dropLast_eq_take, List.dropLast_eq_take, ← r.length]
  exact r.take _
theorem md_pop {K : PySem.W.Frag} : MethD K rPop opPop := by
  intro Pr Fr f st H x v xs vs k Q S r rs o q
  obtain ⟨n, ds, a, us, rfl, e, ef, h, r, o⟩ := onList_rep S o r
  split at o
  · cases (show vs = [] from rs)
    split at o
    · rename_i y ey
      obtain ⟨w, ew, rw'⟩ := r.get ey
      exact ⟨a, us, w, rfl, rfl, h, by rw [← r.length]; exact ew, q _ _ _ Fr _ o (Same.refl _) (S.write ef ⟨_, rfl, r.dropLast⟩) (.of rw')⟩
    · exact o.elim
  · exact o.elim

/-! ### texts -/
/-- a method of a text that gives plain data -/
def opS (g : Str → List D → (D → Prop) → Prop) : Sto → D → List D → (D → Sto → Prop) → Prop := fun st x xs k => match x with
  | .str a => g a xs fun z => k z st
  | _ => False
def gFind3 (a : Str) (xs : List D) (k : D → Prop) : Prop := match xs with
  | [.str b, .int i] => k (.int (Txt.find3 a b i))
  | _ => False
def rFind3 : V → List V → Hp → VK → Prop := fun x xs H Q => ∃ (a b : Str) (i : Int), x = .str a ∧ xs = [.str b, .int i] ∧ Q (.int (Txt.find3 a b i)) H
theorem mr_find3 {X : Cx} : MtR X "str.find" rFind3 := mt_find3
theorem md_find3 {K : PySem.W.Frag} : MethD K rFind3 (opS gFind3) := by
  intro Pr Fr f st H x v xs vs k Q S r rs o q
  unfold opS gFind3 at o
  split at o
  · cases (show v = _ from r)
    split at o
    · obtain ⟨u1, u2, rfl, r1, r2⟩ := rs.two
      cases (show u1 = _ from r1); cases (show u2 = _ from r2)
      exact ⟨_, _, _, rfl, rfl, q _ _ _ Fr H o (Same.refl _) S rfl⟩
    · exact o.elim
  · exact o.elim
def gZfill (a : Str) (xs : List D) (k : D → Prop) : Prop := match xs with
  | [.int i] => PadOk i = true ∧ k (.str (Txt.zfill a i))
  | _ => False
def rZfill : V → List V → Hp → VK → Prop := fun x xs H Q => ∃ (a : Str) (i : Int), x = .str a ∧ xs = [.int i] ∧ PadOk i = true ∧ Q (.str (Txt.zfill a i)) H
theorem mr_zfill {X : Cx} : MtR X "str.zfill" rZfill := mt_zfill
theorem md_zfill {K : PySem.W.Frag} : MethD K rZfill (opS gZfill) := by
  intro Pr Fr f st H x v xs vs k Q S r rs o q
  unfold opS gZfill at o
  split at o
  · cases (show v = _ from r)
    split at o
    · obtain ⟨u1, rfl, r1⟩ := rs.one
      cases (show u1 = _ from r1)
      exact ⟨_, _, rfl, rfl, o.1, q _ _ _ Fr H o.2 (Same.refl _) S rfl⟩
    · exact o.elim
  · exact o.elim
def rPart : V → List V → Hp → VK → Prop := fun x xs H Q => ∃ a b, x = .str a ∧ xs = [.str b] ∧ (b.length == 0) = false ∧ a.length ≤ sizeLine ∧
    ∀ p, H p = none → Q (.ref p) (upd H p (.tup [.str (Txt.partition a b).1, .str (Txt.partition a b).2.1, .str (Txt.partition a b).2.2]))
theorem mr_part {X : Cx} : MtR X "str.partition" rPart := mt_partition
def gPart (a : Str) (xs : List D) (k : D → Prop) : Prop := match xs with
  | [.str b] => (b.length == 0) = false ∧ a.length ≤ sizeLine ∧ k (.tup [.str (Txt.partition a b).1, .str (Txt.partition a b).2.1, .str (Txt.partition a b).2.2])
  | _ => False
theorem md_part {K : PySem.W.Frag} : MethD K rPart (opS gPart) := by
  intro Pr Fr f st H x v xs vs k Q S r rs o q
  unfold opS gPart at o
  split at o
  · cases (show v = _ from r)
    split at o
    · rename_i a _ b
      obtain ⟨u1, rfl, r1⟩ := rs.one
      cases (show u1 = _ from r1)
      refine ⟨a, b, rfl, rfl, o.1, o.2.1, fun p hp => ?_⟩
      obtain ⟨sm, S', rx⟩ := lay_tup (ds := [.str (Txt.partition a b).1, .str (Txt.partition a b).2.1, .str (Txt.partition a b).2.2]) (vs := [.str (Txt.partition a b).1, .str (Txt.partition a b).2.1, .str (Txt.partition a b).2.2]) S hp ⟨_, _, rfl, rfl, _, _, rfl, rfl, _, _, rfl, rfl, rfl⟩
      exact q _ _ _ _ _ o.2.2 sm S' rx
    · exact o.elim
  · exact o.elim
def rSplit : V → List V → Hp → VK → Prop := fun x xs H Q => ∃ a b, x = .str a ∧ xs = [.str b] ∧ (b.length == 0) = false ∧ a.length + 2 ≤ sizeLine ∧ rNewStrs (Txt.split a b) H Q
theorem mr_split {X : Cx} : MtR X "str.split" rSplit := mt_split
def gSplit (a : Str) (xs : List D) (k : D → Prop) : Prop := match xs with
  | [.str b] => (b.length == 0) = false ∧ a.length + 2 ≤ sizeLine ∧ k (.tl ((Txt.split a b).map D.str))
  | _ => False
theorem md_split {K : PySem.W.Frag} : MethD K rSplit (opS gSplit) := by
  intro Pr Fr f st H x v xs vs k Q S r rs o q
  unfold opS gSplit at o
  split at o
  · cases (show v = _ from r)
    split at o
    · rename_i a _ b
      obtain ⟨u1, rfl, r1⟩ := rs.one
      cases (show u1 = _ from r1)
      refine ⟨a, b, rfl, rfl, o.1, o.2.1, fun p hp => ?_⟩
      obtain ⟨S', rx⟩ := lay_lst S hp (reps_strs (Txt.split a b))
      exact q _ _ _ _ _ o.2.2 (Same.refl _) S' rx
    · exact o.elim
  · exact o.elim
def rJoin (K : PySem.W.Frag) : V → List V → Hp → VK → Prop := fun x xs H Q => ∃ a p, ∃ ys : List Str, x = .str a ∧ xs = [.ref p] ∧ (SqL K H p (ys.map V.str) ∨ SqT K H p (ys.map V.str)) ∧
    (ys.map (·.length)).sum + ys.length * a.length ≤ 16777216 ∧ Q (.str (Txt.join a ys)) H
theorem mr_join {X : Cx} : MtR X "str.join" (rJoin X.K) := mt_join
def opJoin : Sto → D → List D → (D → Sto → Prop) → Prop := fun st x xs k => match x, xs with
  | .str a, [y] => (match (seqOf st y).bind strs? with
    | some ys => (ys.map (·.length)).sum + ys.length * a.length ≤ 16777216 ∧ k (.str (Txt.join a ys)) st
    | none => False)
  | _, _ => False
theorem md_join {K : PySem.W.Frag} : MethD K (rJoin K) opJoin := by
  intro Pr Fr f st H x v xs vs k Q S r rs o q
  unfold opJoin at o
  split at o
  · rename_i a y
    cases (show v = _ from r)
    split at o
    · rename_i ys e
      obtain ⟨u1, rfl, r1⟩ := rs.one
      cases h : seqOf st y with
      | none => rw [h] at e; cases e
      | some ds =>
        rw [h] at e
        obtain ⟨p, vs, rfl, h1, r⟩ := seqOf_rep S h r1
        rw [strs_rep (show strs? ds = some ys from e) r] at h1
        exact ⟨a, p, ys, rfl, rfl, h1, o.1, q _ _ _ Fr H o.2 (Same.refl _) S rfl⟩
    · exact o.elim
  · exact o.elim

/-! ### d.get, d.pop -/
def dDGet2 (dd dk dx : DE) : DE := fun Ed env st Q => dd Ed env st fun x st1 => (dicOf st1 (frz x)).isSome = true ∧ dk Ed env st1 fun y st2 => dx Ed env st2 fun z st3 => match dicOf st3 (frz x), keyOf y with
  | some kvs, some q => Q ((valP kvs q).getD (frz z)) st3
  | _, _ => False
section
variable {X : Cx} {W : WX} {o e f : Expr} {dd dk dx : DE} {apos cpos : Pos}
theorem keyOf_frz {y : D} {k : Key} (e : keyOf y = some k) : frz y = y := by
  cases y <;> first | rfl | cases e
theorem de_dget2 (hu : X.A.units + 64 < cLine) (ho : PE X o (liftE X.K W dd)) (he : PE X e (liftE X.K W dk)) (hf : PE X f (liftE X.K W dx)) (m : M2 X o "get" apos e f cpos) : PE X (.Call (.Attribute o "get" apos) [e, f] [] cpos) (liftE X.K W (dDGet2 dd dk dx)) :=
  PEimp (pe_dget2 (by omega) ho he hf m) fun σ H Q q => by
  obtain ⟨Ed, Pr, Fr, f, env, st, Q0, A, d, k⟩ := q
  refine lift1 (R := fun x st1 => (dicOf st1 x).isSome = true ∧ dk Ed env st1 fun y st2 => dx Ed env st2 fun z st3 => match dicOf st3 x, keyOf y with
    | some kvs, some q => Q0 ((valP kvs q).getD (frz z)) st3
    | _, _ => False) A d fun x st1 v Fr1 f1 H1 h1 s1 p1 S1 r1 => ?_
  obtain ⟨hd, h1⟩ := h1
  obtain ⟨kvs, hk⟩ := Option.isSome_iff_exists.mp hd
  obtain ⟨a, us, rfl, ha, _⟩ := dicOf_rep S1.toSimC hk r1
  refine ⟨a, rfl, .inl ⟨us, .inl ha⟩, ?_⟩
  refine ⟨Ed, Pr, Fr1, f1, env, st1, _, A.up s1 p1 S1, h1, fun y st2 h2 u Fr2 f2 H2 s2 p2 S2 r2 => ?_⟩
  refine lift1 (R := fun z st3 => match dicOf st3 x, keyOf y with
    | some kvs, some q => Q0 ((valP kvs q).getD z) st3
    | _, _ => False) (A.up (s1.trans s2) (p1.trans p2) S2) h2 fun z st3 w Fr3 f3 H3 h3 s3 p3 S3 r3 => ?_
  split at h3
  · rename_i kvs2 kk e1 e2
    have r2' : Rep X.K Fr2 f2 y u := by cases y <;> first | exact r2 | exact nomatch e2
    obtain rfl := keyOf_rep e2 r2'
    obtain ⟨b, us2, hb, hb2, rk⟩ := dicOf_rep S3.toSimC e1 (Rep.mono (s2.trans s3) (p2.trans p3) _ _ r1)
    cases hb
    refine ⟨_, DGet.k hb2, k _ _ h3 _ Fr3 f3 H3 ((s1.trans s2).trans s3) ((p1.trans p2).trans p3) S3 (.of ?_)⟩
    have rv := RepK.val kk rk
    cases ev : valP kvs2 kk with
    | none => rw [rv.2 ev]; exact r3
    | some d =>
      obtain ⟨v', e3, r4⟩ := rv.1 d ev
      rw [e3]; exact r4
  · exact h3.elim
end

/-! ### calls of defs -/
/-- what a def promises of data: the arguments, the store, what is wished of exceptions and of the result -/
abbrev DSp := List D → Sto → (Addr → Sto → Prop) → (D → Sto → Prop) → Prop
def liftSp (K : PySem.W.Frag) (dsp : DSp) : Sp := fun vs H Q E => ∃ Pr Fr f st ds Ed Q0, SimC K Pr Fr f st H ∧ Reps K Fr f ds vs ∧ dsp ds st Ed Q0 ∧
  (∀ x st', Q0 x st' → ∀ v Fr' f' H', Same Fr Fr' → f <+: f' → SimC K Pr Fr' f' st' H' → RepX K Pr Fr' f' H' x v → Q v H') ∧
  (∀ C st', Ed C st' → ∀ Fr' f' H', Same Fr Fr' → f <+: f' → SimC K Pr Fr' f' st' H' → E (.ref C) none H')
def dCall (dsp : DSp) (ds : DA) : DE := fun Ed env st Q => ds Ed env st fun xs st1 => dsp xs st1 (fun C st' => Ed C env st') Q
section
variable {X : Cx} {W : WX} {e : Expr} {es : List Expr} {ds : DA} {x : Str} {p pos : Pos} {k : Nat} {f : Addr} {fd : FuncData} {ps : List Str} {dsp : DSp}
theorem lift_call {K : PySem.W.Frag} (σ : L2.St) (H : Hp) (Q : VK) (q : liftE K W (dCall dsp ds) σ H Q) : tCallS (liftSp K dsp) (WE W) (liftA K W ds) σ H Q := by
  obtain ⟨Ed, Pr, Fr, f, env, st, Q0, A, d, k⟩ := q
  refine liftA1 A d fun xs st1 vs Fr1 f1 H1 h1 s1 p1 S1 r1 => ?_
  refine ⟨Pr, Fr1, f1, st1, xs, _, _, S1.toSimC, r1, h1, fun z st2 hz w Fr2 f2 H2 s2 p2 C2 rz => k _ _ hz w Fr2 f2 H2 (s1.trans s2) (p1.trans p2) (S1.up s2 p2 C2) rz, fun C st2 hC Fr2 f2 H2 s2 p2 C2 => ?_⟩
  exact A.exn C env st2 Fr2 f2 σ H2 (s1.trans s2) (p1.trans p2) (S1.up s2 p2 C2) hC
theorem de_call (F : FnOk X.prog X.w X.K X.mg X.base (L2.CX X.prog X.w) k f fd ps (liftSp X.K dsp)) (hr : Room k X.A) (hg : Gl X x) (hm : X.mg x = some (.ref f)) (hk : PySem.W.keepIn X.K (.ref f) = true) (hb : Binds X.K fd ps []) (tk : Takes X W)
    (ha : PA X (e :: es) (liftA X.K W ds)) (hdb : (x == ("__debug__" : Str)) = false := by decide) (he : starEach (e :: es) X.env = (false, eval e X.env) :: starEach es X.env := by rfl) (hpl : (backTo pos (starEach es X.env)).any (·.1) = false := by rfl) :
    PE X (.Call (.Name x p) (e :: es) [] pos) (liftE X.K W (dCall dsp ds)) := PEimp (pe_callS F hr hg hm hk hb (fun σ => passAt tk σ) ha hdb he hpl) lift_call
end
end DW

/-! DW8: statements, loops, comprehensions. -/
namespace DW
open PySem PySem.Spec PyProof.Rows L2

structure DEnds where
  nx : Slots → Sto → Prop
  rt : D → Sto → Prop
  bk : Slots → Sto → Prop := fun _ _ => False
  ct : Slots → Sto → Prop := fun _ _ => False
abbrev DS := EdT → DEnds → Slots → Sto → Prop

structure EndsOk (K : PySem.W.Frag) (Pr Fr : Hp) (f : List Addr) (Dd : DEnds) (De : Ends) : Prop where
  nx : ∀ env st, Dd.nx env st → ∀ Fr' f' σ H, Same Fr Fr' → f <+: f' → Sim K Pr Fr' f' env st σ H → De.nx σ H
  bk : ∀ env st, Dd.bk env st → ∀ Fr' f' σ H, Same Fr Fr' → f <+: f' → Sim K Pr Fr' f' env st σ H → De.bk σ H
  ct : ∀ env st, Dd.ct env st → ∀ Fr' f' σ H, Same Fr Fr' → f <+: f' → Sim K Pr Fr' f' env st σ H → De.ct σ H
  rt : ∀ x st, Dd.rt x st → ∀ v Fr' f' H, Same Fr Fr' → f <+: f' → SimC K Pr Fr' f' st H → RepX K Pr Fr' f' H x v → De.rt v H
theorem EndsOk.up {K : PySem.W.Frag} {Fr Fr' : Hp} {f f' : List Addr} {Dd : DEnds} {De : Ends} (E : EndsOk K Pr Fr f Dd De) (s : Same Fr Fr') (p : f <+: f') : EndsOk K Pr Fr' f' Dd De :=
  ⟨fun e st h Fr2 f2 σ H s2 p2 => E.nx e st h Fr2 f2 σ H (s.trans s2) (p.trans p2), fun e st h Fr2 f2 σ H s2 p2 => E.bk e st h Fr2 f2 σ H (s.trans s2) (p.trans p2),
   fun e st h Fr2 f2 σ H s2 p2 => E.ct e st h Fr2 f2 σ H (s.trans s2) (p.trans p2), fun x st h v Fr2 f2 H s2 p2 => E.rt x st h v Fr2 f2 H (s.trans s2) (p.trans p2)⟩
def liftS (K : PySem.W.Frag) (W : WX) (d : DS) : TS := fun De σ H => ∃ Ed Pr Fr f env st Dd, At K W Ed Pr Fr f env st σ H ∧ d Ed Dd env st ∧ EndsOk K Pr Fr f Dd De

section
variable {X : Cx} {W : WX} {st : Stmt} {rest body : List Stmt} {e : Expr} {d1 d2 : DS} {de : DE} {dt : DT} {pos : Pos}

/-! ### blocks -/
def sNext : DS := fun _ D env st => D.nx env st
def sSeq (t u : DS) : DS := fun Ed D env st => t Ed { D with nx := u Ed D } env st
theorem dss_nil : PSs X [] (liftS X.K W sNext) := PSsimp pss_nil fun De σ H q => by
  obtain ⟨Ed, Pr, Fr, f, env, st, Dd, A, d, E⟩ := q
  exact E.nx _ _ d Fr f σ H (Same.refl _) (List.prefix_refl _) A.toSim
theorem dss_cons (h1 : PS X st (liftS X.K W d1)) (h2 : PSs X rest (liftS X.K W d2)) : PSs X (st :: rest) (liftS X.K W (sSeq d1 d2)) := PSsimp (pss_cons h1 h2) fun De σ H q => by
  obtain ⟨Ed, Pr, Fr, f, env, st, Dd, A, d, E⟩ := q
  exact ⟨Ed, Pr, Fr, f, env, st, _, A, d, ⟨fun e s h Fr' f' σ' H' s1 p1 S => ⟨Ed, Pr, Fr', f', e, s, Dd, A.up s1 p1 S, h, E.up s1 p1⟩, E.bk, E.ct, E.rt⟩⟩
theorem dss_one (h1 : PS X st (liftS X.K W d1)) : PSs X [st] (liftS X.K W d1) := pss_one h1
theorem ds_pass : PS X (.Pass pos) (liftS X.K W sNext) := PSimp ps_pass fun De σ H q => by
  obtain ⟨Ed, Pr, Fr, f, env, st, Dd, A, d, E⟩ := q
  exact E.nx _ _ d Fr f σ H (Same.refl _) (List.prefix_refl _) A.toSim
def sBreak : DS := fun _ D env st => D.bk env st
def sCont : DS := fun _ D env st => D.ct env st
theorem ds_break : PS X (.Break pos) (liftS X.K W sBreak) := PSimp ps_break fun De σ H q => by
  obtain ⟨Ed, Pr, Fr, f, env, st, Dd, A, d, E⟩ := q
  exact E.bk _ _ d Fr f σ H (Same.refl _) (List.prefix_refl _) A.toSim
theorem ds_continue : PS X (.Continue pos) (liftS X.K W sCont) := PSimp ps_continue fun De σ H q => by
  obtain ⟨Ed, Pr, Fr, f, env, st, Dd, A, d, E⟩ := q
  exact E.ct _ _ d Fr f σ H (Same.refl _) (List.prefix_refl _) A.toSim
def sExpr (de : DE) : DS := fun Ed D env st => de Ed env st fun _ st1 => D.nx env st1
theorem ds_expr (he : PE X e (liftE X.K W de)) (hs : swapsWith e none pos.line X.env = pure false := by rfl) : PS X (.Expr e pos) (liftS X.K W (sExpr de)) := PSimp (ps_expr he hs) fun De σ H q => by
  obtain ⟨Ed, Pr, Fr, f, env, st, Dd, A, d, E⟩ := q
  exact ⟨Ed, Pr, Fr, f, env, st, _, A, d, fun x st1 h v Fr' f' H' s p S _ => E.nx _ _ h Fr' f' σ H' s p S⟩
def sRet (de : DE) : DS := fun Ed D env st => de Ed env st D.rt
theorem ds_ret (he : PE X e (liftE X.K W de)) : PS X (.Return (some e) pos) (liftS X.K W (sRet de)) := PSimp (ps_ret he) fun De σ H q => by
  obtain ⟨Ed, Pr, Fr, f, env, st, Dd, A, d, E⟩ := q
  exact ⟨Ed, Pr, Fr, f, env, st, _, A, d, fun x st1 h v Fr' f' H' s p S r => E.rt _ _ h v Fr' f' H' s p S.toSimC r⟩
def sRetN : DS := fun _ D _ st => D.rt .non st
theorem ds_retN : PS X (.Return none pos) (liftS X.K W sRetN) := PSimp ps_retN fun De σ H q => by
  obtain ⟨Ed, Pr, Fr, f, env, st, Dd, A, d, E⟩ := q
  exact E.rt _ _ d _ Fr f H (Same.refl _) (List.prefix_refl _) A.toSimC rfl
def sIf (t : DT) (a b : DS) : DS := fun Ed D env st => t Ed env st fun c st1 => if c = true then a Ed D env st1 else b Ed D env st1
theorem ds_if {c : Expr} {a b : List Stmt} (hc : PT X c (liftT X.K W dt)) (ha : PSs X a (liftS X.K W d1)) (hb : PSs X b (liftS X.K W d2)) : PS X (.If c a b pos) (liftS X.K W (sIf dt d1 d2)) := PSimp (ps_if hc ha hb) fun De σ H q => by
  obtain ⟨Ed, Pr, Fr, f, env, st, Dd, A, d, E⟩ := q
  refine ⟨Ed, Pr, Fr, f, env, st, _, A, d, fun x st1 h Fr' f' H' s p S => ?_⟩
  cases x with
  | true => exact ⟨Ed, Pr, Fr', f', env, st1, Dd, A.up s p S, h, E.up s p⟩
  | false => exact ⟨Ed, Pr, Fr', f', env, st1, Dd, A.up s p S, h, E.up s p⟩
def sNever : DS := fun _ _ _ _ => False
theorem ds_never : PS X st (liftS X.K W sNever) := PSimp ps_never fun De σ H q => by
  obtain ⟨Ed, Pr, Fr, f, env, st, Dd, A, d, E⟩ := q
  exact d.elim

/-! ### targets -/
inductive Tg where
  | nm (i : Nat) | tp (ts : List Tg)
mutual
def tgSlots : Tg → List Nat
  | .nm i => [i]
  | .tp ts => tgsSlots ts
def tgsSlots : List Tg → List Nat
  | [] => []
  | t :: ts => tgSlots t ++ tgsSlots ts
end
mutual
def tgSet (st : Sto) : Tg → D → Slots → Option Slots
  | .nm i, x, env => some (env.set i (some x))
  | .tp ts, x, env => match seqOf st x with
    | some ds => tgsSet st ts ds env
    | none => none
def tgsSet (st : Sto) : List Tg → List D → Slots → Option Slots
  | [], [], env => some env
  | t :: ts, d :: ds, env => match tgSet st t d env with
    | some env' => tgsSet st ts ds env'
    | none => none
  | _, _, _ => none
end
def AgreeOff (js : List Nat) (σ σ' : L2.St) : Prop := σ'.length = σ.length ∧ ∀ i, i ∉ js → σ'[i]? = σ[i]?
theorem AgreeOff.refl (js : List Nat) (σ : L2.St) : AgreeOff js σ σ := ⟨rfl, fun _ _ => rfl⟩
theorem AgreeOff.trans {js ks : List Nat} {σ σ' σ'' : L2.St} (a : AgreeOff js σ σ') (b : AgreeOff ks σ' σ'') : AgreeOff (js ++ ks) σ σ'' :=
  ⟨b.1.trans a.1, fun i hi => (b.2 i fun h => hi (List.mem_append_right _ h)).trans (a.2 i fun h => hi (List.mem_append_left _ h))⟩
theorem AgreeOff.wipe {js vs : List Nat} {σ σ' : L2.St} (a : AgreeOff js σ σ') (h : ∀ j ∈ js, j ∈ vs) : L2.wipe σ' vs = L2.wipe σ vs := by
  have wl : ∀ (σ : L2.St) (vs : List Nat) (i : Nat), (L2.wipe σ vs)[i]? = if i ∈ vs then (if i < σ.length then some none else none) else σ[i]? := by
    intro σ vs i
    induction vs with
    | nil => simp [L2.wipe]
    | cons v vs ih =>
      unfold L2.wipe
      by_cases e : v = i
      · subst e
        by_cases hl : v < σ.length
        · rw [List.getElem?_set_self (by rw [L2.wipe_length]; exact hl)]; simp [hl]
        · rw [List.getElem?_eq_none (by rw [List.length_set, L2.wipe_length]; omega)]; simp [hl]
      · rw [List.getElem?_set_ne e, ih]
        simp [Ne.symm e]
  refine List.ext_getElem? fun i => ?_
  rw [wl, wl, a.1]
  by_cases hi : i ∈ vs
  · simp [hi]
  · simp only [if_neg hi]
    exact a.2 i fun hj => hi (h i hj)
/-- a target's reading -/
def gD (K : PySem.W.Frag) (tg : Tg) : TG := fun v σ H Q => ∃ Pr Fr f env st x env', Sim K Pr Fr f env st σ H ∧ Rep K Fr f x v ∧ tgSet st tg x env = some env' ∧ ∀ σ', AgreeOff (tgSlots tg) σ σ' → RepS K Fr f env' σ' → Q σ' H
def gDs (K : PySem.W.Frag) (tgs : List Tg) : TGs := fun vs σ H Q => ∃ Pr Fr f env st xs env', Sim K Pr Fr f env st σ H ∧ Reps K Fr f xs vs ∧ tgsSet st tgs xs env = some env' ∧ ∀ σ', AgreeOff (tgsSlots tgs) σ σ' → RepS K Fr f env' σ' → Q σ' H
theorem PGimp {tg : Expr} {t t' : TG} (h : PG X tg t) (i : ∀ v σ H Q, t' v σ H Q → t v σ H Q) : PG X tg t' := ⟨fun pins s σ H v u Q I r q => h.run pins s σ H v u Q I r (i v σ H Q q)⟩
theorem PGor {tg : Expr} {t t' : TG} (h : PG X tg t) (h' : PG X tg t') : PG X tg (fun v σ H Q => t v σ H Q ∨ t' v σ H Q) := ⟨fun pins s σ H v u Q I r q => q.elim (h.run pins s σ H v u Q I r) (h'.run pins s σ H v u Q I r)⟩
theorem dg_name {i : Nat} {x : Str} (hN : X.N.Nodup) (hi : X.N[i]? = some x) (hx : Loc X.env.scope x) (hf : X.fn x = true ∨ X.env.scope.names.lookup x = some .local := by first | exact .inl rfl | exact .inr rfl | assumption) : PG X (.Name x pos) (gD X.K (.nm i)) :=
  PGimp (pg_name hN hi hx hf) fun v σ H Q q => by
  obtain ⟨Pr, Fr, f, env, st, x, env', S, r, e, k⟩ := q
  cases e
  exact k _ ⟨List.length_set .., fun j hj => List.getElem?_set_ne (by simpa [tgSlots, eq_comm] using hj)⟩ (RepS.set i r S.env)
theorem dgs_nil : PGs X [] (gDs X.K []) := ⟨fun pins s σ H vs us Q I r q => pgs_nil.run pins s σ H vs us Q I r (by
  obtain ⟨Pr, Fr, f, env, st, xs, env', S, rs, e, k⟩ := q
  cases xs with
  | nil => cases e; exact ⟨rs, k σ (.refl _ _) S.env⟩
  | cons _ _ => cases e)⟩
theorem dgs_cons {t : Expr} {ts : List Expr} {tg : Tg} {tgs : List Tg} (h1 : PG X t (gD X.K tg)) (h2 : PGs X ts (gDs X.K tgs))
    (hs : (assignEach (t :: ts) X.env).map (·.2) = assign t X.env :: (assignEach ts X.env).map (·.2) := by rfl) : PGs X (t :: ts) (gDs X.K (tg :: tgs)) := ⟨fun pins s σ H vs us Q I r q => (pgs_cons h1 h2 hs).run pins s σ H vs us Q I r (by
  obtain ⟨Pr, Fr, f, env, st, xs, env', S, rs, e, k⟩ := q
  cases xs with
  | nil => cases e
  | cons x xs =>
    obtain ⟨v, vr, rfl, r1, r2⟩ := rs
    unfold tgsSet at e
    cases e1 : tgSet st tg x env with
    | none => rw [e1] at e; cases e
    | some env1 =>
      rw [e1] at e
      refine ⟨v, vr, rfl, Pr, Fr, f, env, st, x, env1, S, r1, e1, fun σ1 a1 R1 => ?_⟩
      exact ⟨Pr, Fr, f, env1, st, xs, env', ⟨S.toSimC, R1⟩, r2, e, fun σ2 a2 R2 => k σ2 (a1.trans a2) R2⟩)⟩
theorem dg_tup {ts : List Expr} {k : Nat} {tgs : List Tg} {n : Nat} (hc : X.calm = true) (h : PGs X ts (gDs X.K tgs)) (hl : tgs.length = n)
    (hn : (assignEach ts X.env).length = n := by rfl) (hst : (assignEach ts X.env).findIdx? (·.1) = none := by rfl) : PG X (.Tuple ts k pos) (gD X.K (.tp tgs)) :=
  PGimp (PGor (pg_tup hc h hn hst) (pg_lst hc h hn hst)) fun v σ H Q q => by
  obtain ⟨Pr, Fr, f, env, st, x, env', S, r, e, k⟩ := q
  unfold tgSet at e
  have len : ∀ (ts : List Tg) (ds : List D) (env : Slots) {env'}, tgsSet st ts ds env = some env' → ts.length = ds.length := by
    intro ts
    induction ts with
    | nil => intro ds env env' h; cases ds with
      | nil => rfl
      | cons _ _ => cases h
    | cons t ts ih => intro ds env env' h; cases ds with
      | nil => cases h
      | cons d ds =>
        unfold tgsSet at h
        cases e1 : tgSet st t d env with
        | none => rw [e1] at h; cases h
        | some env1 => rw [e1] at h; simp [ih ds env1 h]
  split at e
  · rename_i ds e1
    obtain ⟨a, vs, rfl, h1, r⟩ := seqOf_rep S.toSimC e1 r
    have l1 := len _ _ _ e
    have l2 := r.length
    rcases h1 with h1 | h1
    · exact .inr ⟨a, vs, rfl, h1, by omega, Pr, Fr, f, env, st, ds, env', S, r, e, k⟩
    · exact .inl ⟨a, vs, rfl, h1, by omega, Pr, Fr, f, env, st, ds, env', S, r, e, k⟩
  · cases e

/-! ### assignments -/
/-- x = e -/
def sAsg (bx : Bool) (i : Nat) (de : DE) : DS := fun Ed D env st => de Ed env st fun x st1 => D.nx (env.set i (some (keep bx st1 x).1)) (keep bx st1 x).2
theorem lift_asg {K : PySem.W.Frag} (bx : Bool) {i : Nat} (De : Ends) (σ : L2.St) (H : Hp) (q : liftS K W (sAsg bx i de) De σ H) : tAsg (liftE K W de) (gName i) De σ H := by
  obtain ⟨Ed, Pr, Fr, f, env, st, Dd, A, d, E⟩ := q
  refine ⟨Ed, Pr, Fr, f, env, st, _, A, d, fun x st1 h v Fr1 f1 H1 s1 p1 S1 r1 => ?_⟩
  obtain ⟨Fr2, f2, s2, p2, C2, r2⟩ := r1.keep bx S1.toSimC
  exact E.nx _ _ h Fr2 f2 _ H1 (s1.trans s2) (p1.trans p2) ⟨C2, RepS.set i r2 (RepS.mono s2 p2 S1.env)⟩
theorem ds_set (bx : Bool) {i : Nat} {x : Str} {pos' : Pos} (hN : X.N.Nodup) (hi : X.N[i]? = some x) (hx : Loc X.env.scope x) (he : PE X e (liftE X.K W de)) (hs : swapsWith e (some (.Name x pos')) pos.line X.env = pure false := by rfl) (hf : X.fn x = true ∨ X.env.scope.names.lookup x = some .local := by first | exact .inl rfl | exact .inr rfl | assumption) :
    PS X (.Assign [.Name x pos'] e pos) (liftS X.K W (sAsg bx i de)) := PSimp (ps_set hN hi hx he hs hf) (lift_asg bx)
/-- a, b = e -/
def sAsgT (tg : Tg) (de : DE) : DS := fun Ed D env st => de Ed env st fun x st1 => match tgSet st1 tg (frz x) env with
  | some env' => D.nx env' st1
  | none => False
theorem ds_asgT {t : Expr} {tg : Tg} (he : PE X e (liftE X.K W de)) (hg : PG X t (gD X.K tg)) (hs : swapsWithSole [t] e pos.line X.env = pure false := by rfl) (hw : swappedStores [t] e X.env = pure none := by rfl)
    (h1 : (assignEach [t] X.env).map (·.2) = [assign t X.env] := by rfl) : PS X (.Assign [t] e pos) (liftS X.K W (sAsgT tg de)) := PSimp (ps_asg he hg hs hw h1) fun De σ H q => by
  obtain ⟨Ed, Pr, Fr, f, env, st, Dd, A, d, E⟩ := q
  refine ⟨Ed, Pr, Fr, f, env, st, _, A, d, fun x st1 h v Fr1 f1 H1 s1 p1 S1 r1 => ?_⟩
  obtain ⟨Fr2, C2, s2, r2⟩ := r1.frz S1.toSimC
  split at h
  · rename_i env' e1
    exact ⟨Pr, Fr2, f1, env, st1, _, env', ⟨C2, RepS.mono s2 (List.prefix_refl _) S1.env⟩, r2, e1, fun σ' _ R => E.nx _ _ h Fr2 f1 σ' H1 (s1.trans s2) p1 ⟨C2, R⟩⟩
  · exact h.elim
/-- x op= e -/
def IpD (K : PySem.W.Frag) (t : TIp) (op : Sto → D → D → (D → Prop) → Prop) : Prop := OpD K t op
def sAug (bx : Bool) (op : Sto → D → D → (D → Prop) → Prop) (i : Nat) (de : DE) : DS := fun Ed D env st => match env[i]? with
  | some (some x) => de Ed env st fun y st1 => op st1 x (frz y) fun z => D.nx (env.set i (some (keep bx st1 z).1)) (keep bx st1 z).2
  | _ => False
theorem ds_aug (bx : Bool) {i : Nat} {x : Str} {op : Operator} {ti : TIp} {pos' : Pos} {o : Sto → D → D → (D → Prop) → Prop} (hN : X.N.Nodup) (hi : X.N[i]? = some x) (hx : Loc X.env.scope x) (hop : PIp X op ti) (ho : OpD X.K ti o) (he : PE X e (liftE X.K W de)) (hf : X.fn x = true ∨ X.env.scope.names.lookup x = some .local := by first | exact .inl rfl | exact .inr rfl | assumption) :
    PS X (.AugAssign (.Name x pos') op e pos) (liftS X.K W (sAug bx o i de)) := PSimp (ps_aug hN hi hx he hop hf) fun De σ H q => by
  obtain ⟨Ed, Pr, Fr, f, env, st, Dd, A, d, E⟩ := q
  unfold sAug at d
  split at d
  · rename_i x e1
    obtain ⟨v, ev, rv⟩ := RepS.get A.env e1
    refine ⟨v, ev, ?_⟩
    refine lift1 (R := fun y st1 => o st1 x y fun z => Dd.nx (env.set i (some (keep bx st1 z).1)) (keep bx st1 z).2) A d fun y st1 u Fr1 f1 H1 h1 s1 p1 S1 r1 => ?_
    refine ho Pr Fr1 f1 st1 H1 x y v u _ _ S1.toSimC (Rep.mono s1 p1 _ _ rv) r1 h1 fun z w Fr2 H2 hz s2 C2 rz => ?_
    obtain ⟨Fr3, f3, s3, p3, C3, r3⟩ := rz.keep bx C2
    exact E.nx _ _ hz Fr3 f3 _ H2 ((s1.trans s2).trans s3) (p1.trans p3) ⟨C3, RepS.set i r3 (RepS.mono (s2.trans s3) p3 S1.env)⟩
  · exact d.elim
theorem keyOf_repX {K : PySem.W.Frag} {Fr : Hp} {f : List Addr} {H : Hp} {d : D} {v : V} {k : Key} (e : keyOf d = some k) (r : RepX K Pr Fr f H d v) : v = kV k := by
  cases d <;> first | (cases e; exact r) | exact nomatch e
/-- o[i] = e -/
def opSet : Sto → D → D → D → (Sto → Prop) → Prop := fun st x y z k => match x with
  | .ref n => (match st[n]?, y with
    | some (.lst ds), .int i => (match ixN ds.length i with
      | some j => k (st.set n (.lst (ds.set j z)))
      | none => False)
    | some (.dic kvs), y => (match keyOf y with
      | some q => kvs.length < sizeLine ∧ k (st.set n (.dic (putP kvs q z)))
      | none => False)
    | _, _ => False)
  | _ => False
def rSetD : V → V → V → Hp → (Hp → Prop) → Prop := fun o i v H Q => ∃ a H', o = .ref a ∧ DPut H a i v H' ∧ Q H'
theorem set_dic (hu : X.A.units + 1 < cLine) : PSet X rSetD := by
  intro pins s σ H o i v ov iv u Q I ro ri rv h
  obtain ⟨a, H', rfl, g, q⟩ := h
  cases ro
  exact d_setItem hu I g ri rv fun s' I' => ⟨H', I', q⟩
theorem PSet.or {t t' : TSet} (h : PSet X t) (h' : PSet X t') : PSet X (fun o i v H Q => t o i v H Q ∨ t' o i v H Q) := by
  intro pins s σ H o i v ov iv u Q I ro ri rv q
  rcases q with q | q
  · exact h pins s σ H o i v ov iv u Q I ro ri rv q
  · exact h' pins s σ H o i v ov iv u Q I ro ri rv q
def sSet (bx : Bool) (dv dx dy : DE) : DS := fun Ed D env st => dv Ed env st fun z st1 => dx Ed env (keep bx st1 z).2 fun x st2 => dy Ed env st2 fun y st3 => opSet st3 x y (keep bx st1 z).1 fun st4 => D.nx env st4
theorem ds_setItem (bx : Bool) {o i : Expr} {dx dy : DE} {ipos : Pos} (hu : X.A.units + 64 < cLine) (he : PE X e (liftE X.K W de)) (ho : PE X o (liftE X.K W dx)) (hi : PE X i (liftE X.K W dy))
    (ha : ∀ v, assign (.Subscript o i ipos) X.env v = (do
      let ov ← holding [v] (eval o X.env)
      let iv ← holding [v, ov] (eval i X.env)
      standAt ipos
      holding [v, ov, iv] (setItem ov iv v)
      release [v, ov, iv] []) := by intro _; rfl) (hs : swapsWithSole [.Subscript o i ipos] e pos.line X.env = pure false := by rfl) (hw : swappedStores [.Subscript o i ipos] e X.env = pure none := by rfl)
    (h1 : (assignEach [.Subscript o i ipos] X.env).map (·.2) = [assign (.Subscript o i ipos) X.env] := by rfl) : PS X (.Assign [.Subscript o i ipos] e pos) (liftS X.K W (sSet bx de dx dy)) :=
  PSimp (ps_asg he (pg_sub ho hi (PSet.or set_list (set_dic (by omega))) ha) hs hw h1) fun De σ H q => by
  obtain ⟨Ed, Pr, Fr, f, env, st, Dd, A, d, E⟩ := q
  refine ⟨Ed, Pr, Fr, f, env, st, _, A, d, fun z st1 h v Fr1 f1 H1 s1 p1 S1 r1 => ?_⟩
  obtain ⟨Fr2, f2, s2, p2, C2, r2⟩ := r1.keep bx S1.toSimC
  have A2 := A.up (s1.trans s2) (p1.trans p2) (S1.up s2 p2 C2)
  generalize (keep bx st1 z).2 = st1' at *
  generalize (keep bx st1 z).1 = z' at *
  refine ⟨Ed, Pr, Fr2, f2, env, st1', _, A2, h, fun x st2 h2 ov Fr3 f3 H3 s3 p3 S3 r3 => ?_⟩
  refine ⟨Ed, Pr, Fr3, f3, env, st2, _, A2.up s3 p3 S3, h2, fun y st3 h3 iv Fr4 f4 H4 s4 p4 S4 r4 => ?_⟩
  have rz : Rep X.K Fr4 f4 z' v := Rep.mono (s3.trans s4) (p3.trans p4) _ _ r2
  unfold opSet at h3
  split at h3
  · rename_i n
    obtain ⟨a, ea, rfl⟩ := (show Rep X.K Fr4 f4 (.ref n) ov from Rep.mono s4 p4 _ _ (show Rep X.K Fr3 f3 (.ref n) ov from r3))
    split at h3
    · rename_i ds i e1
      cases (show iv = _ from r4)
      obtain ⟨b, vs, h5, h6, rl⟩ := S4.lst e1
      rw [ea] at h5; cases h5
      split at h3
      · rename_i j ej
        refine .inl ⟨a, vs, _, j, rfl, rfl, h6, by rw [← rl.length]; exact ej, ?_⟩
        exact E.nx _ _ h3 Fr4 f4 σ _ (((s1.trans s2).trans s3).trans s4) (((p1.trans p2).trans p3).trans p4) ⟨S4.toSimC.write ea ⟨_, rfl, rl.set j rz⟩, S4.env⟩
      · exact h3.elim
    · rename_i kvs e1
      obtain ⟨b, us, h5, h6, rk⟩ := S4.dic e1
      rw [ea] at h5; cases h5
      split at h3
      · rename_i q eq
        obtain rfl := keyOf_repX eq r4
        refine .inr ⟨a, _, rfl, DPut.k h6 (by rw [RepK.length (K := X.K) (Fr := Fr4) (f := f4) rk]; exact h3.1), ?_⟩
        exact E.nx _ _ h3.2 Fr4 f4 σ _ (((s1.trans s2).trans s3).trans s4) (((p1.trans p2).trans p3).trans p4) ⟨S4.toSimC.write ea (m := .dic (putP kvs q z')) ⟨_, rfl, RepK.put rz rk⟩, S4.env⟩
      · exact h3.elim
    · exact h3.elim
  · exact h3.elim

/-! ### while -/
def whileN (t : DT) (b : DS) (Ed : EdT) (D : DEnds) : Nat → Slots → Sto → Prop
  | 0 => fun _ _ => False
  | n + 1 => fun env st => t Ed env st fun c st1 => if c = true then b Ed { nx := whileN t b Ed D n, ct := whileN t b Ed D n, bk := D.nx, rt := D.rt } env st1 else D.nx env st1
def sWhile (t : DT) (b : DS) : DS := fun Ed D env st => ∃ n, whileN t b Ed D n env st
theorem ds_while {c : Expr} (hp : PassesOwn (model X.prog X.w) X.A X.env X.xe) (hc : PT X c (liftT X.K W dt)) (hb : PSs X body (liftS X.K W d1)) : PS X (.While c body [] pos) (liftS X.K W (sWhile dt d1)) := PSimp (ps_while hp hc hb) fun De σ H q => by
  obtain ⟨Ed, Pr, Fr, f, env, st, Dd, A, ⟨n, d⟩, E⟩ := q
  refine ⟨fun m σ H => ∃ Fr' f' env st, Same Fr Fr' ∧ f <+: f' ∧ Sim X.K Pr Fr' f' env st σ H ∧ whileN dt d1 Ed Dd m env st, ⟨n, Fr, f, env, st, Same.refl _, List.prefix_refl _, A.toSim, d⟩, ?_⟩
  rintro m σ' H' ⟨Fr1, f1, env1, st1, s1, p1, S1, h1⟩
  cases m with
  | zero => exact h1.elim
  | succ m =>
    have A1 := A.up s1 p1 S1
    refine ⟨Ed, Pr, Fr1, f1, env1, st1, _, A1, h1, fun b st2 h2 Fr2 f2 H2 s2 p2 S2 => ?_⟩
    cases b with
    | true =>
      refine ⟨fun σ H => ∃ Fr' f' env st, Same Fr Fr' ∧ f <+: f' ∧ Sim X.K Pr Fr' f' env st σ H ∧ whileN dt d1 Ed Dd m env st, fun σ3 H3 w => ⟨m, Nat.lt_succ_self _, w⟩, ?_⟩
      refine ⟨Ed, Pr, Fr2, f2, env1, st2, _, A1.up s2 p2 S2, h2, ⟨?_, ?_, ?_, ?_⟩⟩
      · exact fun e s h Fr3 f3 σ3 H3 s3 p3 S3 => ⟨Fr3, f3, e, s, (s1.trans s2).trans s3, (p1.trans p2).trans p3, S3, h⟩
      · exact fun e s h Fr3 f3 σ3 H3 s3 p3 S3 => E.nx _ _ h Fr3 f3 σ3 H3 ((s1.trans s2).trans s3) ((p1.trans p2).trans p3) S3
      · exact fun e s h Fr3 f3 σ3 H3 s3 p3 S3 => ⟨Fr3, f3, e, s, (s1.trans s2).trans s3, (p1.trans p2).trans p3, S3, h⟩
      · exact fun x s h v Fr3 f3 H3 s3 p3 S3 r => E.rt _ _ h v Fr3 f3 H3 ((s1.trans s2).trans s3) ((p1.trans p2).trans p3) S3 r
    | false => exact E.nx _ _ h2 Fr2 f2 σ' H2 (s1.trans s2) (p1.trans p2) S2

/-! ### what is walked -/
abbrev DI := EdT → Slots → Sto → (List D → (Sto → Prop) → Sto → Prop) → Prop
/-- the iterator J yields the items, while ok -/
def ItSim (K : PySem.W.Frag) (J : It) (its : List D) (ok : Sto → Prop) (Fr : Hp) (f : List Addr) : Prop :=
  ∀ i Pr Fr' f' st H, Same Fr Fr' → f <+: f' → SimC K Pr Fr' f' st H → ok st →
    (∀ x, its[i]? = some x → J.go i H ∧ ∀ v H2, J.yld i H v H2 → ∃ Fr2, Same Fr' Fr2 ∧ SimC K Pr Fr2 f' st H2 ∧ Rep K Fr2 f' x v) ∧ (its.length ≤ i → J.stop i H)
theorem ItSim.up {K : PySem.W.Frag} {J : It} {its : List D} {ok : Sto → Prop} {Fr Fr' : Hp} {f f' : List Addr} (h : ItSim K J its ok Fr f) (s : Same Fr Fr') (p : f <+: f') : ItSim K J its ok Fr' f' :=
  fun i Pr Fr2 f2 st H s2 p2 => h i Pr Fr2 f2 st H (s.trans s2) (p.trans p2)
def liftI (K : PySem.W.Frag) (W : WX) (d : DI) : TI := fun σ H R => ∃ Ed Pr Fr f env st Q0, At K W Ed Pr Fr f env st σ H ∧ d Ed env st Q0 ∧
  ∀ its ok st', Q0 its ok st' → ∀ J Fr' f' H', Same Fr Fr' → f <+: f' → Sim K Pr Fr' f' env st' σ H' → ItSim K J its ok Fr' f' → R J H'
theorem PIimp {tg iter : Expr} {t t' : TI} (h : PI X tg iter t) (i : ∀ σ H R, t' σ H R → t σ H R) : PI X tg iter t' := ⟨fun pins s σ H R I q => h.run pins s σ H R I (i σ H R q)⟩
/-- a list, a tuple, a text -/
def iDyn (K : PySem.W.Frag) (tl : TE) : TI := fun σ H R => tl σ H fun x H1 => (∃ a, x = .ref a ∧ (∃ xs, SqL K H1 a xs) ∧ R (Itl K a) H1) ∨ (∃ a, x = .ref a ∧ (∃ xs, SqT K H1 a xs) ∧ R (Itt K a) H1) ∨ ∃ z, x = .str z ∧ R (Its z) H1
theorem pi_dyn {tg l : Expr} {tl : TE} (hl : PE X l tl) : PI X tg l (iDyn X.K tl) := by
  refine ⟨fun pins s σ H R I h => ?_⟩
  refine thn (hl.run pins s σ H _ I h) fun v s1 ⟨x, H1, I1, r1, q1⟩ => ?_
  rcases q1 with ⟨a, e, ⟨xs, hq⟩, q⟩ | ⟨a, e, ⟨xs, hq⟩, q⟩ | ⟨z, ex, q⟩
  · subst e
    cases r1
    obtain ⟨its, rv, p, hz⟩ := I1.list hq
    refine wpAny_pyIter_list p.isList ?_
    refine ⟨s1.heap.objs.size, [s1.heap.objs.size], _, _, H1, rfl, I1.kept (t' := s1.toks) fun b o e => Heap.get?_push_of_some _ e, turn_list a _, ⟨_, Heap.get?_push_size _ rfl, rfl, rfl⟩, fun b hb => ?_, q⟩
    have e : b = s1.heap.objs.size := by simpa using hb
    subst e
    exact I1.fpOk (Nat.le_refl _) (I1.hok.fresh (Nat.le_refl _))
  · subst e
    cases r1
    obtain ⟨its, rv, p, hz⟩ := I1.tuple hq
    refine wpAny_pyIter_tuple (show s1.heap.IsTuple a its.toArray from p) ?_
    refine ⟨s1.heap.objs.size, [s1.heap.objs.size], _, _, H1, rfl, I1.kept (t' := s1.toks) fun b o e => Heap.get?_push_of_some _ e, turn_tuple a _, ⟨_, Heap.get?_push_size _ rfl, rfl, rfl⟩, fun b hb => ?_, q⟩
    have e : b = s1.heap.objs.size := by simpa using hb
    subst e
    exact I1.fpOk (Nat.le_refl _) (I1.hok.fresh (Nat.le_refl _))
  · subst ex
    obtain ⟨t, rfl⟩ := r1
    cases ha : z.cps.all (· < 128)
    · exact wpAny_pyIter_wide ha (pi_one (tk := s1.toks) I1 _ (turn_str _ z t "str_iterator" (.inr rfl)) ⟨_, Heap.get?_push_size _ rfl, rfl, rfl⟩ q)
    · exact wpAny_pyIter_ascii ha (pi_one (tk := s1.toks) I1 _ (turn_str _ z t "str_ascii_iterator" (.inl rfl)) ⟨_, Heap.get?_push_size _ rfl, rfl, rfl⟩ q)
/-- how a value is walked: its items, and what must stay -/
def itemsOf (st : Sto) : D → Option (List D)
  | .str z => some (z.cps.toList.map fun c => .str ⟨#[c]⟩)
  | d => seqOf st d
def stays (st : Sto) : D → Sto → Prop
  | .ref n => fun st' => st'[n]? = st[n]?
  | _ => fun _ => True
def iSeq (de : DE) : DI := fun Ed env st R => de Ed env st fun x st1 => match itemsOf st1 (frz x) with
  | some its => R its (stays st1 (frz x)) st1
  | none => False
theorem itl_sim {K : PySem.W.Frag} {Fr : Hp} {f : List Addr} {a : Addr} {ds : List D} {vs : List V} (h : SqL K Fr a vs) (r : Reps K Fr f ds vs) : ItSim K (Itl K a) ds (fun _ => True) Fr f := by
  intro i Pr Fr' f' st H s p S _
  have h' : SqL K H a vs := (s.trans S.fr).seq h
  refine ⟨fun x e => ?_, fun hi => ⟨vs, h', by rw [← r.length]; exact hi⟩⟩
  obtain ⟨v, ev, rv⟩ := r.get e
  refine ⟨⟨vs, v, h', ev⟩, fun w H2 y => ?_⟩
  obtain ⟨e2, y⟩ := y
  subst e2
  have := (y vs h').symm.trans ev
  cases this
  exact ⟨Fr', Same.refl _, S, Rep.mono s p _ _ rv⟩
theorem itt_sim {K : PySem.W.Frag} {Fr : Hp} {f : List Addr} {a : Addr} {ds : List D} {vs : List V} (h : SqT K Fr a vs) (r : Reps K Fr f ds vs) : ItSim K (Itt K a) ds (fun _ => True) Fr f := by
  intro i Pr Fr' f' st H s p S _
  have h' : SqT K H a vs := Same.seqT (s.trans S.fr) h
  refine ⟨fun x e => ?_, fun hi => ⟨vs, h', by rw [← r.length]; exact hi⟩⟩
  obtain ⟨v, ev, rv⟩ := r.get e
  refine ⟨⟨vs, v, h', ev⟩, fun w H2 y => ?_⟩
  obtain ⟨e2, y⟩ := y
  subst e2
  have := (y vs h').symm.trans ev
  cases this
  exact ⟨Fr', Same.refl _, S, Rep.mono s p _ _ rv⟩
theorem itc_sim {K : PySem.W.Frag} {Fr : Hp} {f : List Addr} {a : Addr} {n : Nat} {ds : List D} (ef : f[n]? = some a) : ItSim K (Itl K a) ds (fun st => st[n]? = some (.lst ds)) Fr f := by
  intro i Pr Fr' f' st H s p S e
  obtain ⟨b, vs, h1, h2, r⟩ := S.lst e
  rw [pre_get p ef] at h1; cases h1
  have h' : SqL K H a vs := .of h2
  refine ⟨fun x e => ?_, fun hi => ⟨vs, h', by rw [← r.length]; exact hi⟩⟩
  obtain ⟨v, ev, rv⟩ := r.get e
  refine ⟨⟨vs, v, h', ev⟩, fun w H2 y => ?_⟩
  obtain ⟨e2, y⟩ := y
  subst e2
  have := (y vs h').symm.trans ev
  cases this
  exact ⟨Fr', Same.refl _, S, rv⟩
theorem its_sim {K : PySem.W.Frag} {Fr : Hp} {f : List Addr} (z : Str) : ItSim K (Its z) (z.cps.toList.map fun c => .str ⟨#[c]⟩) (fun _ => True) Fr f := by
  intro i Pr Fr' f' st H s p S _
  refine ⟨fun x e => ?_, fun hi => by show z.cps.size ≤ i; simpa using hi⟩
  rw [List.getElem?_map] at e
  cases h : z.cps.toList[i]? with
  | none => rw [h] at e; cases e
  | some c =>
    rw [h] at e
    cases e
    have hi : i < z.cps.size := by simpa using (List.getElem?_eq_some_iff.mp h).1
    refine ⟨hi, fun v H2 y => ?_⟩
    obtain ⟨rfl, c', ec, rfl⟩ := y
    have : c = c' := by
      have h' : z.cps[i]? = some c := by simpa using h
      rw [h'] at ec
      exact Option.some.inj ec
    subst this
    exact ⟨Fr', Same.refl _, S, rfl⟩
theorem di_seq {tg l : Expr} (hl : PE X l (liftE X.K W de)) : PI X tg l (liftI X.K W (iSeq de)) := PIimp (pi_dyn hl) fun σ H R q => by
  obtain ⟨Ed, Pr, Fr, f, env, st, Q0, A, d, k⟩ := q
  refine lift1 (R := fun x st1 => match itemsOf st1 x with
    | some its => Q0 its (stays st1 x) st1
    | none => False) A d fun x st1 v Fr1 f1 H1 h1 s1 p1 S1 r1 => ?_
  cases x with
  | str z =>
    cases (show v = _ from r1)
    exact .inr (.inr ⟨z, rfl, k _ _ _ h1 _ Fr1 f1 H1 s1 p1 S1 (its_sim z)⟩)
  | tup ds =>
    obtain ⟨a, vs, rfl, h, r⟩ := r1
    exact .inr (.inl ⟨a, rfl, ⟨vs, S1.frT h⟩, k _ _ _ h1 _ Fr1 f1 H1 s1 p1 S1 (itt_sim h r)⟩)
  | sl ds =>
    obtain ⟨a, vs, rfl, h, r⟩ := r1
    exact .inl ⟨a, rfl, ⟨vs, S1.frL h⟩, k _ _ _ h1 _ Fr1 f1 H1 s1 p1 S1 (itl_sim h r)⟩
  | fl ds =>
    obtain ⟨a, vs, rfl, h, r⟩ := r1
    exact .inl ⟨a, rfl, ⟨vs, .inl (.inl (S1.fr _ _ h))⟩, k _ _ _ h1 _ Fr1 f1 H1 s1 p1 S1 (itl_sim (.inl (.inl h)) r)⟩
  | ref n =>
    obtain ⟨a, ef, rfl⟩ := r1
    have h1' : (match lisOf st1 (.ref n) with
      | some its => Q0 its (fun st' => st'[n]? = st1[n]?) st1
      | none => False) := h1
    cases hl : lisOf st1 (.ref n) with
    | none => rw [hl] at h1'; exact h1'.elim
    | some ds =>
      rw [hl] at h1'
      have e1 : st1[n]? = some (.lst ds) := by
        unfold lisOf at hl
        simp only at hl
        split at hl
        · rename_i e; cases hl; exact e
        · cases hl
      obtain ⟨b, vs, h2, h3, r⟩ := S1.lst e1
      rw [ef] at h2; cases h2
      rw [e1] at h1'
      exact .inl ⟨a, rfl, ⟨vs, .of h3⟩, k _ _ _ h1' _ Fr1 f1 H1 s1 p1 S1 (itc_sim ef)⟩
  | non => exact h1.elim
  | bl _ => exact h1.elim
  | int _ => exact h1.elim
  | con _ => exact h1.elim
  | ty _ => exact h1.elim
  | fd _ _ => exact h1.elim
  | tl _ => exact (show False from r1).elim
  | td _ _ => exact (show False from r1).elim
/-- range -/
def rangeD (lo : Int) (n : Nat) : List D := (List.range n).map fun i => .int (lo + (i : Nat))
def iRng1 (da : DA) : DI := fun Ed env st R => da Ed env st fun xs st1 => match xs with
  | [.int j] => -(2 ^ 62) ≤ j ∧ j < 2 ^ 62 ∧ R (rangeD 0 j.toNat) (fun _ => True) st1
  | _ => False
def iRng2 (da : DA) : DI := fun Ed env st R => da Ed env st fun xs st1 => match xs with
  | [.int i, .int j] => -(2 ^ 62) ≤ i ∧ i < 2 ^ 62 ∧ -(2 ^ 62) ≤ j ∧ j < 2 ^ 62 ∧ R (rangeD i (j - i).toNat) (fun _ => True) st1
  | _ => False
theorem itr_sim {K : PySem.W.Frag} {Fr : Hp} {f : List Addr} (lo : Int) (n : Nat) : ItSim K (Itr lo n) (rangeD lo n) (fun _ => True) Fr f := by
  intro i Pr Fr' f' st H s p S _
  refine ⟨fun x e => ?_, fun hi => by show n ≤ i; simpa [rangeD] using hi⟩
  unfold rangeD at e
  rw [List.getElem?_map] at e
  cases h : (List.range n)[i]? with
  | none => rw [h] at e; cases e
  | some c =>
    rw [h] at e
    cases e
    obtain ⟨hi, rfl⟩ := List.getElem?_eq_some_iff.mp h
    refine ⟨by show i < n; simpa using hi, fun v H2 y => ?_⟩
    obtain ⟨rfl, rfl⟩ := y
    exact ⟨Fr', Same.refl _, S, by simp [Rep]⟩
theorem di_range1 {tg a : Expr} {da : DA} {p : Pos} (hg : Gl X "range") (hm : X.mg "range" = none) (ha : PA X [a] (liftA X.K W da)) (hs : starEach [a] X.env = [(false, eval a X.env)] := by rfl) : PI X tg (.Call (.Name "range" p) [a] [] pos) (liftI X.K W (iRng1 da)) :=
  PIimp (pi_range1 hg hm ha hs) fun σ H R q => by
  obtain ⟨Ed, Pr, Fr, f, env, st, Q0, A, d, k⟩ := q
  refine liftA1 A d fun xs st1 vs Fr1 f1 H1 h1 s1 p1 S1 r1 => ?_
  split at h1
  · obtain ⟨v, rfl, r⟩ := r1.one
    cases (show v = _ from r)
    exact ⟨_, rfl, h1.1, h1.2.1, k _ _ _ h1.2.2 _ Fr1 f1 H1 s1 p1 S1 (itr_sim _ _)⟩
  · exact h1.elim
theorem di_range2 {tg a b : Expr} {da : DA} {p : Pos} (hg : Gl X "range") (hm : X.mg "range" = none) (ha : PA X [a, b] (liftA X.K W da)) (hs : starEach [a, b] X.env = [(false, eval a X.env), (false, eval b X.env)] := by rfl) (hs2 : starEach [b] X.env = [(false, eval b X.env)] := by rfl) : PI X tg (.Call (.Name "range" p) [a, b] [] pos) (liftI X.K W (iRng2 da)) :=
  PIimp (pi_range2 hg hm ha hs hs2) fun σ H R q => by
  obtain ⟨Ed, Pr, Fr, f, env, st, Q0, A, d, k⟩ := q
  refine liftA1 A d fun xs st1 vs Fr1 f1 H1 h1 s1 p1 S1 r1 => ?_
  split at h1
  · obtain ⟨v, u, rfl, r, r'⟩ := r1.two
    cases (show v = _ from r); cases (show u = _ from r')
    exact ⟨_, _, rfl, ⟨h1.1, h1.2.1, h1.2.2.1, h1.2.2.2.1⟩, k _ _ _ h1.2.2.2.2 _ Fr1 f1 H1 s1 p1 S1 (itr_sim _ _)⟩
  · exact h1.elim

/-! ### for -/
def forN (ok : Sto → Prop) (tg : Tg) (b : DS) (Ed : EdT) (De : DEnds) : List D → Slots → Sto → Prop
  | [] => fun env st => ok st ∧ De.nx env st
  | x :: xs => fun env st => ok st ∧ match tgSet st tg x env with
    | some env' => b Ed { nx := forN ok tg b Ed De xs, ct := forN ok tg b Ed De xs, bk := De.nx, rt := De.rt } env' st
    | none => False
def sFor (tg : Tg) (di : DI) (b : DS) : DS := fun Ed D env st => di Ed env st fun its ok st1 => forN ok tg b Ed D its env st1
theorem ds_for {tgE iter : Expr} {tg : Tg} {di : DI} (hp : PassesOwn (model X.prog X.w) X.A X.env X.xe) (hc : X.calm = true) (hi : PI X tgE iter (liftI X.K W di)) (hg : PG X tgE (gD X.K tg)) (hb : PSs X body (liftS X.K W d1))
    (hs : ∀ x, foldedSetIterable iter X.env x = pure x := by intro _; rfl) : PS X (.For tgE iter body [] pos) (liftS X.K W (sFor tg di d1)) := PSimp (ps_for hp hc hi hg hb hs) fun De σ H q => by
  obtain ⟨Ed, Pr, Fr, f, env, st, Dd, A, d, E⟩ := q
  refine ⟨Ed, Pr, Fr, f, env, st, _, A, d, fun its ok st1 h J Fr1 f1 H1 s1 p1 S1 J1 => ?_⟩
  refine ⟨fun i m σ H => m = its.length - i ∧ i ≤ its.length ∧ ∃ Fr' f' env st, Same Fr1 Fr' ∧ f1 <+: f' ∧ Sim X.K Pr Fr' f' env st σ H ∧ forN ok tg d1 Ed Dd (its.drop i) env st, ⟨its.length, rfl, Nat.zero_le _, Fr1, f1, env, st1, Same.refl _, List.prefix_refl _, S1, h⟩, ?_⟩
  rintro i m σ' H' ⟨rfl, hi, Fr2, f2, env2, st2, s2, p2, S2, h2⟩
  by_cases hlt : i < its.length
  · rw [List.drop_eq_getElem_cons hlt] at h2
    obtain ⟨hok, h2⟩ := h2
    obtain ⟨h3, h4⟩ := (J1 i Pr Fr2 f2 st2 H' s2 p2 S2.toSimC hok).1 _ (List.getElem?_eq_getElem hlt)
    refine .inr ⟨h3, fun σ H => ∃ Fr' f' env st, Same Fr1 Fr' ∧ f1 <+: f' ∧ Sim X.K Pr Fr' f' env st σ H ∧ forN ok tg d1 Ed Dd (its.drop (i + 1)) env st, fun σ3 H3 w => ⟨its.length - (i + 1), by omega, rfl, hlt, w⟩, fun v H3 y => ?_⟩
    obtain ⟨Fr3, s3, C3, r3⟩ := h4 v H3 y
    have S3 : Sim X.K Pr Fr3 f2 env2 st2 σ' H3 := S2.up s3 (List.prefix_refl _) C3
    split at h2
    · rename_i env3 e3
      refine ⟨Pr, Fr3, f2, env2, st2, _, env3, S3, r3, e3, fun σ4 _ R4 => ?_⟩
      have A4 := A.up ((s1.trans s2).trans s3) (p1.trans p2) (env' := env3) (st' := st2) (σ' := σ4) (H' := H3) ⟨C3, R4⟩
      refine ⟨Ed, Pr, Fr3, f2, env3, st2, _, A4, h2, ⟨?_, ?_, ?_, ?_⟩⟩
      · exact fun e s h Fr5 f5 σ5 H5 s5 p5 S5 => ⟨Fr5, f5, e, s, (s2.trans s3).trans s5, p2.trans p5, S5, h⟩
      · exact fun e s h Fr5 f5 σ5 H5 s5 p5 S5 => E.nx _ _ h Fr5 f5 σ5 H5 (((s1.trans s2).trans s3).trans s5) ((p1.trans p2).trans p5) S5
      · exact fun e s h Fr5 f5 σ5 H5 s5 p5 S5 => ⟨Fr5, f5, e, s, (s2.trans s3).trans s5, p2.trans p5, S5, h⟩
      · exact fun x s h v Fr5 f5 H5 s5 p5 S5 r => E.rt _ _ h v Fr5 f5 H5 (((s1.trans s2).trans s3).trans s5) ((p1.trans p2).trans p5) S5 r
    · exact h2.elim
  · have e : i = its.length := by omega
    subst e
    rw [List.drop_length] at h2
    exact .inl ⟨(J1 _ Pr Fr2 f2 st2 H' s2 p2 S2.toSimC h2.1).2 (Nat.le_refl _), E.nx _ _ h2.2 Fr2 f2 σ' H' (s1.trans s2) (p1.trans p2) S2⟩

/-! ### list comprehensions -/
def wipeD (env : Slots) : List Nat → Slots
  | [] => env
  | v :: vs => (wipeD env vs).set v none
theorem wipe_rep {K : PySem.W.Frag} {Fr : Hp} {f : List Addr} {env : Slots} {σ : L2.St} (r : RepS K Fr f env σ) : ∀ vs : List Nat, RepS K Fr f (wipeD env vs) (L2.wipe σ vs)
  | [] => r
  | v :: vs => RepS.unset v (wipe_rep r vs)
def lcN (ok : Sto → Prop) (vs : List Nat) (tg : Tg) (dt : DT) (bx : Bool) (de : DE) (env : Slots) (Q : D → Sto → Prop) : List D → List D → Sto → Prop
  | [], acc => fun st => ok st ∧ Q (.tl acc) st
  | x :: xs, acc => fun st => ok st ∧ match tgSet st tg x (wipeD env vs) with
    | some env' => dt noEd env' st fun b st1 => if b = true then de noEd env' st1 fun y st2 => acc.length < sizeLine ∧ lcN ok vs tg dt bx de env Q xs (acc ++ [(keep bx st2 y).1]) (keep bx st2 y).2 else lcN ok vs tg dt bx de env Q xs acc st1
    | none => False
def dLc (vs : List Nat) (tg : Tg) (di : DI) (dt : DT) (bx : Bool) (de : DE) : DE := fun Ed env st Q => di Ed env st fun its ok st1 => lcN ok vs tg dt bx de env Q its [] st1
def dYes : DT := fun _ _ st Q => Q true st
theorem dts_nil {X : Cx} : PTs X [] (liftT X.K noW dYes) := ⟨fun pins s σ H Q I q => pts_nil.run pins s σ H Q I (by
  obtain ⟨Ed, Pr, Fr, f, env, st, Q0, A, d, k⟩ := q
  exact k _ _ d Fr f H (Same.refl _) (List.prefix_refl _) A.toSim)⟩
theorem dts_one {X : Cx} {c : Expr} (h : PT X c (liftT X.K noW dt)) : PTs X [c] (liftT X.K noW dt) := pts_one h
theorem lift_lc {K : PySem.W.Frag} {W : WX} {vs : List Nat} {tg : Tg} {di : DI} {dt : DT} {bx : Bool} {de : DE} (hvs : ∀ j ∈ tgSlots tg, j ∈ vs) (σ : L2.St) (H : Hp) (Q : VK) (q : liftE K W (dLc vs tg di dt bx de) σ H Q) :
    tLc (liftI K W di) (gD K tg) (liftT K noW dt) (liftE K noW de) vs σ H Q := by
  obtain ⟨Ed, Pr, Fr, f, env, st, Q0, A, d, k⟩ := q
  refine ⟨Ed, Pr, Fr, f, env, st, _, A, d, fun its ok st1 h J Fr1 f1 H1 s1 p1 S1 J1 D hD => ?_⟩
  have hDF : Fr1 D = none := S1.fr.free hD
  have hDP : Pr D = none := S1.pr.free hD
  have hDf : D ∉ f1 := S1.toSimC.notCell hD
  -- the new list stands at D, neither frozen nor a cell
  have start : SimC K (upd Pr D (.lst [])) Fr1 f1 st1 (upd H1 D (.lst [])) := by
    have C := S1.toSimC.other (o := .lst []) hDF hDP hDf
    refine ⟨C.fr, fun b u e => ?_, fun b u e => ?_, fun b u e => ?_, C.nd, C.len, C.nf, C.cell⟩
    · by_cases hb : b = D
      · subst hb; rw [upd_same] at e ⊢; exact e
      · rw [upd_ne hb] at e; exact C.pr b u e
    · by_cases hb : b = D
      · subst hb; exact hDF
      · rw [upd_ne hb] at e; exact C.pF b u e
    · by_cases hb : b = D
      · subst hb; exact hDf
      · rw [upd_ne hb] at e; exact C.pf b u e
  refine ⟨fun i m H => m = its.length - i ∧ i ≤ its.length ∧ ∃ Fr' f' st acc us, Same Fr1 Fr' ∧ f1 <+: f' ∧ SimC K (upd Pr D (.lst us)) Fr' f' st H ∧ Reps K Fr' f' acc us ∧ lcN ok vs tg dt bx de env Q0 (its.drop i) acc st,
    ⟨its.length, rfl, Nat.zero_le _, Fr1, f1, st1, [], [], Same.refl _, List.prefix_refl _, start, rfl, h⟩, ?_⟩
  rintro i m H' ⟨rfl, hi, Fr2, f2, st2, acc, us, s2, p2, C2, r2, h2⟩
  have uD : ∀ {us : List V}, (upd Pr D (.lst us)) D = some (.lst us) := upd_same
  -- back to the old protection
  have back : ∀ {Fr' f' st H us}, SimC K (upd Pr D (.lst us)) Fr' f' st H → SimC K Pr Fr' f' st H := fun {Fr' f' st H us} C =>
    ⟨C.fr, fun b u e => C.pr b u (by rw [upd_ne (ne_of_none e hDP)]; exact e), fun b u e => C.pF b u (by rw [upd_ne (ne_of_none e hDP)]; exact e), fun b u e => C.pf b u (by rw [upd_ne (ne_of_none e hDP)]; exact e), C.nd, C.len, C.nf, C.cell⟩
  by_cases hlt : i < its.length
  · rw [List.drop_eq_getElem_cons hlt] at h2
    obtain ⟨hok, h2⟩ := h2
    obtain ⟨h3, h4⟩ := (J1 i _ Fr2 f2 st2 H' s2 p2 C2 hok).1 _ (List.getElem?_eq_getElem hlt)
    refine .inr ⟨h3, fun H => i + 1 ≤ its.length ∧ ∃ Fr' f' st acc us, Same Fr1 Fr' ∧ f1 <+: f' ∧ SimC K (upd Pr D (.lst us)) Fr' f' st H ∧ Reps K Fr' f' acc us ∧ lcN ok vs tg dt bx de env Q0 (its.drop (i + 1)) acc st, fun H3 w => ⟨its.length - (i + 1), by omega, rfl, w⟩, fun v H3 y => ?_⟩
    obtain ⟨Fr3, s3, C3, r3⟩ := h4 v H3 y
    have R0 : RepS K Fr3 f2 (wipeD env vs) (L2.wipe σ vs) := wipe_rep (RepS.mono ((s1.trans s2).trans s3) (p1.trans p2) A.env) vs
    split at h2
    · rename_i env3 e3
      refine ⟨_, Fr3, f2, wipeD env vs, st2, _, env3, ⟨C3, R0⟩, r3, e3, fun σ4 a4 R4 => ⟨?_, ?_⟩⟩
      · have := a4.wipe hvs
        rw [this]
        exact AgreeOff.wipe (js := vs) ⟨L2.wipe_length .., fun j hj => wipe_out hj⟩ fun _ h => h
      · refine ⟨noEd, _, Fr3, f2, env3, st2, _, ⟨⟨C3, R4⟩, fun _ _ _ _ _ _ _ _ _ _ z => z.elim⟩, h2, fun b st5 h5 Fr5 f5 H5 s5 p5 S5 => ?_⟩
        cases b with
        | true =>
          refine ⟨noEd, _, Fr5, f5, env3, st5, _, ⟨S5, fun _ _ _ _ _ _ _ _ _ _ z => z.elim⟩, h5, fun y st6 h6 w Fr6 f6 H6 s6 p6 S6 r6 => ?_⟩
          obtain ⟨Fr7, f7, s7, p7, C7, r7⟩ := r6.keep bx S6.toSimC
          have s27 := (((s3.trans s5).trans s6).trans s7)
          have p27 := ((p5.trans p6).trans p7)
          have eD : H6 D = some (.lst us) := C7.pr D _ uD
          refine ⟨us, eD, by rw [← r2.length]; exact h6.1, hlt, Fr7, f7, _, _, us ++ [w], s2.trans s27, p2.trans p27, ?_, (Reps.mono s27 p27 _ _ r2).append (.of1 r7), h6.2⟩
          have C8 := back C7
          have dF : Fr7 D = none := C7.pF D _ uD
          have df : D ∉ f7 := C7.pf D _ uD
          have C9 := C8.other (o := .lst (us ++ [w])) dF hDP df
          refine ⟨C9.fr, fun b u e => ?_, fun b u e => ?_, fun b u e => ?_, C9.nd, C9.len, C9.nf, C9.cell⟩
          · by_cases hb : b = D
            · subst hb; rw [upd_same] at e ⊢; exact e
            · rw [upd_ne hb] at e; exact C9.pr b u e
          · by_cases hb : b = D
            · subst hb; exact dF
            · rw [upd_ne hb] at e; exact C9.pF b u e
          · by_cases hb : b = D
            · subst hb; exact df
            · rw [upd_ne hb] at e; exact C9.pf b u e
        | false => exact ⟨hlt, Fr5, f5, st5, acc, us, (s2.trans s3).trans s5, p2.trans p5, S5.toSimC, Reps.mono (s3.trans s5) p5 _ _ r2, h5⟩
    · exact h2.elim
  · have e : i = its.length := by omega
    subst e
    rw [List.drop_length] at h2
    have S2 : Sim K Pr Fr2 f2 env st2 σ H' := ⟨back C2, RepS.mono (s1.trans s2) (p1.trans p2) A.env⟩
    exact .inl ⟨(J1 _ _ Fr2 f2 st2 H' s2 p2 C2 h2.1).2 (Nat.le_refl _), k _ _ h2.2 _ Fr2 f2 H' (s1.trans s2) (p1.trans p2) S2 ⟨D, us, rfl, C2.pr D _ uD, C2.pF D _ uD, hDP, C2.pf D _ uD, r2⟩⟩
theorem de_lc {elt tgE iter : Expr} {ifs : List Expr} {scope : Scope} {own : List (Str × Nat)} {tg : Tg} {di : DI} {dt : DT} (bx : Bool) (hc : X.calm = true) (hN : X.N.Nodup) (hi : PI X tgE iter (liftI X.K W di)) (ok : BlkOk X.N X.env.scope scope own)
    (hg : ∀ (s : Shared) (H : Hp) (C : Addr) (cl : List (Str × Addr)) (fp : List Addr), PG (X.blk s H scope (compEnvC scope cl C X.env) fp) tgE (gD X.K tg)) (ht : ∀ (s : Shared) (H : Hp) (C : Addr) (cl : List (Str × Addr)) (fp : List Addr), PTs (X.blk s H scope (compEnvC scope cl C X.env) fp) ifs (liftT X.K noW dt))
    (he : ∀ (s : Shared) (H : Hp) (C : Addr) (cl : List (Str × Addr)) (fp : List Addr), PE (X.blk s H scope (compEnvC scope cl C X.env) fp) elt (liftE X.K noW de)) (hvs : ∀ j ∈ tgSlots tg, j ∈ own.map (·.2)) (hs : ∀ x, foldedSetIterable iter X.env x = pure x := by intro _; rfl) :
    PE X (.ListComp elt [⟨tgE, iter, ifs, 0⟩] scope pos) (liftE X.K W (dLc (own.map (·.2)) tg di dt bx de)) := PEimp (pe_lc hc hN hi ok hg ht he hs) (lift_lc hvs)
theorem ds_setLc {i : Nat} {y : Str} {py : Pos} {elt tgE iter : Expr} {ifs : List Expr} {scope : Scope} {own : List (Str × Nat)} {spos : Pos} {tg : Tg} {di : DI} {dt : DT} (bx bx' : Bool) (hc : X.calm = true) (hN : X.N.Nodup) (hy : X.N[i]? = some y) (hyl : X.env.scope.names.lookup y = some .local)
    (hsw : swapsWith (.ListComp elt [⟨tgE, iter, ifs, 0⟩] scope pos) (some (.Name y py)) spos.line X.env = pure true) (hi : PI X tgE iter (liftI X.K W di)) (ok : BlkOk X.N X.env.scope scope own)
    (hg : ∀ (s : Shared) (H : Hp) (C : Addr) (cl : List (Str × Addr)) (fp : List Addr), PG (X.blk s H scope (compEnvC scope cl C X.env) fp) tgE (gD X.K tg)) (ht : ∀ (s : Shared) (H : Hp) (C : Addr) (cl : List (Str × Addr)) (fp : List Addr), PTs (X.blk s H scope (compEnvC scope cl C X.env) fp) ifs (liftT X.K noW dt))
    (he : ∀ (s : Shared) (H : Hp) (C : Addr) (cl : List (Str × Addr)) (fp : List Addr), PE (X.blk s H scope (compEnvC scope cl C X.env) fp) elt (liftE X.K noW de)) (hvs : ∀ j ∈ tgSlots tg, j ∈ own.map (·.2)) (hs : ∀ x, foldedSetIterable iter X.env x = pure x := by intro _; rfl) :
    PS X (.Assign [.Name y py] (.ListComp elt [⟨tgE, iter, ifs, 0⟩] scope pos) spos) (liftS X.K W (sAsg bx' i (dLc (own.map (·.2)) tg di dt bx de))) := PSimp (ps_setLc hc hN hy hyl hsw hi ok hg ht he hs) fun De σ H q => by
  have q' := lift_asg bx' De σ H q
  exact lift_lc hvs σ H _ q'
end
end DW

/-! DW9: dict displays and comprehensions, raise, try, the def's rule. -/
namespace DW
open PySem PySem.Spec PyProof.Rows L2

section
variable {X : Cx} {W : WX} {pos : Pos}

/-! ### {k: v, ..} written -/
def dPairs : List (DE × DE) → EdT → Slots → Sto → (List (D × D) → Sto → Prop) → Prop
  | [], _, _, st, Q => Q [] st
  | (dk, dv) :: r, Ed, env, st, Q => dk Ed env st fun x st1 => dv Ed env st1 fun y st2 => dPairs r Ed env st2 fun ps st3 => Q ((frz x, frz y) :: ps) st3
def keys? : List (D × D) → Option (List (Key × D))
  | [] => some []
  | (x, y) :: r => match keyOf x, keys? r with
    | some k, some s => some ((k, y) :: s)
    | _, _ => none
def mergeP (kvs more : List (Key × D)) : List (Key × D) := more.foldl (fun acc kv => putP acc kv.1 kv.2) kvs
def dDisp (ps : List (DE × DE)) : DE := fun Ed env st Q => dPairs ps Ed env st fun qs st1 => match keys? qs with
  | some kvs => kvs.length ≤ 15 ∧ Q (.td ((mergeP [] kvs).map (·.1)) ((mergeP [] kvs).map (·.2))) st1
  | none => False
theorem RepK.merge {K : PySem.W.Frag} {Fr : Hp} {f : List Addr} : ∀ {more : List (Key × D)} {us : List (Key × V)} {kvs : List (Key × D)} {ws : List (Key × V)}, RepK K Fr f more us → RepK K Fr f kvs ws → RepK K Fr f (mergeP kvs more) (mergeK ws us)
  | [], us, kvs, ws, h, h' => by cases h.inv0; exact h'
  | p :: more, us, kvs, ws, h, h' => by
    obtain ⟨v, r, rfl, h1, h2⟩ := h.inv
    have q := RepK.merge (more := more) (us := r) (kvs := putP kvs p.1 p.2) (ws := putK ws p.1 v) h2 (h'.put h1)
    exact q
/-- a list of pairs of values -/
def RepP (K : PySem.W.Frag) (Fr : Hp) (f : List Addr) : List (D × D) → List (V × V) → Prop
  | [], vs => vs = []
  | p :: ps, vs => ∃ v r, vs = v :: r ∧ Rep K Fr f p.1 v.1 ∧ Rep K Fr f p.2 v.2 ∧ RepP K Fr f ps r
theorem RepP.mono {K : PySem.W.Frag} {Fr Fr' : Hp} {f f' : List Addr} (s : Same Fr Fr') (p : f <+: f') : ∀ {ps : List (D × D)} {vs : List (V × V)}, RepP K Fr f ps vs → RepP K Fr' f' ps vs
  | [], _, h => h
  | q :: ps, _, h => by
    obtain ⟨v, r, e, h1, h2, h3⟩ := h
    exact ⟨v, r, e, Rep.mono s p _ _ h1, Rep.mono s p _ _ h2, RepP.mono s p h3⟩
theorem RepP.keys {K : PySem.W.Frag} {Fr : Hp} {f : List Addr} : ∀ {ps : List (D × D)} {vs : List (V × V)} {kvs : List (Key × D)}, RepP K Fr f ps vs → keys? ps = some kvs → ∃ us : List (Key × V), vs = us.map (fun kv => (kV kv.1, kv.2)) ∧ RepK K Fr f kvs us
  | [], vs, kvs, h, e => by
    cases (show vs = [] from h); cases e
    exact ⟨[], rfl, .nil⟩
  | q :: ps, vs, kvs, h, e => by
    obtain ⟨v, r, rfl, h1, h2, h3⟩ := h
    unfold keys? at e
    cases e1 : keyOf q.1 with
    | none => simp [e1] at e
    | some k =>
      cases e2 : keys? ps with
      | none => simp [e2] at e
      | some s =>
        simp only [e1, e2, Option.some.injEq] at e
        subst e
        obtain ⟨us, rfl, hu⟩ := RepP.keys h3 e2
        refine ⟨(k, v.2) :: us, ?_, RepK.cons (p := (k, q.2)) h2 hu⟩
        rw [List.map_cons, ← keyOf_rep e1 h1]
theorem lift_pairs {K : PySem.W.Frag} {W : WX} : ∀ (ps : List (DE × DE)) {σ : L2.St} {H : Hp} {Ed : EdT} {Pr Fr : Hp} {f : List Addr} {env : Slots} {st : Sto} {R : List (D × D) → Sto → Prop} {Q : List (V × V) → Hp → Prop}, At K W Ed Pr Fr f env st σ H → dPairs ps Ed env st R →
    (∀ qs st1 vs Fr' f' H', R qs st1 → Same Fr Fr' → f <+: f' → Sim K Pr Fr' f' env st1 σ H' → RepP K Fr' f' qs vs → Q vs H') → tPairs (ps.map fun p => (liftE K W p.1, liftE K W p.2)) σ H Q
  | [], σ, H, Ed, Pr, Fr, f, env, st, R, Q, A, d, k => k _ _ _ Fr f H d (Same.refl _) (List.prefix_refl _) A.toSim rfl
  | p :: ps, σ, H, Ed, Pr, Fr, f, env, st, R, Q, A, d, k => by
    refine lift2 (R := fun x y st2 => dPairs ps Ed env st2 fun qs st3 => R ((x, y) :: qs) st3) A d fun x y st2 v u Fr1 f1 H1 h1 s1 p1 S1 r1 r2 => ?_
    refine lift_pairs ps (A.up s1 p1 S1) h1 fun qs st3 vs Fr2 f2 H2 h2 s2 p2 S2 r3 => ?_
    exact k _ _ _ Fr2 f2 H2 h2 (s1.trans s2) (p1.trans p2) S2 ⟨(v, u), vs, rfl, Rep.mono s2 p2 _ _ r1, Rep.mono s2 p2 _ _ r2, r3⟩
theorem de_disp {keys : List (Option Expr)} {values : List Expr} {ps : List (DE × DE)} (h : PPs X pos keys values (ps.map fun p => (liftE X.K W p.1, liftE X.K W p.2))) (hall : keys.all (·.isSome) = true) (hl : keys.length = values.length) (h0 : keys ≠ [])
    (h15 : keys.length ≤ 15) : PE X (.Dict keys values pos) (liftE X.K W (dDisp ps)) := PEimp (pe_disp h hall hl h0 h15) fun σ H Q q => by
  obtain ⟨Ed, Pr, Fr, f, env, st, Q0, A, d, k⟩ := q
  intro D hD
  have hDF : Fr D = none := A.fr.free hD
  have hDP : Pr D = none := A.pr.free hD
  have hDf : D ∉ f := A.toSimC.notCell hD
  have C := A.toSimC.other (o := .dK []) hDF hDP hDf
  have C1 : SimC X.K (upd Pr D (.dK [])) Fr f st (upd H D (.dK [])) := by
    refine ⟨C.fr, fun b u e => ?_, fun b u e => ?_, fun b u e => ?_, C.nd, C.len, C.nf, C.cell⟩
    · by_cases hb : b = D
      · subst hb; rw [upd_same] at e ⊢; exact e
      · rw [upd_ne hb] at e; exact C.pr b u e
    · by_cases hb : b = D
      · subst hb; exact hDF
      · rw [upd_ne hb] at e; exact C.pF b u e
    · by_cases hb : b = D
      · subst hb; exact hDf
      · rw [upd_ne hb] at e; exact C.pf b u e
  have A1 : At X.K noW noEd (upd Pr D (.dK [])) Fr f env st σ (upd H D (.dK [])) := ⟨⟨C1, A.env⟩, fun _ _ _ _ _ _ _ _ _ _ z => z.elim⟩
  -- the parts may let an exception out: they are asked at the old protection's state
  have A2 : At X.K W Ed (upd Pr D (.dK [])) Fr f env st σ (upd H D (.dK [])) := ⟨⟨C1, A.env⟩, fun C0 e s Fr' f' σ' H' s1 p1 S1 hE => by
    refine A.exn C0 e s Fr' f' σ' H' s1 p1 ⟨⟨S1.fr, fun b u e => S1.pr b u ?_, fun b u e => S1.pF b u ?_, fun b u e => S1.pf b u ?_, S1.nd, S1.len, S1.nf, S1.cell⟩, S1.env⟩ hE
    all_goals (rw [upd_ne (ne_of_none e hDP)]; exact e)⟩
  refine lift_pairs ps A2 d fun qs st1 vs Fr1 f1 H1 h1 s1 p1 S1 r1 => ⟨S1.pr D _ upd_same, ?_⟩
  split at h1
  · rename_i kvs ek
    obtain ⟨us, rfl, hu⟩ := r1.keys ek
    refine ⟨us, rfl, by rw [hu.length]; exact h1.1, ?_⟩
    have hm := RepK.merge hu (RepK.nil (K := X.K) (Fr := Fr1) (f := f1))
    have dF : Fr1 D = none := S1.pF D _ upd_same
    have df : D ∉ f1 := S1.pf D _ upd_same
    have C2 : SimC X.K Pr Fr1 f1 st1 H1 := by
      refine ⟨S1.fr, fun b u e => S1.pr b u ?_, fun b u e => S1.pF b u ?_, fun b u e => S1.pf b u ?_, S1.nd, S1.len, S1.nf, S1.cell⟩
      all_goals (rw [upd_ne (ne_of_none e hDP)]; exact e)
    exact k _ _ h1.2 _ Fr1 f1 _ s1 p1 ⟨C2.other dF hDP df, S1.env⟩ ⟨D, _, rfl, upd_same, dF, hDP, df, hm.1, hm.2⟩
  · exact h1.elim

/-! ### raise, in a def or a try -/
def sRaise (C : Addr) : DS := fun Ed _ env st => Ed C env st
theorem ds_raise {x m : Str} {j : Nat} {p p2 p3 : Pos} {C : Addr} {bmB : List Value} {B newId initId : String} (hc : X.calm = true) (tk : Takes X W) (F : ExcBaseFacts B newId initId bmB) (q : PySem.W.excIn X.K C bmB newId = true) (gC : X.mg x = some (.ref C)) (kC : PySem.W.keepIn X.K (.ref C) = true) (r : Raises X (.ref C)) (hg : Gl X x)
    (hdb : (x == ("__debug__" : Str)) = false := by decide) : PS X (.Raise (some (.Call (.Name x p) [.Constant (.str m) j p2] [] p3)) none pos) (liftS X.K W (sRaise C)) := PSimp (ps_raise hc tk (pmk_own F q gC kC r hg hdb)) fun De σ H q => by
  obtain ⟨Ed, Pr, Fr, f, env, st, Dd, A, d, E⟩ := q
  exact A.exn C env st Fr f σ H (Same.refl _) (List.prefix_refl _) A.toSim d
/-! ### try: body, except C as n: suite -/
def sTryAs (cl : List (Addr × Bool)) (i : Nat) (db : DS) (dsu : Addr → Addr → DS) : DS := fun Ed D env st =>
  db (fun C env' st' => ∃ b, (C, b) ∈ cl ∧ (b = true → ∀ a, dsu C a noEd { nx := fun e s => D.nx (e.set i none) s, rt := D.rt, bk := fun e s => D.bk (e.set i none) s, ct := fun e s => D.ct (e.set i none) s } (env'.set i (some (.con a))) st') ∧ (b = false → Ed C env' st')) D env st
theorem RepS.unset' {K : PySem.W.Frag} {Fr : Hp} {f : List Addr} {env : Slots} {σ : L2.St} (i : Nat) (h : RepS K Fr f env σ) : RepS K Fr f (env.set i none) (σ.set i none) := RepS.unset i h
theorem ds_try_as {x n : Str} {c : Value} {i : Nat} {body suite : List Stmt} {b₀ : Stmt} {np pos' : Pos} {db : DS} {dsu : Addr → Addr → DS} {cl : List (Addr × Bool)} (hs : X.stack = X.env :: X.outer) (hf : X.env.frame = some X.env.locals) (hN : X.N.Nodup) (hi : X.N[i]? = some n) (hln : X.env.kindOf n = some .local) (hc : Names X x c) (tk : Takes X W)
    (hb : ∀ (W' : WX) (pn : List (Addr × Obj)) (xe : Value → Shared → Prop), Takes (X.tr pn xe) W' → PassesOwn (model X.prog X.w) X.A X.env xe → PSs (X.tr pn xe) body (liftS X.K W' db))
    (hsu : ∀ (a : Addr) (oe : Obj) (C : Addr) (pn : List (Addr × Obj)), Zc (.ref C) none oe → (∃ vs, oe.data = .fields vs) → PSs (X.suite a ((a, oe) :: pn)) (b₀ :: suite) (liftS X.K noW (dsu C a)))
    (hcl : ∀ p ∈ cl, PySem.W.exmOne X.K (.ref p.1) c = some p.2) :
    PS X (.Try body [.ExceptHandler (some (.Name x np)) (some n) (b₀ :: suite) pos'] [] [] pos) (liftS X.K W (sTryAs cl i db dsu)) := by
  refine PSimp (ps_try_as (tb := fun W' => liftS X.K W' db) (ts := fun a cls d => fun De σ H => ∃ C, cls = .ref C ∧ d = none ∧ liftS X.K noW (dsu C a) De σ H) hs hf hN hi hln hc tk hb
    (fun a oe cls d pn hz hfd => ⟨fun pins s σ H D I q => ?_⟩)) fun De σ H q => ?_
  · obtain ⟨C, rfl, rfl, q⟩ := q
    exact (hsu a oe C pn hz hfd).run pins s σ H D I q
  · obtain ⟨Ed, Pr, Fr, f, env, st, Dd, A, d, E⟩ := q
    refine ⟨_, Pr, Fr, f, env, st, Dd, ⟨A.toSim, fun C env' st' Fr1 f1 σ1 H1 s1 p1 S1 hE => ?_⟩, d, E⟩
    obtain ⟨b, hm, ht, hn⟩ := hE
    refine ⟨b, hcl _ hm, fun e a ha => ?_, fun e => A.exn C env' st' Fr1 f1 σ1 H1 s1 p1 S1 (hn e)⟩
    refine ⟨C, rfl, rfl, noEd, Pr, Fr1, f1, _, st', _, ⟨⟨S1.toSimC, RepS.set i (x := .con a) rfl S1.env⟩, fun _ _ _ _ _ _ _ _ _ _ z => z.elim⟩, ht e a, ⟨?_, ?_, ?_, ?_⟩⟩
    · exact fun e s h Fr2 f2 σ2 H2 s2 p2 S2 => E.nx _ _ h Fr2 f2 _ H2 (s1.trans s2) (p1.trans p2) ⟨S2.toSimC, RepS.unset i S2.env⟩
    · exact fun e s h Fr2 f2 σ2 H2 s2 p2 S2 => E.bk _ _ h Fr2 f2 _ H2 (s1.trans s2) (p1.trans p2) ⟨S2.toSimC, RepS.unset i S2.env⟩
    · exact fun e s h Fr2 f2 σ2 H2 s2 p2 S2 => E.ct _ _ h Fr2 f2 _ H2 (s1.trans s2) (p1.trans p2) ⟨S2.toSimC, RepS.unset i S2.env⟩
    · exact fun x s h v Fr2 f2 H2 s2 p2 S2 r => E.rt _ _ h v Fr2 f2 H2 (s1.trans s2) (p1.trans p2) S2 r
/-- isinstance of the error that is handled -/
def opIsE (a C : Addr) (b : Bool) : Sto → List D → (D → Prop) → Prop := fun _ xs k => match xs with
  | [.con a', .con C'] => a' = a ∧ C' = C ∧ k (.bl b)
  | _ => False
theorem cd_isE {K : PySem.W.Frag} {D0 a C : Addr} {b : Bool} (h : PySem.W.kitOne K (.ref D0) (.ref C) = some b) : CallD K (rIsE K D0 a) (opIsE a C b) := by
  intro Pr Fr f st H xs vs k Q S r o q
  unfold opIsE at o
  split at o
  · obtain ⟨v, u, rfl, r1, r2⟩ := r.two
    obtain ⟨rfl, rfl, o⟩ := o
    cases (show v = _ from r1); cases (show u = _ from r2)
    exact ⟨_, .ref _, b, rfl, fun u hu => hu, h, q _ _ Fr H o (Same.refl _) S rfl⟩
  · exact o.elim

/-! ### the def's rule -/
mutual
def cl (m : Nat) : D → Bool
  | .ref n => decide (n < m)
  | .tup ds => cls m ds
  | .fl ds => cls m ds
  | .sl ds => cls m ds
  | .tl ds => cls m ds
  | .fd _ ds => cls m ds
  | .td _ ds => cls m ds
  | _ => true
def cls (m : Nat) : List D → Bool
  | [] => true
  | d :: ds => cl m d && cls m ds
end
def clM (m : Nat) : MO → Bool
  | .lst ds => cls m ds
  | .dic kvs => cls m (kvs.map (·.2))
  | .obj _ fs => cls m (fs.map (·.2))
section
variable {K : PySem.W.Frag} {Fr : Hp} {f f' : List Addr} {m : Nat}
mutual
theorem Rep.shr (hf : f <+: f') (hm : f.length = m) : ∀ (d : D) (v : V), cl m d = true → Rep K Fr f' d v → Rep K Fr f d v
  | .non, _, _, h => h
  | .bl _, _, _, h => h
  | .int _, _, _, h => h
  | .str _, _, _, h => h
  | .tup ds, _, c, h => by
    obtain ⟨a, vs, e, s, r⟩ := h
    exact ⟨a, vs, e, s, Reps.shr hf hm ds vs c r⟩
  | .ref n, _, c, h => by
    obtain ⟨a, e, q⟩ := h
    refine ⟨a, ?_, q⟩
    have hn : n < m := of_decide_eq_true (show decide (n < m) = true from c)
    obtain ⟨t, rfl⟩ := hf
    rw [List.getElem?_append_left (by omega)] at e
    exact e
  | .fl ds, _, c, h => by
    obtain ⟨a, vs, e, s, r⟩ := h
    exact ⟨a, vs, e, s, Reps.shr hf hm ds vs c r⟩
  | .sl ds, _, c, h => by
    obtain ⟨a, vs, e, s, r⟩ := h
    exact ⟨a, vs, e, s, Reps.shr hf hm ds vs c r⟩
  | .fd ks ds, _, c, h => by
    obtain ⟨a, kvs, e, s, k, r⟩ := h
    exact ⟨a, kvs, e, s, k, Reps.shr hf hm ds _ c r⟩
  | .con _, _, _, h => h
  | .ty _, _, _, h => h
  | .tl _, _, _, h => h
  | .td _ _, _, _, h => h
theorem Reps.shr (hf : f <+: f') (hm : f.length = m) : ∀ (ds : List D) (vs : List V), cls m ds = true → Reps K Fr f' ds vs → Reps K Fr f ds vs
  | [], _, _, h => h
  | d :: ds, _, c, h => by
    obtain ⟨v, r, e, h1, h2⟩ := h
    have c' := Bool.and_eq_true_iff.mp (show (cl m d && cls m ds) = true from c)
    exact ⟨v, r, e, Rep.shr hf hm d v c'.1 h1, Reps.shr hf hm ds r c'.2 h2⟩
end
theorem RepO.cut (hf : f <+: f') (hm : f.length = m) {a : Addr} {mo : MO} {o : HO} (c : clM m mo = true) (h : RepO K Fr f' a mo o) : RepO K Fr f a mo o := by
  cases mo with
  | lst ds => obtain ⟨vs, e, r⟩ := h; exact ⟨vs, e, Reps.shr hf hm _ _ c r⟩
  | dic kvs => obtain ⟨ks, e, k, r⟩ := h; exact ⟨ks, e, k, Reps.shr hf hm _ _ c r⟩
  | obj C fs => obtain ⟨dx, gs, e, p, k, r⟩ := h; exact ⟨dx, gs, e, p, k, Reps.shr hf hm _ _ c r⟩
/-- the cells behind the first m are forgotten -/
theorem SimC.cut {Pr : Hp} {st : Sto} {H : Hp} (S : SimC K Pr Fr f' st H) (hf : f <+: f') (hm : f.length = m) (hl : m ≤ st.length) (c : (st.take m).all (clM m) = true) : SimC K Pr Fr f (st.take m) H where
  fr := S.fr
  pr := S.pr
  pF := S.pF
  pf := fun a o e h => S.pf a o e (hf.subset h)
  nd := S.nd.sublist hf.sublist
  len := by rw [List.length_take]; omega
  nf := fun a ha => S.nf a (hf.subset ha)
  cell := fun n mo a e1 e2 => by
    have hn : n < m := by
      have := (List.getElem?_eq_some_iff.mp e1).1
      rw [List.length_take] at this
      omega
    have e1' : st[n]? = some mo := by rw [List.getElem?_take_of_lt hn] at e1; exact e1
    obtain ⟨o, h1, h2⟩ := S.cell n mo a e1' (pre_get hf e2)
    exact ⟨o, h1, h2.cut hf hm (List.all_eq_true.mp c mo (List.mem_of_getElem? e1))⟩
end
section
variable {K : PySem.W.Frag} {Fr : Hp} {f : List Addr}
mutual
theorem Rep.cl : ∀ (d : D) (v : V), Rep K Fr f d v → cl f.length d = true
  | .non, _, _ => rfl
  | .bl _, _, _ => rfl
  | .int _, _, _ => rfl
  | .str _, _, _ => rfl
  | .tup ds, _, h => by
    obtain ⟨a, vs, e, s, r⟩ := h
    exact Reps.cl ds vs r
  | .ref n, _, h => by
    obtain ⟨a, e, q⟩ := h
    exact decide_eq_true (List.getElem?_eq_some_iff.mp e).1
  | .fl ds, _, h => by
    obtain ⟨a, vs, e, s, r⟩ := h
    exact Reps.cl ds vs r
  | .sl ds, _, h => by
    obtain ⟨a, vs, e, s, r⟩ := h
    exact Reps.cl ds vs r
  | .fd ks ds, _, h => by
    obtain ⟨a, kvs, e, s, k, r⟩ := h
    exact Reps.cl ds _ r
  | .con _, _, _ => rfl
  | .ty _, _, _ => rfl
  | .tl _, _, h => h.elim
  | .td _ _, _, h => h.elim
theorem Reps.cl : ∀ (ds : List D) (vs : List V), Reps K Fr f ds vs → cls f.length ds = true
  | [], _, _ => rfl
  | d :: ds, _, h => by
    obtain ⟨v, r, e, h1, h2⟩ := h
    exact Bool.and_eq_true_iff.mpr ⟨Rep.cl d v h1, Reps.cl ds r h2⟩
end
/-- a store that stands speaks of its own cells alone -/
theorem SimC.closed {Pr : Hp} {st : Sto} {H : Hp} (S : SimC K Pr Fr f st H) {n : Nat} {mo : MO} (e : st[n]? = some mo) : clM st.length mo = true := by
  obtain ⟨a, o, _, _, r⟩ := S.at e
  rw [← S.len]
  cases mo with
  | lst ds => obtain ⟨vs, _, r⟩ := r; exact Reps.cl _ _ r
  | dic kvs => obtain ⟨vs, _, _, r⟩ := r; exact Reps.cl _ _ r
  | obj C fs => obtain ⟨dx, gs, _, _, _, r⟩ := r; exact Reps.cl _ _ r
end
/-- the cells of the caller are as they were, or speak of the caller's cells alone -/
def CutOk (st0 st' : Sto) : Prop := st0.length ≤ st'.length ∧ ∀ n mo, n < st0.length → st'[n]? = some mo → st0[n]? = some mo ∨ clM st0.length mo = true
theorem CutOk.all {K : PySem.W.Frag} {Fr : Hp} {f : List Addr} {Pr : Hp} {st0 st' : Sto} {H : Hp} (S : SimC K Pr Fr f st0 H) (h : CutOk st0 st') : (st'.take st0.length).all (clM st0.length) = true := by
  rw [List.all_eq_true]
  intro mo hm
  obtain ⟨n, hn, e⟩ := List.getElem_of_mem hm
  have hn' : n < st0.length := by rw [List.length_take] at hn; omega
  have e1 : st'[n]? = some mo := by
    rw [← e, List.getElem_take]
    exact List.getElem?_eq_getElem _
  rcases h.2 n mo hn' e1 with q | q
  · exact S.closed q
  · exact q
/-- how a def's end is handed to its caller, who had the cells st0: as it is; the new cells forgotten; the new container that is handed back becomes nobody's -/
def Leave (st0 : Sto) (x : D) (st : Sto) (Q : D → Sto → Prop) : Prop :=
  Q x st ∨ (CutOk st0 st ∧ cl st0.length x = true ∧ Q x (st.take st0.length)) ∨
  ∃ n, x = .ref n ∧ st0.length ≤ n ∧ CutOk st0 st ∧ match st[n]? with
    | some (.lst ds) => cls st0.length ds = true ∧ Q (.tl ds) (st.take st0.length)
    | some (.dic kvs) => cls st0.length (kvs.map (·.2)) = true ∧ Q (.td (kvs.map (·.1)) (kvs.map (·.2))) (st.take st0.length)
    | _ => False
def LeaveE (st0 : Sto) (st : Sto) (Q : Sto → Prop) : Prop := Q st ∨ (CutOk st0 st ∧ Q (st.take st0.length))
theorem leave_rep {K : PySem.W.Frag} {Pr Fr Fr' : Hp} {f f' : List Addr} {x : D} {st0 st : Sto} {H0 H : Hp} {v : V} {Q0 : D → Sto → Prop} {Q : VK} (S0 : SimC K Pr Fr f st0 H0) (hf : f <+: f') (S : SimC K Pr Fr' f' st H) (r : RepX K Pr Fr' f' H x v) (h : Leave st0 x st Q0)
    (q : ∀ x st', Q0 x st' → ∀ v f'' H', f <+: f'' → SimC K Pr Fr' f'' st' H' → RepX K Pr Fr' f'' H' x v → Q v H') : Q v H := by
  have hm : f.length = st0.length := S0.len
  generalize hmm : st0.length = m at hm
  rcases h with h | ⟨h1, h2, h⟩ | ⟨n, rfl, h1, h3, h⟩
  · exact q _ _ h v f' H hf S r
  · have C := S.cut hf hm (by rw [← hmm]; exact h1.1) (by rw [← hmm]; exact h1.all S0)
    rw [hmm] at h2 h
    refine q _ _ h v f H (List.prefix_refl _) C ?_
    have sub : ∀ a, a ∉ f' → a ∉ f := fun a ha hb => ha (hf.subset hb)
    cases x with
    | tl ds =>
      obtain ⟨a, vs, rfl, e1, e2, e3, e4, r⟩ := r
      exact ⟨a, vs, rfl, e1, e2, e3, sub a e4, Reps.shr hf hm _ _ h2 r⟩
    | td ks ds =>
      obtain ⟨a, vs, rfl, e1, e2, e3, e4, e5, r⟩ := r
      exact ⟨a, vs, rfl, e1, e2, e3, sub a e4, e5, Reps.shr hf hm _ _ h2 r⟩
    | _ => exact Rep.shr hf hm _ _ h2 r
  · have C := S.cut hf hm (by rw [← hmm]; exact h3.1) (by rw [← hmm]; exact h3.all S0)
    rw [hmm] at h1 h
    obtain ⟨a, ea, rfl⟩ := (show Rep K Fr' f' (.ref n) v from r)
    have ha : a ∉ f := fun hb => by
      obtain ⟨j, hj, e⟩ := List.getElem_of_mem hb
      have e' : f'[j]? = some a := pre_get hf (by rw [List.getElem?_eq_getElem hj, e])
      have := get_inj S.nd e' ea
      omega
    have nf : Fr' a = none := S.nf a (List.mem_of_getElem? ea)
    have np : Pr a = none := by
      cases e : Pr a with
      | none => rfl
      | some o => exact (S.pf a o e (List.mem_of_getElem? ea)).elim
    split at h
    · rename_i ds e
      obtain ⟨b, vs, e1, e2, r⟩ := S.lst e
      rw [ea] at e1; cases e1
      exact q _ _ h.2 _ f H (List.prefix_refl _) C ⟨a, vs, rfl, e2, nf, np, ha, Reps.shr hf hm _ _ h.1 r⟩
    · rename_i kvs e
      obtain ⟨b, us, e1, e2, e3, r⟩ := S.dic e
      rw [ea] at e1; cases e1
      exact q _ _ h.2 _ f H (List.prefix_refl _) C ⟨a, us, rfl, e2, nf, np, ha, e3, Reps.shr hf hm _ _ h.1 r⟩
    · exact h.elim
end
section
variable {P : Program} {w : World} {K : PySem.W.Frag} {mg : Str → Option Value} {base : Heap}
/-- what is to be shown of a def's body on data -/
def BodyOk (N ps : List Str) (dsp : DSp) (body : DS) : Prop := ∀ (ds : List D) (st : Sto) (Ed : Addr → Sto → Prop) (Q : D → Sto → Prop), dsp ds st Ed Q → ds.length = ps.length ∧
  body (fun C _ st' => LeaveE st st' (Ed C)) { nx := fun _ st' => Leave st .non st' Q, rt := fun x st' => Leave st x st' Q } (ds.map some ++ List.replicate (N.length - ds.length) none) st
theorem start_rep {K : PySem.W.Frag} {Fr : Hp} {f : List Addr} : ∀ {ds : List D} {vs : List V} (n : Nat), Reps K Fr f ds vs → RepS K Fr f (ds.map some ++ List.replicate n none) (vs.map some ++ List.replicate n none)
  | [], vs, n, h => by
    cases (show vs = [] from h)
    simp only [List.map_nil, List.nil_append]
    induction n with
    | zero => rfl
    | succ n ih => exact ⟨none, _, rfl, (fun x e => by cases e), ih⟩
  | d :: ds, vs, n, h => by
    obtain ⟨v, r, rfl, h1, h2⟩ := h
    exact ⟨some v, _, rfl, (fun x e => by cases e; exact ⟨v, rfl, h1⟩), start_rep n h2⟩
/-- THE RULE for a def: its body walked (hb), and what that does to data (hw) -/
theorem fnD {x qual : Str} {st : Stmt} {f : Addr} {fd : FuncData} {N ps : List Str} {k : Nat} {dsp : DSp} {body : DS} (F : Fun K x qual st f fd) (S : FnScope N ps (defScope st)) (hw : BodyOk N ps dsp body)
    (hb : ∀ (cdv : Value) (A : Around) (outer : List Env) (s : Shared) (H : Hp) (E : XK), Room k (A.deeper (envOfC qual (defScope st) s.heap.objs.size f cdv)) → PSs (cxOf (L2.CX P w) P w K mg base N qual (defScope st) f cdv A outer s H E) (defBody st) (liftS K (fun cls d _ H => E cls d H) body)) :
    FnOk P w K mg base (L2.CX P w) (k + 1) f fd ps (liftSp K dsp) := by
  refine F.okX S (fun vs H Q E h => ?_) (fun cdv A outer s H vs Q E hr h => ?_)
  · obtain ⟨Pr, Fr, f, st, ds, Ed, Q0, C, r, d, _⟩ := h
    rw [← r.length]
    exact (hw _ _ _ _ d).1
  · obtain ⟨Pr, Fr, f, st0, ds, Ed, Q0, C, r, d, q, e⟩ := h
    refine ⟨_, hb cdv A outer s H E hr, ?_⟩
    have hl := (hw _ _ _ _ d).1
    refine ⟨_, Pr, Fr, f, _, st0, _, ⟨⟨C, ?_⟩, fun C0 env' st' Fr' f' σ' H' s1 p1 S1 hE => ?_⟩, (hw _ _ _ _ d).2, ⟨?_, ?_, ?_, ?_⟩⟩
    · unfold L2.start
      rw [← r.length]
      exact start_rep _ r
    · rcases hE with hE | ⟨h1, hE⟩
      · exact e _ _ hE Fr' f' H' s1 p1 S1.toSimC
      · exact e _ _ hE Fr' f H' s1 (List.prefix_refl _) (S1.toSimC.cut p1 C.len h1.1 (h1.all C))
    · exact fun env' st' h Fr' f' σ' H' s1 p1 S1 => leave_rep C p1 S1.toSimC (x := .non) (v := .non) rfl h fun x st2 hq v f2 H2 p2 C2 r2 => q _ _ hq v Fr' f2 H2 s1 p2 C2 r2
    · exact fun _ _ h => h.elim
    · exact fun _ _ h => h.elim
    · exact fun x st' h v Fr' f' H' s1 p1 S1 rx => leave_rep C p1 S1 rx h fun x st2 hq v f2 H2 p2 C2 r2 => q _ _ hq v Fr' f2 H2 s1 p2 C2 r2
theorem fnOk_no {f : Addr} {fd : FuncData} {ps : List Str} {k : Nat} {dsp : DSp} (no : ∀ ds st Ed Q, ¬ dsp ds st Ed Q) : FnOk P w K mg base (L2.CX P w) k f fd ps (liftSp K dsp) := by
  have no' : ∀ vs H Q E, ¬ liftSp K dsp vs H Q E := fun vs H Q E h => by
    obtain ⟨Pr, Fr, f, st, ds, Ed, Q0, _, _, h, _⟩ := h
    exact no _ _ _ _ h
  exact ⟨fun vs H Q E h => absurd h (no' vs H Q E), fun A outer s H args us vs Q E _ _ _ _ h => absurd h (no' vs H Q E)⟩
end
end DW

/-! DW10: dict comprehensions. -/
namespace DW
open PySem PySem.Spec PyProof.Rows L2

section
variable {X : Cx} {W : WX} {pos : Pos}
def dcN (ok : Sto → Prop) (vs : List Nat) (tg : Tg) (dt : DT) (bx : Bool) (dk de : DE) (env : Slots) (Q : D → Sto → Prop) : List D → List (Key × D) → Sto → Prop
  | [], acc => fun st => ok st ∧ Q (.td (acc.map (·.1)) (acc.map (·.2))) st
  | x :: xs, acc => fun st => ok st ∧ match tgSet st tg x (wipeD env vs) with
    | some env' => dt noEd env' st fun b st1 => if b = true then dk noEd env' st1 fun q st2 => de noEd env' st2 fun y st3 => match keyOf q with
        | some kk => acc.length < sizeLine ∧ dcN ok vs tg dt bx dk de env Q xs (putP acc kk (keep bx st3 y).1) (keep bx st3 y).2
        | none => False
      else dcN ok vs tg dt bx dk de env Q xs acc st1
    | none => False
def dDc (vs : List Nat) (tg : Tg) (di : DI) (dt : DT) (bx : Bool) (dk de : DE) : DE := fun Ed env st Q => di Ed env st fun its ok st1 => dcN ok vs tg dt bx dk de env Q its [] st1
theorem SimC.unpr {K : PySem.W.Frag} {Pr Fr : Hp} {f : List Addr} {st : Sto} {H : Hp} {D0 : Addr} {o : HO} (C : SimC K (upd Pr D0 o) Fr f st H) (hP : Pr D0 = none) : SimC K Pr Fr f st H :=
  ⟨C.fr, fun b u e => C.pr b u (by rw [upd_ne (ne_of_none e hP)]; exact e), fun b u e => C.pF b u (by rw [upd_ne (ne_of_none e hP)]; exact e), fun b u e => C.pf b u (by rw [upd_ne (ne_of_none e hP)]; exact e), C.nd, C.len, C.nf, C.cell⟩
/-- a thing that nobody holds is laid or changed, and is kept from now on -/
theorem SimC.intoPr {K : PySem.W.Frag} {Pr Fr : Hp} {f : List Addr} {st : Sto} {H : Hp} {D0 : Addr} {o : HO} (C : SimC K Pr Fr f st H) (hF : Fr D0 = none) (hP : Pr D0 = none) (hf : D0 ∉ f) : SimC K (upd Pr D0 o) Fr f st (upd H D0 o) := by
  have C := C.other (o := o) hF hP hf
  refine ⟨C.fr, fun b u e => ?_, fun b u e => ?_, fun b u e => ?_, C.nd, C.len, C.nf, C.cell⟩
  · by_cases hb : b = D0
    · subst hb; rw [upd_same] at e ⊢; exact e
    · rw [upd_ne hb] at e; exact C.pr b u e
  · by_cases hb : b = D0
    · subst hb; exact hF
    · rw [upd_ne hb] at e; exact C.pF b u e
  · by_cases hb : b = D0
    · subst hb; exact hf
    · rw [upd_ne hb] at e; exact C.pf b u e
theorem lift_dc {K : PySem.W.Frag} {W : WX} {vs : List Nat} {tg : Tg} {di : DI} {dt : DT} {bx : Bool} {dk de : DE} (hvs : ∀ j ∈ tgSlots tg, j ∈ vs) (σ : L2.St) (H : Hp) (Q : VK) (q : liftE K W (dDc vs tg di dt bx dk de) σ H Q) :
    tDc (liftI K W di) (gD K tg) (liftT K noW dt) (liftE K noW dk) (liftE K noW de) vs σ H Q := by
  obtain ⟨Ed, Pr, Fr, f, env, st, Q0, A, d, k⟩ := q
  refine ⟨Ed, Pr, Fr, f, env, st, _, A, d, fun its ok st1 h J Fr1 f1 H1 s1 p1 S1 J1 D hD => ?_⟩
  have hDF : Fr1 D = none := S1.fr.free hD
  have hDP : Pr D = none := S1.pr.free hD
  have hDf : D ∉ f1 := S1.toSimC.notCell hD
  refine ⟨fun i m H => m = its.length - i ∧ i ≤ its.length ∧ ∃ Fr' f' st acc us, Same Fr1 Fr' ∧ f1 <+: f' ∧ SimC K (upd Pr D (.dK us)) Fr' f' st H ∧ RepK K Fr' f' acc us ∧ dcN ok vs tg dt bx dk de env Q0 (its.drop i) acc st,
    ⟨its.length, rfl, Nat.zero_le _, Fr1, f1, st1, [], [], Same.refl _, List.prefix_refl _, S1.toSimC.intoPr hDF hDP hDf, .nil, h⟩, ?_⟩
  rintro i m H' ⟨rfl, hi, Fr2, f2, st2, acc, us, s2, p2, C2, r2, h2⟩
  by_cases hlt : i < its.length
  · rw [List.drop_eq_getElem_cons hlt] at h2
    obtain ⟨hok, h2⟩ := h2
    obtain ⟨h3, h4⟩ := (J1 i _ Fr2 f2 st2 H' s2 p2 C2 hok).1 _ (List.getElem?_eq_getElem hlt)
    refine .inr ⟨h3, fun H => i + 1 ≤ its.length ∧ ∃ Fr' f' st acc us, Same Fr1 Fr' ∧ f1 <+: f' ∧ SimC K (upd Pr D (.dK us)) Fr' f' st H ∧ RepK K Fr' f' acc us ∧ dcN ok vs tg dt bx dk de env Q0 (its.drop (i + 1)) acc st, fun H3 w => ⟨its.length - (i + 1), by omega, rfl, w⟩, fun v H3 y => ?_⟩
    obtain ⟨Fr3, s3, C3, r3⟩ := h4 v H3 y
    have R0 : RepS K Fr3 f2 (wipeD env vs) (L2.wipe σ vs) := wipe_rep (RepS.mono ((s1.trans s2).trans s3) (p1.trans p2) A.env) vs
    split at h2
    · rename_i env3 e3
      refine ⟨_, Fr3, f2, wipeD env vs, st2, _, env3, ⟨C3, R0⟩, r3, e3, fun σ4 a4 R4 => ⟨?_, ?_⟩⟩
      · have := a4.wipe hvs
        rw [this]
        exact AgreeOff.wipe (js := vs) ⟨L2.wipe_length .., fun j hj => wipe_out hj⟩ fun _ h => h
      · refine ⟨noEd, _, Fr3, f2, env3, st2, _, ⟨⟨C3, R4⟩, fun _ _ _ _ _ _ _ _ _ _ z => z.elim⟩, h2, fun b st5 h5 Fr5 f5 H5 s5 p5 S5 => ?_⟩
        cases b with
        | true =>
          have A5 : At K noW noEd (upd Pr D (.dK us)) Fr5 f5 env3 st5 σ4 H5 := ⟨S5, fun _ _ _ _ _ _ _ _ _ _ z => z.elim⟩
          refine ⟨noEd, _, Fr5, f5, env3, st5, _, A5, h5, fun q st6 h6 w Fr6 f6 H6 s6 p6 S6 r6 => ?_⟩
          refine ⟨noEd, _, Fr6, f6, env3, st6, _, A5.up s6 p6 S6, h6, fun z st7 h7 w7 Fr7 f7 H7 s7 p7 S7 r7 => ?_⟩
          obtain ⟨Fr8, f8, s8, p8, C8, r8⟩ := r7.keep bx S7.toSimC
          have s28 := ((((s3.trans s5).trans s6).trans s7).trans s8)
          have p28 := (((p5.trans p6).trans p7).trans p8)
          split at h7
          · rename_i kk ek
            obtain rfl := keyOf_repX ek r6
            have dF : Fr8 D = none := C8.pF D _ upd_same
            have df : D ∉ f8 := C8.pf D _ upd_same
            refine ⟨us, kk, rfl, C8.pr D _ upd_same, by rw [r2.length]; exact h7.1, hlt, Fr8, f8, _, _, putK us kk w7, s2.trans s28, p2.trans p28, (C8.unpr hDP).intoPr dF hDP df, (r2.mono s28 p28).put r8, h7.2⟩
          · exact h7.elim
        | false => exact ⟨hlt, Fr5, f5, st5, acc, us, (s2.trans s3).trans s5, p2.trans p5, S5.toSimC, r2.mono (s3.trans s5) p5, h5⟩
    · exact h2.elim
  · have e : i = its.length := by omega
    subst e
    rw [List.drop_length] at h2
    have S2 : Sim K Pr Fr2 f2 env st2 σ H' := ⟨C2.unpr hDP, RepS.mono (s1.trans s2) (p1.trans p2) A.env⟩
    exact .inl ⟨(J1 _ _ Fr2 f2 st2 H' s2 p2 C2 h2.1).2 (Nat.le_refl _), k _ _ h2.2 _ Fr2 f2 H' (s1.trans s2) (p1.trans p2) S2 ⟨D, us, rfl, C2.pr D _ upd_same, C2.pF D _ upd_same, hDP, C2.pf D _ upd_same, r2.1, r2.2⟩⟩
theorem de_dc {kx vx tgE iter : Expr} {ifs : List Expr} {scope : Scope} {own : List (Str × Nat)} {tg : Tg} {di : DI} {dt : DT} {dk de : DE} (bx : Bool) (hc : X.calm = true) (hN : X.N.Nodup) (hi : PI X tgE iter (liftI X.K W di)) (ok : BlkOk X.N X.env.scope scope own)
    (hg : ∀ (s : Shared) (H : Hp) (C : Addr) (cl : List (Str × Addr)) (fp : List Addr), PG (X.blk s H scope (compEnvC scope cl C X.env) fp) tgE (gD X.K tg)) (ht : ∀ (s : Shared) (H : Hp) (C : Addr) (cl : List (Str × Addr)) (fp : List Addr), PTs (X.blk s H scope (compEnvC scope cl C X.env) fp) ifs (liftT X.K noW dt))
    (hk : ∀ (s : Shared) (H : Hp) (C : Addr) (cl : List (Str × Addr)) (fp : List Addr), PE (X.blk s H scope (compEnvC scope cl C X.env) fp) kx (liftE X.K noW dk))
    (he : ∀ (s : Shared) (H : Hp) (C : Addr) (cl : List (Str × Addr)) (fp : List Addr), PE (X.blk s H scope (compEnvC scope cl C X.env) fp) vx (liftE X.K noW de)) (hvs : ∀ j ∈ tgSlots tg, j ∈ own.map (·.2)) (hs : ∀ x, foldedSetIterable iter X.env x = pure x := by intro _; rfl) :
    PE X (.DictComp kx vx [⟨tgE, iter, ifs, 0⟩] scope pos) (liftE X.K W (dDc (own.map (·.2)) tg di dt bx dk de)) := PEimp (pe_dc hc hN hi ok hg ht hk he hs) (lift_dc hvs)
/-- name = {..} on one line, the name a local -/
theorem ds_setDc {i : Nat} {y : Str} {py : Pos} {kx vx tgE iter : Expr} {ifs : List Expr} {scope : Scope} {own : List (Str × Nat)} {spos : Pos} {tg : Tg} {di : DI} {dt : DT} {dk de : DE} (bx bx' : Bool) (hc : X.calm = true) (hN : X.N.Nodup) (hy : X.N[i]? = some y) (hyl : X.env.scope.names.lookup y = some .local)
    (hsw : swapsWith (.DictComp kx vx [⟨tgE, iter, ifs, 0⟩] scope pos) (some (.Name y py)) spos.line X.env = pure true) (hi : PI X tgE iter (liftI X.K W di)) (ok : BlkOk X.N X.env.scope scope own)
    (hg : ∀ (s : Shared) (H : Hp) (C : Addr) (cl : List (Str × Addr)) (fp : List Addr), PG (X.blk s H scope (compEnvC scope cl C X.env) fp) tgE (gD X.K tg)) (ht : ∀ (s : Shared) (H : Hp) (C : Addr) (cl : List (Str × Addr)) (fp : List Addr), PTs (X.blk s H scope (compEnvC scope cl C X.env) fp) ifs (liftT X.K noW dt))
    (hk : ∀ (s : Shared) (H : Hp) (C : Addr) (cl : List (Str × Addr)) (fp : List Addr), PE (X.blk s H scope (compEnvC scope cl C X.env) fp) kx (liftE X.K noW dk))
    (he : ∀ (s : Shared) (H : Hp) (C : Addr) (cl : List (Str × Addr)) (fp : List Addr), PE (X.blk s H scope (compEnvC scope cl C X.env) fp) vx (liftE X.K noW de)) (hvs : ∀ j ∈ tgSlots tg, j ∈ own.map (·.2)) (hs : ∀ x, foldedSetIterable iter X.env x = pure x := by intro _; rfl) :
    PS X (.Assign [.Name y py] (.DictComp kx vx [⟨tgE, iter, ifs, 0⟩] scope pos) spos) (liftS X.K W (sAsg bx' i (dDc (own.map (·.2)) tg di dt bx dk de))) := by
  refine ⟨fun pins s σ H De I q => ?_⟩
  have h0 := lift_dc hvs σ H _ (lift_asg bx' De σ H q)
  rw [exec_Assign_Name_used _ _ _ _ hsw]
  refine wpAny_bind (wpAny_standAt (wpAny_bind ?_))
  show wpAny _ X.A (do let _ ← comprehension (.DictComp kx vx [⟨tgE, iter, ifs, 0⟩] scope pos) scope X.env (firstIterPos [⟨tgE, iter, ifs, 0⟩] pos) newDict false (eval iter X.env) (some (assign (.Name y py) X.env))) _ _ s
  refine wpAny_bind (thn (dc_core (Qf := fun _ s' => SP X pins De .next s') hc hN I hi ok hg ht hk he hs h0 fun L C s' m H' I' q hn f => ?_) fun _ s' hq => wpAny_pure (wpAny_pure hq))
  show wpAny _ _ (assign (.Name y py) X.env (.ref L)) _ _ _
  refine wpAny_assign_Name (store_ok2 (v := V.ref L) I' hN hy (.inl hyl) rfl (fun s2 I2 ⟨a, sb, ha⟩ => ?_) (.inr hyl))
  obtain ⟨f0, f1, f2, f3, f4, f5⟩ := f
  have haC : C ≠ a := by
    rcases ha with z | z
    · rw [z]; exact f1
    · exact fun e => f4 y a z e.symm
  refine ⟨m, hn.sameBut sb haC, fun h3 sb3 => ?_⟩
  exact ⟨_, H', I2.turned (t' := s2.toks) (fun b o hb e => (sb3.2 b hb).trans e) f0 f1 f3 f4 f5, q⟩
end
end DW

/-! DW11: constants of the module, own error classes, op=. -/
namespace DW
open PySem PySem.Spec PyProof.Rows L2

/-- a constant of the module is data -/
def ConstOf (K : PySem.W.Frag) (mg : Str → Option Value) (x : Str) (d : D) : Prop := ∃ u v, mg x = some u ∧ RelV v u ∧ ∀ Fr f, Rep K Fr f d v
theorem ConstOf.int {K : PySem.W.Frag} {mg : Str → Option Value} {x : Str} {i : Int} {t : Tok} (h : mg x = some (.int i t)) : ConstOf K mg x (.int i) := ⟨_, .int i, h, ⟨t, rfl⟩, fun _ _ => rfl⟩
theorem ConstOf.str {K : PySem.W.Frag} {mg : Str → Option Value} {x : Str} {i : Str} {t : Tok} (h : mg x = some (.str i t)) : ConstOf K mg x (.str i) := ⟨_, .str i, h, ⟨t, rfl⟩, fun _ _ => rfl⟩
theorem rep_ktup {K : PySem.W.Frag} {a : Addr} {od : Option Addr} {its : Array Value} {n : Nat} {sl : Array (Option Value)} {ds : List D} {vs : List V} (h : K.lookup a = some ⟨.type "tuple", od, .seq its n, sl⟩) (hz : its.size ≤ sizeLine) (r : Vals vs its.toList) (q : ∀ Fr f, Reps K Fr f ds vs) : ∀ Fr f, Rep K Fr f (.tup ds) (.ref a) :=
  fun Fr f => ⟨a, vs, rfl, .inr ⟨_, its, n, h, rfl, rfl, hz, r⟩, q Fr f⟩
theorem ConstOf.ref {K : PySem.W.Frag} {mg : Str → Option Value} {x : Str} {d : D} {a : Addr} (h : mg x = some (.ref a)) (r : ∀ Fr f, Rep K Fr f d (.ref a)) : ConstOf K mg x d := ⟨_, .ref a, h, rfl, r⟩

section
variable {X : Cx} {W : WX} {pos : Pos}
theorem de_glob {x : Str} {d : D} (hg : Gl X x) (c : ConstOf X.K X.mg x d) (hd : (x == ("__debug__" : Str)) = false := by decide) : PE X (.Name x pos) (liftE X.K W (dC d)) := by
  obtain ⟨u, v, hm, r, q⟩ := c
  refine PEimp (pe_glob hg hm r hd) fun σ H Q h => ?_
  obtain ⟨Ed, Pr, Fr, f, env, st, Q0, A, d, k⟩ := h
  exact k _ _ d v Fr f H (Same.refl _) (List.prefix_refl _) A.toSim (.of (q Fr f))
theorem sw_trueD {kx vx : Expr} {gs : List Comprehension} {scope : Scope} {pos py : Pos} {y : Str} {l : Nat} {env : Env} (hk : env.scope.kind = .function) (hy : env.scope.names.lookup y = some .local) (hl : (py.line == pos.line) = true)
    (ha : (scope.names.any fun (n, k) => n == y && (k == .local || k == .cell)) = false) : swapsWith (.DictComp kx vx gs scope pos) (some (.Name y py)) l env = pure true := by
  have ky : env.kindOf y = some .local := hy
  have hb : env.blockKind = .function := by unfold Env.blockKind; rw [hk]; rfl
  unfold swapsWith
  simp only [hb, ky, ha, Expr.pos, hl]
  rfl
end

/-! ### op= -/
def riAdd : TIp := fun x y H Q => rI0 (fun i j => .int (i + j)) x y H Q ∨ (fun x y H Q => ∃ i j, x = V.str i ∧ y = V.str j ∧ i.length + j.length ≤ sizeLine ∧ Q (.str (i ++ j)) H) x y H Q
theorem ir_add {X : Cx} : PIp X .Add riAdd := by
  intro pins s σ H x y v u Q I r1 r2 h
  rcases h with h | h
  · exact L2.iop_add pins s σ H x y v u Q I r1 r2 h
  · exact iop_add_str pins s σ H x y v u Q I r1 r2 h
def iop_add : Sto → D → D → (D → Prop) → Prop := fun _ x y k => match x, y with
  | .int i, .int j => k (.int (i + j))
  | .str a, .str b => a.length + b.length ≤ sizeLine ∧ k (.str (a ++ b))
  | _, _ => False
theorem id_add {K : PySem.W.Frag} : OpD K riAdd iop_add := by
  intro Pr Fr f st H x y v u k Q S r1 r2 o q
  unfold iop_add at o
  split at o
  · cases (show v = _ from r1); cases (show u = _ from r2)
    exact .inl ⟨_, _, rfl, rfl, q _ _ Fr H o (Same.refl _) S rfl⟩
  · cases (show v = _ from r1); cases (show u = _ from r2)
    exact .inr ⟨_, _, rfl, rfl, o.1, q _ _ Fr H o.2 (Same.refl _) S rfl⟩
  · exact o.elim
theorem ir_mul {X : Cx} : PIp X .Mult (rI IntMulOk fun i j => .int (i * j)) := by
  intro pins s σ H x y v u Q I r1 r2 h
  obtain ⟨i, j, rfl, rfl, hc, q⟩ := h
  obtain ⟨t, rfl⟩ := r1
  obtain ⟨t', rfl⟩ := r2
  exact imul_int ⟨.int _, H, I.tok _, ⟨_, rfl⟩, q⟩ hc
abbrev iop_mul : Sto → D → D → (D → Prop) → Prop := opJ IntMulOk fun i j => .int (i * j)
theorem id_mul {K : PySem.W.Frag} : OpD K (rI IntMulOk fun i j => .int (i * j)) iop_mul := od_I fun _ _ => rfl

/-- an own error class over ValueError -/
structure XCls (K : PySem.W.Frag) (C : Addr) : Prop where
  q : PySem.W.excIn K C [.type "ValueError", .type "Exception", .type "BaseException", .type "object"] "ValueError.__new__" = true
  k : PySem.W.keepIn K (.ref C) = true
  s : PySem.W.subIn K (.ref C) (.type "BaseException") = some true
  t : PySem.W.typeIn K (.ref C) = some (.type "type")
theorem XCls.r {X : Cx} {C : Addr} (x : XCls X.K C) : Raises X (.ref C) := raises_own x.s x.t
end DW

/-! DW12: how the data side is reckoned: one rule a combinator, tried from above. -/
namespace DW
open PySem L2

theorem lisOf_ref {st : Sto} {n : Nat} {ds : List D} (h : st[n]? = some (.lst ds)) : lisOf st (.ref n) = some ds := by simp [lisOf, h]
theorem seqOf_ref {st : Sto} {n : Nat} {ds : List D} (h : st[n]? = some (.lst ds)) : seqOf st (.ref n) = some ds := by simp [seqOf, lisOf, h]
theorem dicOf_ref {st : Sto} {n : Nat} {ds : List (Key × D)} (h : st[n]? = some (.dic ds)) : dicOf st (.ref n) = some ds := by simp [dicOf, h]
theorem leave_stay {st0 : Sto} {x : D} {st : Sto} {Q : D → Sto → Prop} (h : Q x st) : Leave st0 x st Q := .inl h
theorem CutOk.pre {st0 more : Sto} : CutOk st0 (st0 ++ more) := ⟨by simp, fun n mo hn e => .inl (by rw [List.getElem?_append_left hn] at e; exact e)⟩
theorem CutOk.head {a a' : MO} {rest more : Sto} (h : clM (rest.length + 1) a' = true) : CutOk (a :: rest) (a' :: (rest ++ more)) := ⟨by simp, fun n mo hn e => by
  cases n with
  | zero => cases e; exact .inr h
  | succ n =>
    have hn' : n < rest.length := by simpa using hn
    simp only [List.getElem?_cons_succ] at e ⊢
    rw [List.getElem?_append_left hn'] at e
    exact .inl e⟩
theorem leave_drop {st0 more : Sto} {x : D} {Q : D → Sto → Prop} (h2 : cl st0.length x = true) (h : Q x st0) : Leave st0 x (st0 ++ more) Q := .inr (.inl ⟨.pre, h2, by simpa using h⟩)
theorem leave_head {a a' : MO} {rest more : Sto} {x : D} {Q : D → Sto → Prop} (h1 : clM (rest.length + 1) a' = true) (h2 : cl (rest.length + 1) x = true) (h : Q x (a' :: rest)) : Leave (a :: rest) x (a' :: (rest ++ more)) Q := .inr (.inl ⟨.head h1, h2, by simpa using h⟩)
theorem leave_list {st0 more : Sto} {n : Nat} {ds : List D} {Q : D → Sto → Prop} (h1 : st0.length ≤ n) (e : (st0 ++ more)[n]? = some (.lst ds)) (h2 : cls st0.length ds = true) (h : Q (.tl ds) st0) : Leave st0 (.ref n) (st0 ++ more) Q :=
  .inr (.inr ⟨n, rfl, h1, .pre, by simp only [e]; exact ⟨h2, by simpa using h⟩⟩)
theorem leave_listH {a a' : MO} {rest more : Sto} {n : Nat} {ds : List D} {Q : D → Sto → Prop} (h0 : clM (rest.length + 1) a' = true) (h1 : rest.length + 1 ≤ n) (e : (a' :: (rest ++ more))[n]? = some (.lst ds)) (h2 : cls (rest.length + 1) ds = true) (h : Q (.tl ds) (a' :: rest)) : Leave (a :: rest) (.ref n) (a' :: (rest ++ more)) Q :=
  .inr (.inr ⟨n, rfl, h1, .head h0, by simp only [e]; exact ⟨h2, by simpa using h⟩⟩)
/-- a new container becomes a cell, and goes on -/
def boxK (st : Sto) (x : D) (k : D → Sto → Prop) : Prop := k (box st x).1 (box st x).2
@[simp ↓] theorem boxK_tl {st : Sto} {ds : List D} {k : D → Sto → Prop} : boxK st (.tl ds) k = k (.ref st.length) (st ++ [.lst ds]) := rfl
@[simp ↓] theorem boxK_td {st : Sto} {ks : List Key} {ds : List D} {k : D → Sto → Prop} : boxK st (.td ks ds) k = k (.ref st.length) (st ++ [.dic (ks.zip ds)]) := rfl
@[simp ↓] theorem boxK_i {st : Sto} {i : Int} {k : D → Sto → Prop} : boxK st (.int i) k = k (.int i) st := rfl
@[simp ↓] theorem boxK_s {st : Sto} {i : Str} {k : D → Sto → Prop} : boxK st (.str i) k = k (.str i) st := rfl
@[simp ↓] theorem boxK_t {st : Sto} {i : List D} {k : D → Sto → Prop} : boxK st (.tup i) k = k (.tup i) st := rfl
@[simp ↓] theorem boxK_r {st : Sto} {i : Nat} {k : D → Sto → Prop} : boxK st (.ref i) k = k (.ref i) st := rfl
/-! ### statements, one at a time -/
theorem seq_i {t u : DS} {Ed : EdT} {De : DEnds} {env : Slots} {st : Sto} (h : ∀ nx : Slots → Sto → Prop, (∀ e s, u Ed De e s → nx e s) → t Ed { De with nx := nx } env st) : sSeq t u Ed De env st := h _ fun _ _ q => q
section
variable {t u : DS} {Ed : EdT} {De : DEnds} {env : Slots} {st : Sto} {Q : D → Sto → Prop} {da db de dx : DE} {dt dt' : DT} {ds : DA} {i j : Int} {n : Nat} {x y : D} {xs : List D} {k : D → Prop}
@[simp ↓] theorem sNext_e : sNext Ed De env st = De.nx env st := rfl
@[simp ↓] theorem sBreak_e : sBreak Ed De env st = De.bk env st := rfl
@[simp ↓] theorem sCont_e : sCont Ed De env st = De.ct env st := rfl
@[simp ↓] theorem sExpr_e : sExpr de Ed De env st = de Ed env st fun _ st1 => De.nx env st1 := rfl
@[simp ↓] theorem sRet_e : sRet de Ed De env st = de Ed env st De.rt := rfl
@[simp ↓] theorem sRetN_e : sRetN Ed De env st = De.rt .non st := rfl
@[simp ↓] theorem sRaise_e {C : Addr} : sRaise C Ed De env st = Ed C env st := rfl
@[simp ↓] theorem sIf_e : sIf dt t u Ed De env st = dt Ed env st fun c st1 => if c = true then t Ed De env st1 else u Ed De env st1 := rfl
@[simp ↓] theorem sAsg_f : sAsg false n de Ed De env st = de Ed env st fun x st1 => De.nx (env.set n (some (frz x))) st1 := rfl
@[simp ↓] theorem sAsg_t : sAsg true n de Ed De env st = de Ed env st fun x st1 => boxK st1 x fun y st2 => De.nx (env.set n (some y)) st2 := rfl
@[simp ↓] theorem sAsgT_e {tg : Tg} : sAsgT tg de Ed De env st = de Ed env st fun x st1 => match tgSet st1 tg (frz x) env with
  | some env' => De.nx env' st1
  | none => False := rfl
@[simp ↓] theorem sSet_f : sSet false de da db Ed De env st = de Ed env st fun z st1 => da Ed env st1 fun x st2 => db Ed env st2 fun y st3 => opSet st3 x y (frz z) fun st4 => De.nx env st4 := rfl
@[simp ↓] theorem sSet_t : sSet true de da db Ed De env st = de Ed env st fun z st1 => boxK st1 z fun z' st1' => da Ed env st1' fun x st2 => db Ed env st2 fun y st3 => opSet st3 x y z' fun st4 => De.nx env st4 := rfl
@[simp ↓] theorem sAug_f {op : Sto → D → D → (D → Prop) → Prop} (h : env[n]? = some (some x)) : sAug false op n de Ed De env st = de Ed env st fun y st1 => op st1 x (frz y) fun z => De.nx (env.set n (some (frz z))) st1 := by
  unfold sAug; rw [h]; rfl
@[simp ↓] theorem sFor_e {tg : Tg} {di : DI} : sFor tg di t Ed De env st = di Ed env st fun its ok st1 => forN ok tg t Ed De its env st1 := rfl
/-! ### expressions -/
@[simp ↓] theorem dVar_e (h : env[n]? = some (some x)) : dVar n Ed env st Q = Q x st := by unfold dVar; rw [h]
@[simp ↓] theorem dC_e : dC x Ed env st Q = Q x st := rfl
@[simp ↓] theorem dOp_e {op : Sto → D → D → (D → Prop) → Prop} : dOp op da db Ed env st Q = da Ed env st fun x st1 => db Ed env st1 fun y st2 => op st2 (frz x) (frz y) fun z => Q z st2 := rfl
@[simp ↓] theorem dNeg_e : dNeg da Ed env st Q = da Ed env st fun x st1 => match x with
  | .int i => Q (.int (-i)) st1
  | _ => False := rfl
@[simp ↓] theorem dNil_e {R : List D → Sto → Prop} : dNil Ed env st R = R [] st := rfl
@[simp ↓] theorem dCons_f {R : List D → Sto → Prop} : dCons false da ds Ed env st R = da Ed env st fun x st1 => ds Ed env st1 fun xs st2 => R (frz x :: xs) st2 := rfl
@[simp ↓] theorem dCons_t {R : List D → Sto → Prop} : dCons true da ds Ed env st R = da Ed env st fun x st1 => boxK st1 x fun y st1' => ds Ed env st1' fun xs st2 => R (y :: xs) st2 := rfl
@[simp ↓] theorem dTup_e : dTup ds Ed env st Q = ds Ed env st fun xs st1 => xs.length ≤ sizeLine ∧ Q (.tup xs) st1 := rfl
@[simp ↓] theorem dLst_e : dLst ds Ed env st Q = ds Ed env st fun xs st1 => xs.length ≤ sizeLine ∧ Q (.tl xs) st1 := rfl
@[simp ↓] theorem dDic0_e : dDic0 Ed env st Q = Q (.td [] []) st := rfl
@[simp ↓] theorem oNone_e {R : Option Int → Sto → Prop} : oNone Ed env st R = R none st := rfl
@[simp ↓] theorem oSome_e {R : Option Int → Sto → Prop} : oSome de Ed env st R = de Ed env st fun x st1 => match x with
  | .int i => R (some i) st1
  | _ => False := rfl
@[simp ↓] theorem dSl_e {lo hi : DO} : dSl de lo hi Ed env st Q = de Ed env st fun x st1 => lo Ed env st1 fun l st2 => hi Ed env st2 fun h st3 => opSl st3 (frz x) l h fun z => Q z st3 := rfl
@[simp ↓] theorem dTruth_e {R : Bool → Sto → Prop} : dTruth da Ed env st R = da Ed env st fun x st1 => opTru st1 (frz x) fun b => R b st1 := rfl
@[simp ↓] theorem dBool_e {R : Bool → Sto → Prop} : dBool da Ed env st R = da Ed env st fun x st1 => match x with
  | .bl b => R b st1
  | _ => False := rfl
@[simp ↓] theorem dAnd_e {R : Bool → Sto → Prop} : dAnd dt dt' Ed env st R = dt Ed env st fun c st1 => if c = true then dt' Ed env st1 R else R false st1 := rfl
@[simp ↓] theorem dOr_e {R : Bool → Sto → Prop} : dOr dt dt' Ed env st R = dt Ed env st fun c st1 => if c = true then R true st1 else dt' Ed env st1 R := rfl
@[simp ↓] theorem dNot_e {R : Bool → Sto → Prop} : dNot dt Ed env st R = dt Ed env st fun c st1 => R (!c) st1 := rfl
@[simp ↓] theorem dYes_e {R : Bool → Sto → Prop} : dYes Ed env st R = R true st := rfl
@[simp ↓] theorem dAndV_e : dAndV da db Ed env st Q = da Ed env st fun x st1 => opTru st1 (frz x) fun b => if b = true then db Ed env st1 Q else Q (frz x) st1 := rfl
@[simp ↓] theorem dOrV_e : dOrV da db Ed env st Q = da Ed env st fun x st1 => opTru st1 (frz x) fun b => if b = true then Q (frz x) st1 else db Ed env st1 Q := rfl
@[simp ↓] theorem dNotV_e : dNotV de Ed env st Q = de Ed env st fun x st1 => opTru st1 (frz x) fun b => Q (.bl (!b)) st1 := rfl
@[simp ↓] theorem dIf_e : dIf dt da db Ed env st Q = dt Ed env st fun c st1 => if c = true then da Ed env st1 Q else db Ed env st1 Q := rfl
@[simp ↓] theorem dCB_e {op : Sto → List D → (D → Prop) → Prop} : dCB op ds Ed env st Q = ds Ed env st fun xs st1 => op st1 xs fun z => Q z st1 := rfl
@[simp ↓] theorem dBM_e {T : String} {op : Sto → D → List D → (D → Sto → Prop) → Prop} : dBM T op dx ds Ed env st Q = dx Ed env st fun x st1 => tyOk st1 T (frz x) ∧ ds Ed env st1 fun xs st2 => op st2 (frz x) xs Q := rfl
@[simp ↓] theorem dCall_e {sp : DSp} : dCall sp ds Ed env st Q = ds Ed env st fun xs st1 => sp xs st1 (fun C st' => Ed C env st') Q := rfl
@[simp ↓] theorem iSeq_e {R : List D → (Sto → Prop) → Sto → Prop} : iSeq de Ed env st R = de Ed env st fun x st1 => match itemsOf st1 (frz x) with
  | some its => R its (stays st1 (frz x)) st1
  | none => False := rfl
@[simp ↓] theorem iRng1_e {R : List D → (Sto → Prop) → Sto → Prop} : iRng1 ds Ed env st R = ds Ed env st fun xs st1 => match xs with
  | [.int j] => -(2 ^ 62) ≤ j ∧ j < 2 ^ 62 ∧ R (rangeD 0 j.toNat) (fun _ => True) st1
  | _ => False := rfl
@[simp ↓] theorem dLc_e {vs : List Nat} {tg : Tg} {di : DI} {bx : Bool} : dLc vs tg di dt bx de Ed env st Q = di Ed env st fun its ok st1 => lcN ok vs tg dt bx de env Q its [] st1 := rfl
@[simp ↓] theorem dDc_e {vs : List Nat} {tg : Tg} {di : DI} {bx : Bool} : dDc vs tg di dt bx da de Ed env st Q = di Ed env st fun its ok st1 => dcN ok vs tg dt bx da de env Q its [] st1 := rfl
/-! ### operations -/
variable {a b : Str} {ds1 ds2 : List D} {C : Int → Int → Prop} {g : Int → Int → D}
@[simp ↓] theorem opAdd_ii : opAdd st (.int i) (.int j) k = k (.int (i + j)) := rfl
@[simp ↓] theorem opAdd_ss : opAdd st (.str a) (.str b) k = (a.length + b.length ≤ sizeLine ∧ k (.str (a ++ b))) := rfl
@[simp ↓] theorem opAdd_tt : opAdd st (.tup ds1) (.tup ds2) k = (ds1.length + ds2.length ≤ sizeLine ∧ k (.tup (ds1 ++ ds2))) := rfl
theorem opAdd_ll (h1 : lisOf st x = some ds1) (h2 : lisOf st y = some ds2) : opAdd st x y k = (ds1.length + ds2.length ≤ sizeLine ∧ k (.tl (ds1 ++ ds2))) := by
  unfold opAdd
  cases x <;> first | (cases h1; done) | (cases y <;> first | (cases h2; done) | simp only [h1, h2])
@[simp ↓] theorem opJ_e : opJ C g st (.int i) (.int j) k = (C i j ∧ k (g i j)) := rfl
@[simp ↓] theorem opJ0_e : opJ0 g st (.int i) (.int j) k = k (g i j) := rfl
@[simp ↓] theorem opMul_ii : opMul st (.int i) (.int j) k = (IntMulOk i j ∧ k (.int (i * j))) := rfl
theorem opMul_li (h : lisOf st x = some ds1) : opMul st x (.int j) k = (-(2 ^ 63) ≤ j ∧ j < 2 ^ 63 ∧ ds1.length * j.toNat ≤ sizeLine ∧ k (.tl (List.replicate j.toNat ds1).flatten)) := by
  unfold opMul
  cases x <;> first | (cases h; done) | simp only [h]
@[simp ↓] theorem opCmp_ii {p : Int → Int → Bool} {q : List Nat → List Nat → Bool} : opCmp p q st (.int i) (.int j) k = k (.bl (p i j)) := rfl
@[simp ↓] theorem opCmp_ss {p : Int → Int → Bool} {q : List Nat → List Nat → Bool} : opCmp p q st (.str a) (.str b) k = k (.bl (q a.cps.toList b.cps.toList)) := rfl
@[simp ↓] theorem opEqW_ii {neg : Bool} : opEqW neg st (.int i) (.int j) k = k (.bl (neg ^^ (i == j))) := rfl
@[simp ↓] theorem opEqW_ss {neg : Bool} : opEqW neg st (.str a) (.str b) k = k (.bl (neg ^^ (a == b))) := rfl
@[simp ↓] theorem opIsW_bb {neg : Bool} {p q : Bool} : opIsW neg st (.bl p) (.bl q) k = k (.bl (neg ^^ (p == q))) := rfl
theorem opIx_seq (h : seqOf st x = some ds1) (e : atI ds1 i = some y) : opIx st x (.int i) k = k y := by
  unfold opIx
  cases x <;> first | (cases h; done) | simp only [h, e]
@[simp ↓] theorem opIx_tup (e : atI ds1 i = some y) : opIx st (.tup ds1) (.int i) k = k y := opIx_seq rfl e
@[simp ↓] theorem opIx_fl (e : atI ds1 i = some y) : opIx st (.fl ds1) (.int i) k = k y := opIx_seq rfl e
@[simp ↓] theorem opIx_ref (h : st[n]? = some (.lst ds1)) (e : atI ds1 i = some y) : opIx st (.ref n) (.int i) k = k y := opIx_seq (seqOf_ref h) e
theorem opIx_dic {kvs : List (Key × D)} {q : Key} (h : dicOf st x = some kvs) (hq : keyOf y = some q) (e : valP kvs q = some dv) : opIx st x y k = k dv := by
  have hd : opIxDic st x y k = k dv := by unfold opIxDic; rw [h, hq]; simp only [e]
  have hs : seqOf st x = none := by
    cases x <;> first | rfl | (cases h; done) | skip
    unfold dicOf at h
    unfold seqOf lisOf
    simp only at h ⊢
    split at h
    · rename_i e1; rw [e1]
    · cases h
  unfold opIx
  cases y <;> first | (cases hq; done) | exact hd | skip
  cases x <;> first | (cases h; done) | (simp only [hs]; exact hd)
@[simp ↓] theorem opSet_lst {kk : Sto → Prop} {m : Nat} (h : st[n]? = some (.lst ds1)) (e : ixN ds1.length i = some m) : opSet st (.ref n) (.int i) y kk = kk (st.set n (.lst (ds1.set m y))) := by
  unfold opSet; simp only [h, e]
theorem opSet_dic {kk : Sto → Prop} {kvs : List (Key × D)} {q : Key} (h : st[n]? = some (.dic kvs)) (e : keyOf x = some q) : opSet st (.ref n) x y kk = (kvs.length < sizeLine ∧ kk (st.set n (.dic (putP kvs q y)))) := by
  unfold opSet; simp only [h, e]
@[simp ↓] theorem opTru_b {p : Bool} {kk : Bool → Prop} : opTru st (.bl p) kk = kk p := rfl
@[simp ↓] theorem opTru_i {kk : Bool → Prop} : opTru st (.int i) kk = kk (i != 0) := rfl
@[simp ↓] theorem opTru_n {kk : Bool → Prop} : opTru st .non kk = kk false := rfl
@[simp ↓] theorem opTru_s {kk : Bool → Prop} : opTru st (.str a) kk = (a.length ≤ sizeLine ∧ kk ((a.length : Int) != 0)) := rfl
@[simp ↓] theorem opTru_t {kk : Bool → Prop} : opTru st (.tup ds1) kk = kk (!ds1.isEmpty) := rfl
@[simp ↓] theorem opTru_f {kk : Bool → Prop} : opTru st (.fl ds1) kk = kk (!ds1.isEmpty) := rfl
@[simp ↓] theorem opSl_s {lo hi : Option Int} : opSl st (.str a) lo hi k = (a.length ≤ sizeLine ∧ k (.str (cutS a lo hi))) := rfl
@[simp ↓] theorem opSl_t {lo hi : Option Int} : opSl st (.tup ds1) lo hi k = k (.tup (cutD ds1 lo hi)) := rfl
@[simp ↓] theorem opSl_f {lo hi : Option Int} : opSl st (.fl ds1) lo hi k = k (.tl (cutD ds1 lo hi)) := rfl
/-! ### built-ins -/
@[simp ↓] theorem opAbs_e : opAbs st [.int i] k = k (.int (if i < 0 then -i else i)) := rfl
@[simp ↓] theorem op2I_e {g : Int → Int → Int} : op2I g st [.int i, .int j] k = k (.int (g i j)) := rfl
@[simp ↓] theorem opInt_i : opInt st [.int i] k = k (.int i) := rfl
@[simp ↓] theorem opInt_b {p : Bool} : opInt st [.bl p] k = k (.int (if p then 1 else 0)) := rfl
@[simp ↓] theorem opStrI_e : opStrI st [.int i] k = (i.natAbs.log2 < 1920 ∧ k (.str (toString i))) := rfl
@[simp ↓] theorem opLen_s : opLen st [.str a] k = (a.length ≤ sizeLine ∧ k (.int a.length)) := rfl
theorem opLen_seq (h : seqOf st x = some ds1) : opLen st [x] k = k (.int ds1.length) := by
  unfold opLen
  cases x <;> first | (cases h; done) | simp only [h]
@[simp ↓] theorem opLen_t : opLen st [.tup ds1] k = k (.int ds1.length) := rfl
@[simp ↓] theorem opLen_f : opLen st [.fl ds1] k = k (.int ds1.length) := rfl
@[simp ↓] theorem opLen_r (h : st[n]? = some (.lst ds1)) : opLen st [.ref n] k = k (.int ds1.length) := opLen_seq (seqOf_ref h)
theorem opTuple_l (h : lisOf st x = some ds1) : opTuple st [x] k = k (.tup ds1) := by
  unfold opTuple
  cases x <;> first | (cases h; done) | simp only [h]
@[simp ↓] theorem opTuple_t : opTuple st [.tup ds1] k = k (.tup ds1) := rfl
@[simp ↓] theorem opTuple_f : opTuple st [.fl ds1] k = k (.tup ds1) := rfl
@[simp ↓] theorem opTuple_r (h : st[n]? = some (.lst ds1)) : opTuple st [.ref n] k = k (.tup ds1) := opTuple_l (lisOf_ref h)
theorem opList_l (h : seqOf st x = some ds1) : opList st [x] k = k (.tl ds1) := by
  unfold opList
  simp only [h]
@[simp ↓] theorem opList_t : opList st [.tup ds1] k = k (.tl ds1) := rfl
@[simp ↓] theorem opList_f : opList st [.fl ds1] k = k (.tl ds1) := rfl
@[simp ↓] theorem opList_s : opList st [.sl ds1] k = k (.tl ds1) := rfl
theorem opSum_e {ns : List Int} (h : lisOf st x = some (ns.map .int)) : opSum st [x] k = k (.int ns.sum) := by
  unfold opSum
  simp only [h, Option.bind_some, ints_map]
theorem opAnyAll_e {g : List Bool → Bool} {ns : List Bool} (h : lisOf st x = some (ns.map .bl)) : opAnyAll g st [x] k = k (.bl (g ns)) := by
  unfold opAnyAll
  simp only [h, Option.bind_some, bls_map]
/-! ### methods -/
variable {kk : D → Sto → Prop}
@[simp] theorem tyOk_str : tyOk st "str" (.str a) = True := by simp [tyOk]
theorem tyOk_list (h : st[n]? = some (.lst ds1)) : tyOk st "list" (.ref n) := .inl ⟨rfl, by rw [lisOf_ref h]; rfl⟩
@[simp ↓] theorem opAppend_e (h : st[n]? = some (.lst ds1)) : opAppend st (.ref n) [x] kk = (ds1.length < sizeLine ∧ kk .non (st.set n (.lst (ds1 ++ [x])))) := by
  unfold opAppend onList; simp only [h]
theorem opExtend_e (h : st[n]? = some (.lst ds1)) (h2 : lisOf st x = some ds2) : opExtend st (.ref n) [x] kk = (ds1.length + ds2.length ≤ sizeLine ∧ kk .non (st.set n (.lst (ds1 ++ ds2)))) := by
  unfold opExtend onList; simp only [h, h2]
@[simp ↓] theorem opInsert_e (h : st[n]? = some (.lst ds1)) : opInsert st (.ref n) [.int i, x] kk = (ds1.length < sizeLine ∧ 0 ≤ i ∧ i < 2 ^ 63 ∧ kk .non (st.set n (.lst (ds1.take i.toNat ++ [x] ++ ds1.drop i.toNat)))) := by
  unfold opInsert onList; simp only [h]
@[simp ↓] theorem opS_e {g : Str → List D → (D → Prop) → Prop} : opS g st (.str a) xs kk = g a xs fun z => kk z st := rfl
/-! ### places -/
@[simp] theorem atI_0 : atI xs (0 : Int) = xs[0]? := by unfold atI ixN; cases xs <;> simp
end
theorem atI_lit {α : Type} (xs : List α) (n : Nat) : atI xs (n : Int) = xs[n]? := by
  unfold atI ixN
  by_cases h : n < xs.length
  · simp [h]
  · simp [h, List.getElem?_eq_none (Nat.le_of_not_lt h)]
@[simp] theorem atI_1 {α : Type} {xs : List α} : atI xs (1 : Int) = xs[1]? := atI_lit xs 1
@[simp] theorem atI_2 {α : Type} {xs : List α} : atI xs (2 : Int) = xs[2]? := atI_lit xs 2
@[simp] theorem atI_3 {α : Type} {xs : List α} : atI xs (3 : Int) = xs[3]? := atI_lit xs 3
@[simp] theorem atI_4 {α : Type} {xs : List α} : atI xs (4 : Int) = xs[4]? := atI_lit xs 4
@[simp] theorem atI_5 {α : Type} {xs : List α} : atI xs (5 : Int) = xs[5]? := atI_lit xs 5
theorem ixN_lit (m n : Nat) (h : n < m) : ixN m (n : Int) = some n := by unfold ixN; simp [h]
@[simp] theorem ixN_0 {m : Nat} (h : 0 < m) : ixN m (0 : Int) = some 0 := ixN_lit m 0 h
@[simp] theorem ixN_1 {m : Nat} (h : 1 < m) : ixN m (1 : Int) = some 1 := ixN_lit m 1 h
@[simp] theorem ixN_2 {m : Nat} (h : 2 < m) : ixN m (2 : Int) = some 2 := ixN_lit m 2 h
@[simp] theorem ixN_3 {m : Nat} (h : 3 < m) : ixN m (3 : Int) = some 3 := ixN_lit m 3 h
theorem small_len {n : Nat} (h : n ≤ 1000000) : n ≤ sizeLine := Nat.le_trans h (by decide)
end DW
namespace DW
open PySem L2
/-! ### loops over known items -/
section
variable {ok : Sto → Prop} {vs : List Nat} {tg : Tg} {dt : DT} {bx : Bool} {de dk : DE} {env : Slots} {Q : D → Sto → Prop} {st : Sto} {α : Type}
/-- a comprehension whose turns leave the store as it is: p tells what a turn gives -/
theorem lcN_fm (e : α → D) (p : α → Option D) (hok : ok st) : ∀ (items : List α) (acc : List D), acc.length + items.length ≤ sizeLine →
    (∀ a ∈ items, ∀ (kt : D → Sto → Prop) (kf : Sto → Prop), (match p a with | some y => kt y st | none => kf st) → match tgSet st tg (e a) (wipeD env vs) with
      | some env' => dt noEd env' st fun b st1 => if b = true then de noEd env' st1 fun y st2 => kt (keep bx st2 y).1 (keep bx st2 y).2 else kf st1
      | none => False) →
    Q (.tl (acc ++ items.filterMap p)) st → lcN ok vs tg dt bx de env Q (items.map e) acc st
  | [], acc, _, _, h => ⟨hok, by simpa using h⟩
  | a :: items, acc, hl, hs, h => by
    rw [List.length_cons] at hl
    refine ⟨hok, hs a List.mem_cons_self (fun y' st' => acc.length < sizeLine ∧ lcN ok vs tg dt bx de env Q (items.map e) (acc ++ [y']) st') (fun st' => lcN ok vs tg dt bx de env Q (items.map e) acc st') ?_⟩
    rw [List.filterMap_cons] at h
    cases hp : p a with
    | none =>
      rw [hp] at h
      exact lcN_fm e p hok items acc (by omega) (fun b hb => hs b (List.mem_cons_of_mem _ hb)) h
    | some y =>
      rw [hp] at h
      refine ⟨by omega, lcN_fm e p hok items (acc ++ [y]) (by simp; omega) (fun b hb => hs b (List.mem_cons_of_mem _ hb)) ?_⟩
      rw [List.append_assoc]
      exact h
/-- .. without a test -/
theorem lcN_map (e : α → D) (p : α → D) (hok : ok st) (items : List α) (hl : items.length ≤ sizeLine)
    (hs : ∀ a ∈ items, ∀ (kt : D → Sto → Prop), kt (p a) st → match tgSet st tg (e a) (wipeD env vs) with
      | some env' => de noEd env' st fun y st2 => kt (keep bx st2 y).1 (keep bx st2 y).2
      | none => False) (h : Q (.tl (items.map p)) st) : lcN ok vs tg dYes bx de env Q (items.map e) [] st := by
  refine lcN_fm e (fun a => some (p a)) hok items [] (by simpa using hl) (fun a ha kt kf hk => ?_) (by simpa [List.filterMap_eq_map] using h)
  have := hs a ha kt hk
  revert this
  cases tgSet st tg (e a) (wipeD env vs) with
  | none => exact fun z => z.elim
  | some env' => exact fun z => z
end
theorem stays_app {st : Sto} {x : D} {ds : List D} (h : seqOf st x = some ds) (a b : Sto) : stays (st ++ a) x (st ++ b) := by
  cases x <;> first | trivial | skip
  rename_i n
  unfold seqOf lisOf at h
  simp only at h
  show (st ++ b)[n]? = (st ++ a)[n]?
  have hn : n < st.length := by
    split at h
    · rename_i e; exact (List.getElem?_eq_some_iff.mp e).1
    · cases h
  rw [List.getElem?_append_left hn, List.getElem?_append_left hn]
theorem seqOf_app {st : Sto} {x : D} {ds : List D} (h : seqOf st x = some ds) (a : Sto) : seqOf (st ++ a) x = some ds := by
  cases x <;> first | exact h | skip
  rename_i n
  unfold seqOf lisOf at h ⊢
  simp only at h ⊢
  have hn : n < st.length := by
    split at h
    · rename_i e; exact (List.getElem?_eq_some_iff.mp e).1
    · cases h
  rw [List.getElem?_append_left hn]
  exact h
theorem items_seq {st : Sto} {x : D} {ds : List D} (h : seqOf st x = some ds) : itemsOf st x = some ds := by
  cases x <;> first | exact h | cases h
theorem opSorted_dic {st : Sto} {x : D} {kvs : List (Key × D)} {zs : List Str} {k : D → Prop} (h : dicOf st x = some kvs) (e : strKeys? (kvs.map (·.1)) = some zs) :
    opSorted st [x] k = (zs.length < 64 ∧ ∀ ys : List Str, ys.Perm zs → PyProof.Rows.sortedS ys = true → k (.tl (ys.map D.str))) := by
  have hl : lisOf st x = none := by
    cases x <;> first | rfl | (cases h; done) | skip
    unfold dicOf at h
    unfold lisOf
    simp only at h ⊢
    split at h
    · rename_i e1; rw [e1]
    · cases h
  unfold opSorted
  simp only [hl, h, e]
end DW

/-! DW13: loops with an invariant, more rules of reckoning. -/
namespace DW
open PySem L2
section
variable {α : Type} {ok : Sto → Prop} {vs : List Nat} {tg : Tg} {b : DS} {dt : DT} {bx : Bool} {dk de : DE} {env : Slots} {Q : D → Sto → Prop} {st : Sto} {Ed : EdT} {De : DEnds}
/-- a for loop with an invariant: what is done, what is left -/
theorem forN_inv' (e : α → D) (I : List α → Slots → Sto → Prop) (items : List α) (hok : ∀ done env st, I done env st → ok st)
    (hs : ∀ done a rest, items = done ++ a :: rest → ∀ env st, I done env st → ∃ env', tgSet st tg (e a) env = some env' ∧ ∀ nx : Slots → Sto → Prop, (∀ e s, I (done ++ [a]) e s → nx e s) → b Ed { nx := nx, ct := nx, bk := De.nx, rt := De.rt } env' st)
    (he : ∀ env st, I items env st → De.nx env st) : ∀ (done rest : List α), items = done ++ rest → ∀ env st, I done env st → forN ok tg b Ed De (rest.map e) env st
  | done, [], hi, env, st, h => ⟨hok _ _ _ h, he _ _ (by rw [hi, List.append_nil]; exact h)⟩
  | done, a :: rest, hi, env, st, h => by
    refine ⟨hok _ _ _ h, ?_⟩
    obtain ⟨env', e1, h1⟩ := hs done a rest hi env st h
    rw [e1]
    exact h1 _ fun e2 s2 h2 => forN_inv' e I items hok hs he (done ++ [a]) rest (by rw [hi, List.append_assoc]; rfl) e2 s2 h2
theorem forN_inv (e : α → D) (I : List α → Slots → Sto → Prop) (items : List α) (h0 : I [] env st) (hok : ∀ done env st, I done env st → ok st)
    (hs : ∀ done a rest, items = done ++ a :: rest → ∀ env st, I done env st → ∃ env', tgSet st tg (e a) env = some env' ∧ ∀ nx : Slots → Sto → Prop, (∀ e s, I (done ++ [a]) e s → nx e s) → b Ed { nx := nx, ct := nx, bk := De.nx, rt := De.rt } env' st)
    (he : ∀ env st, I items env st → De.nx env st) : forN ok tg b Ed De (items.map e) env st := forN_inv' e I items hok hs he [] items rfl env st h0
/-- a comprehension with an invariant on the store and on what it has gathered -/
theorem lcN_inv' (e : α → D) (I : List α → List D → Sto → Prop) (items : List α) (hl : items.length ≤ sizeLine) (hok : ∀ done acc st, I done acc st → ok st)
    (hs : ∀ done a rest, items = done ++ a :: rest → ∀ acc st, I done acc st → ∃ env', tgSet st tg (e a) (wipeD env vs) = some env' ∧ ∀ kt : D → Sto → Prop, (∀ y s, I (done ++ [a]) (acc ++ [y]) s → kt y s) → de noEd env' st fun y st2 => kt (keep bx st2 y).1 (keep bx st2 y).2)
    (he : ∀ acc st, I items acc st → Q (.tl acc) st) : ∀ (done rest : List α), items = done ++ rest → ∀ acc st, acc.length = done.length → I done acc st → lcN ok vs tg dYes bx de env Q (rest.map e) acc st
  | done, [], hi, acc, st, _, h => ⟨hok _ _ _ h, he _ _ (by rw [hi, List.append_nil]; exact h)⟩
  | done, a :: rest, hi, acc, st, hlen, h => by
    refine ⟨hok _ _ _ h, ?_⟩
    obtain ⟨env', e1, h1⟩ := hs done a rest hi acc st h
    rw [e1]
    show de noEd env' st _
    refine h1 (fun y' st' => acc.length < sizeLine ∧ lcN ok vs tg dYes bx de env Q (rest.map e) (acc ++ [y']) st') fun y2 s2 h2 => ⟨?_, lcN_inv' e I items hl hok hs he (done ++ [a]) rest (by rw [hi, List.append_assoc]; rfl) (acc ++ [y2]) s2 (by simp [hlen]) h2⟩
    rw [hi, List.length_append, List.length_cons] at hl
    omega
theorem lcN_inv (e : α → D) (I : List α → List D → Sto → Prop) (items : List α) (hl : items.length ≤ sizeLine) (h0 : I [] [] st) (hok : ∀ done acc st, I done acc st → ok st)
    (hs : ∀ done a rest, items = done ++ a :: rest → ∀ acc st, I done acc st → ∃ env', tgSet st tg (e a) (wipeD env vs) = some env' ∧ ∀ kt : D → Sto → Prop, (∀ y s, I (done ++ [a]) (acc ++ [y]) s → kt y s) → de noEd env' st fun y st2 => kt (keep bx st2 y).1 (keep bx st2 y).2)
    (he : ∀ acc st, I items acc st → Q (.tl acc) st) : lcN ok vs tg dYes bx de env Q (items.map e) [] st := lcN_inv' e I items hl hok hs he [] items rfl [] st rfl h0
theorem putP_len {β γ : Type} [DecidableEq β] (kvs : List (β × γ)) (k : β) (y : γ) : (putP kvs k y).length ≤ kvs.length + 1 := by
  unfold putP
  split <;> simp
/-- a dict comprehension with an invariant -/
theorem dcN_inv' (e : α → D) (I : List α → List (Key × D) → Sto → Prop) (items : List α) (hl : items.length ≤ sizeLine) (hok : ∀ done acc st, I done acc st → ok st)
    (hs : ∀ done a rest, items = done ++ a :: rest → ∀ acc st, I done acc st → ∃ env', tgSet st tg (e a) (wipeD env vs) = some env' ∧ ∀ kt : D → D → Sto → Prop, (∀ q kk y s, keyOf q = some kk → I (done ++ [a]) (putP acc kk y) s → kt q y s) → dk noEd env' st fun q st2 => de noEd env' st2 fun y st3 => kt q (keep bx st3 y).1 (keep bx st3 y).2)
    (he : ∀ acc st, I items acc st → Q (.td (acc.map (·.1)) (acc.map (·.2))) st) : ∀ (done rest : List α), items = done ++ rest → ∀ acc st, acc.length ≤ done.length → I done acc st → dcN ok vs tg dYes bx dk de env Q (rest.map e) acc st
  | done, [], hi, acc, st, _, h => ⟨hok _ _ _ h, he _ _ (by rw [hi, List.append_nil]; exact h)⟩
  | done, a :: rest, hi, acc, st, hlen, h => by
    refine ⟨hok _ _ _ h, ?_⟩
    obtain ⟨env', e1, h1⟩ := hs done a rest hi acc st h
    rw [e1]
    show dk noEd env' st _
    refine h1 (fun q y' st' => match keyOf q with
      | some kk => acc.length < sizeLine ∧ dcN ok vs tg dYes bx dk de env Q (rest.map e) (putP acc kk y') st'
      | none => False) fun q kk y2 s2 hq h2 => ?_
    simp only [hq]
    refine ⟨?_, dcN_inv' e I items hl hok hs he (done ++ [a]) rest (by rw [hi, List.append_assoc]; rfl) _ s2 ?_ h2⟩
    · rw [hi, List.length_append, List.length_cons] at hl
      omega
    · have := putP_len acc kk y2
      simp
      omega
theorem dcN_inv (e : α → D) (I : List α → List (Key × D) → Sto → Prop) (items : List α) (hl : items.length ≤ sizeLine) (h0 : I [] [] st) (hok : ∀ done acc st, I done acc st → ok st)
    (hs : ∀ done a rest, items = done ++ a :: rest → ∀ acc st, I done acc st → ∃ env', tgSet st tg (e a) (wipeD env vs) = some env' ∧ ∀ kt : D → D → Sto → Prop, (∀ q kk y s, keyOf q = some kk → I (done ++ [a]) (putP acc kk y) s → kt q y s) → dk noEd env' st fun q st2 => de noEd env' st2 fun y st3 => kt q (keep bx st3 y).1 (keep bx st3 y).2)
    (he : ∀ acc st, I items acc st → Q (.td (acc.map (·.1)) (acc.map (·.2))) st) : dcN ok vs tg dYes bx dk de env Q (items.map e) [] st := dcN_inv' e I items hl hok hs he [] items rfl [] st (Nat.le_refl _) h0
end
/-! ### more rules -/
section
variable {t u : DS} {Ed : EdT} {De : DEnds} {env : Slots} {st : Sto} {Q : D → Sto → Prop} {da db de dx dd dk : DE} {dt dt' : DT} {ds : DA} {i j : Int} {n : Nat} {x y : D} {xs : List D} {k : D → Prop}
@[simp ↓] theorem dDGet2_e : dDGet2 dd dk dx Ed env st Q = dd Ed env st fun x st1 => (dicOf st1 (frz x)).isSome = true ∧ dk Ed env st1 fun y st2 => dx Ed env st2 fun z st3 => match dicOf st3 (frz x), keyOf y with
  | some kvs, some q => Q ((valP kvs q).getD (frz z)) st3
  | _, _ => False := rfl
@[simp] theorem dicOf_refS (h : st[n]? = some (.dic kvs)) : dicOf st (.ref n) = some kvs := dicOf_ref h
@[simp] theorem keyOf_s {a : Str} : keyOf (.str a) = some (.inr a) := rfl
@[simp] theorem keyOf_i {i : Int} : keyOf (.int i) = some (.inl i) := rfl
theorem frz_seq {ds : List D} (h : seqOf st x = some ds) : frz x = x := by cases x <;> first | rfl | cases h
@[simp] theorem tgSet_nm : tgSet st (.nm n) x env = some (env.set n (some x)) := rfl
@[simp] theorem tgSet_tp {ts : List Tg} {ds : List D} : tgSet st (.tp ts) (.tup ds) env = tgsSet st ts ds env := rfl
@[simp] theorem tgsSet_nil : tgsSet st [] [] env = some env := rfl
@[simp] theorem tgsSet_cons {t : Tg} {ts : List Tg} {d : D} {ds : List D} : tgsSet st (t :: ts) (d :: ds) env = match tgSet st t d env with
  | some env' => tgsSet st ts ds env'
  | none => none := rfl
theorem last_get (st : Sto) (a : MO) : (st ++ [a])[st.length]? = some a := by simp
theorem last_set (st : Sto) (a b : MO) : (st ++ [a]).set st.length b = st ++ [b] := by simp
@[simp] theorem dic_last {kvs : List (Key × D)} : dicOf (st ++ [.dic kvs]) (.ref st.length) = some kvs := dicOf_ref (last_get _ _)
@[simp] theorem lis_last {ds : List D} : lisOf (st ++ [.lst ds]) (.ref st.length) = some ds := lisOf_ref (last_get _ _)
@[simp] theorem seq_last {ds : List D} : seqOf (st ++ [.lst ds]) (.ref st.length) = some ds := seqOf_ref (last_get _ _)
@[simp ↓] theorem opSet_dicS {kk : Sto → Prop} {kvs : List (Key × D)} {a : Str} (h : st[n]? = some (.dic kvs)) : opSet st (.ref n) (.str a) y kk = (kvs.length < sizeLine ∧ kk (st.set n (.dic (putP kvs (.inr a) y)))) := opSet_dic h rfl
@[simp ↓] theorem opIx_refS {kvs : List (Key × D)} {a : Str} {dv : D} (h : st[n]? = some (.dic kvs)) (e : valP kvs (.inr a) = some dv) : opIx st (.ref n) (.str a) k = k dv := opIx_dic (dicOf_ref h) rfl e
end
theorem len_size {n : Nat} (h : n ≤ 1000000) : n ≤ sizeLine := Nat.le_trans h (by decide)
theorem len_lt {n : Nat} (h : n ≤ 1000000) : n < sizeLine := Nat.lt_of_le_of_lt h (by decide)
theorem cls_iff {m : Nat} : ∀ {ds : List D}, cls m ds = true ↔ ∀ d ∈ ds, cl m d = true
  | [] => by simp [cls]
  | d :: ds => by simp [cls, cls_iff (ds := ds)]
mutual
theorem cl_mono {m m' : Nat} (h : m ≤ m') : ∀ d : D, cl m d = true → cl m' d = true
  | .non, _ => rfl
  | .bl _, _ => rfl
  | .int _, _ => rfl
  | .str _, _ => rfl
  | .con _, _ => rfl
  | .ty _, _ => rfl
  | .ref n, e => by simp only [cl, decide_eq_true_eq] at e ⊢; omega
  | .tup ds, e => cls_mono h ds e
  | .fl ds, e => cls_mono h ds e
  | .sl ds, e => cls_mono h ds e
  | .tl ds, e => cls_mono h ds e
  | .fd _ ds, e => cls_mono h ds e
  | .td _ ds, e => cls_mono h ds e
theorem cls_mono {m m' : Nat} (h : m ≤ m') : ∀ ds : List D, cls m ds = true → cls m' ds = true
  | [], _ => rfl
  | d :: ds, e => by
    simp only [cls, Bool.and_eq_true] at e ⊢
    exact ⟨cl_mono h d e.1, cls_mono h ds e.2⟩
end
theorem opIsi_e {st : Sto} {x : D} {t c : String} {k : D → Prop} (h : typN st x = some t) (hc : c ∈ ["int", "bool", "str", "tuple", "list"]) : opIsi st [x, .ty c] k = k (.bl (isiB t c)) := by
  unfold opIsi
  simp only [h, hc, true_and]
theorem typN_frz {st : Sto} {x : D} {t : String} (h : typN st x = some t) : typN st (frz x) = some t := by
  cases x <;> first | exact h | (cases h; done)
theorem lg_small {m : Int} (h : 0 < m) (h2 : m < 2 ^ 64) : m.natAbs.log2 < 9000 := by
  have h3 : m.natAbs ≠ 0 := by omega
  have : m.natAbs.log2 < 64 := (Nat.log2_lt h3).mpr (by omega)
  omega
end DW

/-! DW14: the head's end. -/
namespace DW
open PySem PySem.Spec PyProof.Rows L2
/-- the def st stands at the top under x -/
def DefOk (K : PySem.W.Frag) (mg : Str → Option Value) (x : Str) (st : Stmt) : Prop := ∃ f fd, Fun K x x st f fd ∧ mg x = some (.ref f)
theorem def_mk {K : PySem.W.Frag} {h : Heap} {mg : Str → Option Value} (X : K.In h) (G : h.Ns mainGlobals mg) {x : Str} {st : Stmt} {f : Addr} {oc : Value} {od an : Option Addr} {osl : Array (Option Value)} {kV doc pm cdv ct : Value}
    (a : PySem.W.nsIn K mainGlobals x = some (some (.ref f))) (l : K.lookup f = some ⟨oc, od, .func (PySem.W.fnOf x x (defArgs st) (defBody st) (defScope st) .none kV doc pm an cdv ct), osl⟩)
    (c : PySem.W.codeIn K cdv x = true) (k : PySem.W.keepIn K (.ref f) = true) : DefOk K mg x st := ⟨f, _, fun_mk l c k, PySem.W.mg_of X G a⟩
theorem binds_one {K : PySem.W.Frag} {x : Str} {st : Stmt} {f : Addr} {fd : FuncData} {p : Str} (F : Fun K x x st f fd)
    (h : ∀ (kV doc pm : Value) (an : Option Addr) (cdv ct u : Value), bindArgs (PySem.W.fnOf x x (defArgs st) (defBody st) (defScope st) .none kV doc pm an cdv ct) ⟨[u], []⟩ = pure [(p, u)]) : ∀ (s : Shared) (u : Value), BindsTo s fd ⟨[u], []⟩ [(p, u)] := by
  obtain ⟨oc, od, kV, doc, pm, an, cdv, ct, osl, rfl, lk, hcd⟩ := F.ex
  exact fun s u => .of_eq (h ..)
theorem ints_reps {K : PySem.W.Frag} {Fr : Hp} {f : List Addr} : ∀ ns : List Int, Reps K Fr f (ns.map .int) (ns.map V.int)
  | [] => rfl
  | n :: ns => ⟨_, _, rfl, rfl, ints_reps ns⟩
/-- the script, as the judge hands it -/
theorem head_sp {K : PySem.W.Frag} {dsp : DSp} {H : Hp} {a : Addr} {ns : List Int} (hS : SqL K H a (ns.map V.int)) (h : dsp [.sl (ns.map .int)] [] (fun _ _ => False) fun x _ => x = .bl true) :
    liftSp K dsp [.ref a] H (fun v _ => v = .bl true) fun _ _ _ => False := by
  refine ⟨fun _ => none, H, [], [], [.sl (ns.map .int)], fun _ _ => False, fun x _ => x = .bl true, ⟨fun _ _ h => h, (fun _ _ h => by cases h), (fun _ _ h => by cases h), (fun _ _ h => by cases h), List.nodup_nil, rfl, (fun _ h => by cases h), (fun n m a h => by simp at h)⟩, ⟨_, _, rfl, ⟨a, _, rfl, hS, ints_reps ns⟩, rfl⟩, h, fun x st' e v Fr' f' H' _ _ _ r => ?_, fun _ _ h => h.elim⟩
  subst e
  exact r
theorem cx_no {P : Program} {w : World} {H : Hp} {s : Shared} {e : Value} {s' : Shared} (h : L2.CX P w [] H s (fun _ _ _ => False) e s') : False := by
  obtain ⟨_, _, _, _, _, _, _, _, _, _, _, _, hE⟩ := h
  exact hE
theorem const_int {K : PySem.W.Frag} {h : Heap} {mg : Str → Option Value} (X : K.In h) (G : h.Ns mainGlobals mg) {x : Str} {i : Int} {t : Tok} (a : PySem.W.nsIn K mainGlobals x = some (some (.int i t))) : ConstOf K mg x (.int i) := .int (PySem.W.mg_of X G a)
theorem const_str {K : PySem.W.Frag} {h : Heap} {mg : Str → Option Value} (X : K.In h) (G : h.Ns mainGlobals mg) {x : Str} {i : Str} {t : Tok} (a : PySem.W.nsIn K mainGlobals x = some (some (.str i t))) : ConstOf K mg x (.str i) := .str (PySem.W.mg_of X G a)
theorem const_ref {K : PySem.W.Frag} {h : Heap} {mg : Str → Option Value} (X : K.In h) (G : h.Ns mainGlobals mg) {x : Str} {d : D} {b : Addr} (a : PySem.W.nsIn K mainGlobals x = some (some (.ref b))) (r : ∀ Fr f, Rep K Fr f d (.ref b)) : ConstOf K mg x d := .ref (PySem.W.mg_of X G a) r
end DW

/-! K65M: forms, plain. -/
namespace FormM
open PySem L2 DW

/-! ### tables -/
section
variable {κ α : Type} [DecidableEq κ]
theorem valP_cons (p : κ × α) (r : List (κ × α)) (k : κ) : valP (p :: r) k = if p.1 = k then some p.2 else valP r k := by
  unfold valP
  by_cases e : p.1 = k
  · simp [List.find?_cons, e]
  · simp [List.find?_cons, e]
theorem any_iff (kvs : List (κ × α)) (k : κ) : (kvs.any fun kv => decide (kv.1 = k)) = (valP kvs k).isSome := by
  induction kvs with
  | nil => rfl
  | cons p r ih =>
    rw [valP_cons, List.any_cons, ih]
    by_cases e : p.1 = k <;> simp [e]
theorem valP_map (kvs : List (κ × α)) (k j : κ) (y : α) : valP (kvs.map fun kv => if kv.1 = k then (kv.1, y) else kv) j = (valP kvs j).map fun x => if j = k then y else x := by
  induction kvs with
  | nil => rfl
  | cons p r ih =>
    rw [List.map_cons, valP_cons, valP_cons, ih]
    by_cases e2 : p.1 = j
    · subst e2
      by_cases e : p.1 = k
      · rw [if_pos e, if_pos rfl, if_pos rfl, Option.map_some, if_pos e]
      · rw [if_neg e, if_pos rfl, if_pos rfl, Option.map_some, if_neg e]
    · rw [if_neg e2]
      by_cases e : p.1 = k
      · rw [if_pos e, if_neg e2]
      · rw [if_neg e, if_neg e2]
theorem valP_append (a b : List (κ × α)) (j : κ) : valP (a ++ b) j = (valP a j).or (valP b j) := by
  induction a with
  | nil => simp [valP]
  | cons p r ih =>
    rw [List.cons_append, valP_cons, valP_cons, ih]
    by_cases e : p.1 = j <;> simp [e]
theorem valP_put (kvs : List (κ × α)) (k j : κ) (y : α) : valP (putP kvs k y) j = if j = k then some y else valP kvs j := by
  unfold putP
  rw [any_iff]
  split
  · rename_i h
    rw [valP_map]
    by_cases e : j = k
    · subst e
      obtain ⟨x, hx⟩ := Option.isSome_iff_exists.mp h
      simp [hx]
    · cases valP kvs j <;> simp [e]
  · rename_i h
    rw [valP_append]
    have hn : valP kvs k = none := by simpa using h
    by_cases e : j = k
    · subst e
      rw [hn]
      simp [valP]
    · have : valP [(k, y)] j = none := by
        rw [valP_cons]
        simp [Ne.symm e, valP]
      rw [this]
      simp [e]
theorem keys_put (kvs : List (κ × α)) (k : κ) (y : α) : (putP kvs k y).map (·.1) = if k ∈ kvs.map (·.1) then kvs.map (·.1) else kvs.map (·.1) ++ [k] := by
  unfold putP
  have h : (kvs.any fun kv => decide (kv.1 = k)) = decide (k ∈ kvs.map (·.1)) := by
    induction kvs with
    | nil => rfl
    | cons p r ih =>
      rw [List.any_cons, ih, List.map_cons]
      by_cases e : p.1 = k
      · have m : k ∈ p.1 :: r.map (·.1) := by rw [e]; exact List.mem_cons_self
        rw [decide_eq_true e, Bool.true_or]
        exact (decide_eq_true m).symm
      · rw [decide_eq_false e, Bool.false_or]
        by_cases m : k ∈ r.map (·.1)
        · rw [decide_eq_true m]
          exact (decide_eq_true (List.mem_cons_of_mem _ m)).symm
        · rw [decide_eq_false m]
          exact (decide_eq_false (fun z => (List.mem_cons.mp z).elim (fun q => e q.symm) m)).symm
  rw [h]
  by_cases e : k ∈ kvs.map (·.1)
  · rw [if_pos (decide_eq_true e), if_pos e, List.map_map]
    refine List.map_congr_left fun p _ => ?_
    show (if p.1 = k then (p.1, y) else p).1 = p.1
    split <;> rfl
  · rw [if_neg (by simpa using e), if_neg e, List.map_append]
    rfl
theorem nodup_put {kvs : List (κ × α)} (h : (kvs.map (·.1)).Nodup) (k : κ) (y : α) : ((putP kvs k y).map (·.1)).Nodup := by
  rw [keys_put]
  split
  · exact h
  · rename_i hk
    rw [List.nodup_append]
    refine ⟨h, by simp, fun a ha b hb => ?_⟩
    have : b = k := by simpa using hb
    subst this
    intro z; subst z; exact hk ha
theorem valP_mem {kvs : List (κ × α)} {k : κ} {y : α} (h : valP kvs k = some y) : (k, y) ∈ kvs := by
  induction kvs with
  | nil => simp [valP] at h
  | cons p r ih =>
    rw [valP_cons] at h
    by_cases e : p.1 = k
    · rw [if_pos e] at h
      cases h
      subst e
      exact List.mem_cons_self
    · rw [if_neg e] at h
      exact List.mem_cons_of_mem _ (ih h)
theorem valP_of_mem {kvs : List (κ × α)} (hn : (kvs.map (·.1)).Nodup) {k : κ} {y : α} (h : (k, y) ∈ kvs) : valP kvs k = some y := by
  induction kvs with
  | nil => cases h
  | cons p r ih =>
    rw [valP_cons]
    rw [List.map_cons, List.nodup_cons] at hn
    rcases List.mem_cons.mp h with e | h
    · subst e; simp
    · have : p.1 ≠ k := fun e => hn.1 (by rw [e]; exact List.mem_map.mpr ⟨_, h, rfl⟩)
      rw [if_neg this]
      exact ih hn.2 h
theorem valP_some_iff {kvs : List (κ × α)} {k : κ} : (valP kvs k).isSome = true ↔ k ∈ kvs.map (·.1) := by
  rw [← any_iff]
  simp [List.any_eq_true]
theorem length_put (kvs : List (κ × α)) (k : κ) (y : α) : (putP kvs k y).length ≤ kvs.length + 1 := by
  have := congrArg List.length (keys_put kvs k y)
  rw [List.length_map] at this
  rw [this]
  split <;> simp
end

/-! ### terms -/
abbrev Terms := List (Str × Int)
/-- the coefficient of a name in a list of pairs -/
def coef (ts : Terms) (n : Str) : Int := ((ts.filter fun p => decide (p.1 = n)).map (·.2)).sum
@[simp] theorem coef_nil (n : Str) : coef [] n = 0 := rfl
theorem coef_cons (p : Str × Int) (ts : Terms) (n : Str) : coef (p :: ts) n = (if p.1 = n then p.2 else 0) + coef ts n := by
  unfold coef
  by_cases e : p.1 = n
  · rw [List.filter_cons_of_pos (by simpa using e), if_pos e]; simp
  · rw [List.filter_cons_of_neg (by simpa using e), if_neg e]; simp
theorem coef_append (a b : Terms) (n : Str) : coef (a ++ b) n = coef a n + coef b n := by
  induction a with
  | nil => simp
  | cons p a ih => rw [List.cons_append, coef_cons, coef_cons, ih]; omega
theorem coef_perm {a b : Terms} (h : a.Perm b) (n : Str) : coef a n = coef b n := by
  induction h with
  | nil => rfl
  | cons x _ ih => rw [coef_cons, coef_cons, ih]
  | swap x y l => rw [coef_cons, coef_cons, coef_cons, coef_cons]; omega
  | trans _ _ h1 h2 => exact h1.trans h2
theorem coef_mul (k : Int) (ts : Terms) (n : Str) : coef (ts.map fun p => (p.1, k * p.2)) n = k * coef ts n := by
  induction ts with
  | nil => simp
  | cons p a ih =>
    rw [List.map_cons, coef_cons, coef_cons, ih, Int.mul_add]
    by_cases e : p.1 = n <;> simp [e]
theorem coef_none {ts : Terms} {n : Str} (h : n ∉ ts.map (·.1)) : coef ts n = 0 := by
  induction ts with
  | nil => rfl
  | cons p a ih =>
    simp only [List.map_cons, List.mem_cons, not_or] at h
    rw [coef_cons, if_neg (Ne.symm h.1), ih h.2]
    rfl
theorem coef_mem {ts : Terms} (hn : (ts.map (·.1)).Nodup) {n : Str} {k : Int} (h : (n, k) ∈ ts) : coef ts n = k := by
  induction ts with
  | nil => cases h
  | cons p a ih =>
    rw [List.map_cons, List.nodup_cons] at hn
    rw [coef_cons]
    rcases List.mem_cons.mp h with e | h
    · subst e
      rw [if_pos rfl, coef_none hn.1]
      simp
    · have : p.1 ≠ n := fun e => hn.1 (by rw [e]; exact List.mem_map.mpr ⟨_, h, rfl⟩)
      rw [if_neg this, ih hn.2 h]
      simp
/-- below by code points -/
def sLt (a b : Str) : Prop := a.cps.toList < b.cps.toList
theorem sLt.trans {a b c : Str} (h1 : sLt a b) (h2 : sLt b c) : sLt a c := List.lt_trans h1 h2
theorem sLt.irrefl (a : Str) : ¬ sLt a a := List.lt_irrefl _
theorem sLt.ne {a b : Str} (h : sLt a b) : a ≠ b := fun e => by subst e; exact sLt.irrefl _ h
theorem sLt.asymm {a b : Str} (h : sLt a b) : ¬ sLt b a := fun h' => sLt.irrefl _ (h.trans h')
theorem sLt.tri {a b : Str} (h : ¬ sLt a b) (h' : ¬ sLt b a) : a = b := by
  have e : a.cps.toList = b.cps.toList := List.le_antisymm (List.not_lt.mp h') (List.not_lt.mp h)
  cases a; cases b
  simp only at e
  congr 1
  exact Array.toList_inj.mp e
/-- ts is the list of terms with the coefficients g: names ascending, no nought -/
structure Nf (ts : Terms) (g : Str → Int) : Prop where
  srt : ts.Pairwise fun a b => sLt a.1 b.1
  nz : ∀ p ∈ ts, p.2 ≠ 0
  co : ∀ n, coef ts n = g n
theorem Nf.nodup {ts : Terms} {g : Str → Int} (h : Nf ts g) : (ts.map (·.1)).Nodup := by
  rw [List.Nodup, List.pairwise_map]
  exact h.srt.imp fun q => q.ne
theorem Nf.at {ts : Terms} {g : Str → Int} (h : Nf ts g) {p : Str × Int} (hp : p ∈ ts) : p.2 = g p.1 := by
  rw [← h.co, coef_mem h.nodup hp]
theorem Nf.cong {ts : Terms} {g g' : Str → Int} (h : Nf ts g) (e : ∀ n, g n = g' n) : Nf ts g' := ⟨h.srt, h.nz, fun n => (h.co n).trans (e n)⟩
theorem Nf.self {ts : Terms} {g : Str → Int} (h : Nf ts g) : Nf ts (coef ts) := ⟨h.srt, h.nz, fun _ => rfl⟩
theorem Nf.mem_iff {ts : Terms} {g : Str → Int} (h : Nf ts g) {n : Str} {k : Int} : (n, k) ∈ ts ↔ k = g n ∧ k ≠ 0 := by
  refine ⟨fun hp => ⟨h.at hp, h.nz _ hp⟩, fun ⟨e, hk⟩ => ?_⟩
  have hc : coef ts n ≠ 0 := by rw [h.co, ← e]; exact hk
  have hm : n ∈ ts.map (·.1) := Classical.byContradiction fun z => hc (coef_none z)
  obtain ⟨p, hp, rfl⟩ := List.mem_map.mp hm
  have := h.at hp
  rw [← e] at this
  rw [← this]
  exact hp
theorem Nf.unique : ∀ {ts us : Terms} {g : Str → Int}, Nf ts g → Nf us g → ts = us := by
  intro ts us g h h'
  have hm : ∀ p, p ∈ ts ↔ p ∈ us := fun p => by
    obtain ⟨n, k⟩ := p
    rw [h.mem_iff, h'.mem_iff]
  have key : ∀ {ts us : Terms}, ts.Pairwise (fun a b => sLt a.1 b.1) → us.Pairwise (fun a b => sLt a.1 b.1) → (∀ p, p ∈ ts ↔ p ∈ us) → ts = us := by
    intro ts
    induction ts with
    | nil =>
      intro us _ _ hm
      cases us with
      | nil => rfl
      | cons p us => exact absurd ((hm p).mpr List.mem_cons_self) (by simp)
    | cons p ts ih =>
      intro us h1 h2 hm
      cases us with
      | nil => exact absurd ((hm p).mp List.mem_cons_self) (by simp)
      | cons q us =>
        rw [List.pairwise_cons] at h1 h2
        have e : p = q := by
          rcases List.mem_cons.mp ((hm p).mp List.mem_cons_self) with e | hp
          · exact e
          · rcases List.mem_cons.mp ((hm q).mpr List.mem_cons_self) with e | hq
            · exact e.symm
            · exact absurd (h2.1 p hp) (h1.1 q hq).asymm
        subst e
        congr 1
        refine ih h1.2 h2.2 fun r => ⟨fun hr => ?_, fun hr => ?_⟩
        · rcases List.mem_cons.mp ((hm r).mp (List.mem_cons_of_mem _ hr)) with e | h
          · subst e; exact absurd (h1.1 r hr) (sLt.irrefl _)
          · exact h
        · rcases List.mem_cons.mp ((hm r).mpr (List.mem_cons_of_mem _ hr)) with e | h
          · subst e; exact absurd (h2.1 r hr) (sLt.irrefl _)
          · exact h
  exact key h.srt h'.srt hm
/-! ### the sums -/
def addT (acc : Terms) (p : Str × Int) : Terms := putP acc p.1 ((valP acc p.1).getD 0 + p.2)
def sums (acc ps : Terms) : Terms := ps.foldl addT acc
theorem sums_val (ps : Terms) : ∀ (acc : Terms) (n : Str), (valP (sums acc ps) n).getD 0 = (valP acc n).getD 0 + coef ps n := by
  induction ps with
  | nil => intro acc n; simp [sums]
  | cons p ps ih =>
    intro acc n
    have h := ih (addT acc p) n
    show (valP (sums (addT acc p) ps) n).getD 0 = _
    rw [h, coef_cons]
    unfold addT
    rw [valP_put]
    by_cases e : n = p.1
    · subst e; simp; omega
    · simp [e, Ne.symm e]
theorem sums_nodup (ps : Terms) : ∀ (acc : Terms), (acc.map (·.1)).Nodup → ((sums acc ps).map (·.1)).Nodup := by
  induction ps with
  | nil => intro acc h; exact h
  | cons p ps ih => intro acc h; exact ih _ (nodup_put h _ _)
theorem sums_len (ps : Terms) : ∀ (acc : Terms), (sums acc ps).length ≤ acc.length + ps.length := by
  induction ps with
  | nil => intro acc; simp [sums]
  | cons p ps ih =>
    intro acc
    have h1 := ih (addT acc p)
    have h2 := length_put acc p.1 ((valP acc p.1).getD 0 + p.2)
    show (sums (addT acc p) ps).length ≤ _
    unfold addT at h1 ⊢
    simp only [List.length_cons]
    omega
/-- sorted texts -/
theorem sortedS_pair : ∀ {xs : List Str}, PyProof.Rows.sortedS xs = true → xs.Pairwise fun a b => ¬ sLt b a := by
  have rise : ∀ (xs : List Str) (p : Str), PyProof.Rows.risingS p xs = true → (∀ x ∈ xs, ¬ sLt x p) ∧ xs.Pairwise fun a b => ¬ sLt b a := by
    intro xs
    induction xs with
    | nil => intro p _; exact ⟨by simp, .nil⟩
    | cons x xs ih =>
      intro p h
      unfold PyProof.Rows.risingS at h
      rw [Bool.and_eq_true, PyProof.Rows.ltCps_eq] at h
      obtain ⟨h1, h2⟩ := h
      have hx : ¬ sLt x p := by
        intro z
        have z' : x.cps.toList < p.cps.toList := z
        simp [z'] at h1
      obtain ⟨q1, q2⟩ := ih x h2
      refine ⟨fun y hy => ?_, .cons (fun y hy => q1 y hy) q2⟩
      rcases List.mem_cons.mp hy with e | hy
      · subst e; exact hx
      · intro z
        have hyx := q1 y hy
        -- y < p, not x < p, not y < x
        by_cases hpx : sLt p x
        · exact hyx (z.trans hpx)
        · have : p = x := sLt.tri hpx hx
          subst this
          exact hyx z
  intro xs h
  cases xs with
  | nil => exact .nil
  | cons x xs =>
    obtain ⟨h1, h2⟩ := rise xs x h
    exact .cons h1 h2
theorem sorted_asc {xs : List Str} (h : PyProof.Rows.sortedS xs = true) (hn : xs.Nodup) : xs.Pairwise sLt := by
  have h1 := sortedS_pair h
  have h2 : xs.Pairwise fun a b => a ≠ b := hn
  refine (h1.and h2).imp fun {a b} q => ?_
  by_cases z : sLt a b
  · exact z
  · exact absurd (sLt.tri z q.1) q.2
/-- what form makes: the keys in order, those with a nought left out -/
def picked (acc : Terms) (ks : List Str) : Terms := ks.filterMap fun n => if (valP acc n).getD 0 ≠ 0 then some (n, (valP acc n).getD 0) else none
theorem picked_nf {acc : Terms} (hn : (acc.map (·.1)).Nodup) {ks : List Str} (hp : ks.Perm (acc.map (·.1))) (hs : PyProof.Rows.sortedS ks = true) : Nf (picked acc ks) fun n => (valP acc n).getD 0 := by
  have nd : ks.Nodup := hp.nodup_iff.mpr hn
  have asc := sorted_asc hs nd
  have mem : ∀ p, p ∈ picked acc ks ↔ p.1 ∈ ks ∧ p.2 = (valP acc p.1).getD 0 ∧ p.2 ≠ 0 := by
    intro p
    unfold picked
    rw [List.mem_filterMap]
    constructor
    · rintro ⟨n, hm, e⟩
      split at e
      · rename_i h
        cases e
        exact ⟨hm, rfl, h⟩
      · cases e
    · rintro ⟨h1, h2, h3⟩
      refine ⟨p.1, h1, ?_⟩
      rw [if_pos (by rw [← h2]; exact h3), ← h2]
  have srt : (picked acc ks).Pairwise fun a b => sLt a.1 b.1 := by
    unfold picked
    rw [List.pairwise_filterMap]
    refine asc.imp fun {a b} h x hx y hy => ?_
    split at hx
    · split at hy
      · cases hx; cases hy; exact h
      · cases hy
    · cases hx
  refine ⟨srt, fun p hp => ((mem p).mp hp).2.2, fun n => ?_⟩
  have nd2 : ((picked acc ks).map (·.1)).Nodup := by
    rw [List.Nodup, List.pairwise_map]
    exact srt.imp fun q => q.ne
  by_cases h : n ∈ (picked acc ks).map (·.1)
  · obtain ⟨p, hp, rfl⟩ := List.mem_map.mp h
    rw [coef_mem nd2 hp]
    exact ((mem p).mp hp).2.1
  · rw [coef_none h]
    refine Classical.byContradiction fun z => h ?_
    have hk : n ∈ ks := by
      rw [hp.mem_iff]
      refine valP_some_iff.mp ?_
      cases e : valP acc n with
      | none => rw [e] at z; exact absurd rfl z
      | some _ => rfl
    exact List.mem_map.mpr ⟨(n, (valP acc n).getD 0), (mem _).mpr ⟨hk, rfl, fun e => z e.symm⟩, rfl⟩
theorem sums_nf {ps : Terms} {ks : List Str} (hp : ks.Perm ((sums [] ps).map (·.1))) (hs : PyProof.Rows.sortedS ks = true) : Nf (picked (sums [] ps) ks) (coef ps) :=
  (picked_nf (sums_nodup ps [] .nil) hp hs).cong fun n => by rw [sums_val]; simp [valP]
/-! ### how large -/
def Sm (b : Nat) (i : Int) : Prop := i.natAbs < 2 ^ b
def Sms (b : Nat) (ts : Terms) : Prop := ∀ p ∈ ts, Sm b p.2
theorem Sm.mono {a b : Nat} (h : a ≤ b) {i : Int} (s : Sm a i) : Sm b i := Nat.lt_of_lt_of_le s (Nat.pow_le_pow_right (by decide) h)
theorem Sms.mono {a b : Nat} (h : a ≤ b) {ts : Terms} (s : Sms a ts) : Sms b ts := fun p hp => (s p hp).mono h
theorem Sm.mul {a b : Nat} {i j : Int} (h : Sm a i) (h' : Sm b j) : Sm (a + b) (i * j) := by
  unfold Sm at *
  rw [Int.natAbs_mul, Nat.pow_add]
  exact Nat.mul_lt_mul'' h h'
theorem Sm.neg {a : Nat} {i : Int} (h : Sm a i) : Sm a (-i) := by unfold Sm at *; rw [Int.natAbs_neg]; exact h
theorem Sm.add {a : Nat} {i j : Int} (h : Sm a i) (h' : Sm a j) : Sm (a + 1) (i + j) := by
  unfold Sm at *
  rw [Nat.pow_succ]
  omega
theorem Sm.ok {a b : Nat} {i j : Int} (h : Sm a i) (h' : Sm b j) (l : a + b ≤ 1000000 := by decide) : IntMulOk i j := mulOk a b h h' l
/-- a sum of at most 2 ^ c numbers -/
theorem sum_sm {b : Nat} : ∀ (xs : List Int), (∀ x ∈ xs, Sm b x) → xs.sum.natAbs ≤ xs.length * 2 ^ b
  | [], _ => by simp
  | x :: xs, h => by
    have h1 := sum_sm xs fun y hy => h y (List.mem_cons_of_mem _ hy)
    have h2 : x.natAbs < 2 ^ b := h x List.mem_cons_self
    rw [List.sum_cons, List.length_cons, Nat.succ_mul]
    omega
theorem sum_sm' {b c : Nat} {xs : List Int} (h : ∀ x ∈ xs, Sm b x) (hl : xs.length < 2 ^ c) : Sm (b + c) xs.sum := by
  have := sum_sm xs h
  unfold Sm
  rw [Nat.pow_add, Nat.mul_comm]
  exact Nat.lt_of_le_of_lt this (Nat.mul_lt_mul_of_lt_of_le hl (Nat.le_refl _) (Nat.pow_pos (by decide)))
theorem coef_sm {b c : Nat} {ts : Terms} (h : Sms b ts) (hl : ts.length < 2 ^ c) (n : Str) : Sm (b + c) (coef ts n) := by
  refine sum_sm' (fun x hx => ?_) ?_
  · obtain ⟨p, hp, rfl⟩ := List.mem_map.mp hx
    exact h p (List.mem_filter.mp hp).1
  · rw [List.length_map]
    exact Nat.lt_of_le_of_lt (List.length_filter_le _ _) hl
theorem Nf.sms {b : Nat} {ts : Terms} {g : Str → Int} (h : Nf ts g) (hb : ∀ n, Sm b (g n)) : Sms b ts := fun p hp => by rw [h.at hp]; exact hb _
/-- names among some -/
def InN (ns : List Str) (ts : Terms) : Prop := ∀ p ∈ ts, p.1 ∈ ns
theorem Nf.inN {ns : List Str} {ts us : Terms} (h : Nf ts (coef us)) (hu : InN ns us) : InN ns ts := fun p hp => by
  have h1 := h.nz p hp
  rw [h.at hp] at h1
  have hm : p.1 ∈ us.map (·.1) := Classical.byContradiction fun z => h1 (coef_none z)
  obtain ⟨q, hq, e⟩ := List.mem_map.mp hm
  rw [← e]
  exact hu q hq
theorem Nf.len {ns : List Str} {ts : Terms} {g : Str → Int} (h : Nf ts g) (hi : InN ns ts) : ts.length ≤ ns.length := by
  have : (ts.map (·.1)).length ≤ ns.length := List.Nodup.length_le_of_subset h.nodup fun n hn => by
    obtain ⟨p, hp, rfl⟩ := List.mem_map.mp hn
    exact hi p hp
  simpa using this
end FormM


namespace K65
open PySem PySem.Spec PyProof.Rows L2 DW
/-! the text by places -/
def topS (i : Nat) : Stmt := PySem.Challenge.pw_meanwithin_k65_forms_reckoned.main.body.getD i (.Pass ⟨0, 0, 0, 0⟩)
abbrev s_form : Stmt := topS 5
abbrev s_plus : Stmt := topS 6
abbrev s_times : Stmt := topS 7
abbrev s_minus : Stmt := topS 8
abbrev s_image : Stmt := topS 9
abbrev s_value : Stmt := topS 10
abbrev s_price : Stmt := topS 11
abbrev s_law_start : Stmt := topS 13
abbrev s_law_draw : Stmt := topS 14
abbrev s_law_one_of : Stmt := topS 15
abbrev s_law_shuffled : Stmt := topS 16
abbrev s_law_is_int : Stmt := topS 17
abbrev s_law_same : Stmt := topS 18
abbrev s_law_form : Stmt := topS 19
abbrev s_law_sum : Stmt := topS 20
abbrev s_law_var : Stmt := topS 21
abbrev s_law_put : Stmt := topS 22
abbrev s_law_at : Stmt := topS 23
abbrev s_law_price : Stmt := topS 24
abbrev s_law_some_number : Stmt := topS 25
abbrev s_law_some_pairs : Stmt := topS 26
abbrev s_law_some_form : Stmt := topS 27
abbrev s_law : Stmt := topS 28
abbrev N_form : List Str := ["constant", "pairs", "sums", "name", "coefficient"]
abbrev P_form : List Str := ["constant", "pairs"]
theorem sc_form : FnScope N_form P_form (defScope s_form) := ⟨rfl, rfl, rfl, by decide +kernel, rfl, by decide +kernel, by decide +kernel⟩
abbrev N_plus : List Str := ["f", "g"]
abbrev P_plus : List Str := ["f", "g"]
theorem sc_plus : FnScope N_plus P_plus (defScope s_plus) := ⟨rfl, rfl, rfl, by decide +kernel, rfl, by decide +kernel, by decide +kernel⟩
abbrev N_times : List Str := ["k", "f", "name", "coefficient"]
abbrev P_times : List Str := ["k", "f"]
theorem sc_times : FnScope N_times P_times (defScope s_times) := ⟨rfl, rfl, rfl, by decide +kernel, rfl, by decide +kernel, by decide +kernel⟩
abbrev N_minus : List Str := ["f", "g"]
abbrev P_minus : List Str := ["f", "g"]
theorem sc_minus : FnScope N_minus P_minus (defScope s_minus) := ⟨rfl, rfl, rfl, by decide +kernel, rfl, by decide +kernel, by decide +kernel⟩
abbrev N_image : List Str := ["f", "pairs", "table", "constant", "rest", "name", "coefficient", "g", "other", "factor"]
abbrev P_image : List Str := ["f", "pairs"]
theorem sc_image : FnScope N_image P_image (defScope s_image) := ⟨rfl, rfl, rfl, by decide +kernel, rfl, by decide +kernel, by decide +kernel⟩
abbrev N_value : List Str := ["f", "pairs", "table", "name", "number", "coefficient"]
abbrev P_value : List Str := ["f", "pairs"]
theorem sc_value : FnScope N_value P_value (defScope s_value) := ⟨rfl, rfl, rfl, by decide +kernel, rfl, by decide +kernel, by decide +kernel⟩
abbrev N_price : List Str := ["f", "size", "name", "coefficient"]
abbrev P_price : List Str := ["f"]
theorem sc_price : FnScope N_price P_price (defScope s_price) := ⟨rfl, rfl, rfl, by decide +kernel, rfl, by decide +kernel, by decide +kernel⟩
abbrev N_law_start : List Str := ["script"]
abbrev P_law_start : List Str := ["script"]
theorem sc_law_start : FnScope N_law_start P_law_start (defScope s_law_start) := ⟨rfl, rfl, rfl, by decide +kernel, rfl, by decide +kernel, by decide +kernel⟩
abbrev N_law_draw : List Str := ["state", "most", "found", "cell", "mixed"]
abbrev P_law_draw : List Str := ["state", "most"]
theorem sc_law_draw : FnScope N_law_draw P_law_draw (defScope s_law_draw) := ⟨rfl, rfl, rfl, by decide +kernel, rfl, by decide +kernel, by decide +kernel⟩
abbrev N_law_one_of : List Str := ["state", "items"]
abbrev P_law_one_of : List Str := ["state", "items"]
theorem sc_law_one_of : FnScope N_law_one_of P_law_one_of (defScope s_law_one_of) := ⟨rfl, rfl, rfl, by decide +kernel, rfl, by decide +kernel, by decide +kernel⟩
abbrev N_law_shuffled : List Str := ["state", "items", "found", "item"]
abbrev P_law_shuffled : List Str := ["state", "items"]
theorem sc_law_shuffled : FnScope N_law_shuffled P_law_shuffled (defScope s_law_shuffled) := ⟨rfl, rfl, rfl, by decide +kernel, rfl, by decide +kernel, by decide +kernel⟩
abbrev N_law_is_int : List Str := ["x"]
abbrev P_law_is_int : List Str := ["x"]
theorem sc_law_is_int : FnScope N_law_is_int P_law_is_int (defScope s_law_is_int) := ⟨rfl, rfl, rfl, by decide +kernel, rfl, by decide +kernel, by decide +kernel⟩
abbrev N_law_same : List Str := ["x", "y", "k"]
abbrev P_law_same : List Str := ["x", "y"]
theorem sc_law_same : FnScope N_law_same P_law_same (defScope s_law_same) := ⟨rfl, rfl, rfl, by decide +kernel, rfl, by decide +kernel, by decide +kernel⟩
abbrev N_law_form : List Str := ["constant", "pairs", "sums", "name", "number"]
abbrev P_law_form : List Str := ["constant", "pairs"]
theorem sc_law_form : FnScope N_law_form P_law_form (defScope s_law_form) := ⟨rfl, rfl, rfl, by decide +kernel, rfl, by decide +kernel, by decide +kernel⟩
abbrev N_law_sum : List Str := ["parts", "constant", "pairs", "factor", "f", "name", "number"]
abbrev P_law_sum : List Str := ["parts"]
theorem sc_law_sum : FnScope N_law_sum P_law_sum (defScope s_law_sum) := ⟨rfl, rfl, rfl, by decide +kernel, rfl, by decide +kernel, by decide +kernel⟩
abbrev N_law_var : List Str := ["name"]
abbrev P_law_var : List Str := ["name"]
theorem sc_law_var : FnScope N_law_var P_law_var (defScope s_law_var) := ⟨rfl, rfl, rfl, by decide +kernel, rfl, by decide +kernel, by decide +kernel⟩
abbrev N_law_put : List Str := ["f", "table", "parts", "name", "number"]
abbrev P_law_put : List Str := ["f", "table"]
theorem sc_law_put : FnScope N_law_put P_law_put (defScope s_law_put) := ⟨rfl, rfl, rfl, by decide +kernel, rfl, by decide +kernel, by decide +kernel⟩
abbrev N_law_at : List Str := ["f", "den", "table", "total", "name", "number"]
abbrev P_law_at : List Str := ["f", "den", "table"]
theorem sc_law_at : FnScope N_law_at P_law_at (defScope s_law_at) := ⟨rfl, rfl, rfl, by decide +kernel, rfl, by decide +kernel, by decide +kernel⟩
abbrev N_law_price : List Str := ["f", "size", "name", "number"]
abbrev P_law_price : List Str := ["f"]
theorem sc_law_price : FnScope N_law_price P_law_price (defScope s_law_price) := ⟨rfl, rfl, rfl, by decide +kernel, rfl, by decide +kernel, by decide +kernel⟩
abbrev N_law_some_number : List Str := ["state", "kind"]
abbrev P_law_some_number : List Str := ["state"]
theorem sc_law_some_number : FnScope N_law_some_number P_law_some_number (defScope s_law_some_number) := ⟨rfl, rfl, rfl, by decide +kernel, rfl, by decide +kernel, by decide +kernel⟩
abbrev N_law_some_pairs : List Str := ["state", "names", "turn"]
abbrev P_law_some_pairs : List Str := ["state", "names"]
theorem sc_law_some_pairs : FnScope N_law_some_pairs P_law_some_pairs (defScope s_law_some_pairs) := ⟨rfl, rfl, rfl, by decide +kernel, rfl, by decide +kernel, by decide +kernel⟩
abbrev N_law_some_form : List Str := ["state", "names"]
abbrev P_law_some_form : List Str := ["state", "names"]
theorem sc_law_some_form : FnScope N_law_some_form P_law_some_form (defScope s_law_some_form) := ⟨rfl, rfl, rfl, by decide +kernel, rfl, by decide +kernel, by decide +kernel⟩
abbrev N_law : List Str := ["script", "state", "names", "turn", "constant", "pairs", "f", "g", "k", "some", "table", "name", "turned", "known", "small", "number"]
abbrev P_law : List Str := ["script"]
theorem sc_law : FnScope N_law P_law (defScope s_law) := ⟨rfl, rfl, rfl, by decide +kernel, rfl, by decide +kernel, by decide +kernel⟩
end K65


namespace K65
open PySem PySem.Spec PyProof.Rows L2 DW
def v_SLOPE_PRICE : D := .int 1000000000
def v_CONSTANT_PRICE : D := .int 999
def v_PRICE_BASE : D := .int 1000000
def v_ZERO : D := .tup [.int 0, .tup []]
/-- what the top has written, by names -/
structure Top (K : PySem.W.Frag) (mg : Str → Option Value) where
  f_form : Addr
  fd_form : FuncData
  F_form : Fun K "form" "form" s_form f_form fd_form
  g_form : mg "form" = some (.ref f_form)
  b_form : Binds K fd_form P_form []
  f_plus : Addr
  fd_plus : FuncData
  F_plus : Fun K "plus" "plus" s_plus f_plus fd_plus
  g_plus : mg "plus" = some (.ref f_plus)
  b_plus : Binds K fd_plus P_plus []
  f_times : Addr
  fd_times : FuncData
  F_times : Fun K "times" "times" s_times f_times fd_times
  g_times : mg "times" = some (.ref f_times)
  b_times : Binds K fd_times P_times []
  f_minus : Addr
  fd_minus : FuncData
  F_minus : Fun K "minus" "minus" s_minus f_minus fd_minus
  g_minus : mg "minus" = some (.ref f_minus)
  b_minus : Binds K fd_minus P_minus []
  f_image : Addr
  fd_image : FuncData
  F_image : Fun K "image" "image" s_image f_image fd_image
  g_image : mg "image" = some (.ref f_image)
  b_image : Binds K fd_image P_image []
  f_value : Addr
  fd_value : FuncData
  F_value : Fun K "value" "value" s_value f_value fd_value
  g_value : mg "value" = some (.ref f_value)
  b_value : Binds K fd_value P_value []
  f_price : Addr
  fd_price : FuncData
  F_price : Fun K "price" "price" s_price f_price fd_price
  g_price : mg "price" = some (.ref f_price)
  b_price : Binds K fd_price P_price []
  f_law_start : Addr
  fd_law_start : FuncData
  F_law_start : Fun K "_law_start" "_law_start" s_law_start f_law_start fd_law_start
  g_law_start : mg "_law_start" = some (.ref f_law_start)
  b_law_start : Binds K fd_law_start P_law_start []
  f_law_draw : Addr
  fd_law_draw : FuncData
  F_law_draw : Fun K "_law_draw" "_law_draw" s_law_draw f_law_draw fd_law_draw
  g_law_draw : mg "_law_draw" = some (.ref f_law_draw)
  b_law_draw : Binds K fd_law_draw P_law_draw []
  f_law_one_of : Addr
  fd_law_one_of : FuncData
  F_law_one_of : Fun K "_law_one_of" "_law_one_of" s_law_one_of f_law_one_of fd_law_one_of
  g_law_one_of : mg "_law_one_of" = some (.ref f_law_one_of)
  b_law_one_of : Binds K fd_law_one_of P_law_one_of []
  f_law_shuffled : Addr
  fd_law_shuffled : FuncData
  F_law_shuffled : Fun K "_law_shuffled" "_law_shuffled" s_law_shuffled f_law_shuffled fd_law_shuffled
  g_law_shuffled : mg "_law_shuffled" = some (.ref f_law_shuffled)
  b_law_shuffled : Binds K fd_law_shuffled P_law_shuffled []
  f_law_is_int : Addr
  fd_law_is_int : FuncData
  F_law_is_int : Fun K "_law_is_int" "_law_is_int" s_law_is_int f_law_is_int fd_law_is_int
  g_law_is_int : mg "_law_is_int" = some (.ref f_law_is_int)
  b_law_is_int : Binds K fd_law_is_int P_law_is_int []
  f_law_same : Addr
  fd_law_same : FuncData
  F_law_same : Fun K "_law_same" "_law_same" s_law_same f_law_same fd_law_same
  g_law_same : mg "_law_same" = some (.ref f_law_same)
  b_law_same : Binds K fd_law_same P_law_same []
  f_law_form : Addr
  fd_law_form : FuncData
  F_law_form : Fun K "_law_form" "_law_form" s_law_form f_law_form fd_law_form
  g_law_form : mg "_law_form" = some (.ref f_law_form)
  b_law_form : Binds K fd_law_form P_law_form []
  f_law_sum : Addr
  fd_law_sum : FuncData
  F_law_sum : Fun K "_law_sum" "_law_sum" s_law_sum f_law_sum fd_law_sum
  g_law_sum : mg "_law_sum" = some (.ref f_law_sum)
  b_law_sum : Binds K fd_law_sum P_law_sum []
  f_law_var : Addr
  fd_law_var : FuncData
  F_law_var : Fun K "_law_var" "_law_var" s_law_var f_law_var fd_law_var
  g_law_var : mg "_law_var" = some (.ref f_law_var)
  b_law_var : Binds K fd_law_var P_law_var []
  f_law_put : Addr
  fd_law_put : FuncData
  F_law_put : Fun K "_law_put" "_law_put" s_law_put f_law_put fd_law_put
  g_law_put : mg "_law_put" = some (.ref f_law_put)
  b_law_put : Binds K fd_law_put P_law_put []
  f_law_at : Addr
  fd_law_at : FuncData
  F_law_at : Fun K "_law_at" "_law_at" s_law_at f_law_at fd_law_at
  g_law_at : mg "_law_at" = some (.ref f_law_at)
  b_law_at : Binds K fd_law_at P_law_at []
  f_law_price : Addr
  fd_law_price : FuncData
  F_law_price : Fun K "_law_price" "_law_price" s_law_price f_law_price fd_law_price
  g_law_price : mg "_law_price" = some (.ref f_law_price)
  b_law_price : Binds K fd_law_price P_law_price []
  f_law_some_number : Addr
  fd_law_some_number : FuncData
  F_law_some_number : Fun K "_law_some_number" "_law_some_number" s_law_some_number f_law_some_number fd_law_some_number
  g_law_some_number : mg "_law_some_number" = some (.ref f_law_some_number)
  b_law_some_number : Binds K fd_law_some_number P_law_some_number []
  f_law_some_pairs : Addr
  fd_law_some_pairs : FuncData
  F_law_some_pairs : Fun K "_law_some_pairs" "_law_some_pairs" s_law_some_pairs f_law_some_pairs fd_law_some_pairs
  g_law_some_pairs : mg "_law_some_pairs" = some (.ref f_law_some_pairs)
  b_law_some_pairs : Binds K fd_law_some_pairs P_law_some_pairs []
  f_law_some_form : Addr
  fd_law_some_form : FuncData
  F_law_some_form : Fun K "_law_some_form" "_law_some_form" s_law_some_form f_law_some_form fd_law_some_form
  g_law_some_form : mg "_law_some_form" = some (.ref f_law_some_form)
  b_law_some_form : Binds K fd_law_some_form P_law_some_form []
  f_law : Addr
  fd_law : FuncData
  F_law : Fun K "law" "law" s_law f_law fd_law
  g_law : mg "law" = some (.ref f_law)
  b_law : Binds K fd_law P_law []
  n_abs : mg "abs" = none
  n_all : mg "all" = none
  n_bool : mg "bool" = none
  n_int : mg "int" = none
  n_isinstance : mg "isinstance" = none
  n_len : mg "len" = none
  n_list : mg "list" = none
  n_max : mg "max" = none
  n_range : mg "range" = none
  n_sorted : mg "sorted" = none
  n_str : mg "str" = none
  n_sum : mg "sum" = none
  n_tuple : mg "tuple" = none
  c_SLOPE_PRICE : ConstOf K mg "SLOPE_PRICE" v_SLOPE_PRICE
  c_CONSTANT_PRICE : ConstOf K mg "CONSTANT_PRICE" v_CONSTANT_PRICE
  c_PRICE_BASE : ConstOf K mg "PRICE_BASE" v_PRICE_BASE
  c_ZERO : ConstOf K mg "ZERO" v_ZERO
end K65

/-! K65B: the promises. -/
namespace K65
open PySem L2 DW FormM

/-! ### data -/
def eP (p : Str × Int) : D := .tup [.str p.1, .int p.2]
def eF (c : Int) (ts : Terms) : D := .tup [.int c, .tup (ts.map eP)]
abbrev names5 : List Str := ["@n", "@#a", "i", "x.f", "?1"]
structure Sx where
  s : List Int
  a : Int
  b : Int
  c : Int
/-- the law's state, the first cell -/
def dst (x : Sx) : MO := .lst [.fl (x.s.map .int), .int x.a, .int x.b, .int x.c]

/-! ### the program -/
def sp_form : DSp := fun ds st _ Q => ∃ c x ps, ds = [.int c, x] ∧ seqOf st x = some (ps.map eP) ∧ ps.length < 64 ∧ ∀ ts, Nf ts (coef ps) → Q (eF c ts) st
def sp_plus : DSp := fun ds st _ Q => ∃ c ts d us, ds = [eF c ts, eF d us] ∧ Nf ts (coef ts) ∧ ts.length + us.length < 64 ∧ ∀ vs, Nf vs (fun n => coef ts n + coef us n) → Q (eF (c + d) vs) st
def sp_times : DSp := fun ds st _ Q => ∃ k c ts, ds = [.int k, eF c ts] ∧ Nf ts (coef ts) ∧ ts.length < 64 ∧ Sm 400 k ∧ Sm 400 c ∧ Sms 400 ts ∧ ∀ vs, Nf vs (fun n => k * coef ts n) → Q (eF (k * c) vs) st
def sp_minus : DSp := fun ds st _ Q => ∃ c ts d us, ds = [eF c ts, eF d us] ∧ Nf ts (coef ts) ∧ Nf us (coef us) ∧ ts.length + us.length < 64 ∧ Sm 400 d ∧ Sms 400 us ∧ ∀ vs, Nf vs (fun n => coef ts n - coef us n) → Q (eF (c - d) vs) st
/-- a table of forms -/
abbrev Tb := Str → Option (Int × Terms)
def tm (T : Tb) (n : Str) : Int × Terms := (T n).getD (0, [(n, 1)])
def imgC (c : Int) (ts : Terms) (T : Tb) : Int := c + (ts.map fun p => p.2 * (tm T p.1).1).sum
def imgG (ts : Terms) (T : Tb) (n : Str) : Int := (ts.map fun p => p.2 * coef (tm T p.1).2 n).sum
/-- what image and its like ask of the numbers -/
structure TbOk (T : Tb) : Prop where
  c : ∀ n f, T n = some f → Sm 400 f.1
  t : ∀ n f, T n = some f → Sms 400 f.2
  l : ∀ n f, T n = some f → f.2.length ≤ 5
def sp_image : DSp := fun ds st _ Q => ∃ (c : Int) (ts : Terms) (ps : List (Str × Int × Terms)) (T : Tb), ds = [eF c ts, .tup (ps.map fun p => .tup [.str p.1, eF p.2.1 p.2.2])] ∧ ts.length ≤ 5 ∧ Sms 400 ts ∧ ps.length ≤ 5 ∧ TbOk T ∧ (∀ p ∈ ps, T p.1 = some p.2) ∧ (∀ n, n ∉ ps.map (·.1) → T n = none) ∧
  ∀ vs, Nf vs (imgG ts T) → Q (eF (imgC c ts T) vs) st
def valC (c : Int) (ts : Terms) (V : Str → Int) : Int := c + (ts.map fun p => p.2 * V p.1).sum
def sp_value : DSp := fun ds st _ Q => ∃ (c : Int) (ts ps : Terms) (V : Str → Int), ds = [eF c ts, .tup (ps.map eP)] ∧ ts.length ≤ 5 ∧ Sms 400 ts ∧ ps.length ≤ 5 ∧ Sms 400 ps ∧ (∀ p ∈ ps, p.2 = V p.1) ∧ (∀ p ∈ ts, p.1 ∈ ps.map (·.1)) ∧ Q (.int (valC c ts V)) st
def prC (c : Int) (ts : Terms) : Int := 1000000000 * (ts.map fun p => if p.2 < 0 then -p.2 else p.2).sum + 999 * (if c > 0 then c else 0) + (if c + 1000000 * (ts.map fun p => if p.2 < 0 then -p.2 else p.2).sum > 0 then c + 1000000 * (ts.map fun p => if p.2 < 0 then -p.2 else p.2).sum else 0)
def sp_price : DSp := fun ds st _ Q => ∃ c ts, ds = [eF c ts] ∧ ts.length < 64 ∧ Q (.int (prC c ts)) st
/-! ### the law's own -/
def sp_law_start : DSp := fun ds st _ Q => ∃ s : List Int, ds = [.sl (s.map .int)] ∧ Q (.tl [.fl (s.map .int), .int 0, .int 0, .int 0]) st
def sp_law_draw : DSp := fun ds st _ Q => ∃ x m rest, ds = [.ref 0, .int m] ∧ st = dst x :: rest ∧ 0 < m ∧ m.natAbs.log2 < 9000 ∧ ∀ r x', 0 ≤ r → r < m → Q (.int r) (dst x' :: rest)
def sp_law_one_of : DSp := fun ds st _ Q => ∃ x items rest, ds = [.ref 0, .fl items] ∧ st = dst x :: rest ∧ items ≠ [] ∧ items.length < 1000 ∧ cls 1 items = true ∧ ∀ d x', d ∈ items → Q d (dst x' :: rest)
def sp_law_shuffled : DSp := fun ds st _ Q => ∃ x y items rest, ds = [.ref 0, y] ∧ st = dst x :: rest ∧ (y = .fl items ∨ y = .tup items) ∧ items.length < 1000 ∧ cls 1 items = true ∧ (∀ d ∈ items, frz d = d) ∧ ∀ perm x', perm.Perm items → Q (.tl perm) (dst x' :: rest)
def sp_law_is_int : DSp := fun ds st _ Q => ∃ d t, ds = [d] ∧ typN st d = some t ∧ Q (.bl (t == "int")) st
mutual
/-- plain data, at most k deep -/
def dat : Nat → D → Prop
  | _, .int _ => True
  | _, .str _ => True
  | k + 1, .tup ds => ds.length < 1000000 ∧ dats k ds
  | _, _ => False
def dats : Nat → List D → Prop
  | _, [] => True
  | k, d :: ds => dat k d ∧ dats k ds
end
/-- the same data are the same -/
def sp_same (k : Nat) : DSp := fun ds st _ Q => ∃ d, ds = [d, d] ∧ dat k d ∧ Q (.bl true) st
def spr_law_same : Nat → DSp
  | 0 => fun _ _ _ _ => False
  | k + 1 => sp_same k
theorem no_law_same : ∀ ds st Ed Q, ¬ spr_law_same 0 ds st Ed Q := fun _ _ _ _ h => h
abbrev sp_law_same : DSp := spr_law_same 5
def sp_law_form : DSp := sp_form
def eK (p : Int × Int × Terms) : D := .tup [.int p.1, eF p.2.1 p.2.2]
def sumC (ps : List (Int × Int × Terms)) : Int := (ps.map fun p => p.1 * p.2.1).sum
def sumG (ps : List (Int × Int × Terms)) (n : Str) : Int := (ps.map fun p => p.1 * coef p.2.2 n).sum
def sp_law_sum : DSp := fun ds st _ Q => ∃ (x : D) (ps : List (Int × Int × Terms)), ds = [x] ∧ seqOf st x = some (ps.map eK) ∧ ps.length ≤ 6 ∧ (∀ p ∈ ps, Sm 400 p.1 ∧ Sm 400 p.2.1 ∧ Sms 400 p.2.2 ∧ p.2.2.length ≤ 5) ∧ ∀ vs, Nf vs (sumG ps) → Q (eF (sumC ps) vs) st
def sp_law_var : DSp := fun ds st _ Q => ∃ n, ds = [.str n] ∧ Q (eF 0 [(n, 1)]) st
/-- a dict that is the table T -/
def IsTb (st : Sto) (y : D) (T : Tb) : Prop := ∃ kvs, dicOf st y = some kvs ∧ ∀ n : Str, valP kvs (.inr n) = (T n).map fun f => eF f.1 f.2
def sp_law_put : DSp := fun ds st _ Q => ∃ c ts y T, ds = [eF c ts, y] ∧ IsTb st y T ∧ ts.length ≤ 5 ∧ Sm 400 c ∧ Sms 400 ts ∧ TbOk T ∧ ∀ vs, Nf vs (imgG ts T) → Q (eF (imgC c ts T) vs) st
def sp_law_at : DSp := fun ds st _ Q => ∃ c ts V y kvs, ds = [eF c ts, .int 1, y] ∧ dicOf st y = some kvs ∧ (∀ p ∈ ts, valP kvs (.inr p.1) = some (.int (V p.1))) ∧ ts.length ≤ 5 ∧ Sms 400 ts ∧ (∀ n, Sm 400 (V n)) ∧ Q (.int (valC c ts V)) st
def sp_law_price : DSp := sp_price
def sp_law_some_number : DSp := fun ds st _ Q => ∃ x rest, ds = [.ref 0] ∧ st = dst x :: rest ∧ ∀ r x', Sm 100 r → Q (.int r) (dst x' :: rest)
def sp_law_some_pairs : DSp := fun ds st _ Q => ∃ x rest, ds = [.ref 0, .fl (names5.map .str)] ∧ st = dst x :: rest ∧ ∀ ps x', ps.length ≤ 7 → InN names5 ps → Sms 100 ps → Q (.tup (ps.map eP)) (dst x' :: rest)
def sp_law_some_form : DSp := fun ds st _ Q => ∃ x rest, ds = [.ref 0, .fl (names5.map .str)] ∧ st = dst x :: rest ∧ ∀ c ts x', Sm 100 c → Nf ts (coef ts) → InN names5 ts → Sms 110 ts → Q (eF c ts) (dst x' :: rest)
def sp_law : DSp := fun ds st _ Q => ∃ s : List Int, ds = [.sl (s.map .int)] ∧ st = [] ∧ ∀ st', Q (.bl true) st'
end K65


namespace K65
open PySem PySem.Spec PyProof.Rows L2 DW
def d_form : DS :=
    (sSeq (sAsg true 2 dDic0)
    (sSeq (sFor (.tp [(.nm 3), (.nm 4)]) (iSeq (dVar 1)) (sSet false (dOp opAdd (dDGet2 (dVar 2) (dVar 3) (dC (.int 0))) (dVar 4)) (dVar 2) (dVar 3)))
    (sRet (dTup (dCons false (dVar 0) (dCons false (dCB opTuple (dCons false (dLc [3] (.nm 3) (iSeq (dCB opSorted (dCons false (dVar 2) dNil))) (dBool (dOp opNe (dOp opIx (dVar 2) (dVar 3)) (dC (.int 0)))) false (dTup (dCons false (dVar 3) (dCons false (dOp opIx (dVar 2) (dVar 3)) dNil)))) dNil)) dNil))))))
def d_plus : DS :=
    (sSeq (sIf (dNot (dTruth (dOp opIx (dVar 1) (dC (.int 1))))) (sRet (dTup (dCons false (dOp opAdd (dOp opIx (dVar 0) (dC (.int 0))) (dOp opIx (dVar 1) (dC (.int 0)))) (dCons false (dOp opIx (dVar 0) (dC (.int 1))) dNil)))) sNext)
    (sRet (dCall sp_form (dCons false (dOp opAdd (dOp opIx (dVar 0) (dC (.int 0))) (dOp opIx (dVar 1) (dC (.int 0)))) (dCons false (dOp opAdd (dOp opIx (dVar 0) (dC (.int 1))) (dOp opIx (dVar 1) (dC (.int 1)))) dNil)))))
def d_times : DS :=
    (sSeq (sIf (dBool (dOp opEq (dVar 0) (dC (.int 0)))) (sRet (dC v_ZERO)) sNext)
    (sRet (dTup (dCons false (dOp opMul (dVar 0) (dOp opIx (dVar 1) (dC (.int 0)))) (dCons false (dCB opTuple (dCons false (dLc [2, 3] (.tp [(.nm 2), (.nm 3)]) (iSeq (dOp opIx (dVar 1) (dC (.int 1)))) dYes false (dTup (dCons false (dVar 2) (dCons false (dOp opMul (dVar 0) (dVar 3)) dNil)))) dNil)) dNil)))))
def d_minus : DS :=
    (sRet (dCall sp_plus (dCons false (dVar 0) (dCons false (dCall sp_times (dCons false (dNeg (dC (.int 1))) (dCons false (dVar 1) dNil))) dNil))))
def d_image : DS :=
    (sSeq (sAsg false 2 (dDc [5, 7] (.tp [(.nm 5), (.nm 7)]) (iSeq (dVar 1)) dYes false (dVar 5) (dVar 7)))
    (sSeq (sAsg false 3 (dOp opIx (dVar 0) (dC (.int 0))))
    (sSeq (sAsg true 4 (dLst dNil))
    (sSeq (sFor (.tp [(.nm 5), (.nm 6)]) (iSeq (dOp opIx (dVar 0) (dC (.int 1)))) (sIf (dBool (dOp opIn (dVar 5) (dVar 2))) (sSeq (sAsg false 7 (dOp opIx (dVar 2) (dVar 5)))
    (sSeq (sAug false iop_add 3 (dOp opMul (dVar 6) (dOp opIx (dVar 7) (dC (.int 0)))))
    (sExpr (dBM "list" opExtend (dVar 4) (dCons false (dLc [8, 9] (.tp [(.nm 8), (.nm 9)]) (iSeq (dOp opIx (dVar 7) (dC (.int 1)))) dYes false (dTup (dCons false (dVar 8) (dCons false (dOp opMul (dVar 6) (dVar 9)) dNil)))) dNil))))) (sExpr (dBM "list" opAppend (dVar 4) (dCons false (dTup (dCons false (dVar 5) (dCons false (dVar 6) dNil))) dNil)))))
    (sRet (dCall sp_form (dCons false (dVar 3) (dCons false (dVar 4) dNil))))))))
def d_value : DS :=
    (sSeq (sAsg false 2 (dDc [3, 4] (.tp [(.nm 3), (.nm 4)]) (iSeq (dVar 1)) dYes false (dVar 3) (dVar 4)))
    (sRet (dOp opAdd (dOp opIx (dVar 0) (dC (.int 0))) (dCB opSum (dCons false (dLc [3, 5] (.tp [(.nm 3), (.nm 5)]) (iSeq (dOp opIx (dVar 0) (dC (.int 1)))) dYes false (dOp opMul (dVar 5) (dOp opIx (dVar 2) (dVar 3)))) dNil)))))
def d_price : DS :=
    (sSeq (sAsg false 1 (dCB opSum (dCons false (dLc [2, 3] (.tp [(.nm 2), (.nm 3)]) (iSeq (dOp opIx (dVar 0) (dC (.int 1)))) dYes false (dCB opAbs (dCons false (dVar 3) dNil))) dNil)))
    (sRet (dOp opAdd (dOp opAdd (dOp opMul (dC v_SLOPE_PRICE) (dVar 1)) (dOp opMul (dC v_CONSTANT_PRICE) (dCB opMax2 (dCons false (dC (.int 0)) (dCons false (dOp opIx (dVar 0) (dC (.int 0))) dNil))))) (dCB opMax2 (dCons false (dC (.int 0)) (dCons false (dOp opAdd (dOp opIx (dVar 0) (dC (.int 0))) (dOp opMul (dC v_PRICE_BASE) (dVar 1))) dNil))))))
def d_law_start : DS :=
    (sRet (dLst (dCons false (dCB opList (dCons false (dVar 0) dNil)) (dCons false (dC (.int 0)) (dCons false (dC (.int 0)) (dCons false (dC (.int 0)) dNil))))))
def d_law_draw : DS :=
    (sSeq (sSet false (dOp opAdd (dOp opIx (dVar 0) (dC (.int 3))) (dC (.int 1))) (dVar 0) (dC (.int 3)))
    (sSeq (sIf (dBool (dOp opGt (dOp opIx (dVar 0) (dC (.int 2))) (dC (.int 0)))) (sSeq (sAsg false 2 (dOp (opJ (fun _ j => j ≠ 0) fun i j => .int (i.fmod j)) (dCB opInt (dCons false (dOp opIx (dVar 0) (dC (.int 2))) dNil)) (dVar 1)))
    (sSeq (sSet false (dOp (opJ CDivD fun i j => .int (i.fdiv j)) (dOp opIx (dVar 0) (dC (.int 2))) (dVar 1)) (dVar 0) (dC (.int 2)))
    (sRet (dVar 2)))) sNext)
    (sSeq (sAsg false 3 (dC (.int 0)))
    (sSeq (sIf (dBool (dOp opGt (dCB opLen (dCons false (dOp opIx (dVar 0) (dC (.int 0))) dNil)) (dC (.int 0)))) (sAsg false 3 (dCB opAbs (dCons false (dOp opIx (dOp opIx (dVar 0) (dC (.int 0))) (dOp (opJ (fun _ j => j ≠ 0) fun i j => .int (i.fmod j)) (dCB opInt (dCons false (dOp opIx (dVar 0) (dC (.int 1))) dNil)) (dCB opLen (dCons false (dOp opIx (dVar 0) (dC (.int 0))) dNil)))) dNil))) sNext)
    (sSeq (sSet false (dOp opAdd (dOp opIx (dVar 0) (dC (.int 1))) (dC (.int 1))) (dVar 0) (dC (.int 1)))
    (sSeq (sIf (dBool (dOp opGe (dVar 3) (dOp (opJ CPow fun i j => .int (i ^ j.toNat)) (dC (.int 10)) (dC (.int 18))))) (sSeq (sSet false (dOp (opJ CDivD fun i j => .int (i.fdiv j)) (dVar 3) (dVar 1)) (dVar 0) (dC (.int 2)))
    (sRet (dOp (opJ (fun _ j => j ≠ 0) fun i j => .int (i.fmod j)) (dCB opInt (dCons false (dVar 3) dNil)) (dVar 1)))) sNext)
    (sSeq (sAsg false 4 (dOp (opJ (fun _ j => j ≠ 0) fun i j => .int (i.fmod j)) (dCB opInt (dCons false (dOp opAdd (dOp opMul (dOp opAdd (dVar 3) (dC (.int 1))) (dC (.int 48271))) (dOp opMul (dOp opIx (dVar 0) (dC (.int 3))) (dC (.int 69621)))) dNil)) (dC (.int 2147483647))))
    (sSeq (sAsg false 4 (dOp (opJ (fun _ j => j ≠ 0) fun i j => .int (i.fmod j)) (dCB opInt (dCons false (dOp opAdd (dOp opAdd (dOp opMul (dVar 4) (dC (.int 16807))) (dOp (opJ CDivD fun i j => .int (i.fdiv j)) (dVar 3) (dC (.int 97)))) (dOp opIx (dVar 0) (dC (.int 3)))) dNil)) (dC (.int 2147483629))))
    (sRet (dOp (opJ (fun _ j => j ≠ 0) fun i j => .int (i.fmod j)) (dOp (opJ CDivD fun i j => .int (i.fdiv j)) (dVar 4) (dC (.int 11))) (dVar 1)))))))))))
def d_law_one_of : DS :=
    (sRet (dOp opIx (dVar 1) (dCall sp_law_draw (dCons false (dVar 0) (dCons false (dCB opLen (dCons false (dVar 1) dNil)) dNil)))))
def d_law_shuffled : DS :=
    (sSeq (sAsg true 2 (dLst dNil))
    (sSeq (sFor (.nm 3) (iSeq (dVar 1)) (sExpr (dBM "list" opInsert (dVar 2) (dCons false (dCall sp_law_draw (dCons false (dVar 0) (dCons false (dOp opAdd (dCB opLen (dCons false (dVar 2) dNil)) (dC (.int 1))) dNil))) (dCons false (dVar 3) dNil)))))
    (sRet (dVar 2))))
def d_law_is_int : DS :=
    (sRet (dAndV (dCB opIsi (dCons false (dVar 0) (dCons false (dC (.ty "int")) dNil))) (dNotV (dCB opIsi (dCons false (dVar 0) (dCons false (dC (.ty "bool")) dNil))))))
def d_law_same (self : DSp) : DS :=
    (sSeq (sIf (dTruth (dCB opIsi (dCons false (dVar 1) (dCons false (dC (.ty "tuple")) dNil)))) (sSeq (sIf (dOr (dNot (dTruth (dCB opIsi (dCons false (dVar 0) (dCons false (dC (.ty "tuple")) dNil))))) (dBool (dOp opNe (dCB opLen (dCons false (dVar 0) dNil)) (dCB opLen (dCons false (dVar 1) dNil))))) (sRet (dC (.bl false))) sNext)
    (sRet (dCB opAll (dCons false (dLc [2] (.nm 2) (iRng1 (dCons false (dCB opLen (dCons false (dVar 1) dNil)) dNil)) dYes false (dCall self (dCons false (dOp opIx (dVar 0) (dVar 2)) (dCons false (dOp opIx (dVar 1) (dVar 2)) dNil)))) dNil)))) sNext)
    (sSeq (sIf (dTruth (dCB opIsi (dCons false (dVar 1) (dCons false (dC (.ty "str")) dNil)))) (sRet (dAndV (dCB opIsi (dCons false (dVar 0) (dCons false (dC (.ty "str")) dNil))) (dOp opEq (dVar 0) (dVar 1)))) sNext)
    (sRet (dAndV (dCall sp_law_is_int (dCons false (dVar 0) dNil)) (dOp opEq (dVar 0) (dVar 1))))))
def d_law_form : DS :=
    (sSeq (sAsg true 2 dDic0)
    (sSeq (sFor (.tp [(.nm 3), (.nm 4)]) (iSeq (dVar 1)) (sSet false (dOp opAdd (dDGet2 (dVar 2) (dVar 3) (dC (.int 0))) (dVar 4)) (dVar 2) (dVar 3)))
    (sRet (dTup (dCons false (dVar 0) (dCons false (dCB opTuple (dCons false (dLc [3] (.nm 3) (iSeq (dCB opSorted (dCons false (dVar 2) dNil))) (dBool (dOp opNe (dOp opIx (dVar 2) (dVar 3)) (dC (.int 0)))) false (dTup (dCons false (dVar 3) (dCons false (dOp opIx (dVar 2) (dVar 3)) dNil)))) dNil)) dNil))))))
def d_law_sum : DS :=
    (sSeq (sAsg false 1 (dC (.int 0)))
    (sSeq (sAsg true 2 (dLst dNil))
    (sSeq (sFor (.tp [(.nm 3), (.nm 4)]) (iSeq (dVar 0)) (sSeq (sAsg false 1 (dOp opAdd (dVar 1) (dOp opMul (dVar 3) (dOp opIx (dVar 4) (dC (.int 0))))))
    (sFor (.tp [(.nm 5), (.nm 6)]) (iSeq (dOp opIx (dVar 4) (dC (.int 1)))) (sExpr (dBM "list" opAppend (dVar 2) (dCons false (dTup (dCons false (dVar 5) (dCons false (dOp opMul (dVar 3) (dVar 6)) dNil))) dNil))))))
    (sRet (dCall sp_law_form (dCons false (dVar 1) (dCons false (dVar 2) dNil)))))))
def d_law_var : DS :=
    (sRet (dTup (dCons false (dC (.int 0)) (dCons false (dTup (dCons false (dTup (dCons false (dVar 0) (dCons false (dC (.int 1)) dNil))) dNil)) dNil))))
def d_law_put : DS :=
    (sSeq (sAsg true 2 (dLst (dCons false (dTup (dCons false (dC (.int 1)) (dCons false (dTup (dCons false (dOp opIx (dVar 0) (dC (.int 0))) (dCons false (dTup dNil) dNil))) dNil))) dNil)))
    (sSeq (sFor (.tp [(.nm 3), (.nm 4)]) (iSeq (dOp opIx (dVar 0) (dC (.int 1)))) (sExpr (dBM "list" opAppend (dVar 2) (dCons false (dTup (dCons false (dVar 4) (dCons false (dDGet2 (dVar 1) (dVar 3) (dCall sp_law_var (dCons false (dVar 3) dNil))) dNil))) dNil))))
    (sRet (dCall sp_law_sum (dCons false (dVar 2) dNil)))))
def d_law_at : DS :=
    (sSeq (sAsg false 3 (dOp opMul (dVar 1) (dOp opIx (dVar 0) (dC (.int 0)))))
    (sSeq (sFor (.tp [(.nm 4), (.nm 5)]) (iSeq (dOp opIx (dVar 0) (dC (.int 1)))) (sAsg false 3 (dOp opAdd (dVar 3) (dOp opMul (dVar 5) (dOp opIx (dVar 2) (dVar 4))))))
    (sRet (dVar 3))))
def d_law_price : DS :=
    (sSeq (sAsg false 1 (dCB opSum (dCons false (dLc [2, 3] (.tp [(.nm 2), (.nm 3)]) (iSeq (dOp opIx (dVar 0) (dC (.int 1)))) dYes false (dCB opAbs (dCons false (dVar 3) dNil))) dNil)))
    (sRet (dOp opAdd (dOp opAdd (dOp opMul (dC (.int 1000000000)) (dVar 1)) (dOp opMul (dC (.int 999)) (dCB opMax2 (dCons false (dC (.int 0)) (dCons false (dOp opIx (dVar 0) (dC (.int 0))) dNil))))) (dCB opMax2 (dCons false (dC (.int 0)) (dCons false (dOp opAdd (dOp opIx (dVar 0) (dC (.int 0))) (dOp opMul (dC (.int 1000000)) (dVar 1))) dNil))))))
def d_law_some_number : DS :=
    (sSeq (sAsg false 1 (dCall sp_law_draw (dCons false (dVar 0) (dCons false (dC (.int 6)) dNil))))
    (sSeq (sIf (dBool (dOp opEq (dVar 1) (dC (.int 0)))) (sRet (dOp opAdd (dOp opMul (dOp (opJ0 fun i j => .int (i - j)) (dCall sp_law_draw (dCons false (dVar 0) (dCons false (dOp (opJ CPow fun i j => .int (i ^ j.toNat)) (dC (.int 10)) (dC (.int 9))) dNil))) (dC (.int 500000000))) (dOp (opJ CPow fun i j => .int (i ^ j.toNat)) (dC (.int 10)) (dC (.int 18)))) (dCall sp_law_draw (dCons false (dVar 0) (dCons false (dOp (opJ CPow fun i j => .int (i ^ j.toNat)) (dC (.int 10)) (dC (.int 9))) dNil))))) sNext)
    (sSeq (sIf (dBool (dOp opEq (dVar 1) (dC (.int 1)))) (sRet (dCall sp_law_one_of (dCons false (dVar 0) (dCons false (dLst (dCons false (dC (.int 1000000)) (dCons false (dNeg (dC (.int 1000000))) (dCons false (dC (.int 999999)) (dCons false (dNeg (dC (.int 999999))) (dCons false (dC (.int 1000)) (dCons false (dNeg (dC (.int 1))) dNil))))))) dNil)))) sNext)
    (sRet (dOp (opJ0 fun i j => .int (i - j)) (dCall sp_law_draw (dCons false (dVar 0) (dCons false (dC (.int 9)) dNil))) (dC (.int 4)))))))
def d_law_some_pairs : DS :=
    (sRet (dCB opTuple (dCons false (dLc [2] (.nm 2) (iRng1 (dCons false (dCall sp_law_draw (dCons false (dVar 0) (dCons false (dC (.int 8)) dNil))) dNil)) dYes false (dTup (dCons false (dCall sp_law_one_of (dCons false (dVar 0) (dCons false (dVar 1) dNil))) (dCons false (dCall sp_law_some_number (dCons false (dVar 0) dNil)) dNil)))) dNil)))
def d_law_some_form : DS :=
    (sRet (dCall sp_law_form (dCons false (dCall sp_law_some_number (dCons false (dVar 0) dNil)) (dCons false (dCall sp_law_some_pairs (dCons false (dVar 0) (dCons false (dVar 1) dNil))) dNil))))
def d_law : DS :=
    (sSeq (sAsg true 1 (dCall sp_law_start (dCons false (dVar 0) dNil)))
    (sSeq (sAsg false 2 (dLst (dCons false (dC (.str "@n")) (dCons false (dC (.str "@#a")) (dCons false (dC (.str "i")) (dCons false (dC (.str "x.f")) (dCons false (dC (.str "?1")) dNil)))))))
    (sSeq (sFor (.nm 3) (iRng1 (dCons false (dC (.int 6)) dNil)) (sSeq (sAsg false 4 (dCall sp_law_some_number (dCons false (dVar 1) dNil)))
    (sSeq (sAsg false 5 (dCall sp_law_some_pairs (dCons false (dVar 1) (dCons false (dVar 2) dNil))))
    (sSeq (sAsg false 5 (dOp opAdd (dVar 5) (dCB opTuple (dCons false (dLc [11, 15] (.tp [(.nm 11), (.nm 15)]) (iSeq (dSl (dVar 5) oNone (oSome (dCall sp_law_draw (dCons false (dVar 1) (dCons false (dC (.int 3)) dNil)))))) dYes false (dTup (dCons false (dVar 11) (dCons false (dNeg (dVar 15)) dNil)))) dNil))))
    (sSeq (sAsg false 6 (dCall sp_form (dCons false (dVar 4) (dCons false (dCB opTuple (dCons false (dCall sp_law_shuffled (dCons false (dVar 1) (dCons false (dVar 5) dNil))) dNil)) dNil))))
    (sSeq (sIf (dNot (dTruth (dCall sp_law_same (dCons false (dVar 6) (dCons false (dCall sp_law_form (dCons false (dVar 4) (dCons false (dVar 5) dNil))) dNil))))) (sRet (dC (.bl false))) sNext)
    (sSeq (sAsg false 7 (dCall sp_law_some_form (dCons false (dVar 1) (dCons false (dVar 2) dNil))))
    (sSeq (sAsg false 8 (dOp opMul (dCall sp_law_some_number (dCons false (dVar 1) dNil)) (dCall sp_law_draw (dCons false (dVar 1) (dCons false (dC (.int 2)) dNil)))))
    (sSeq (sIf (dNot (dTruth (dCall sp_law_same (dCons false (dTup (dCons false (dCall sp_plus (dCons false (dVar 6) (dCons false (dVar 7) dNil))) (dCons false (dCall sp_minus (dCons false (dVar 6) (dCons false (dVar 7) dNil))) (dCons false (dCall sp_times (dCons false (dVar 8) (dCons false (dVar 6) dNil))) dNil)))) (dCons false (dTup (dCons false (dCall sp_law_sum (dCons false (dLst (dCons false (dTup (dCons false (dC (.int 1)) (dCons false (dVar 6) dNil))) (dCons false (dTup (dCons false (dC (.int 1)) (dCons false (dVar 7) dNil))) dNil))) dNil)) (dCons false (dCall sp_law_sum (dCons false (dLst (dCons false (dTup (dCons false (dC (.int 1)) (dCons false (dVar 6) dNil))) (dCons false (dTup (dCons false (dNeg (dC (.int 1))) (dCons false (dVar 7) dNil))) dNil))) dNil)) (dCons false (dCall sp_law_sum (dCons false (dLst (dCons false (dTup (dCons false (dVar 8) (dCons false (dVar 6) dNil))) dNil)) dNil)) dNil)))) dNil))))) (sRet (dC (.bl false))) sNext)
    (sSeq (sIf (dNot (dTruth (dCall sp_law_same (dCons false (dTup (dCons false (dCall sp_minus (dCons false (dVar 6) (dCons false (dVar 6) dNil))) (dCons false (dCall sp_plus (dCons false (dVar 6) (dCons false (dCall sp_times (dCons false (dNeg (dC (.int 1))) (dCons false (dVar 6) dNil))) dNil))) (dCons false (dCall sp_times (dCons false (dC (.int 0)) (dCons false (dVar 7) dNil))) dNil)))) (dCons false (dTup (dCons false (dTup (dCons false (dC (.int 0)) (dCons false (dTup dNil) dNil))) (dCons false (dTup (dCons false (dC (.int 0)) (dCons false (dTup dNil) dNil))) (dCons false (dTup (dCons false (dC (.int 0)) (dCons false (dTup dNil) dNil))) dNil)))) dNil))))) (sRet (dC (.bl false))) sNext)
    (sSeq (sAsg false 9 (dSl (dCall sp_law_shuffled (dCons false (dVar 1) (dCons false (dVar 2) dNil))) oNone (oSome (dCall sp_law_draw (dCons false (dVar 1) (dCons false (dC (.int 5)) dNil))))))
    (sSeq (sAsg true 10 dDic0)
    (sSeq (sFor (.nm 11) (iSeq (dVar 9)) (sSet false (dCall sp_law_some_form (dCons false (dVar 1) (dCons false (dVar 2) dNil))) (dVar 10) (dVar 11)))
    (sSeq (sIf (dNot (dTruth (dCall sp_law_same (dCons false (dCall sp_image (dCons false (dVar 6) (dCons false (dCB opTuple (dCons false (dLc [11] (.nm 11) (iSeq (dVar 9)) dYes false (dTup (dCons false (dVar 11) (dCons false (dOp opIx (dVar 10) (dVar 11)) dNil)))) dNil)) dNil))) (dCons false (dCall sp_law_put (dCons false (dVar 6) (dCons false (dVar 10) dNil))) dNil))))) (sRet (dC (.bl false))) sNext)
    (sSeq (sAsg false 12 (dDisp [((dC (.str "@n")), (dCall sp_law_var (dCons false (dC (.str "i")) dNil))), ((dC (.str "i")), (dCall sp_law_var (dCons false (dC (.str "@n")) dNil)))]))
    (sSeq (sIf (dNot (dTruth (dCall sp_law_same (dCons false (dCall sp_image (dCons false (dVar 6) (dCons false (dTup (dCons false (dTup (dCons false (dC (.str "i")) (dCons false (dCall sp_law_var (dCons false (dC (.str "@n")) dNil)) dNil))) (dCons false (dTup (dCons false (dC (.str "@n")) (dCons false (dCall sp_law_var (dCons false (dC (.str "i")) dNil)) dNil))) dNil))) dNil))) (dCons false (dCall sp_law_put (dCons false (dVar 6) (dCons false (dVar 12) dNil))) dNil))))) (sRet (dC (.bl false))) sNext)
    (sSeq (sAsg true 13 dDic0)
    (sSeq (sFor (.nm 11) (iSeq (dVar 2)) (sSet false (dCall sp_law_some_number (dCons false (dVar 1) dNil)) (dVar 13) (dVar 11)))
    (sSeq (sIf (dNot (dTruth (dCall sp_law_same (dCons false (dCall sp_value (dCons false (dVar 6) (dCons false (dCB opTuple (dCons false (dLc [11] (.nm 11) (iSeq (dCall sp_law_shuffled (dCons false (dVar 1) (dCons false (dVar 2) dNil)))) dYes false (dTup (dCons false (dVar 11) (dCons false (dOp opIx (dVar 13) (dVar 11)) dNil)))) dNil)) dNil))) (dCons false (dCall sp_law_at (dCons false (dVar 6) (dCons false (dC (.int 1)) (dCons false (dVar 13) dNil)))) dNil))))) (sRet (dC (.bl false))) sNext)
    (sSeq (sAsg false 14 (dCall sp_law_form (dCons false (dOp (opJ0 fun i j => .int (i - j)) (dCall sp_law_draw (dCons false (dVar 1) (dCons false (dC (.int 2000003)) dNil))) (dC (.int 1000001))) (dCons false (dTup (dCons false (dTup (dCons false (dCall sp_law_one_of (dCons false (dVar 1) (dCons false (dVar 2) dNil))) (dCons false (dOp (opJ0 fun i j => .int (i - j)) (dCall sp_law_draw (dCons false (dVar 1) (dCons false (dC (.int 3)) dNil))) (dC (.int 1))) dNil))) dNil)) dNil))))
    (sIf (dNot (dTruth (dCall sp_law_same (dCons false (dTup (dCons false (dCall sp_price (dCons false (dVar 6) dNil)) (dCons false (dCall sp_price (dCons false (dVar 7) dNil)) (dCons false (dCall sp_price (dCons false (dVar 14) dNil)) dNil)))) (dCons false (dTup (dCons false (dCall sp_law_price (dCons false (dVar 6) dNil)) (dCons false (dCall sp_law_price (dCons false (dVar 7) dNil)) (dCons false (dCall sp_law_price (dCons false (dVar 14) dNil)) dNil)))) dNil))))) (sRet (dC (.bl false))) sNext)))))))))))))))))))))
    (sRet (dCall sp_law_same (dCons false (dTup (dCons false (dCall sp_price (dCons false (dTup (dCons false (dC (.int 0)) (dCons false (dTup dNil) dNil))) dNil)) (dCons false (dCall sp_price (dCons false (dTup (dCons false (dC (.int 5)) (dCons false (dTup dNil) dNil))) dNil)) (dCons false (dCall sp_price (dCons false (dTup (dCons false (dNeg (dC (.int 5))) (dCons false (dTup dNil) dNil))) dNil)) (dCons false (dCall sp_price (dCons false (dTup (dCons false (dNeg (dC (.int 3))) (dCons false (dTup (dCons false (dTup (dCons false (dC (.str "@n")) (dCons false (dC (.int 1)) dNil))) dNil)) dNil))) dNil)) dNil))))) (dCons false (dTup (dCons false (dC (.int 0)) (dCons false (dC (.int 5000)) (dCons false (dC (.int 0)) (dCons false (dC (.int 1000999997)) dNil))))) dNil)))))))
end K65

namespace K65
open PySem L2 DW FormM
/-! ### data -/
@[simp] theorem cl_eP (m : Nat) (p : Str × Int) : cl m (eP p) = true := rfl
theorem cls_map {α : Type} (m : Nat) (e : α → D) (h : ∀ a, cl m (e a) = true) : ∀ xs : List α, cls m (xs.map e) = true
  | [] => rfl
  | x :: xs => by simp [cls, h, cls_map m e h xs]
@[simp] theorem cl_eF (m : Nat) (c : Int) (ts : Terms) : cl m (eF c ts) = true := by simp [eF, cl, cls, cls_map m eP (cl_eP m)]
/-- the dict of sums -/
def tbl (acc : Terms) : List (Key × D) := acc.map fun p => (Sum.inr p.1, D.int p.2)
theorem tbl_val (acc : Terms) (n : Str) : valP (tbl acc) (Sum.inr n) = (valP acc n).map D.int := by
  induction acc with
  | nil => rfl
  | cons p r ih =>
    show valP ((Sum.inr p.1, D.int p.2) :: tbl r) _ = _
    rw [valP_cons, valP_cons, ih]
    by_cases e : p.1 = n
    · subst e; simp
    · simp [e]
theorem tbl_put (acc : Terms) (n : Str) (k : Int) : putP (tbl acc) (Sum.inr n) (D.int k) = tbl (putP acc n k) := by
  have h : ((tbl acc).any fun kv => decide (kv.1 = Sum.inr n)) = acc.any fun kv => decide (kv.1 = n) := by
    unfold tbl
    rw [List.any_map]
    congr 1
    funext p
    simp
  unfold putP
  rw [h]
  split
  · unfold tbl
    rw [List.map_map, List.map_map]
    refine List.map_congr_left fun p _ => ?_
    simp only [Function.comp]
    by_cases e : p.1 = n
    · simp [e]
    · simp [e]
  · simp [tbl]
theorem tbl_keys (acc : Terms) : strKeys? ((tbl acc).map (·.1)) = some (acc.map (·.1)) := by
  have : (tbl acc).map (·.1) = (acc.map (·.1)).map Sum.inr := by simp [tbl]
  rw [this, strKeys_map]
theorem tbl_len (acc : Terms) : (tbl acc).length = acc.length := by simp [tbl]

/-! ### form -/
theorem b_form : BodyOk N_form P_form sp_form d_form := by
  rintro ds st Ed Q ⟨c, x, ps, rfl, hx, hl, h⟩
  refine ⟨rfl, ?_⟩
  unfold d_form
  simp only [List.map_cons, List.map_nil, List.length_cons, List.length_nil, N_form, Nat.reduceAdd, Nat.reduceSub, List.replicate, List.cons_append, List.nil_append]
  refine seq_i fun nx hnx => ?_
  simp -implicitDefEqProofs
  apply hnx
  clear hnx
  refine seq_i fun nx hnx => ?_
  simp -implicitDefEqProofs
  rw [frz_seq hx, items_seq (seqOf_app hx _)]
  simp only
  refine forN_inv eP (fun done env s => ∃ y z, env = [some (.int c), some x, some (.ref st.length), y, z] ∧ s = st ++ [.dic (tbl (sums [] done))]) ps ⟨none, none, rfl, rfl⟩ ?_ ?_ ?_
  · rintro done env s ⟨y, z, rfl, rfl⟩
    exact stays_app hx _ _
  · rintro done p rest hi env s ⟨y, z, rfl, rfl⟩
    refine ⟨_, rfl, fun nx2 hnx2 => ?_⟩
    simp -implicitDefEqProofs [eP, tbl_val, tbl_put]
    refine ⟨?_, hnx2 _ _ ⟨_, _, rfl, ?_⟩⟩
    · have := sums_len done []
      rw [tbl_len]
      rw [hi] at hl
      simp at hl this
      exact len_lt (by omega)
    · unfold sums
      rw [List.foldl_append]
      rfl
  · rintro env s ⟨y, z, rfl, rfl⟩
    apply hnx
    clear hnx
    simp -implicitDefEqProofs
    rw [opSorted_dic dic_last (tbl_keys _)]
    have hlen := sums_len ps []
    simp only [List.length_nil] at hlen
    refine ⟨by simp; omega, fun ks hp hs => ?_⟩
    rw [items_seq (show seqOf _ (frz (.tl (ks.map .str))) = some (ks.map .str) from rfl)]
    simp only
    have nf := sums_nf hp hs
    have hkl : ks.length ≤ 64 := by have := hp.length_eq; simp at this; omega
    refine lcN_fm D.str (fun n => if (valP (sums [] ps) n).getD 0 ≠ 0 then some (eP (n, (valP (sums [] ps) n).getD 0)) else none) trivial ks [] (by simp; exact len_size (by omega)) (fun n hn kt kf hk => ?_) ?_
    · obtain ⟨k, hk2⟩ : ∃ k, valP (sums [] ps) n = some k := by
        have := hp.mem_iff.mp hn
        have := valP_some_iff.mpr this
        exact Option.isSome_iff_exists.mp this
      rw [hk2] at hk
      simp -implicitDefEqProofs [wipeD, tbl_val, hk2]
      by_cases e : k = 0
      · simp -implicitDefEqProofs [e] at hk ⊢
        exact hk
      · simp -implicitDefEqProofs [e, eP] at hk ⊢
        exact ⟨by decide, hk⟩
    · simp -implicitDefEqProofs
      refine ⟨by decide, ?_⟩
      have e2 : List.filterMap (fun n => if (valP (sums [] ps) n).getD 0 ≠ 0 then some (eP (n, (valP (sums [] ps) n).getD 0)) else none) ks = (picked (sums [] ps) ks).map eP := by
        unfold picked
        rw [List.map_filterMap]
        congr 1
        funext n
        split <;> rfl
      simp -implicitDefEqProofs only [ne_eq, ite_not] at e2
      rw [e2]
      exact leave_drop (cl_eF _ _ _) (h _ nf)
end K65

namespace K65
open PySem L2 DW FormM
theorem b_law_form : BodyOk N_law_form P_law_form sp_law_form d_law_form := fun ds st Ed Q h => b_form ds st Ed Q h
theorem b_plus : BodyOk N_plus P_plus sp_plus d_plus := by
  rintro ds st Ed Q ⟨c, ts, d, us, rfl, nf, hl, h⟩
  refine ⟨rfl, ?_⟩
  unfold d_plus
  simp only [List.map_cons, List.map_nil, List.length_cons, List.length_nil, N_plus, Nat.reduceAdd, Nat.reduceSub, List.replicate, List.cons_append, List.nil_append]
  refine seq_i fun nx hnx => ?_
  simp -implicitDefEqProofs [eF]
  split
  · rename_i e
    subst e
    exact ⟨by decide, leave_stay (h ts (nf.cong fun n => by simp))⟩
  · apply hnx
    clear hnx
    simp -implicitDefEqProofs [eF]
    refine ⟨len_size (by omega), ⟨c + d, _, ts ++ us, rfl, by simp [seqOf], by simp; omega, fun vs hv => leave_stay (h vs (hv.cong fun n => coef_append _ _ _))⟩⟩
theorem b_times : BodyOk N_times P_times sp_times d_times := by
  rintro ds st Ed Q ⟨k, c, ts, rfl, nf, hl, hk, hc, ht, h⟩
  refine ⟨rfl, ?_⟩
  unfold d_times
  simp only [List.map_cons, List.map_nil, List.length_cons, List.length_nil, N_times, Nat.reduceAdd, Nat.reduceSub, List.replicate, List.cons_append, List.nil_append]
  refine seq_i fun nx hnx => ?_
  simp -implicitDefEqProofs [eF]
  split
  · rename_i e
    subst e
    have := h [] ⟨.nil, by simp, fun n => by simp⟩
    rw [Int.zero_mul] at this
    exact leave_stay this
  · rename_i hk0
    apply hnx
    clear hnx
    simp -implicitDefEqProofs [eF]
    refine ⟨hk.ok hc, ?_⟩
    simp -implicitDefEqProofs [itemsOf, seqOf]
    refine lcN_map eP (fun p => eP (p.1, k * p.2)) trivial ts (len_size (by omega)) (fun p hp kt hkt => ?_) ?_
    · simp -implicitDefEqProofs [wipeD, eP]
      exact ⟨hk.ok (ht p hp), by decide, hkt⟩
    · simp -implicitDefEqProofs
      refine ⟨by decide, leave_stay ?_⟩
      have := h (ts.map fun p => (p.1, k * p.2)) ⟨by
        rw [List.pairwise_map]; exact nf.srt, fun p hp => by
        obtain ⟨q, hq, rfl⟩ := List.mem_map.mp hp
        exact Int.mul_ne_zero hk0 (nf.nz q hq), fun n => coef_mul _ _ _⟩
      unfold eF at this
      rw [List.map_map] at this
      exact this
theorem b_minus : BodyOk N_minus P_minus sp_minus d_minus := by
  rintro ds st Ed Q ⟨c, ts, d, us, rfl, nf, nf2, hl, hd, hu, h⟩
  refine ⟨rfl, ?_⟩
  unfold d_minus
  simp only [List.map_cons, List.map_nil, List.length_cons, List.length_nil, N_minus, Nat.reduceAdd, Nat.reduceSub, List.replicate, List.cons_append, List.nil_append]
  simp -implicitDefEqProofs
  refine ⟨-1, d, us, rfl, nf2, by omega, (show Sm 10 (-1) by unfold Sm; decide).mono (by decide), hd, hu, fun vs hv => ?_⟩
  refine ⟨c, ts, _, vs, rfl, nf, ?_, fun ws hw => leave_stay ?_⟩
  · have : vs = us.map fun p => (p.1, -1 * p.2) := hv.unique ⟨by
        rw [List.pairwise_map]; exact nf2.srt, fun p hp => by
        obtain ⟨q, hq, rfl⟩ := List.mem_map.mp hp
        exact Int.mul_ne_zero (by decide) (nf2.nz q hq), fun n => coef_mul _ _ _⟩
    rw [this]
    simpa using hl
  · have := h ws (hw.cong fun n => by rw [hv.co]; omega)
    rw [show c + -1 * d = c - d by omega]
    exact this
end K65

namespace K65
open PySem L2 DW FormM
theorem cl_dst (m : Nat) (x : Sx) : clM m (dst x) = true := by
  have h : cls m (x.s.map D.int) = true := cls_map m D.int (fun _ => rfl) _
  simp [dst, clM, cls, cl, h]
theorem abs_sum (ts : Terms) : (ts.map fun p => if p.2 < 0 then -p.2 else p.2) = ts.map fun p => if p.2 < 0 then -p.2 else p.2 := rfl
theorem lis_tl (ns : List Int) (st : Sto) : lisOf st (.fl (ns.map .int)) = some (ns.map .int) := rfl
theorem b_law_price : BodyOk N_law_price P_law_price sp_law_price d_law_price := by
  rintro ds st Ed Q ⟨c, ts, rfl, hl, h⟩
  refine ⟨rfl, ?_⟩
  unfold d_law_price
  simp only [List.map_cons, List.map_nil, List.length_cons, List.length_nil, N_law_price, Nat.reduceAdd, Nat.reduceSub, List.replicate, List.cons_append, List.nil_append]
  refine seq_i fun nx hnx => ?_
  simp -implicitDefEqProofs [eF]
  simp -implicitDefEqProofs [itemsOf, seqOf]
  refine lcN_map eP (fun p => .int (if p.2 < 0 then -p.2 else p.2)) trivial ts (len_size (by omega)) (fun p hp kt hkt => ?_) ?_
  · simp -implicitDefEqProofs [wipeD, eP]
    exact hkt
  · rw [show (ts.map fun p => D.int (if p.2 < 0 then -p.2 else p.2)) = (ts.map fun p => if p.2 < 0 then -p.2 else p.2).map .int by rw [List.map_map]; rfl]
    rw [opSum_e (lis_tl _ _)]
    apply hnx
    clear hnx
    simp -implicitDefEqProofs [eF]
    have b1 : ∀ i j : Int, -(2 ^ 64) < i → i < 2 ^ 64 → IntMulOk i j := fun i j h1 h2 => CMul.ok (.inl ⟨h1, h2⟩)
    refine ⟨b1 _ _ (by decide) (by decide), b1 _ _ (by decide) (by decide), b1 _ _ (by decide) (by decide), leave_stay ?_⟩
    exact h
theorem b_price : BodyOk N_price P_price sp_price d_price := fun ds st Ed Q h => b_law_price ds st Ed Q h
theorem b_law_start : BodyOk N_law_start P_law_start sp_law_start d_law_start := by
  rintro ds st Ed Q ⟨s, rfl, h⟩
  refine ⟨rfl, ?_⟩
  unfold d_law_start
  simp only [List.map_cons, List.map_nil, List.length_cons, List.length_nil, N_law_start, Nat.reduceAdd, Nat.reduceSub, List.replicate, List.cons_append, List.nil_append]
  simp -implicitDefEqProofs
  exact ⟨by decide, leave_stay h⟩
theorem b_law_is_int : BodyOk N_law_is_int P_law_is_int sp_law_is_int d_law_is_int := by
  rintro ds st Ed Q ⟨d, t, rfl, ht, h⟩
  refine ⟨rfl, ?_⟩
  unfold d_law_is_int
  simp only [List.map_cons, List.map_nil, List.length_cons, List.length_nil, N_law_is_int, Nat.reduceAdd, Nat.reduceSub, List.replicate, List.cons_append, List.nil_append]
  simp -implicitDefEqProofs
  have a1 := opIsi_e (c := "int") (k := fun z => opTru st (frz z) fun b => if b = true then opIsi st [frz d, frz (D.ty "bool")] fun z => opTru st (frz z) fun b => DW.Leave st (D.bl !b) st Q else DW.Leave st (frz z) st Q) (typN_frz ht) (by decide)
  refine Eq.mpr a1 ?_
  show if isiB t "int" = true then _ else _
  have a2 := opIsi_e (c := "bool") (k := fun z => opTru st (frz z) fun b => DW.Leave st (D.bl !b) st Q) (typN_frz ht) (by decide)
  by_cases e : t = "int"
  · subst e
    rw [if_pos (by decide)]
    refine Eq.mpr a2 ?_
    exact leave_stay h
  · by_cases e2 : t = "bool"
    · subst e2
      rw [if_pos (by decide)]
      refine Eq.mpr a2 ?_
      exact leave_stay h
    · have e3 : isiB t "int" = false := by unfold isiB; simp [e, e2]
      rw [e3]
      refine leave_stay ?_
      rw [show (t == "int") = false by simp [e]] at h
      exact h
theorem b_law_var : BodyOk N_law_var P_law_var sp_law_var d_law_var := by
  rintro ds st Ed Q ⟨n, rfl, h⟩
  refine ⟨rfl, ?_⟩
  unfold d_law_var
  simp only [List.map_cons, List.map_nil, List.length_cons, List.length_nil, N_law_var, Nat.reduceAdd, Nat.reduceSub, List.replicate, List.cons_append, List.nil_append]
  simp -implicitDefEqProofs
  exact ⟨by decide, by decide, by decide, leave_stay h⟩
theorem b_law_one_of : BodyOk N_law_one_of P_law_one_of sp_law_one_of d_law_one_of := by
  rintro ds st Ed Q ⟨x, items, rest, rfl, rfl, hne, hl, hc, h⟩
  refine ⟨rfl, ?_⟩
  unfold d_law_one_of
  simp only [List.map_cons, List.map_nil, List.length_cons, List.length_nil, N_law_one_of, Nat.reduceAdd, Nat.reduceSub, List.replicate, List.cons_append, List.nil_append]
  simp -implicitDefEqProofs
  refine ⟨x, items.length, rest, rfl, rfl, ?_, ?_, fun r x' h0 h1 => ?_⟩
  · have := List.length_pos_iff.mpr hne; omega
  · exact lg_small (by have := List.length_pos_iff.mpr hne; omega) (by omega)
  · obtain ⟨n, rfl⟩ := Int.eq_ofNat_of_zero_le h0
    have hn : n < items.length := by omega
    have e : atI items (n : Int) = some items[n] := by rw [atI_lit, List.getElem?_eq_getElem hn]
    rw [opIx_fl e]
    exact leave_stay (h _ _ (List.getElem_mem hn))
theorem b_law_shuffled : BodyOk N_law_shuffled P_law_shuffled sp_law_shuffled d_law_shuffled := by
  rintro ds st Ed Q ⟨x, y, items, rest, rfl, rfl, hy, hl, hc, hf, h⟩
  refine ⟨rfl, ?_⟩
  unfold d_law_shuffled
  simp only [List.map_cons, List.map_nil, List.length_cons, List.length_nil, N_law_shuffled, Nat.reduceAdd, Nat.reduceSub, List.replicate, List.cons_append, List.nil_append]
  refine seq_i fun nx hnx => ?_
  simp -implicitDefEqProofs
  apply hnx
  clear hnx
  refine seq_i fun nx hnx => ?_
  simp -implicitDefEqProofs
  have hy2 : seqOf (dst x :: (rest ++ [MO.lst []])) (frz y) = some items := by rcases hy with rfl | rfl <;> rfl
  rw [items_seq hy2]
  simp only
  have hfy : frz y = y := by rcases hy with rfl | rfl <;> rfl
  rw [hfy] at hy2 ⊢
  have key := forN_inv (ok := stays (dst x :: (rest ++ [MO.lst []])) y) (tg := Tg.nm 3) (b := sExpr (dBM "list" opInsert (dVar 2) (dCons false (dCall sp_law_draw (dCons false (dVar 0) (dCons false (dOp opAdd (dCB opLen (dCons false (dVar 2) dNil)) (dC (D.int 1))) dNil))) (dCons false (dVar 3) dNil)))) (Ed := fun C x_1 st' => LeaveE (dst x :: rest) st' (Ed C)) (De := { nx := nx, rt := fun x_1 st' => DW.Leave (dst x :: rest) x_1 st' Q }) (st := dst x :: (rest ++ [MO.lst []])) (env := [some (D.ref 0), some y, some (D.ref (rest.length + 1)), none])
    (fun d : D => d) (fun done env s => ∃ z perm x', env = [some (D.ref 0), some y, some (D.ref (rest.length + 1)), z] ∧ s = dst x' :: (rest ++ [MO.lst perm]) ∧ perm.Perm done) items ⟨none, [], x, rfl, rfl, .nil⟩
  rw [List.map_id'] at key
  refine key ?_ ?_ ?_
  · rintro done env s ⟨z, perm, x', rfl, rfl, _⟩
    rcases hy with rfl | rfl <;> trivial
  · rintro done d rs hi env s ⟨z, perm, x', rfl, rfl, hp⟩
    refine ⟨_, rfl, fun nx2 hnx2 => ?_⟩
    have hpl : perm.length = done.length := hp.length_eq
    have hdl : done.length < items.length := by rw [hi]; simp
    have hg : ∀ x' : Sx, (dst x' :: (rest ++ [MO.lst perm]))[rest.length + 1]? = some (MO.lst perm) := fun x' => by simp
    have hd : frz d = d := hf d (by rw [hi]; simp)
    simp -implicitDefEqProofs [hg]
    refine ⟨tyOk_list (hg _), x', (perm.length : Int) + 1, _, rfl, rfl, by omega, lg_small (by omega) (by omega), fun r x2 h0 h1 => ?_⟩
    rw [hd]
    refine Eq.mpr (opInsert_e (hg x2)) ⟨len_lt (by omega), h0, by omega, ?_⟩
    refine hnx2 _ _ ⟨_, perm.take r.toNat ++ [d] ++ perm.drop r.toNat, x2, rfl, ?_, ?_⟩
    · simp
    · rw [List.append_assoc]
      refine (List.perm_middle (l₁ := perm.take r.toNat) (l₂ := perm.drop r.toNat) (a := d)).trans ?_
      rw [List.take_append_drop]
      exact (List.Perm.cons d hp).trans (List.perm_append_singleton d done).symm
  · rintro env s ⟨z, perm, x', rfl, rfl, hp⟩
    apply hnx
    clear hnx
    simp -implicitDefEqProofs
    refine leave_listH ?_ (Nat.le_refl _) (by simp) ?_ (h _ _ hp)
    · exact cl_dst _ _
    · rw [cls_iff] at hc ⊢
      exact fun d hd => cl_mono (by omega) d (hc d (hp.mem_iff.mp hd))
end K65

namespace K65
open PySem L2 DW FormM
/-! ### law_sum -/
theorem b_law_sum : BodyOk N_law_sum P_law_sum sp_law_sum d_law_sum := by
  rintro ds st Ed Q ⟨x, ps, rfl, hx, hl, hp, h⟩
  refine ⟨rfl, ?_⟩
  unfold d_law_sum
  simp only [List.map_cons, List.map_nil, List.length_cons, List.length_nil, N_law_sum, Nat.reduceAdd, Nat.reduceSub, List.replicate, List.cons_append, List.nil_append]
  refine seq_i fun nx hnx => ?_
  simp -implicitDefEqProofs
  apply hnx
  clear hnx
  refine seq_i fun nx hnx => ?_
  simp -implicitDefEqProofs
  apply hnx
  clear hnx
  refine seq_i fun nx hnx => ?_
  simp -implicitDefEqProofs
  rw [frz_seq hx, items_seq (seqOf_app hx _)]
  simp only
  refine forN_inv eK (fun done env s => ∃ z3 z4 z5 z6 rs, env = [some x, some (.int (sumC done)), some (.ref st.length), z3, z4, z5, z6] ∧ s = st ++ [.lst (rs.map eP)] ∧ rs.length ≤ 5 * done.length ∧ ∀ n, coef rs n = sumG done n) ps ⟨none, none, none, none, [], rfl, rfl, by simp, fun n => rfl⟩ ?_ ?_ ?_
  · rintro done env s ⟨z3, z4, z5, z6, rs, rfl, rfl, _, _⟩
    exact stays_app hx _ _
  · rintro done p rest hi env s ⟨z3, z4, z5, z6, rs, rfl, rfl, hrl, hrs⟩
    have hpm : p ∈ ps := by rw [hi]; simp
    have hdl : done.length < ps.length := by rw [hi]; simp
    obtain ⟨hp1, hp2, hp3, hp4⟩ := hp p hpm
    refine ⟨_, rfl, fun nx2 hnx2 => ?_⟩
    refine seq_i fun nx3 hnx3 => ?_
    simp -implicitDefEqProofs [eF]
    refine ⟨hp1.ok hp2, ?_⟩
    apply hnx3
    clear hnx3
    simp -implicitDefEqProofs [eF, itemsOf, seqOf]
    refine forN_inv eP (fun dn env s => ∃ z5 z6, env = [some x, some (.int (sumC done + p.1 * p.2.1)), some (.ref st.length), some (.int p.1), some (eF p.2.1 p.2.2), z5, z6] ∧ s = st ++ [.lst ((rs ++ dn.map fun q => (q.1, p.1 * q.2)).map eP)]) p.2.2 ⟨z5, z6, rfl, by simp⟩ (fun _ _ _ _ => trivial) ?_ ?_
    · rintro dn q rs2 hi2 env s ⟨z5, z6, rfl, rfl⟩
      have hqm : q ∈ p.2.2 := by rw [hi2]; simp
      have hdl2 : dn.length < p.2.2.length := by rw [hi2]; simp
      refine ⟨_, rfl, fun nx4 hnx4 => ?_⟩
      simp -implicitDefEqProofs [eP]
      refine ⟨tyOk_list (last_get _ _), hp1.ok (hp3 q hqm), by decide, len_lt (by omega), hnx4 _ _ ⟨_, _, rfl, ?_⟩⟩
      simp [eP]
    · rintro env s ⟨z5, z6, rfl, rfl⟩
      refine hnx2 _ _ ⟨some (.int p.1), some (eF p.2.1 p.2.2), z5, z6, rs ++ p.2.2.map fun q => (q.1, p.1 * q.2), ?_, rfl, ?_, fun n => ?_⟩
      · simp [sumC]
      · simp; omega
      · rw [coef_append, coef_mul, hrs]; simp [sumG]
  · rintro env s ⟨z3, z4, z5, z6, rs, rfl, rfl, hrl, hrs⟩
    apply hnx
    clear hnx
    simp -implicitDefEqProofs
    refine ⟨_, _, rs, rfl, seq_last, by omega, fun vs hv => leave_drop (cl_eF _ _ _) (h vs (hv.cong hrs))⟩
theorem b_law_at : BodyOk N_law_at P_law_at sp_law_at d_law_at := by
  rintro ds st Ed Q ⟨c, ts, V, y, kvs, rfl, hy, hv, hl, ht, hV, h⟩
  refine ⟨rfl, ?_⟩
  unfold d_law_at
  simp only [List.map_cons, List.map_nil, List.length_cons, List.length_nil, N_law_at, Nat.reduceAdd, Nat.reduceSub, List.replicate, List.cons_append, List.nil_append]
  refine seq_i fun nx hnx => ?_
  simp -implicitDefEqProofs [eF]
  refine ⟨CMul.ok (.inl ⟨by decide, by decide⟩), ?_⟩
  apply hnx
  clear hnx
  refine seq_i fun nx hnx => ?_
  simp -implicitDefEqProofs [eF, itemsOf, seqOf]
  refine forN_inv eP (fun done env s => ∃ z4 z5, env = [some (eF c ts), some (.int 1), some y, some (.int (valC c done V)), z4, z5] ∧ s = st) ts ⟨none, none, by simp [valC, eF], rfl⟩ (fun _ _ _ _ => trivial) ?_ ?_
  · rintro done p rest hi env s ⟨z4, z5, rfl, rfl⟩
    have hpm : p ∈ ts := by rw [hi]; simp
    refine ⟨_, rfl, fun nx2 hnx2 => ?_⟩
    have hfy : frz y = y := by cases y <;> first | rfl | (cases hy; done)
    simp -implicitDefEqProofs [hfy]
    rw [opIx_dic hy (keyOf_s) (hv p hpm)]
    simp -implicitDefEqProofs
    refine ⟨(ht p hpm).ok (hV _), hnx2 _ _ ⟨some (.str p.1), some (.int p.2), ?_, rfl⟩⟩
    simp [valC, Int.add_assoc]
  · rintro env s ⟨z4, z5, rfl, rfl⟩
    apply hnx
    clear hnx
    simp -implicitDefEqProofs
    exact leave_stay h
end K65

namespace K65
open PySem L2 DW FormM
theorem tm_c {T : Tb} (h : TbOk T) (n : Str) : Sm 400 (tm T n).1 := by
  unfold tm
  cases e : T n with
  | none => exact (show Sm 10 0 by unfold Sm; decide).mono (by decide)
  | some f => exact h.c n f e
theorem tm_t {T : Tb} (h : TbOk T) (n : Str) : Sms 400 (tm T n).2 := by
  unfold tm
  cases e : T n with
  | none =>
    intro p hp
    simp at hp
    subst hp
    exact (show Sm 10 1 by unfold Sm; decide).mono (by decide)
  | some f => exact h.t n f e
theorem tm_l {T : Tb} (h : TbOk T) (n : Str) : (tm T n).2.length ≤ 5 := by
  unfold tm
  cases e : T n with
  | none => simp
  | some f => exact h.l n f e
/-! ### law_put -/
theorem b_law_put : BodyOk N_law_put P_law_put sp_law_put d_law_put := by
  rintro ds st Ed Q ⟨c, ts, y, T, rfl, ⟨kvs, hy, hT⟩, hl, hc, ht, hTb, h⟩
  refine ⟨rfl, ?_⟩
  unfold d_law_put
  simp only [List.map_cons, List.map_nil, List.length_cons, List.length_nil, N_law_put, Nat.reduceAdd, Nat.reduceSub, List.replicate, List.cons_append, List.nil_append]
  refine seq_i fun nx hnx => ?_
  simp -implicitDefEqProofs [eF]
  refine ⟨by decide, by decide, ?_⟩
  apply hnx
  clear hnx
  refine seq_i fun nx hnx => ?_
  simp -implicitDefEqProofs [eF, itemsOf, seqOf]
  have hfy : frz y = y := by cases y <;> first | rfl | (cases hy; done)
  have hy2 : ∀ a : Sto, dicOf (st ++ a) y = some kvs := fun a => by
    cases y <;> first | exact hy | (cases hy; done) | skip
    rename_i n
    unfold dicOf at hy ⊢
    simp only at hy ⊢
    have hn : n < st.length := by
      split at hy
      · rename_i e; exact (List.getElem?_eq_some_iff.mp e).1
      · cases hy
    rw [List.getElem?_append_left hn]
    exact hy
  refine forN_inv eP (fun done env s => ∃ z3 z4, env = [some (eF c ts), some y, some (.ref st.length), z3, z4] ∧ s = st ++ [.lst (((1, c, []) :: done.map fun p => (p.2, tm T p.1)).map eK)]) ts ⟨none, none, rfl, rfl⟩ (fun _ _ _ _ => trivial) ?_ ?_
  · rintro done p rest hi env s ⟨z3, z4, rfl, rfl⟩
    have hpm : p ∈ ts := by rw [hi]; simp
    have hdl : done.length < ts.length := by rw [hi]; simp
    refine ⟨_, rfl, fun nx2 hnx2 => ?_⟩
    simp -implicitDefEqProofs [hfy, hy2, -List.map_map, -List.map_cons]
    refine ⟨tyOk_list (last_get _ _), p.1, rfl, ?_⟩
    dsimp only
    rw [hy2]
    refine ⟨by decide, ?_⟩
    refine Eq.mpr (opAppend_e (last_get _ _)) ⟨len_lt (by simp; omega), hnx2 _ _ ⟨some (.str p.1), some (.int p.2), rfl, ?_⟩⟩
    rw [hT]
    have : frz (((T p.1).map fun f => eF f.1 f.2).getD (frz (eF 0 [(p.1, 1)]))) = eF (tm T p.1).1 (tm T p.1).2 := by
      unfold tm
      cases T p.1 <;> rfl
    rw [this, last_set, List.map_append, ← List.cons_append, List.map_append]
    rfl
  · rintro env s ⟨z3, z4, rfl, rfl⟩
    apply hnx
    clear hnx
    simp -implicitDefEqProofs [-List.map_map, -List.map_cons]
    refine ⟨_, (1, c, []) :: ts.map fun p => (p.2, tm T p.1), rfl, seq_last, by simp; omega, ?_, fun vs hv => leave_drop (cl_eF _ _ _) ?_⟩
    · intro p hp
      rcases List.mem_cons.mp hp with rfl | hp
      · exact ⟨(show Sm 10 1 by unfold Sm; decide).mono (by decide), hc, by simp [Sms], by simp⟩
      · obtain ⟨q, hq, rfl⟩ := List.mem_map.mp hp
        exact ⟨ht q hq, tm_c hTb _, tm_t hTb _, tm_l hTb _⟩
    · have e1 : sumC ((1, c, []) :: ts.map fun p => (p.2, tm T p.1)) = imgC c ts T := by
        unfold sumC imgC
        rw [List.map_cons, List.map_map, List.sum_cons, Int.one_mul]
        rfl
      have e2 : ∀ n, sumG ((1, c, []) :: ts.map fun p => (p.2, tm T p.1)) n = imgG ts T n := fun n => by
        unfold sumG imgG
        rw [List.map_cons, List.map_map, List.sum_cons, coef_nil, Int.mul_zero, Int.zero_add]
        rfl
      rw [e1]
      exact h vs (hv.cong e2)
/-! ### value -/
theorem zip_fd (kvs : List (Key × D)) : (kvs.map (·.1)).zip (kvs.map (·.2)) = kvs := by
  induction kvs with
  | nil => rfl
  | cons p r ih => simp [ih]
theorem b_value : BodyOk N_value P_value sp_value d_value := by
  rintro ds st Ed Q ⟨c, ts, ps, V, rfl, hl, ht, hl2, hp, hV, hin, h⟩
  refine ⟨rfl, ?_⟩
  unfold d_value
  simp only [List.map_cons, List.map_nil, List.length_cons, List.length_nil, N_value, Nat.reduceAdd, Nat.reduceSub, List.replicate, List.cons_append, List.nil_append]
  refine seq_i fun nx hnx => ?_
  simp -implicitDefEqProofs [eF, itemsOf, seqOf]
  refine dcN_inv eP (fun done acc s => s = st ∧ ∀ n : Str, n ∈ done.map (·.1) → valP acc (.inr n) = some (.int (V n))) ps (len_size (by omega)) ⟨rfl, by simp⟩ (fun _ _ _ _ => trivial) ?_ ?_
  · rintro done p rest hi acc s ⟨rfl, hacc⟩
    refine ⟨_, rfl, fun kt hkt => ?_⟩
    have hpm : p ∈ ps := by rw [hi]; simp
    simp -implicitDefEqProofs [wipeD, eP]
    refine hkt _ _ _ _ rfl ⟨rfl, fun n hn => ?_⟩
    rw [valP_put]
    by_cases e : n = p.1
    · subst e; simp [keep, hV p hpm]
    · rw [if_neg (by simpa using e)]
      refine hacc n ?_
      simp only [List.map_append, List.mem_append, List.map_cons, List.map_nil, List.mem_singleton] at hn
      exact hn.resolve_right e
  · rintro acc s ⟨rfl, hacc⟩
    apply hnx
    clear hnx
    simp -implicitDefEqProofs [eF, itemsOf, seqOf]
    refine lcN_map eP (fun p => .int (p.2 * V p.1)) trivial ts (len_size (by omega)) (fun p hpm kt hkt => ?_) ?_
    · simp -implicitDefEqProofs [wipeD, eP]
      have hv := hacc p.1 (hin p hpm)
      have hm := valP_mem hv
      rw [opIx_dic (kvs := acc) (q := .inr p.1) (by unfold dicOf; simp only; rw [zip_fd]) rfl hv]
      obtain ⟨q, hq, e⟩ := List.mem_map.mp (hin p hpm)
      have hq2 : Sm 400 (V p.1) := by rw [← e, ← hV q hq]; exact hp q hq
      exact ⟨(ht p hpm).ok hq2, hkt⟩
    · rw [show (ts.map fun p => D.int (p.2 * V p.1)) = (ts.map fun p => p.2 * V p.1).map .int by rw [List.map_map]; rfl]
      rw [opSum_e (lis_tl _ _)]
      simp -implicitDefEqProofs
      exact leave_stay h
/-! ### image -/
theorem b_image : BodyOk N_image P_image sp_image d_image := by
  rintro ds st Ed Q ⟨c, ts, ps, T, rfl, hl, ht, hl2, hTb, hT, hnT, h⟩
  refine ⟨rfl, ?_⟩
  unfold d_image
  simp only [List.map_cons, List.map_nil, List.length_cons, List.length_nil, N_image, Nat.reduceAdd, Nat.reduceSub, List.replicate, List.cons_append, List.nil_append]
  refine seq_i fun nx hnx => ?_
  simp -implicitDefEqProofs [itemsOf, seqOf]
  refine dcN_inv (fun p : Str × Int × Terms => D.tup [D.str p.1, eF p.2.1 p.2.2]) (fun done acc s => s = st ∧ (∀ n : Str, n ∈ done.map (·.1) → valP acc (.inr n) = (T n).map fun f => eF f.1 f.2) ∧ ∀ n : Str, n ∉ done.map (·.1) → valP acc (.inr n) = none) ps (len_size (by omega)) ⟨rfl, by simp, fun _ _ => rfl⟩ (fun _ _ _ _ => trivial) ?_ ?_
  · rintro done p rest hi acc s ⟨rfl, hacc, hacc2⟩
    refine ⟨_, rfl, fun kt hkt => ?_⟩
    have hpm : p ∈ ps := by rw [hi]; simp
    simp -implicitDefEqProofs [wipeD]
    refine hkt _ _ _ _ rfl ⟨rfl, fun n hn => ?_, fun n hn => ?_⟩
    · rw [valP_put]
      by_cases e : n = p.1
      · subst e; simp [keep, hT p hpm, eF]
      · rw [if_neg (by simpa using e)]
        refine hacc n ?_
        simp only [List.map_append, List.mem_append, List.map_cons, List.map_nil, List.mem_singleton] at hn
        exact hn.resolve_right e
    · simp only [List.map_append, List.mem_append, List.map_cons, List.map_nil, List.mem_singleton, not_or] at hn
      rw [valP_put, if_neg (by simpa using hn.2)]
      exact hacc2 n hn.1
  · rintro acc s ⟨rfl, hacc, hacc2⟩
    have hv : ∀ n : Str, valP acc (.inr n) = (T n).map fun f => eF f.1 f.2 := fun n => by
      by_cases e : n ∈ ps.map (·.1)
      · exact hacc n e
      · rw [hacc2 n e, hnT n e]; rfl
    apply hnx
    clear hnx
    refine seq_i fun nx hnx => ?_
    simp -implicitDefEqProofs [eF]
    apply hnx
    clear hnx
    refine seq_i fun nx hnx => ?_
    simp -implicitDefEqProofs
    apply hnx
    clear hnx
    refine seq_i fun nx hnx => ?_
    simp -implicitDefEqProofs [itemsOf, seqOf]
    refine forN_inv eP (fun done env st2 => ∃ z5 z6 z7 rs, env = [some (eF c ts), some (D.tup (ps.map fun p => D.tup [D.str p.1, eF p.2.1 p.2.2])), some (.fd (acc.map (·.1)) (acc.map (·.2))), some (.int (imgC c done T)), some (.ref s.length), z5, z6, z7, none, none] ∧ st2 = s ++ [.lst (rs.map eP)] ∧ rs.length ≤ 5 * done.length ∧ ∀ n, coef rs n = imgG done T n) ts ⟨none, none, none, [], by simp [imgC, eF], rfl, by simp, fun n => rfl⟩ (fun _ _ _ _ => trivial) ?_ ?_
    · rintro done p rest hi env st2 ⟨z5, z6, z7, rs, rfl, rfl, hrl, hrs⟩
      have hpm : p ∈ ts := by rw [hi]; simp
      have hdl : done.length < ts.length := by rw [hi]; simp
      have hd : ∀ s2, dicOf s2 (.fd (acc.map (·.1)) (acc.map (·.2))) = some acc := fun s2 => by unfold dicOf; simp only; rw [zip_fd]
      have hin : ∀ (s2 : Sto) (k : D → Prop), opIn s2 (.str p.1) (.fd (acc.map (·.1)) (acc.map (·.2))) k = k (.bl (T p.1).isSome) := fun s2 k => by
        unfold opIn opInW
        simp only [seqOf, lisOf, hd, keyOf_s, hv]
        cases T p.1 <;> rfl
      refine ⟨_, rfl, fun nx2 hnx2 => ?_⟩
      simp -implicitDefEqProofs [hin]
      cases eT : T p.1 with
      | none =>
        have etm : tm T p.1 = (0, [(p.1, 1)]) := by unfold tm; rw [eT]; rfl
        rw [if_neg (by simp)]
        refine ⟨tyOk_list (last_get _ _), by decide, len_lt (by omega), hnx2 _ _ ⟨some (.str p.1), some (.int p.2), z7, rs ++ [p], ?_, ?_, ?_, fun n => ?_⟩⟩
        · simp [imgC, etm]
        · simp [eP]
        · simp; omega
        · rw [coef_append, hrs]
          simp [imgG, etm, coef_cons]
          by_cases e : p.1 = n <;> simp [e]
      | some f =>
        have etm : tm T p.1 = f := by unfold tm; rw [eT]; rfl
        have hfc := hTb.c _ _ eT
        have hft := hTb.t _ _ eT
        have hfl := hTb.l _ _ eT
        rw [if_pos (by simp)]
        refine seq_i fun nx3 hnx3 => ?_
        simp -implicitDefEqProofs
        rw [opIx_dic (hd _) keyOf_s (by rw [hv, eT]; rfl)]
        apply hnx3
        clear hnx3
        refine seq_i fun nx3 hnx3 => ?_
        simp -implicitDefEqProofs [eF]
        refine ⟨(ht p hpm).ok hfc, ?_⟩
        simp -implicitDefEqProofs [DW.iop_add]
        apply hnx3
        clear hnx3
        simp -implicitDefEqProofs [eF, itemsOf, seqOf]
        refine ⟨tyOk_list (last_get _ _), ?_⟩
        refine lcN_map eP (fun q => eP (q.1, p.2 * q.2)) trivial f.2 (len_size (by omega)) (fun q hq kt hkt => ?_) ?_
        · simp -implicitDefEqProofs [wipeD, eP]
          exact ⟨(ht p hpm).ok (hft q hq), by decide, hkt⟩
        · refine Eq.mpr (opExtend_e (last_get _ _) rfl) ⟨len_size (by simp; omega), hnx2 _ _ ⟨some (.str p.1), some (.int p.2), some (eF f.1 f.2), rs ++ f.2.map fun q => (q.1, p.2 * q.2), ?_, ?_, ?_, fun n => ?_⟩⟩
          · simp [imgC, etm, eF, Int.add_assoc]
          · simp
          · simp; omega
          · rw [coef_append, coef_mul, hrs]; simp [imgG, etm]
    · rintro env st2 ⟨z5, z6, z7, rs, rfl, rfl, hrl, hrs⟩
      apply hnx
      clear hnx
      simp -implicitDefEqProofs
      exact ⟨_, _, rs, rfl, seq_last, by omega, fun vs hv => leave_drop (cl_eF _ _ _) (h vs (hv.cong hrs))⟩
end K65

namespace K65
open PySem L2 DW FormM
theorem b_law_draw : BodyOk N_law_draw P_law_draw sp_law_draw d_law_draw := by
  rintro ds st Ed Q ⟨x, m, rest, rfl, rfl, hm, hl, h⟩
  refine ⟨rfl, ?_⟩
  have hm0 : ¬ m = 0 := by omega
  have hd : ∀ i, CDivD i m := fun _ => ⟨hm0, hl⟩
  have fm : ∀ i : Int, 0 ≤ i.fmod m ∧ i.fmod m < m := fun i => ⟨Int.fmod_nonneg_of_pos i hm, Int.fmod_lt_of_pos i hm⟩
  have stay : ∀ {r a b c : Int}, 0 ≤ r → r < m → DW.Leave (dst x :: rest) (.int r) (.lst [.fl (x.s.map .int), .int a, .int b, .int c] :: rest) Q := fun {r a b c} h0 h1 => leave_stay (h r ⟨x.s, a, b, c⟩ h0 h1)
  unfold d_law_draw dst
  simp only [List.map_cons, List.map_nil, List.length_cons, List.length_nil, N_law_draw, Nat.reduceAdd, Nat.reduceSub, List.replicate, List.cons_append, List.nil_append]
  refine seq_i fun nx hnx => ?_
  simp -implicitDefEqProofs
  apply hnx
  refine seq_i fun nx hnx => ?_
  simp -implicitDefEqProofs
  split
  · refine seq_i fun nx hnx => ?_
    simp -implicitDefEqProofs [hm0]
    apply hnx
    refine seq_i fun nx hnx => ?_
    simp -implicitDefEqProofs [hd]
    apply hnx
    simp -implicitDefEqProofs
    exact stay (fm _).1 (fm _).2
  apply hnx
  refine seq_i fun nx hnx => ?_
  simp -implicitDefEqProofs
  apply hnx
  -- the cell
  refine seq_i fun nx hnx => ?_
  simp -implicitDefEqProofs
  have rest1 : ∀ cell : Int, 0 ≤ cell → nx [some (D.ref 0), some (D.int m), none, some (D.int cell), none] (MO.lst [D.fl (List.map D.int x.s), D.int x.a, D.int x.b, D.int (x.c + 1)] :: rest) := fun cell hc => by
    apply hnx
    clear hnx
    refine seq_i fun nx hnx => ?_
    simp -implicitDefEqProofs
    apply hnx
    refine seq_i fun nx hnx => ?_
    simp -implicitDefEqProofs
    refine ⟨⟨by decide, by decide, by decide⟩, ?_⟩
    split
    · refine seq_i fun nx hnx => ?_
      simp -implicitDefEqProofs [hd]
      apply hnx
      simp -implicitDefEqProofs [hm0]
      exact stay (fm _).1 (fm _).2
    · rename_i hc2
      apply hnx
      clear hnx
      have b1 : ∀ i j : Int, -(2 ^ 64) < j → j < 2 ^ 64 → IntMulOk i j := fun i j h1 h2 => CMul.ok (.inr ⟨h1, h2⟩)
      refine seq_i fun nx hnx => ?_
      simp -implicitDefEqProofs [b1]
      apply hnx
      refine seq_i fun nx hnx => ?_
      simp -implicitDefEqProofs [b1]
      refine ⟨⟨by decide, by decide⟩, ?_⟩
      apply hnx
      simp -implicitDefEqProofs [hm0]
      exact ⟨⟨by decide, by decide⟩, stay (fm _).1 (fm _).2⟩
  split
  · rename_i hs
    have hs' : 0 < x.s.length := hs
    have hi : 0 ≤ x.a.fmod x.s.length ∧ x.a.fmod x.s.length < x.s.length := ⟨Int.fmod_nonneg_of_pos _ (by omega), Int.fmod_lt_of_pos _ (by omega)⟩
    obtain ⟨j, hj, hj2⟩ : ∃ j : Nat, x.a.fmod x.s.length = (j : Int) ∧ j < x.s.length := ⟨(x.a.fmod x.s.length).toNat, by omega, by omega⟩
    have e : atI (x.s.map D.int) (x.a.fmod x.s.length) = some (D.int x.s[j]) := by rw [hj, atI_lit]; simp -implicitDefEqProofs [hj2]
    simp -implicitDefEqProofs [e, hs]
    refine ⟨fun z => by simp [z] at hs', rest1 _ ?_⟩
    split <;> omega
  · exact rest1 0 (by omega)

theorem b_law_some_number : BodyOk N_law_some_number P_law_some_number sp_law_some_number d_law_some_number := by
  rintro ds st Ed Q ⟨x, rest, rfl, rfl, h⟩
  refine ⟨rfl, ?_⟩
  unfold d_law_some_number
  simp only [List.map_cons, List.map_nil, List.length_cons, List.length_nil, N_law_some_number, Nat.reduceAdd, Nat.reduceSub, List.replicate, List.cons_append, List.nil_append]
  refine seq_i fun nx hnx => ?_
  simp -implicitDefEqProofs
  refine ⟨x, 6, rest, rfl, rfl, by decide, lg_small (by decide) (by decide), fun r x1 h0 h1 => ?_⟩
  apply hnx
  clear hnx
  refine seq_i fun nx hnx => ?_
  simp -implicitDefEqProofs
  have sm : ∀ {i : Int}, i.natAbs < 2 ^ 64 → Sm 100 i := fun {i} h => (show Sm 64 i from h).mono (by decide)
  split
  · refine ⟨⟨by decide, by decide, by decide⟩, x1, _, rest, rfl, rfl, by decide, lg_small (by decide) (by decide), fun a x2 ha0 ha1 => ?_⟩
    simp -implicitDefEqProofs
    refine ⟨⟨by decide, by decide, by decide⟩, CMul.ok (.inr ⟨by decide, by decide⟩), ⟨by decide, by decide, by decide⟩, x2, _, rest, rfl, rfl, by decide, lg_small (by decide) (by decide), fun b x3 hb0 hb1 => ?_⟩
    exact leave_stay (h _ x3 (by unfold Sm; omega))
  · apply hnx
    clear hnx
    refine seq_i fun nx hnx => ?_
    simp -implicitDefEqProofs
    split
    · refine ⟨by decide, x1, _, rest, rfl, rfl, by simp, by simp, rfl, fun d x2 hd => ?_⟩
      simp only [List.mem_cons, List.not_mem_nil, or_false] at hd
      rcases hd with rfl | rfl | rfl | rfl | rfl | rfl <;> exact leave_stay (h _ x2 (sm (by decide)))
    · apply hnx
      clear hnx
      simp -implicitDefEqProofs
      refine ⟨x1, 9, rest, rfl, rfl, by decide, lg_small (by decide) (by decide), fun r x2 h0 h1 => ?_⟩
      exact leave_stay (h _ x2 (sm (by omega)))
theorem b_law_some_form : BodyOk N_law_some_form P_law_some_form sp_law_some_form d_law_some_form := by
  rintro ds st Ed Q ⟨x, rest, rfl, rfl, h⟩
  refine ⟨rfl, ?_⟩
  unfold d_law_some_form
  simp only [List.map_cons, List.map_nil, List.length_cons, List.length_nil, N_law_some_form, Nat.reduceAdd, Nat.reduceSub, List.replicate, List.cons_append, List.nil_append]
  simp -implicitDefEqProofs
  refine ⟨x, rest, rfl, rfl, fun c x1 hc => ?_⟩
  refine ⟨x1, rest, rfl, rfl, fun ps x2 hl hi hs => ?_⟩
  refine ⟨c, _, ps, rfl, rfl, by omega, fun ts nf => leave_stay (h c ts x2 hc nf.self (nf.inN hi) (nf.sms fun n => ?_))⟩
  exact (coef_sm (c := 3) hs (by omega) n).mono (by decide)
theorem b_law_some_pairs : BodyOk N_law_some_pairs P_law_some_pairs sp_law_some_pairs d_law_some_pairs := by
  rintro ds st Ed Q ⟨x, rest, rfl, rfl, h⟩
  refine ⟨rfl, ?_⟩
  unfold d_law_some_pairs
  simp only [List.map_cons, List.map_nil, List.length_cons, List.length_nil, N_law_some_pairs, Nat.reduceAdd, Nat.reduceSub, List.replicate, List.cons_append, List.nil_append]
  simp -implicitDefEqProofs
  refine ⟨x, 8, rest, rfl, rfl, by decide, lg_small (by decide) (by decide), fun r x1 h0 h1 => ?_⟩
  refine ⟨by omega, by omega, ?_⟩
  unfold rangeD
  refine lcN_inv (fun i : Nat => D.int (0 + (i : Nat))) (fun done acc s => ∃ ps x2, acc = ps.map eP ∧ s = dst x2 :: rest ∧ ps.length = done.length ∧ InN names5 ps ∧ Sms 100 ps) (List.range r.toNat) (len_size (by simp; omega)) ⟨[], x1, rfl, rfl, rfl, by simp [InN], by simp [Sms]⟩ (fun _ _ _ _ => trivial) ?_ ?_
  · rintro done a rs hi acc s ⟨ps, x2, rfl, rfl, hl, hin, hsm⟩
    refine ⟨_, rfl, fun kt hkt => ?_⟩
    simp -implicitDefEqProofs [wipeD]
    refine ⟨x2, names5.map .str, rest, rfl, rfl, by decide, by decide, rfl, fun d x3 hd => ?_⟩
    obtain ⟨n, hn, rfl⟩ := List.mem_map.mp hd
    refine ⟨x3, rest, rfl, rfl, fun k x4 hk => ⟨by decide, hkt _ _ ⟨ps ++ [(n, k)], x4, by simp [keep, eP], rfl, by simp [hl], ?_, ?_⟩⟩⟩
    · intro p hp
      rcases List.mem_append.mp hp with hp | hp
      · exact hin p hp
      · cases List.mem_singleton.mp hp; exact hn
    · intro p hp
      rcases List.mem_append.mp hp with hp | hp
      · exact hsm p hp
      · cases List.mem_singleton.mp hp; exact hk
  · rintro acc s ⟨ps, x2, rfl, rfl, hl, hin, hsm⟩
    simp -implicitDefEqProofs
    exact leave_stay (h ps x2 (by simp at hl; omega) hin hsm)
end K65

namespace K65
open PySem L2 DW FormM
theorem isi_i (st : Sto) (i : Int) (c : String) (k : D → Prop) : opIsi st [.int i, .ty c] k = (c ∈ ["int", "bool", "str", "tuple", "list"] ∧ k (.bl (isiB "int" c))) := rfl
theorem isi_s (st : Sto) (i : Str) (c : String) (k : D → Prop) : opIsi st [.str i, .ty c] k = (c ∈ ["int", "bool", "str", "tuple", "list"] ∧ k (.bl (isiB "str" c))) := rfl
theorem isi_t (st : Sto) (i : List D) (c : String) (k : D → Prop) : opIsi st [.tup i, .ty c] k = (c ∈ ["int", "bool", "str", "tuple", "list"] ∧ k (.bl (isiB "tuple" c))) := rfl
theorem dat_frz {k : Nat} {d : D} (h : dat k d) : frz d = d := by cases d <;> first | rfl | (cases k <;> exact h.elim)
theorem dats_get {k : Nat} : ∀ {ds : List D}, dats k ds → ∀ (i : Nat) (h : i < ds.length), dat k ds[i]
  | d :: ds, h, 0, _ => by unfold dats at h; exact h.1
  | d :: ds, h, i + 1, hi => by unfold dats at h; exact dats_get h.2 i (by simpa using hi)
theorem b_law_same (k : Nat) : BodyOk N_law_same P_law_same (spr_law_same (k+1)) (d_law_same (spr_law_same k)) := by
  rintro ds st Ed Q ⟨d, rfl, hd, h⟩
  refine ⟨rfl, ?_⟩
  unfold d_law_same
  simp only [List.map_cons, List.map_nil, List.length_cons, List.length_nil, N_law_same, Nat.reduceAdd, Nat.reduceSub, List.replicate, List.cons_append, List.nil_append]
  refine seq_i fun nx hnx => ?_
  cases d with
  | int i =>
    simp -implicitDefEqProofs [isi_i, isiB]
    apply hnx
    clear hnx
    refine seq_i fun nx hnx => ?_
    simp -implicitDefEqProofs [isi_i, isiB]
    apply hnx
    clear hnx
    simp -implicitDefEqProofs [isi_i, isiB]
    refine ⟨_, _, rfl, rfl, ?_⟩
    simp -implicitDefEqProofs
    exact leave_stay h
  | str i =>
    simp -implicitDefEqProofs [isi_s, isiB]
    apply hnx
    clear hnx
    refine seq_i fun nx hnx => ?_
    simp -implicitDefEqProofs [isi_s, isiB]
    exact leave_stay h
  | tup xs =>
    cases k with
    | zero => exact hd.elim
    | succ k =>
      obtain ⟨hl, hds⟩ := hd
      simp -implicitDefEqProofs [isi_t, isiB]
      refine seq_i fun nx2 hnx2 => ?_
      simp -implicitDefEqProofs [isi_t, isiB]
      apply hnx2
      clear hnx2
      simp -implicitDefEqProofs [isi_t, isiB]
      refine ⟨by omega, ?_⟩
      unfold rangeD
      refine lcN_map (fun i : Nat => D.int (0 + (i : Nat))) (fun _ => D.bl true) trivial (List.range xs.length) (len_size (by simp; omega)) (fun a ha kt hkt => ?_) ?_
      · have ha' : a < xs.length := List.mem_range.mp ha
        have e : atI xs (a : Int) = some xs[a] := by rw [atI_lit, List.getElem?_eq_getElem ha']
        simp -implicitDefEqProofs [wipeD, e]
        have hda := dats_get hds a ha'
        exact ⟨xs[a], by rw [dat_frz hda], hda, hkt⟩
      · rw [show ((List.range xs.length).map fun _ => D.bl true) = ((List.range xs.length).map fun _ => true).map .bl by rw [List.map_map]; rfl]
        unfold opAll
        rw [opAnyAll_e (show lisOf _ (.fl _) = some _ from rfl)]
        simp -implicitDefEqProofs
        exact leave_stay (by rw [show ((List.range xs.length).all fun _ => true) = true by rw [List.all_eq_true]; exact fun _ _ => rfl]; exact h)
  | _ => cases k <;> exact hd.elim
end K65

namespace K65
open PySem L2 DW FormM
/-! ### the law -/
theorem perm_map {α β : Type} (f : α → β) : ∀ {l m : List β}, l.Perm m → ∀ xs : List α, m = xs.map f → ∃ ys : List α, l = ys.map f ∧ ys.Perm xs := by
  intro l m h
  induction h with
  | nil => intro xs e; cases xs with
    | nil => exact ⟨[], rfl, .nil⟩
    | cons => cases e
  | cons a _ ih => intro xs e; cases xs with
    | nil => cases e
    | cons x xs =>
      simp only [List.map_cons, List.cons.injEq] at e
      obtain ⟨ys, rfl, p⟩ := ih xs e.2
      exact ⟨x :: ys, by simp [e.1], p.cons x⟩
  | swap a b l => intro xs e; cases xs with
    | nil => cases e
    | cons x xs => cases xs with
      | nil => cases e
      | cons y xs =>
        simp only [List.map_cons, List.cons.injEq] at e
        exact ⟨y :: x :: xs, by simp [e.1, e.2.1, e.2.2], .swap x y xs⟩
  | trans _ _ h1 h2 =>
    intro xs e
    obtain ⟨ys, rfl, p⟩ := h2 xs e
    obtain ⟨zs, rfl, q⟩ := h1 ys rfl
    exact ⟨zs, rfl, q.trans p⟩
theorem cutD_map {α β : Type} (f : α → β) (xs : List α) (lo hi : Option Int) : cutD (xs.map f) lo hi = (cutD xs lo hi).map f := by
  simp [cutD, List.map_take, List.map_drop]
theorem cutD_sub {α : Type} (xs : List α) (lo hi : Option Int) : (cutD xs lo hi).Sublist xs := by
  unfold cutD
  exact (List.take_sublist _ _).trans (List.drop_sublist _ _)
theorem dats_map {α : Type} (k : Nat) (e : α → D) (h : ∀ a, dat k (e a)) : ∀ xs : List α, dats k (xs.map e)
  | [] => by rw [List.map_nil]; unfold dats; trivial
  | x :: xs => by rw [List.map_cons]; unfold dats; exact ⟨h x, dats_map k e h xs⟩
theorem dat_eP (k : Nat) (p : Str × Int) : dat (k + 1) (eP p) := by
  unfold eP dat
  refine ⟨by simp, ?_⟩
  simp [dats, dat]
theorem dat_eF (k : Nat) (c : Int) (ts : Terms) (h : ts.length < 1000000) : dat (k + 3) (eF c ts) := by
  unfold eF dat
  refine ⟨by simp, ?_⟩
  refine ⟨by simp [dat], ⟨?_, trivial⟩⟩
  unfold dat
  exact ⟨by simpa using h, dats_map _ _ (dat_eP k) ts⟩
theorem nf_nil {ts : Terms} {g : Str → Int} (h : Nf ts g) (e : ∀ n, g n = 0) : ts = [] := h.unique ⟨.nil, by simp, fun n => (e n).symm ▸ rfl⟩
theorem nd5 : names5.Nodup := by decide
/-- a table of forms as a list -/
def kvF (fs : List (Str × Int × Terms)) : List (Key × D) := fs.map fun p => (Sum.inr p.1, eF p.2.1 p.2.2)
theorem kvF_val (fs : List (Str × Int × Terms)) (n : Str) : valP (kvF fs) (.inr n) = (valP fs n).map fun f => eF f.1 f.2 := by
  induction fs with
  | nil => rfl
  | cons p r ih =>
    show valP ((Sum.inr p.1, _) :: kvF r) _ = _
    rw [valP_cons, valP_cons, ih]
    by_cases e : p.1 = n
    · subst e; simp
    · simp [e]
theorem putP_new {κ α : Type} [DecidableEq κ] {kvs : List (κ × α)} {k : κ} (h : k ∉ kvs.map (·.1)) (y : α) : putP kvs k y = kvs ++ [(k, y)] := by
  unfold putP
  rw [if_neg (by
    intro z
    rw [List.any_eq_true] at z
    obtain ⟨p, hp, e⟩ := z
    exact h (List.mem_map.mpr ⟨p, hp, by simpa using e⟩))]
theorem kvF_keys (fs : List (Str × Int × Terms)) (n : Str) (h : n ∉ fs.map (·.1)) : (Sum.inr n : Key) ∉ (kvF fs).map (·.1) := by
  intro z
  obtain ⟨p, hp, e⟩ := List.mem_map.mp z
  obtain ⟨q, hq, rfl⟩ := List.mem_map.mp hp
  exact h (List.mem_map.mpr ⟨q, hq, by simpa using e⟩)
end K65

namespace K65
open PySem L2 DW FormM
theorem len0 {ns : List Str} {w : Terms} {g : Str → Int} (h : Nf w g) (hz : ∀ n, n ∉ ns → g n = 0) : w.length ≤ ns.length :=
  h.len fun p hp => Classical.byContradiction fun z => h.nz p hp (by rw [h.at hp]; exact hz _ z)
theorem coef_out {ns : List Str} {ts : Terms} (h : InN ns ts) {n : Str} (hn : n ∉ ns) : coef ts n = 0 := coef_none fun z => by
  obtain ⟨p, hp, rfl⟩ := List.mem_map.mp z
  exact hn (h p hp)
theorem sum_zero {α : Type} (f : α → Int) : ∀ xs : List α, (∀ x ∈ xs, f x = 0) → (xs.map f).sum = 0
  | [], _ => rfl
  | x :: xs, h => by rw [List.map_cons, List.sum_cons, h x List.mem_cons_self, sum_zero f xs fun y hy => h y (List.mem_cons_of_mem _ hy)]; rfl
theorem imgG_out {ts : Terms} {T : Tb} (hi : InN names5 ts) (hT : ∀ n f, T n = some f → InN names5 f.2) {n : Str} (hn : n ∉ names5) : imgG ts T n = 0 := by
  refine sum_zero _ _ fun p hp => ?_
  have : coef (tm T p.1).2 n = 0 := by
    unfold tm
    cases e : T p.1 with
    | none => exact coef_out (ns := names5) (fun q hq => by simp at hq; subst hq; exact hi p hp) hn
    | some f => exact coef_out (hT _ _ e) hn
  rw [this, Int.mul_zero]
/-- the law's slots within a turn -/
def E9 (scr : D) (turn c : Int) (qs : Terms) (f g : D) (k : Int) (x9 x10 x11 x12 x13 x14 x15 : Option D) : Slots := [some scr, some (.ref 0), some (.fl (names5.map .str)), some (.int turn), some (.int c), some (.tup (qs.map eP)), some f, some g, some (.int k), x9, x10, x11, x12, x13, x14, x15]
structure FOk (f : Int × Terms) : Prop where
  c : Sm 100 f.1
  t : Sms 110 f.2
  i : InN names5 f.2
  l : f.2.length ≤ 5
abbrev nmD : D := .fl [.str (Str.ofString "@n"), .str (Str.ofString "@#a"), .str (Str.ofString "i"), .str (Str.ofString "x.f"), .str (Str.ofString "?1")]
/-- the law's slots after a turn -/
def LI (scr : D) (env : Slots) (s : Sto) : Prop := ∃ e3 e4 e5 e6 e7 e8 e9 e10 e11 e12 e13 e14 e15 x rest, env = [some scr, some (.ref 0), some (.fl (names5.map .str)), e3, e4, e5, e6, e7, e8, e9, e10, e11, e12, e13, e14, e15] ∧ s = dst x :: rest
theorem b_law : BodyOk N_law P_law sp_law d_law := by
  rintro ds st Ed Q ⟨s, rfl, rfl, h⟩
  refine ⟨rfl, ?_⟩
  unfold d_law
  simp only [List.map_cons, List.map_nil, List.length_cons, List.length_nil, N_law, Nat.reduceAdd, Nat.reduceSub, List.replicate, List.cons_append, List.nil_append]
  refine seq_i fun nx hnx => ?_
  simp -implicitDefEqProofs
  refine ⟨s, rfl, ?_⟩
  simp -implicitDefEqProofs
  apply hnx
  clear hnx
  refine seq_i fun nx hnx => ?_
  simp -implicitDefEqProofs
  refine ⟨by decide, ?_⟩
  apply hnx
  clear hnx
  refine seq_i fun nx hnx => ?_
  simp -implicitDefEqProofs
  unfold rangeD
  refine forN_inv (fun i : Nat => D.int (0 + (i : Nat))) (fun _ env s2 => LI (.sl (s.map .int)) env s2) (List.range _) ⟨_, _, _, _, _, _, _, _, _, _, _, _, _, ⟨s, 0, 0, 0⟩, [], rfl, rfl⟩ (fun _ _ _ _ => trivial) ?_ ?_
  · rintro _ turn _ _ env s2 ⟨e3, e4, e5, e6, e7, e8, e9, e10, e11, e12, e13, e14, e15, x, rest, rfl, rfl⟩
    refine ⟨_, rfl, fun nx2 hnx2 => ?_⟩
    -- constant
    refine seq_i fun nx hnx => ?_
    simp -implicitDefEqProofs
    refine ⟨x, rest, rfl, rfl, fun c x hc => ?_⟩
    apply hnx
    clear hnx
    -- pairs
    refine seq_i fun nx hnx => ?_
    simp -implicitDefEqProofs
    refine ⟨x, rest, rfl, rfl, fun ps x hpl hpi hps => ?_⟩
    apply hnx
    clear hnx
    refine seq_i fun nx hnx => ?_
    simp -implicitDefEqProofs
    refine ⟨x, 3, rest, rfl, rfl, by decide, lg_small (by decide) (by decide), fun r x _ _ => ?_⟩
    simp -implicitDefEqProofs [cutD_map, itemsOf, seqOf]
    have hcl : (cutD ps none (some r)).length ≤ 7 := Nat.le_trans (cutD_sub _ _ _).length_le hpl
    refine lcN_map eP (fun p => eP (p.1, -p.2)) trivial (cutD ps none (some r)) (len_size (by omega)) (fun p _ kt hkt => ?_) ?_
    · simp -implicitDefEqProofs [wipeD, eP]
      exact ⟨by decide, hkt⟩
    simp -implicitDefEqProofs
    obtain ⟨qs, hqs⟩ : ∃ qs, qs = ps ++ (cutD ps none (some r)).map fun p => (p.1, -p.2) := ⟨_, rfl⟩
    have eqs : ps.map eP ++ (cutD ps none (some r)).map (fun p => eP (p.1, -p.2)) = qs.map eP := by rw [hqs]; simp
    rw [eqs]
    have hql : qs.length ≤ 14 := by rw [hqs]; simp; omega
    have hqi : InN names5 qs := by
      intro p hp
      rw [hqs] at hp
      rcases List.mem_append.mp hp with hp | hp
      · exact hpi p hp
      · obtain ⟨q, hq, rfl⟩ := List.mem_map.mp hp
        exact hpi q ((cutD_sub _ _ _).subset hq)
    have hqm : Sms 100 qs := by
      intro p hp
      rw [hqs] at hp
      rcases List.mem_append.mp hp with hp | hp
      · exact hps p hp
      · obtain ⟨q, hq, rfl⟩ := List.mem_map.mp hp
        exact (hps q ((cutD_sub _ _ _).subset hq)).neg
    clear eqs hqs
    refine ⟨len_size (by omega), ?_⟩
    apply hnx
    clear hnx
    -- f
    refine seq_i fun nx hnx => ?_
    simp -implicitDefEqProofs
    refine ⟨x, .tup (qs.map eP), qs.map eP, rest, rfl, rfl, .inr rfl, by simp; omega, cls_map _ _ (cl_eP _) _, ?_, fun perm x hperm => ?_⟩
    · intro d hd
      obtain ⟨q, _, rfl⟩ := List.mem_map.mp hd
      rfl
    obtain ⟨us, rfl, hus⟩ := perm_map eP hperm qs rfl
    simp -implicitDefEqProofs
    refine ⟨c, _, us, rfl, rfl, by rw [hus.length_eq]; omega, fun ts nf0 => ?_⟩
    have nf : Nf ts (coef qs) := nf0.cong fun n => coef_perm hus n
    have ti := nf.inN hqi
    have tl : ts.length ≤ 5 := nf.len ti
    have tm0 : Sms 110 ts := nf.sms fun n => (coef_sm (c := 4) hqm (by omega) n).mono (by decide)
    apply hnx
    clear hnx
    refine seq_i fun nx hnx => ?_
    simp -implicitDefEqProofs
    refine ⟨c, _, qs, rfl, rfl, by omega, fun ts2 nf2 => ?_⟩
    obtain rfl := nf2.unique nf
    refine ⟨eF c ts2, rfl, dat_eF _ _ _ (by omega), ?_⟩
    simp -implicitDefEqProofs
    apply hnx
    clear hnx nf0
    -- g, k
    refine seq_i fun nx hnx => ?_
    simp -implicitDefEqProofs
    refine ⟨x, rest, rfl, rfl, fun cg tg x hcg ng gi gm => ?_⟩
    have gl : tg.length ≤ 5 := ng.len gi
    apply hnx
    clear hnx
    refine seq_i fun nx hnx => ?_
    simp -implicitDefEqProofs
    refine ⟨x, rest, rfl, rfl, fun k0 x hk0 => ?_⟩
    refine ⟨x, 2, rest, rfl, rfl, by decide, lg_small (by decide) (by decide), fun k1 x hk1 hk2 => ?_⟩
    have hk1' : Sm 10 k1 := by unfold Sm; omega
    refine ⟨hk0.ok hk1', ?_⟩
    have hk : Sm 110 (k0 * k1) := hk0.mul hk1'
    obtain ⟨k, ek⟩ : ∃ k, k = k0 * k1 := ⟨_, rfl⟩
    rw [← ek] at hk
    apply hnx
    rw [← ek]
    clear hnx ek
    -- plus, minus, times
    have s1 : Sm 400 (1 : Int) := (show Sm 10 1 by unfold Sm; decide).mono (by decide)
    have sn1 : Sm 400 (-1 : Int) := (show Sm 10 (-1) by unfold Sm; decide).mono (by decide)
    have s0 : Sm 400 (0 : Int) := (show Sm 10 0 by unfold Sm; decide).mono (by decide)
    have tm4 : Sms 400 ts2 := tm0.mono (by decide)
    have gm4 : Sms 400 tg := gm.mono (by decide)
    have hc4 : Sm 400 c := hc.mono (by decide)
    have hcg4 : Sm 400 cg := hcg.mono (by decide)
    have hk4 : Sm 400 k := hk.mono (by decide)
    refine seq_i fun nx hnx => ?_
    simp -implicitDefEqProofs
    refine ⟨c, ts2, cg, tg, rfl, nf.self, by omega, fun v1 h1 => ?_⟩
    refine ⟨c, ts2, cg, tg, rfl, nf.self, ng, by omega, hcg4, gm4, fun v2 h2 => ?_⟩
    refine ⟨k, c, ts2, rfl, nf.self, by omega, hk4, hc4, tm4, fun v3 h3 => ?_⟩
    refine ⟨by decide, by decide, _, [(1, c, ts2), (1, cg, tg)], rfl, rfl, by simp, ?_, fun w1 g1 => ?_⟩
    · intro p hp
      simp only [List.mem_cons, List.not_mem_nil, or_false] at hp
      rcases hp with rfl | rfl
      · exact ⟨s1, hc4, tm4, tl⟩
      · exact ⟨s1, hcg4, gm4, gl⟩
    refine ⟨by decide, _, [(1, c, ts2), (-1, cg, tg)], rfl, rfl, by simp, ?_, fun w2 g2 => ?_⟩
    · intro p hp
      simp only [List.mem_cons, List.not_mem_nil, or_false] at hp
      rcases hp with rfl | rfl
      · exact ⟨s1, hc4, tm4, tl⟩
      · exact ⟨sn1, hcg4, gm4, gl⟩
    refine ⟨by decide, by decide, _, [(k, c, ts2)], rfl, rfl, by simp, ?_, fun w3 g3 => ?_⟩
    · intro p hp
      simp only [List.mem_cons, List.not_mem_nil, or_false] at hp
      rcases hp with rfl
      exact ⟨hk4, hc4, tm4, tl⟩
    obtain rfl := g1.unique (h1.cong fun n => by simp [sumG])
    obtain rfl := g2.unique (h2.cong fun n => by simp [sumG]; omega)
    obtain rfl := g3.unique (h3.cong fun n => by simp [sumG])
    have l1 : w1.length < 1000000 := by
      have := len0 (ns := names5) h1 fun n hn => by rw [coef_out ti hn, coef_out gi hn]; rfl
      simp at this; omega
    have l2 : w2.length < 1000000 := by
      have := len0 (ns := names5) h2 fun n hn => by rw [coef_out ti hn, coef_out gi hn]; rfl
      simp at this; omega
    have l3 : w3.length < 1000000 := by
      have := len0 (ns := names5) h3 fun n hn => by rw [coef_out ti hn, Int.mul_zero]
      simp at this; omega
    rw [show sumC [(1, c, ts2), (1, cg, tg)] = c + cg by simp [sumC], show sumC [(1, c, ts2), (-1, cg, tg)] = c - cg by simp [sumC]; omega, show sumC [(k, c, ts2)] = k * c by simp [sumC]]
    refine ⟨by decide, .tup [eF (c + cg) w1, eF (c - cg) w2, eF (k * c) w3], rfl, ?_, ?_⟩
    · exact ⟨by simp, dat_eF _ _ _ l1, dat_eF _ _ _ l2, dat_eF _ _ _ l3, trivial⟩
    simp -implicitDefEqProofs
    apply hnx
    clear hnx
    -- noughts
    refine seq_i fun nx hnx => ?_
    simp -implicitDefEqProofs
    refine ⟨c, ts2, c, ts2, rfl, nf.self, nf.self, by omega, hc4, tm4, fun y1 i1 => ?_⟩
    refine ⟨-1, c, ts2, rfl, nf.self, by omega, sn1, hc4, tm4, fun y2 i2 => ?_⟩
    refine ⟨c, ts2, _, y2, rfl, nf.self, ?_, fun y3 i3 => ?_⟩
    · have := len0 (ns := names5) i2 fun n hn => by rw [coef_out ti hn, Int.mul_zero]
      simp at this; omega
    refine ⟨0, cg, tg, rfl, ng, by omega, s0, hcg4, gm4, fun y4 i4 => ?_⟩
    obtain rfl := nf_nil i1 fun n => by omega
    obtain rfl := nf_nil i3 fun n => by rw [i2.co]; omega
    obtain rfl := nf_nil i4 fun n => by omega
    rw [show c - c = 0 by omega, show c + -1 * c = 0 by omega, show 0 * cg = 0 by omega]
    refine ⟨by decide, by decide, by decide, .tup [eF 0 [], eF 0 [], eF 0 []], rfl, ?_, ?_⟩
    · exact ⟨by simp, dat_eF _ _ _ (by simp), dat_eF _ _ _ (by simp), dat_eF _ _ _ (by simp), trivial⟩
    simp -implicitDefEqProofs
    apply hnx
    clear hnx
    -- some
    refine seq_i fun nx hnx => ?_
    simp -implicitDefEqProofs
    refine ⟨x, .fl (names5.map .str), names5.map .str, rest, rfl, rfl, .inl rfl, by simp, rfl, ?_, fun perm x hperm => ?_⟩
    · intro d hd
      obtain ⟨q, _, rfl⟩ := List.mem_map.mp hd
      rfl
    obtain ⟨ns, rfl, hns⟩ := perm_map D.str hperm names5 rfl
    have nsd : ns.Nodup := hns.nodup_iff.mpr nd5
    simp -implicitDefEqProofs
    refine ⟨x, 5, rest, rfl, rfl, by decide, lg_small (by decide) (by decide), fun r2 x _ _ => ?_⟩
    simp -implicitDefEqProofs [cutD_map]
    obtain ⟨ms, hms⟩ : ∃ ms, ms = cutD ns none (some r2) := ⟨_, rfl⟩
    rw [← hms]
    have msub : ms.Sublist ns := by rw [hms]; exact cutD_sub _ _ _
    have msd : ms.Nodup := msub.nodup nsd
    have msi : ∀ n ∈ ms, n ∈ names5 := fun n hn => hns.mem_iff.mp (msub.subset hn)
    have msl : ms.length ≤ 5 := by have := msub.length_le; have := hns.length_eq; simp at this; omega
    clear hms
    apply hnx
    clear hnx
    -- table
    refine seq_i fun nx hnx => ?_
    simp -implicitDefEqProofs
    apply hnx
    clear hnx
    refine seq_i fun nx hnx => ?_
    simp -implicitDefEqProofs
    rw [items_seq (show seqOf _ (frz (frz (D.tl (ms.map .str)))) = some (ms.map .str) from rfl)]
    simp only
    refine forN_inv D.str (fun done env s2 => ∃ e11 x fs, env = E9 (.sl (s.map .int)) turn c qs (eF c ts2) (eF cg tg) k (some (.fl (ms.map .str))) (some (.ref (rest.length + 1))) e11 e12 e13 e14 e15 ∧ s2 = dst x :: (rest ++ [.dic (kvF fs)]) ∧ fs.map (·.1) = done ∧ ∀ p ∈ fs, FOk p.2) ms ⟨e11, x, [], rfl, rfl, rfl, by simp⟩ (fun _ _ _ _ => trivial) ?_ ?_
    · rintro done n rs hi env s2 ⟨e11, x, fs, rfl, rfl, hfs, hfo⟩
      refine ⟨_, rfl, fun nx3 hnx3 => ?_⟩
      unfold E9
      have hg : ∀ x' : Sx, (dst x' :: (rest ++ [MO.dic (kvF fs)]))[rest.length + 1]? = some (MO.dic (kvF fs)) := fun x' => by simp
      have hnk : n ∉ fs.map (·.1) := by
        rw [hfs]
        rw [hi] at msd
        exact fun z => (List.nodup_append.mp msd).2.2 n z n List.mem_cons_self rfl
      have hfl : fs.length ≤ 5 := by
        have := congrArg List.length hi
        have h2 := congrArg List.length hfs
        simp at this h2
        omega
      simp -implicitDefEqProofs
      refine ⟨x, _, rfl, rfl, fun cn tn x hcn ntn itn htn => ?_⟩
      refine Eq.mpr (opSet_dicS (hg x)) ⟨len_lt (by unfold kvF; rw [List.length_map]; omega), hnx3 _ _ ⟨some (.str n), x, fs ++ [(n, cn, tn)], rfl, ?_, by simp [hfs], ?_⟩⟩
      · rw [putP_new (kvF_keys fs n hnk)]
        simp [kvF, eF]
      · intro p hp
        rcases List.mem_append.mp hp with hp | hp
        · exact hfo p hp
        · cases List.mem_singleton.mp hp
          exact ⟨hcn, htn, itn, ntn.len itn⟩
    rintro env s2 ⟨e11, x, fs, rfl, rfl, hfs, hfo⟩
    apply hnx
    clear hnx
    -- image
    have fsd : (fs.map (·.1)).Nodup := by rw [hfs]; exact msd
    have hfl : fs.length ≤ 5 := by rw [← hfs] at msl; simpa using msl
    obtain ⟨T, hT⟩ : ∃ T : Tb, T = valP fs := ⟨_, rfl⟩
    have hTm : ∀ n f, T n = some f → FOk f := fun n f e => by rw [hT] at e; exact hfo _ (valP_mem e)
    have hTb : TbOk T := ⟨fun n f e => (hTm n f e).c.mono (by decide), fun n f e => (hTm n f e).t.mono (by decide), fun n f e => (hTm n f e).l⟩
    have hT1 : ∀ p ∈ fs, T p.1 = some p.2 := fun p hp => by rw [hT]; exact valP_of_mem fsd hp
    have hT2 : ∀ n, n ∉ fs.map (·.1) → T n = none := fun n hn => by
      rw [hT]
      cases e : valP fs n with
      | none => rfl
      | some f => exact absurd (List.mem_map.mpr ⟨_, valP_mem e, rfl⟩) hn
    refine seq_i fun nx hnx => ?_
    unfold E9
    simp -implicitDefEqProofs
    rw [items_seq (show seqOf _ (frz (D.fl (ms.map .str))) = some (ms.map .str) from rfl)]
    simp only
    have hgt : ∀ x' : Sx, (dst x' :: (rest ++ [MO.dic (kvF fs)]))[rest.length + 1]? = some (MO.dic (kvF fs)) := fun x' => by simp
    rw [show ms.map D.str = fs.map fun p => D.str p.1 by rw [← hfs, List.map_map]; rfl]
    refine lcN_map (fun p : Str × Int × Terms => D.str p.1) (fun p => D.tup [D.str p.1, eF p.2.1 p.2.2]) trivial fs (len_size (by omega)) (fun p hp kt hkt => ?_) ?_
    · simp -implicitDefEqProofs [wipeD]
      rw [opIx_dic (dicOf_ref (hgt x)) keyOf_s (by rw [kvF_val, ← hT, hT1 p hp]; rfl)]
      exact ⟨by decide, hkt⟩
    simp -implicitDefEqProofs
    refine ⟨c, ts2, fs, T, rfl, tl, tm4, hfl, hTb, hT1, hT2, fun j1 k1 => ?_⟩
    refine ⟨c, ts2, _, T, rfl, ⟨_, dicOf_ref (hgt x), fun n => by rw [kvF_val, hT]⟩, tl, hc4, tm4, hTb, fun j2 k2 => ?_⟩
    obtain rfl := k1.unique k2
    have l4 : j1.length < 1000000 := by
      have := len0 (ns := names5) k1 fun n hn => imgG_out ti (fun n f e => (hTm n f e).i) hn
      simp at this; omega
    refine ⟨_, rfl, dat_eF _ _ _ l4, ?_⟩
    simp -implicitDefEqProofs
    apply hnx
    clear hnx
    -- turned
    refine seq_i fun nx hnx => ?_
    simp -implicitDefEqProofs [dDisp, dPairs]
    refine ⟨_, rfl, ?_⟩
    simp -implicitDefEqProofs [dDisp, dPairs]
    refine ⟨_, rfl, ?_⟩
    simp -implicitDefEqProofs [dDisp, dPairs, keys?, mergeP]
    obtain ⟨tt, htt⟩ : ∃ tt : List (Str × Int × Terms), tt = [(Str.ofString "@n", 0, [(Str.ofString "i", 1)]), (Str.ofString "i", 0, [(Str.ofString "@n", 1)])] := ⟨_, rfl⟩
    have ett : putP (putP [] (Sum.inr (Str.ofString "@n") : Key) (frz (eF 0 [(Str.ofString "i", 1)]))) (Sum.inr (Str.ofString "i")) (frz (eF 0 [(Str.ofString "@n", 1)])) = kvF tt := by
      rw [putP_new (kvs := []) (by simp), putP_new (fun z => absurd (Sum.inr.inj (List.mem_singleton.mp z)) (by decide)), htt]
      rfl
    rw [ett]
    have ttd : (tt.map (·.1)).Nodup := by rw [htt]; decide
    have tto : ∀ p ∈ tt, FOk p.2 := fun p hp => by
      have q1 : Sm 100 0 := (show Sm 10 0 by unfold Sm; decide).mono (by decide)
      have q2 : Sm 110 1 := (show Sm 10 1 by unfold Sm; decide).mono (by decide)
      rw [htt] at hp
      simp only [List.mem_cons, List.not_mem_nil, or_false] at hp
      rcases hp with rfl | rfl <;> exact ⟨q1, fun q hq => by cases List.mem_singleton.mp hq; exact q2, fun q hq => by cases List.mem_singleton.mp hq; decide, by simp⟩
    obtain ⟨T', hT'⟩ : ∃ T : Tb, T = valP tt := ⟨_, rfl⟩
    have hTm' : ∀ n f, T' n = some f → FOk f := fun n f e => by rw [hT'] at e; exact tto _ (valP_mem e)
    have hTb' : TbOk T' := ⟨fun n f e => (hTm' n f e).c.mono (by decide), fun n f e => (hTm' n f e).t.mono (by decide), fun n f e => (hTm' n f e).l⟩
    have hT1' : ∀ p ∈ tt, T' p.1 = some p.2 := fun p hp => by rw [hT']; exact valP_of_mem ttd hp
    have hT2' : ∀ n, n ∉ tt.map (·.1) → T' n = none := fun n hn => by
      rw [hT']
      cases e : valP tt n with
      | none => rfl
      | some f => exact absurd (List.mem_map.mpr ⟨_, valP_mem e, rfl⟩) hn
    apply hnx
    clear hnx
    refine seq_i fun nx hnx => ?_
    simp -implicitDefEqProofs
    refine ⟨_, rfl, ?_⟩
    simp -implicitDefEqProofs
    refine ⟨by decide, _, rfl, ?_⟩
    simp -implicitDefEqProofs
    refine ⟨by decide, c, ts2, [(Str.ofString "i", 0, [(Str.ofString "@n", 1)]), (Str.ofString "@n", 0, [(Str.ofString "i", 1)])], T', rfl, tl, tm4, by simp, hTb', ?_, ?_, fun j3 k3 => ?_⟩
    · intro p hp
      refine hT1' p ?_
      rw [htt]
      simp only [List.mem_cons, List.not_mem_nil, or_false] at hp ⊢
      exact hp.symm
    · intro n hn
      refine hT2' n fun z => hn ?_
      rw [htt] at z
      simp only [List.map_cons, List.map_nil, List.mem_cons, List.not_mem_nil, or_false] at z ⊢
      exact z.symm
    refine ⟨c, ts2, _, T', rfl, ⟨kvF tt, ?_, fun n => by rw [kvF_val, hT']⟩, tl, hc4, tm4, hTb', fun j4 k4 => ?_⟩
    · show some (((kvF tt).map (·.1)).zip ((kvF tt).map (·.2))) = _
      rw [zip_fd]
    obtain rfl := k3.unique k4
    have l5 : j3.length < 1000000 := by
      have := len0 (ns := names5) k3 fun n hn => imgG_out ti (fun n f e => (hTm' n f e).i) hn
      simp at this; omega
    refine ⟨_, rfl, dat_eF _ _ _ l5, ?_⟩
    simp -implicitDefEqProofs
    apply hnx
    clear hnx
    -- known
    refine seq_i fun nx hnx => ?_
    simp -implicitDefEqProofs
    apply hnx
    clear hnx
    refine seq_i fun nx hnx => ?_
    simp -implicitDefEqProofs
    rw [show itemsOf (dst x :: (rest ++ [MO.dic (kvF fs), MO.dic []])) (frz nmD) = some (names5.map .str) from rfl]
    simp only
    refine forN_inv D.str (fun done env s2 => ∃ e11 x acc, env = E9 (.sl (s.map .int)) turn c qs (eF c ts2) (eF cg tg) k (some (.fl (fs.map fun p => D.str p.1))) (some (.ref (rest.length + 1))) e11 (some (.fd ((kvF tt).map (·.1)) ((kvF tt).map (·.2)))) (some (.ref (rest.length + 1 + 1))) e14 e15 ∧ s2 = dst x :: (rest ++ [.dic (kvF fs), .dic (tbl acc)]) ∧ acc.map (·.1) = done ∧ Sms 100 acc) names5 ⟨e11, x, [], rfl, rfl, rfl, by simp [Sms]⟩ (fun _ _ _ _ => trivial) ?_ ?_
    · rintro done n rs hi env s2 ⟨e11, x, acc, rfl, rfl, hfs, hfo⟩
      refine ⟨_, rfl, fun nx3 hnx3 => ?_⟩
      unfold E9
      have hg : ∀ x' : Sx, (dst x' :: (rest ++ [MO.dic (kvF fs), MO.dic (tbl acc)]))[rest.length + 1 + 1]? = some (MO.dic (tbl acc)) := fun x' => by simp
      have hnk : n ∉ acc.map (·.1) := by
        rw [hfs]
        have := nd5
        rw [hi] at this
        exact fun z => (List.nodup_append.mp this).2.2 n z n List.mem_cons_self rfl
      have hal : acc.length ≤ 5 := by
        have := congrArg List.length hi
        have h2 := congrArg List.length hfs
        simp at this h2
        omega
      simp -implicitDefEqProofs
      refine ⟨x, _, rfl, rfl, fun kn x hkn => ?_⟩
      refine Eq.mpr (opSet_dicS (hg x)) ⟨len_lt (by rw [tbl_len]; omega), hnx3 _ _ ⟨some (.str n), x, acc ++ [(n, kn)], rfl, ?_, by simp [hfs], ?_⟩⟩
      · rw [tbl_put, putP_new hnk]
        simp
      · intro p hp
        rcases List.mem_append.mp hp with hp | hp
        · exact hfo p hp
        · cases List.mem_singleton.mp hp
          exact hkn
    rintro env s2 ⟨e11, x, acc, rfl, rfl, hac, hao⟩
    apply hnx
    clear hnx
    have acd : (acc.map (·.1)).Nodup := by rw [hac]; exact nd5
    obtain ⟨V, hV⟩ : ∃ V : Str → Int, V = fun n => (valP acc n).getD 0 := ⟨_, rfl⟩
    have hV1 : ∀ n ∈ names5, valP acc n = some (V n) := fun n hn => by
      have := valP_some_iff.mpr (hac ▸ hn : n ∈ acc.map (·.1))
      obtain ⟨v, hv⟩ := Option.isSome_iff_exists.mp this
      simp [hV, hv]
    have hV2 : ∀ n, Sm 100 (V n) := fun n => by
      rw [hV]
      show Sm 100 ((valP acc n).getD 0)
      cases e : valP acc n with
      | none => exact (show Sm 10 0 by unfold Sm; decide).mono (by decide)
      | some v => exact hao _ (valP_mem e)
    refine seq_i fun nx hnx => ?_
    unfold E9
    simp -implicitDefEqProofs
    refine ⟨x, .fl (names5.map .str), names5.map .str, _, rfl, rfl, .inl rfl, by simp, rfl, ?_, fun perm x hperm => ?_⟩
    · intro d hd
      obtain ⟨q, _, rfl⟩ := List.mem_map.mp hd
      rfl
    obtain ⟨ns2, rfl, hns2⟩ := perm_map D.str hperm names5 rfl
    have hn2l : ns2.length = 5 := hns2.length_eq
    have hgk : ∀ x' : Sx, (dst x' :: (rest ++ [MO.dic (kvF fs), MO.dic (tbl acc)]))[rest.length + 1 + 1]? = some (MO.dic (tbl acc)) := fun x' => by simp
    rw [items_seq (show seqOf _ (frz (D.tl (ns2.map .str))) = some (ns2.map .str) from rfl)]
    simp only
    refine lcN_map D.str (fun n => eP (n, V n)) trivial ns2 (len_size (by omega)) (fun n hn kt hkt => ?_) ?_
    · simp -implicitDefEqProofs [wipeD]
      rw [opIx_dic (dicOf_ref (hgk x)) keyOf_s (by rw [tbl_val, hV1 n (hns2.mem_iff.mp hn)]; rfl)]
      exact ⟨by decide, hkt⟩
    simp -implicitDefEqProofs
    refine ⟨c, ts2, ns2.map fun n => (n, V n), V, by rw [List.map_map]; rfl, tl, tm4, by simp; omega, ?_, ?_, ?_, ?_⟩
    · intro p hp
      obtain ⟨n, hn, rfl⟩ := List.mem_map.mp hp
      exact (hV2 n).mono (by decide)
    · intro p hp
      obtain ⟨n, hn, rfl⟩ := List.mem_map.mp hp
      rfl
    · intro p hp
      rw [List.map_map]
      exact List.mem_map.mpr ⟨p.1, hns2.mem_iff.mpr (ti p hp), rfl⟩
    refine ⟨c, ts2, V, _, _, rfl, dicOf_ref (hgk x), fun p hp => by rw [tbl_val, hV1 _ (ti p hp)]; rfl, tl, tm4, fun n => (hV2 n).mono (by decide), ?_⟩
    refine ⟨_, rfl, trivial, ?_⟩
    simp -implicitDefEqProofs
    apply hnx
    clear hnx
    -- small
    refine seq_i fun nx hnx => ?_
    simp -implicitDefEqProofs
    refine ⟨x, 2000003, _, rfl, rfl, by decide, lg_small (by decide) (by decide), fun r5 x _ _ => ?_⟩
    simp -implicitDefEqProofs
    refine ⟨x, names5.map .str, _, rfl, rfl, by decide, by decide, rfl, fun d5 x hd5 => ?_⟩
    obtain ⟨n5, hn5, rfl⟩ := List.mem_map.mp hd5
    refine ⟨x, 3, _, rfl, rfl, by decide, lg_small (by decide) (by decide), fun r6 x _ _ => ?_⟩
    simp -implicitDefEqProofs
    refine ⟨by decide, by decide, r5 - 1000001, _, [(n5, r6 - 1)], rfl, rfl, by simp, fun tsm nfm => ?_⟩
    have lsm : tsm.length ≤ 5 := by
      have := len0 (ns := names5) nfm fun n hn => coef_out (ns := names5) (fun p hp => by cases List.mem_singleton.mp hp; exact hn5) hn
      simpa using this
    apply hnx
    clear hnx
    -- prices
    simp -implicitDefEqProofs
    refine ⟨c, ts2, rfl, by omega, cg, tg, rfl, by omega, _, tsm, rfl, by omega, ?_⟩
    refine ⟨by decide, c, ts2, rfl, by omega, cg, tg, rfl, by omega, _, tsm, rfl, by omega, ?_⟩
    refine ⟨by decide, .tup [.int (prC c ts2), .int (prC cg tg), .int (prC (r5 - 1000001) tsm)], rfl, ⟨by simp, trivial, trivial, trivial, trivial⟩, ?_⟩
    simp -implicitDefEqProofs
    exact hnx2 _ _ ⟨_, _, _, _, _, _, _, _, _, _, _, _, _, x, _, rfl, rfl⟩
  · rintro env s2 ⟨e3, e4, e5, e6, e7, e8, e9, e10, e11, e12, e13, e14, e15, x, rest, rfl, rfl⟩
    apply hnx
    clear hnx
    simp -implicitDefEqProofs
    refine ⟨by decide, 0, [], rfl, by decide, ?_⟩
    refine ⟨by decide, 5, [], rfl, by decide, ?_⟩
    refine ⟨by decide, -5, [], rfl, by decide, ?_⟩
    refine ⟨by decide, by decide, by decide, -3, [(Str.ofString "@n", 1)], rfl, by decide, ?_⟩
    refine ⟨by decide, .tup [.int 0, .int 5000, .int 0, .int 1000999997], rfl, ?_, leave_stay (h _)⟩
    exact ⟨by decide, trivial, trivial, trivial, trivial, trivial⟩
end K65

namespace K65
open PySem L2 DW FormM
theorem head_law (ns : List Int) (_ : ns.length ≤ 63) : sp_law [.sl (ns.map .int)] [] (fun _ _ => False) fun x _ => x = .bl true := ⟨ns, rfl, rfl, fun _ => rfl⟩
end K65


namespace K65
open PySem PySem.Spec PyProof.Rows L2 DW
section
variable {P : Program} {w : World} {K : PySem.W.Frag} {mg : Str → Option Value} {base : Heap}
theorem w_form (T : Top K mg) {cdv : Value} {A : Around} {outer : List Env} {s : Shared} {H : Hp} {E : XK} (hr : Room 0 (A.deeper (envOfC "form" (defScope s_form) s.heap.objs.size T.f_form cdv))) :
    PSs (cxOf (L2.CX P w) P w K mg base N_form "form" (defScope s_form) T.f_form cdv A outer s H E) (defBody s_form) (liftS K (fun cls d _ H => E cls d H) (d_form)) := by
  have nd := (sc_form).nd
  have hu := hr.units
  have tk : Takes (cxOf (L2.CX P w) P w K mg base N_form "form" (defScope s_form) T.f_form cdv A outer s H E) (fun cls d _ H => E cls d H) := takes_of rfl rfl rfl rfl
  have hp : PassesOwn (model P w) (A.deeper (envOfC "form" (defScope s_form) s.heap.objs.size T.f_form cdv)) (envOfC "form" (defScope s_form) s.heap.objs.size T.f_form cdv) (cxOf (L2.CX P w) P w K mg base N_form "form" (defScope s_form) T.f_form cdv A outer s H E).xe := passes_of (X := cxOf (L2.CX P w) P w K mg base N_form "form" (defScope s_form) T.f_form cdv A outer s H E) rfl
  exact (dss_cons (ds_set true (i := 2) nd rfl (by first | exact Or.inl rfl | exact Or.inr rfl) de_dic0)
      (dss_cons (ds_for hp rfl (di_seq (de_var (pv 1))) (dg_tup rfl (dgs_cons (dg_name (i := 3) nd rfl (by first | exact Or.inl rfl | exact Or.inr rfl)) (dgs_cons (dg_name (i := 4) nd rfl (by first | exact Or.inl rfl | exact Or.inr rfl)) dgs_nil)) rfl)
      (dss_one (ds_setItem false hu (de_bin or_add od_add (de_dget2 hu (de_var (pv 2)) (de_var (pv 3)) (de_c pe_int) ⟨rfl, rfl, rfl, rfl⟩) (de_var (pv 4))) (de_var (pv 2)) (de_var (pv 3)))))
      (dss_one (ds_ret (de_tup (da_cons false (de_var (pv 0)) (da_cons false (de_callTy call_tuple_of cd_tuple (by rfl) T.n_tuple (by decide +kernel) (da_cons false (de_lc (own := [("name", 3)]) false rfl nd (di_seq (de_callB (cr_sortedAny rfl) cd_sorted (by rfl) T.n_sorted (by decide +kernel) (da_cons false (de_var (pv 2)) da_nil))) (blkOk_by (own := [("name", 3)]) (N := N_form) (sc := defScope s_form) (by decide +kernel)) (fun _ _ _ _ _ => (dg_name (i := 3) nd rfl (by first | exact Or.inl rfl | exact Or.inr rfl))) (fun _ _ _ _ _ => (dts_one (dt_cmp (or_ne hu) od_ne (de_ix hu (de_var (pv 2)) (de_var (pv 3)) (fun _ _ => rfl)) (de_c pe_int) (nomark _)))) (fun _ _ _ _ _ => (de_tup (da_cons false (de_var (pv 3)) (da_cons false (de_ix hu (de_var (pv 2)) (de_var (pv 3)) (fun _ _ => rfl)) da_nil)))) (by decide)) da_nil)) da_nil)))))))
theorem ok_form (T : Top K mg) : FnOk P w K mg base (L2.CX P w) 1 T.f_form T.fd_form P_form (liftSp K sp_form) :=
  fnD T.F_form sc_form (b_form) fun _ _ _ _ _ _ hr => w_form T hr
theorem w_plus (T : Top K mg) {cdv : Value} {A : Around} {outer : List Env} {s : Shared} {H : Hp} {E : XK} (hr : Room 1 (A.deeper (envOfC "plus" (defScope s_plus) s.heap.objs.size T.f_plus cdv))) :
    PSs (cxOf (L2.CX P w) P w K mg base N_plus "plus" (defScope s_plus) T.f_plus cdv A outer s H E) (defBody s_plus) (liftS K (fun cls d _ H => E cls d H) (d_plus)) := by
  have nd := (sc_plus).nd
  have hu := hr.units
  have tk : Takes (cxOf (L2.CX P w) P w K mg base N_plus "plus" (defScope s_plus) T.f_plus cdv A outer s H E) (fun cls d _ H => E cls d H) := takes_of rfl rfl rfl rfl
  have hp : PassesOwn (model P w) (A.deeper (envOfC "plus" (defScope s_plus) s.heap.objs.size T.f_plus cdv)) (envOfC "plus" (defScope s_plus) s.heap.objs.size T.f_plus cdv) (cxOf (L2.CX P w) P w K mg base N_plus "plus" (defScope s_plus) T.f_plus cdv A outer s H E).xe := passes_of (X := cxOf (L2.CX P w) P w K mg base N_plus "plus" (defScope s_plus) T.f_plus cdv A outer s H E) rfl
  exact (dss_cons (ds_if (dt_not (dt_tru (de_ix hu (de_var (pv 1)) (de_c pe_int) (fun _ _ => rfl))))
      (dss_one (ds_ret (de_tup (da_cons false (de_bin or_add od_add (de_ix hu (de_var (pv 0)) (de_c pe_int) (fun _ _ => rfl)) (de_ix hu (de_var (pv 1)) (de_c pe_int) (fun _ _ => rfl))) (da_cons false (de_ix hu (de_var (pv 0)) (de_c pe_int) (fun _ _ => rfl)) da_nil)))))
      dss_nil)
      (dss_one (ds_ret (de_call (ok_form T) (hr.mono (by decide)) (by rfl) T.g_form T.F_form.kp T.b_form tk (da_cons false (de_bin or_add od_add (de_ix hu (de_var (pv 0)) (de_c pe_int) (fun _ _ => rfl)) (de_ix hu (de_var (pv 1)) (de_c pe_int) (fun _ _ => rfl))) (da_cons false (de_bin or_add od_add (de_ix hu (de_var (pv 0)) (de_c pe_int) (fun _ _ => rfl)) (de_ix hu (de_var (pv 1)) (de_c pe_int) (fun _ _ => rfl))) da_nil))))))
theorem ok_plus (T : Top K mg) : FnOk P w K mg base (L2.CX P w) 2 T.f_plus T.fd_plus P_plus (liftSp K sp_plus) :=
  fnD T.F_plus sc_plus (b_plus) fun _ _ _ _ _ _ hr => w_plus T hr
theorem w_times (T : Top K mg) {cdv : Value} {A : Around} {outer : List Env} {s : Shared} {H : Hp} {E : XK} (hr : Room 0 (A.deeper (envOfC "times" (defScope s_times) s.heap.objs.size T.f_times cdv))) :
    PSs (cxOf (L2.CX P w) P w K mg base N_times "times" (defScope s_times) T.f_times cdv A outer s H E) (defBody s_times) (liftS K (fun cls d _ H => E cls d H) (d_times)) := by
  have nd := (sc_times).nd
  have hu := hr.units
  have tk : Takes (cxOf (L2.CX P w) P w K mg base N_times "times" (defScope s_times) T.f_times cdv A outer s H E) (fun cls d _ H => E cls d H) := takes_of rfl rfl rfl rfl
  have hp : PassesOwn (model P w) (A.deeper (envOfC "times" (defScope s_times) s.heap.objs.size T.f_times cdv)) (envOfC "times" (defScope s_times) s.heap.objs.size T.f_times cdv) (cxOf (L2.CX P w) P w K mg base N_times "times" (defScope s_times) T.f_times cdv A outer s H E).xe := passes_of (X := cxOf (L2.CX P w) P w K mg base N_times "times" (defScope s_times) T.f_times cdv A outer s H E) rfl
  exact (dss_cons (ds_if (dt_cmp (or_eq hu) od_eq (de_var (pv 0)) (de_c pe_int) (nomark _))
      (dss_one (ds_ret (de_glob (by rfl) T.c_ZERO)))
      dss_nil)
      (dss_one (ds_ret (de_tup (da_cons false (de_bin or_mul od_mul (de_var (pv 0)) (de_ix hu (de_var (pv 1)) (de_c pe_int) (fun _ _ => rfl))) (da_cons false (de_callTy call_tuple_of cd_tuple (by rfl) T.n_tuple (by decide +kernel) (da_cons false (de_lc (own := [("name", 2), ("coefficient", 3)]) false rfl nd (di_seq (de_ix hu (de_var (pv 1)) (de_c pe_int) (fun _ _ => rfl))) (blkOk_by (own := [("name", 2), ("coefficient", 3)]) (N := N_times) (sc := defScope s_times) (by decide +kernel)) (fun _ _ _ _ _ => (dg_tup rfl (dgs_cons (dg_name (i := 2) nd rfl (by first | exact Or.inl rfl | exact Or.inr rfl)) (dgs_cons (dg_name (i := 3) nd rfl (by first | exact Or.inl rfl | exact Or.inr rfl)) dgs_nil)) rfl)) (fun _ _ _ _ _ => dts_nil) (fun _ _ _ _ _ => (de_tup (da_cons false (de_var (pv 2)) (da_cons false (de_bin or_mul od_mul (de_var (pv 0)) (de_var (pv 3))) da_nil)))) (by decide)) da_nil)) da_nil))))))
theorem ok_times (T : Top K mg) : FnOk P w K mg base (L2.CX P w) 1 T.f_times T.fd_times P_times (liftSp K sp_times) :=
  fnD T.F_times sc_times (b_times) fun _ _ _ _ _ _ hr => w_times T hr
theorem w_minus (T : Top K mg) {cdv : Value} {A : Around} {outer : List Env} {s : Shared} {H : Hp} {E : XK} (hr : Room 2 (A.deeper (envOfC "minus" (defScope s_minus) s.heap.objs.size T.f_minus cdv))) :
    PSs (cxOf (L2.CX P w) P w K mg base N_minus "minus" (defScope s_minus) T.f_minus cdv A outer s H E) (defBody s_minus) (liftS K (fun cls d _ H => E cls d H) (d_minus)) := by
  have nd := (sc_minus).nd
  have hu := hr.units
  have tk : Takes (cxOf (L2.CX P w) P w K mg base N_minus "minus" (defScope s_minus) T.f_minus cdv A outer s H E) (fun cls d _ H => E cls d H) := takes_of rfl rfl rfl rfl
  have hp : PassesOwn (model P w) (A.deeper (envOfC "minus" (defScope s_minus) s.heap.objs.size T.f_minus cdv)) (envOfC "minus" (defScope s_minus) s.heap.objs.size T.f_minus cdv) (cxOf (L2.CX P w) P w K mg base N_minus "minus" (defScope s_minus) T.f_minus cdv A outer s H E).xe := passes_of (X := cxOf (L2.CX P w) P w K mg base N_minus "minus" (defScope s_minus) T.f_minus cdv A outer s H E) rfl
  exact (dss_one (ds_ret (de_call (ok_plus T) (hr.mono (by decide)) (by rfl) T.g_plus T.F_plus.kp T.b_plus tk (da_cons false (de_var (pv 0)) (da_cons false (de_call (ok_times T) (hr.mono (by decide)) (by rfl) T.g_times T.F_times.kp T.b_times tk (da_cons false (de_neg (de_c pe_int)) (da_cons false (de_var (pv 1)) da_nil))) da_nil)))))
theorem ok_minus (T : Top K mg) : FnOk P w K mg base (L2.CX P w) 3 T.f_minus T.fd_minus P_minus (liftSp K sp_minus) :=
  fnD T.F_minus sc_minus (b_minus) fun _ _ _ _ _ _ hr => w_minus T hr
theorem w_image (T : Top K mg) {cdv : Value} {A : Around} {outer : List Env} {s : Shared} {H : Hp} {E : XK} (hr : Room 1 (A.deeper (envOfC "image" (defScope s_image) s.heap.objs.size T.f_image cdv))) :
    PSs (cxOf (L2.CX P w) P w K mg base N_image "image" (defScope s_image) T.f_image cdv A outer s H E) (defBody s_image) (liftS K (fun cls d _ H => E cls d H) (d_image)) := by
  have nd := (sc_image).nd
  have hu := hr.units
  have tk : Takes (cxOf (L2.CX P w) P w K mg base N_image "image" (defScope s_image) T.f_image cdv A outer s H E) (fun cls d _ H => E cls d H) := takes_of rfl rfl rfl rfl
  have hp : PassesOwn (model P w) (A.deeper (envOfC "image" (defScope s_image) s.heap.objs.size T.f_image cdv)) (envOfC "image" (defScope s_image) s.heap.objs.size T.f_image cdv) (cxOf (L2.CX P w) P w K mg base N_image "image" (defScope s_image) T.f_image cdv A outer s H E).xe := passes_of (X := cxOf (L2.CX P w) P w K mg base N_image "image" (defScope s_image) T.f_image cdv A outer s H E) rfl
  exact (dss_cons (ds_setDc (i := 2) (own := [("name", 5), ("g", 7)]) false false rfl nd rfl rfl (sw_trueD rfl rfl rfl (by decide +kernel)) (di_seq (de_var (pv 1))) (blkOk_by (own := [("name", 5), ("g", 7)]) (N := N_image) (sc := defScope s_image) (by decide +kernel)) (fun _ _ _ _ _ => (dg_tup rfl (dgs_cons (dg_name (i := 5) nd rfl (by first | exact Or.inl rfl | exact Or.inr rfl)) (dgs_cons (dg_name (i := 7) nd rfl (by first | exact Or.inl rfl | exact Or.inr rfl)) dgs_nil)) rfl)) (fun _ _ _ _ _ => dts_nil) (fun _ _ _ _ _ => (de_var (pv 5))) (fun _ _ _ _ _ => (de_var (pv 7))) (by decide))
      (dss_cons (ds_set false (i := 3) nd rfl (by first | exact Or.inl rfl | exact Or.inr rfl) (de_ix hu (de_var (pv 0)) (de_c pe_int) (fun _ _ => rfl)))
      (dss_cons (ds_set true (i := 4) nd rfl (by first | exact Or.inl rfl | exact Or.inr rfl) (de_lst da_nil))
      (dss_cons (ds_for hp rfl (di_seq (de_ix hu (de_var (pv 0)) (de_c pe_int) (fun _ _ => rfl))) (dg_tup rfl (dgs_cons (dg_name (i := 5) nd rfl (by first | exact Or.inl rfl | exact Or.inr rfl)) (dgs_cons (dg_name (i := 6) nd rfl (by first | exact Or.inl rfl | exact Or.inr rfl)) dgs_nil)) rfl)
      (dss_one (ds_if (dt_cmp (or_in hu) od_in (de_var (pv 5)) (de_var (pv 2)) (by rfl))
      (dss_cons (ds_set false (i := 7) nd rfl (by first | exact Or.inl rfl | exact Or.inr rfl) (de_ix hu (de_var (pv 2)) (de_var (pv 5)) (fun _ _ => rfl)))
      (dss_cons (ds_aug false (i := 3) nd rfl (by first | exact Or.inl rfl | exact Or.inr rfl) ir_add id_add (de_bin or_mul od_mul (de_var (pv 6)) (de_ix hu (de_var (pv 7)) (de_c pe_int) (fun _ _ => rfl))))
      (dss_one (ds_expr (de_bm PySem.F.plainAttrs_list PySem.F.slot_list_extend PySem.F.type_list_extend mt_extend md_extend (de_var (pv 4)) (da_cons false (de_lc (own := [("other", 8), ("factor", 9)]) false rfl nd (di_seq (de_ix hu (de_var (pv 7)) (de_c pe_int) (fun _ _ => rfl))) (blkOk_by (own := [("other", 8), ("factor", 9)]) (N := N_image) (sc := defScope s_image) (by decide +kernel)) (fun _ _ _ _ _ => (dg_tup rfl (dgs_cons (dg_name (i := 8) nd rfl (by first | exact Or.inl rfl | exact Or.inr rfl)) (dgs_cons (dg_name (i := 9) nd rfl (by first | exact Or.inl rfl | exact Or.inr rfl)) dgs_nil)) rfl)) (fun _ _ _ _ _ => dts_nil) (fun _ _ _ _ _ => (de_tup (da_cons false (de_var (pv 8)) (da_cons false (de_bin or_mul od_mul (de_var (pv 6)) (de_var (pv 9))) da_nil)))) (by decide)) da_nil))))))
      (dss_one (ds_expr (de_bm PySem.F.plainAttrs_list PySem.F.slot_list_append PySem.F.type_list_append mt_append md_append (de_var (pv 4)) (da_cons false (de_tup (da_cons false (de_var (pv 5)) (da_cons false (de_var (pv 6)) da_nil))) da_nil)))))))
      (dss_one (ds_ret (de_call (ok_form T) (hr.mono (by decide)) (by rfl) T.g_form T.F_form.kp T.b_form tk (da_cons false (de_var (pv 3)) (da_cons false (de_var (pv 4)) da_nil)))))))))
theorem ok_image (T : Top K mg) : FnOk P w K mg base (L2.CX P w) 2 T.f_image T.fd_image P_image (liftSp K sp_image) :=
  fnD T.F_image sc_image (b_image) fun _ _ _ _ _ _ hr => w_image T hr
theorem w_value (T : Top K mg) {cdv : Value} {A : Around} {outer : List Env} {s : Shared} {H : Hp} {E : XK} (hr : Room 0 (A.deeper (envOfC "value" (defScope s_value) s.heap.objs.size T.f_value cdv))) :
    PSs (cxOf (L2.CX P w) P w K mg base N_value "value" (defScope s_value) T.f_value cdv A outer s H E) (defBody s_value) (liftS K (fun cls d _ H => E cls d H) (d_value)) := by
  have nd := (sc_value).nd
  have hu := hr.units
  have tk : Takes (cxOf (L2.CX P w) P w K mg base N_value "value" (defScope s_value) T.f_value cdv A outer s H E) (fun cls d _ H => E cls d H) := takes_of rfl rfl rfl rfl
  have hp : PassesOwn (model P w) (A.deeper (envOfC "value" (defScope s_value) s.heap.objs.size T.f_value cdv)) (envOfC "value" (defScope s_value) s.heap.objs.size T.f_value cdv) (cxOf (L2.CX P w) P w K mg base N_value "value" (defScope s_value) T.f_value cdv A outer s H E).xe := passes_of (X := cxOf (L2.CX P w) P w K mg base N_value "value" (defScope s_value) T.f_value cdv A outer s H E) rfl
  exact (dss_cons (ds_set false (i := 2) nd rfl (by first | exact Or.inl rfl | exact Or.inr rfl) (de_dc (own := [("name", 3), ("number", 4)]) false rfl nd (di_seq (de_var (pv 1))) (blkOk_by (own := [("name", 3), ("number", 4)]) (N := N_value) (sc := defScope s_value) (by decide +kernel)) (fun _ _ _ _ _ => (dg_tup rfl (dgs_cons (dg_name (i := 3) nd rfl (by first | exact Or.inl rfl | exact Or.inr rfl)) (dgs_cons (dg_name (i := 4) nd rfl (by first | exact Or.inl rfl | exact Or.inr rfl)) dgs_nil)) rfl)) (fun _ _ _ _ _ => dts_nil) (fun _ _ _ _ _ => (de_var (pv 3))) (fun _ _ _ _ _ => (de_var (pv 4))) (by decide)))
      (dss_one (ds_ret (de_bin or_add od_add (de_ix hu (de_var (pv 0)) (de_c pe_int) (fun _ _ => rfl)) (de_callB (cr_sum rfl) cd_sum (by rfl) T.n_sum (by decide +kernel) (da_cons false (de_lc (own := [("name", 3), ("coefficient", 5)]) false rfl nd (di_seq (de_ix hu (de_var (pv 0)) (de_c pe_int) (fun _ _ => rfl))) (blkOk_by (own := [("name", 3), ("coefficient", 5)]) (N := N_value) (sc := defScope s_value) (by decide +kernel)) (fun _ _ _ _ _ => (dg_tup rfl (dgs_cons (dg_name (i := 3) nd rfl (by first | exact Or.inl rfl | exact Or.inr rfl)) (dgs_cons (dg_name (i := 5) nd rfl (by first | exact Or.inl rfl | exact Or.inr rfl)) dgs_nil)) rfl)) (fun _ _ _ _ _ => dts_nil) (fun _ _ _ _ _ => (de_bin or_mul od_mul (de_var (pv 5)) (de_ix hu (de_var (pv 2)) (de_var (pv 3)) (fun _ _ => rfl)))) (by decide)) da_nil))))))
theorem ok_value (T : Top K mg) : FnOk P w K mg base (L2.CX P w) 1 T.f_value T.fd_value P_value (liftSp K sp_value) :=
  fnD T.F_value sc_value (b_value) fun _ _ _ _ _ _ hr => w_value T hr
theorem w_price (T : Top K mg) {cdv : Value} {A : Around} {outer : List Env} {s : Shared} {H : Hp} {E : XK} (hr : Room 0 (A.deeper (envOfC "price" (defScope s_price) s.heap.objs.size T.f_price cdv))) :
    PSs (cxOf (L2.CX P w) P w K mg base N_price "price" (defScope s_price) T.f_price cdv A outer s H E) (defBody s_price) (liftS K (fun cls d _ H => E cls d H) (d_price)) := by
  have nd := (sc_price).nd
  have hu := hr.units
  have tk : Takes (cxOf (L2.CX P w) P w K mg base N_price "price" (defScope s_price) T.f_price cdv A outer s H E) (fun cls d _ H => E cls d H) := takes_of rfl rfl rfl rfl
  have hp : PassesOwn (model P w) (A.deeper (envOfC "price" (defScope s_price) s.heap.objs.size T.f_price cdv)) (envOfC "price" (defScope s_price) s.heap.objs.size T.f_price cdv) (cxOf (L2.CX P w) P w K mg base N_price "price" (defScope s_price) T.f_price cdv A outer s H E).xe := passes_of (X := cxOf (L2.CX P w) P w K mg base N_price "price" (defScope s_price) T.f_price cdv A outer s H E) rfl
  exact (dss_cons (ds_set false (i := 1) nd rfl (by first | exact Or.inl rfl | exact Or.inr rfl) (de_callB (cr_sum rfl) cd_sum (by rfl) T.n_sum (by decide +kernel) (da_cons false (de_lc (own := [("name", 2), ("coefficient", 3)]) false rfl nd (di_seq (de_ix hu (de_var (pv 0)) (de_c pe_int) (fun _ _ => rfl))) (blkOk_by (own := [("name", 2), ("coefficient", 3)]) (N := N_price) (sc := defScope s_price) (by decide +kernel)) (fun _ _ _ _ _ => (dg_tup rfl (dgs_cons (dg_name (i := 2) nd rfl (by first | exact Or.inl rfl | exact Or.inr rfl)) (dgs_cons (dg_name (i := 3) nd rfl (by first | exact Or.inl rfl | exact Or.inr rfl)) dgs_nil)) rfl)) (fun _ _ _ _ _ => dts_nil) (fun _ _ _ _ _ => (de_callB call_abs cd_abs (by rfl) T.n_abs (by decide +kernel) (da_cons false (de_var (pv 3)) da_nil))) (by decide)) da_nil)))
      (dss_one (ds_ret (de_bin or_add od_add (de_bin or_add od_add (de_bin or_mul od_mul (de_glob (by rfl) T.c_SLOPE_PRICE) (de_var (pv 1))) (de_bin or_mul od_mul (de_glob (by rfl) T.c_CONSTANT_PRICE) (de_callB (call_max2 rfl) cd_2I (by rfl) T.n_max (by decide +kernel) (da_cons false (de_c pe_int) (da_cons false (de_ix hu (de_var (pv 0)) (de_c pe_int) (fun _ _ => rfl)) da_nil))))) (de_callB (call_max2 rfl) cd_2I (by rfl) T.n_max (by decide +kernel) (da_cons false (de_c pe_int) (da_cons false (de_bin or_add od_add (de_ix hu (de_var (pv 0)) (de_c pe_int) (fun _ _ => rfl)) (de_bin or_mul od_mul (de_glob (by rfl) T.c_PRICE_BASE) (de_var (pv 1)))) da_nil)))))))
theorem ok_price (T : Top K mg) : FnOk P w K mg base (L2.CX P w) 1 T.f_price T.fd_price P_price (liftSp K sp_price) :=
  fnD T.F_price sc_price (b_price) fun _ _ _ _ _ _ hr => w_price T hr
theorem w_law_start (T : Top K mg) {cdv : Value} {A : Around} {outer : List Env} {s : Shared} {H : Hp} {E : XK} (hr : Room 0 (A.deeper (envOfC "_law_start" (defScope s_law_start) s.heap.objs.size T.f_law_start cdv))) :
    PSs (cxOf (L2.CX P w) P w K mg base N_law_start "_law_start" (defScope s_law_start) T.f_law_start cdv A outer s H E) (defBody s_law_start) (liftS K (fun cls d _ H => E cls d H) (d_law_start)) := by
  have nd := (sc_law_start).nd
  have hu := hr.units
  have tk : Takes (cxOf (L2.CX P w) P w K mg base N_law_start "_law_start" (defScope s_law_start) T.f_law_start cdv A outer s H E) (fun cls d _ H => E cls d H) := takes_of rfl rfl rfl rfl
  have hp : PassesOwn (model P w) (A.deeper (envOfC "_law_start" (defScope s_law_start) s.heap.objs.size T.f_law_start cdv)) (envOfC "_law_start" (defScope s_law_start) s.heap.objs.size T.f_law_start cdv) (cxOf (L2.CX P w) P w K mg base N_law_start "_law_start" (defScope s_law_start) T.f_law_start cdv A outer s H E).xe := passes_of (X := cxOf (L2.CX P w) P w K mg base N_law_start "_law_start" (defScope s_law_start) T.f_law_start cdv A outer s H E) rfl
  exact (dss_one (ds_ret (de_lst (da_cons false (de_callTy cr_list cd_list (by rfl) T.n_list (by decide +kernel) (da_cons false (de_var (pv 0)) da_nil)) (da_cons false (de_c pe_int) (da_cons false (de_c pe_int) (da_cons false (de_c pe_int) da_nil)))))))
theorem ok_law_start (T : Top K mg) : FnOk P w K mg base (L2.CX P w) 1 T.f_law_start T.fd_law_start P_law_start (liftSp K sp_law_start) :=
  fnD T.F_law_start sc_law_start (b_law_start) fun _ _ _ _ _ _ hr => w_law_start T hr
theorem w_law_draw (T : Top K mg) {cdv : Value} {A : Around} {outer : List Env} {s : Shared} {H : Hp} {E : XK} (hr : Room 0 (A.deeper (envOfC "_law_draw" (defScope s_law_draw) s.heap.objs.size T.f_law_draw cdv))) :
    PSs (cxOf (L2.CX P w) P w K mg base N_law_draw "_law_draw" (defScope s_law_draw) T.f_law_draw cdv A outer s H E) (defBody s_law_draw) (liftS K (fun cls d _ H => E cls d H) (d_law_draw)) := by
  have nd := (sc_law_draw).nd
  have hu := hr.units
  have tk : Takes (cxOf (L2.CX P w) P w K mg base N_law_draw "_law_draw" (defScope s_law_draw) T.f_law_draw cdv A outer s H E) (fun cls d _ H => E cls d H) := takes_of rfl rfl rfl rfl
  have hp : PassesOwn (model P w) (A.deeper (envOfC "_law_draw" (defScope s_law_draw) s.heap.objs.size T.f_law_draw cdv)) (envOfC "_law_draw" (defScope s_law_draw) s.heap.objs.size T.f_law_draw cdv) (cxOf (L2.CX P w) P w K mg base N_law_draw "_law_draw" (defScope s_law_draw) T.f_law_draw cdv A outer s H E).xe := passes_of (X := cxOf (L2.CX P w) P w K mg base N_law_draw "_law_draw" (defScope s_law_draw) T.f_law_draw cdv A outer s H E) rfl
  exact (dss_cons (ds_setItem false hu (de_bin or_add od_add (de_ix hu (de_var (pv 0)) (de_c pe_int) (fun _ _ => rfl)) (de_c pe_int)) (de_var (pv 0)) (de_c pe_int))
      (dss_cons (ds_if (dt_cmp or_gt od_gt (de_ix hu (de_var (pv 0)) (de_c pe_int) (fun _ _ => rfl)) (de_c pe_int) (nomark _))
      (dss_cons (ds_set false (i := 2) nd rfl (by first | exact Or.inl rfl | exact Or.inr rfl) (de_bin or_mod od_mod (de_callTy cr_int cd_int (by rfl) T.n_int (by decide +kernel) (da_cons false (de_ix hu (de_var (pv 0)) (de_c pe_int) (fun _ _ => rfl)) da_nil)) (de_var (pv 1))))
      (dss_cons (ds_setItem false hu (de_bin or_fdiv od_fdiv (de_ix hu (de_var (pv 0)) (de_c pe_int) (fun _ _ => rfl)) (de_var (pv 1))) (de_var (pv 0)) (de_c pe_int))
      (dss_one (ds_ret (de_var (pv 2))))))
      dss_nil)
      (dss_cons (ds_set false (i := 3) nd rfl (by first | exact Or.inl rfl | exact Or.inr rfl) (de_c pe_int))
      (dss_cons (ds_if (dt_cmp or_gt od_gt (de_callB cr_len cd_len (by rfl) T.n_len (by decide +kernel) (da_cons false (de_ix hu (de_var (pv 0)) (de_c pe_int) (fun _ _ => rfl)) da_nil)) (de_c pe_int) (nomark _))
      (dss_one (ds_set false (i := 3) nd rfl (by first | exact Or.inl rfl | exact Or.inr rfl) (de_callB call_abs cd_abs (by rfl) T.n_abs (by decide +kernel) (da_cons false (de_ix hu (de_ix hu (de_var (pv 0)) (de_c pe_int) (fun _ _ => rfl)) (de_bin or_mod od_mod (de_callTy cr_int cd_int (by rfl) T.n_int (by decide +kernel) (da_cons false (de_ix hu (de_var (pv 0)) (de_c pe_int) (fun _ _ => rfl)) da_nil)) (de_callB cr_len cd_len (by rfl) T.n_len (by decide +kernel) (da_cons false (de_ix hu (de_var (pv 0)) (de_c pe_int) (fun _ _ => rfl)) da_nil))) (fun _ _ => rfl)) da_nil))))
      dss_nil)
      (dss_cons (ds_setItem false hu (de_bin or_add od_add (de_ix hu (de_var (pv 0)) (de_c pe_int) (fun _ _ => rfl)) (de_c pe_int)) (de_var (pv 0)) (de_c pe_int))
      (dss_cons (ds_if (dt_cmp or_ge od_ge (de_var (pv 3)) (de_bin or_pow od_pow (de_c pe_int) (de_c pe_int)) (nomark _))
      (dss_cons (ds_setItem false hu (de_bin or_fdiv od_fdiv (de_var (pv 3)) (de_var (pv 1))) (de_var (pv 0)) (de_c pe_int))
      (dss_one (ds_ret (de_bin or_mod od_mod (de_callTy cr_int cd_int (by rfl) T.n_int (by decide +kernel) (da_cons false (de_var (pv 3)) da_nil)) (de_var (pv 1))))))
      dss_nil)
      (dss_cons (ds_set false (i := 4) nd rfl (by first | exact Or.inl rfl | exact Or.inr rfl) (de_bin or_mod od_mod (de_callTy cr_int cd_int (by rfl) T.n_int (by decide +kernel) (da_cons false (de_bin or_add od_add (de_bin or_mul od_mul (de_bin or_add od_add (de_var (pv 3)) (de_c pe_int)) (de_c pe_int)) (de_bin or_mul od_mul (de_ix hu (de_var (pv 0)) (de_c pe_int) (fun _ _ => rfl)) (de_c pe_int))) da_nil)) (de_c pe_int)))
      (dss_cons (ds_set false (i := 4) nd rfl (by first | exact Or.inl rfl | exact Or.inr rfl) (de_bin or_mod od_mod (de_callTy cr_int cd_int (by rfl) T.n_int (by decide +kernel) (da_cons false (de_bin or_add od_add (de_bin or_add od_add (de_bin or_mul od_mul (de_var (pv 4)) (de_c pe_int)) (de_bin or_fdiv od_fdiv (de_var (pv 3)) (de_c pe_int))) (de_ix hu (de_var (pv 0)) (de_c pe_int) (fun _ _ => rfl))) da_nil)) (de_c pe_int)))
      (dss_one (ds_ret (de_bin or_mod od_mod (de_bin or_fdiv od_fdiv (de_var (pv 4)) (de_c pe_int)) (de_var (pv 1)))))))))))))
theorem ok_law_draw (T : Top K mg) : FnOk P w K mg base (L2.CX P w) 1 T.f_law_draw T.fd_law_draw P_law_draw (liftSp K sp_law_draw) :=
  fnD T.F_law_draw sc_law_draw (b_law_draw) fun _ _ _ _ _ _ hr => w_law_draw T hr
theorem w_law_one_of (T : Top K mg) {cdv : Value} {A : Around} {outer : List Env} {s : Shared} {H : Hp} {E : XK} (hr : Room 1 (A.deeper (envOfC "_law_one_of" (defScope s_law_one_of) s.heap.objs.size T.f_law_one_of cdv))) :
    PSs (cxOf (L2.CX P w) P w K mg base N_law_one_of "_law_one_of" (defScope s_law_one_of) T.f_law_one_of cdv A outer s H E) (defBody s_law_one_of) (liftS K (fun cls d _ H => E cls d H) (d_law_one_of)) := by
  have nd := (sc_law_one_of).nd
  have hu := hr.units
  have tk : Takes (cxOf (L2.CX P w) P w K mg base N_law_one_of "_law_one_of" (defScope s_law_one_of) T.f_law_one_of cdv A outer s H E) (fun cls d _ H => E cls d H) := takes_of rfl rfl rfl rfl
  have hp : PassesOwn (model P w) (A.deeper (envOfC "_law_one_of" (defScope s_law_one_of) s.heap.objs.size T.f_law_one_of cdv)) (envOfC "_law_one_of" (defScope s_law_one_of) s.heap.objs.size T.f_law_one_of cdv) (cxOf (L2.CX P w) P w K mg base N_law_one_of "_law_one_of" (defScope s_law_one_of) T.f_law_one_of cdv A outer s H E).xe := passes_of (X := cxOf (L2.CX P w) P w K mg base N_law_one_of "_law_one_of" (defScope s_law_one_of) T.f_law_one_of cdv A outer s H E) rfl
  exact (dss_one (ds_ret (de_ix hu (de_var (pv 1)) (de_call (ok_law_draw T) (hr.mono (by decide)) (by rfl) T.g_law_draw T.F_law_draw.kp T.b_law_draw tk (da_cons false (de_var (pv 0)) (da_cons false (de_callB cr_len cd_len (by rfl) T.n_len (by decide +kernel) (da_cons false (de_var (pv 1)) da_nil)) da_nil))) (fun _ _ => rfl))))
theorem ok_law_one_of (T : Top K mg) : FnOk P w K mg base (L2.CX P w) 2 T.f_law_one_of T.fd_law_one_of P_law_one_of (liftSp K sp_law_one_of) :=
  fnD T.F_law_one_of sc_law_one_of (b_law_one_of) fun _ _ _ _ _ _ hr => w_law_one_of T hr
theorem w_law_shuffled (T : Top K mg) {cdv : Value} {A : Around} {outer : List Env} {s : Shared} {H : Hp} {E : XK} (hr : Room 1 (A.deeper (envOfC "_law_shuffled" (defScope s_law_shuffled) s.heap.objs.size T.f_law_shuffled cdv))) :
    PSs (cxOf (L2.CX P w) P w K mg base N_law_shuffled "_law_shuffled" (defScope s_law_shuffled) T.f_law_shuffled cdv A outer s H E) (defBody s_law_shuffled) (liftS K (fun cls d _ H => E cls d H) (d_law_shuffled)) := by
  have nd := (sc_law_shuffled).nd
  have hu := hr.units
  have tk : Takes (cxOf (L2.CX P w) P w K mg base N_law_shuffled "_law_shuffled" (defScope s_law_shuffled) T.f_law_shuffled cdv A outer s H E) (fun cls d _ H => E cls d H) := takes_of rfl rfl rfl rfl
  have hp : PassesOwn (model P w) (A.deeper (envOfC "_law_shuffled" (defScope s_law_shuffled) s.heap.objs.size T.f_law_shuffled cdv)) (envOfC "_law_shuffled" (defScope s_law_shuffled) s.heap.objs.size T.f_law_shuffled cdv) (cxOf (L2.CX P w) P w K mg base N_law_shuffled "_law_shuffled" (defScope s_law_shuffled) T.f_law_shuffled cdv A outer s H E).xe := passes_of (X := cxOf (L2.CX P w) P w K mg base N_law_shuffled "_law_shuffled" (defScope s_law_shuffled) T.f_law_shuffled cdv A outer s H E) rfl
  exact (dss_cons (ds_set true (i := 2) nd rfl (by first | exact Or.inl rfl | exact Or.inr rfl) (de_lst da_nil))
      (dss_cons (ds_for hp rfl (di_seq (de_var (pv 1))) (dg_name (i := 3) nd rfl (by first | exact Or.inl rfl | exact Or.inr rfl))
      (dss_one (ds_expr (de_bm PySem.F.plainAttrs_list PySem.F.slot_list_insert PySem.F.type_list_insert mr_insert md_insert (de_var (pv 2)) (da_cons false (de_call (ok_law_draw T) (hr.mono (by decide)) (by rfl) T.g_law_draw T.F_law_draw.kp T.b_law_draw tk (da_cons false (de_var (pv 0)) (da_cons false (de_bin or_add od_add (de_callB cr_len cd_len (by rfl) T.n_len (by decide +kernel) (da_cons false (de_var (pv 2)) da_nil)) (de_c pe_int)) da_nil))) (da_cons false (de_var (pv 3)) da_nil))))))
      (dss_one (ds_ret (de_var (pv 2))))))
theorem ok_law_shuffled (T : Top K mg) : FnOk P w K mg base (L2.CX P w) 2 T.f_law_shuffled T.fd_law_shuffled P_law_shuffled (liftSp K sp_law_shuffled) :=
  fnD T.F_law_shuffled sc_law_shuffled (b_law_shuffled) fun _ _ _ _ _ _ hr => w_law_shuffled T hr
theorem w_law_is_int (T : Top K mg) {cdv : Value} {A : Around} {outer : List Env} {s : Shared} {H : Hp} {E : XK} (hr : Room 0 (A.deeper (envOfC "_law_is_int" (defScope s_law_is_int) s.heap.objs.size T.f_law_is_int cdv))) :
    PSs (cxOf (L2.CX P w) P w K mg base N_law_is_int "_law_is_int" (defScope s_law_is_int) T.f_law_is_int cdv A outer s H E) (defBody s_law_is_int) (liftS K (fun cls d _ H => E cls d H) (d_law_is_int)) := by
  have nd := (sc_law_is_int).nd
  have hu := hr.units
  have tk : Takes (cxOf (L2.CX P w) P w K mg base N_law_is_int "_law_is_int" (defScope s_law_is_int) T.f_law_is_int cdv A outer s H E) (fun cls d _ H => E cls d H) := takes_of rfl rfl rfl rfl
  have hp : PassesOwn (model P w) (A.deeper (envOfC "_law_is_int" (defScope s_law_is_int) s.heap.objs.size T.f_law_is_int cdv)) (envOfC "_law_is_int" (defScope s_law_is_int) s.heap.objs.size T.f_law_is_int cdv) (cxOf (L2.CX P w) P w K mg base N_law_is_int "_law_is_int" (defScope s_law_is_int) T.f_law_is_int cdv A outer s H E).xe := passes_of (X := cxOf (L2.CX P w) P w K mg base N_law_is_int "_law_is_int" (defScope s_law_is_int) T.f_law_is_int cdv A outer s H E) rfl
  exact (dss_one (ds_ret (de_and (de_callB call_isi cd_isi (by rfl) T.n_isinstance (by decide +kernel) (da_cons false (de_var (pv 0)) (da_cons false (de_c (pe_bltn (v := .ty "int") (by rfl) T.n_int (by decide +kernel) rfl)) da_nil))) (de_one (de_not (de_callB call_isi cd_isi (by rfl) T.n_isinstance (by decide +kernel) (da_cons false (de_var (pv 0)) (da_cons false (de_c (pe_bltn (v := .ty "bool") (by rfl) T.n_bool (by decide +kernel) rfl)) da_nil))))))))
theorem ok_law_is_int (T : Top K mg) : FnOk P w K mg base (L2.CX P w) 1 T.f_law_is_int T.fd_law_is_int P_law_is_int (liftSp K sp_law_is_int) :=
  fnD T.F_law_is_int sc_law_is_int (b_law_is_int) fun _ _ _ _ _ _ hr => w_law_is_int T hr
theorem w_law_same (T : Top K mg) {k : Nat} (hk : 1 ≤ k) {self : DSp} (slf : FnOk P w K mg base (L2.CX P w) k T.f_law_same T.fd_law_same P_law_same (liftSp K self)) {cdv : Value} {A : Around} {outer : List Env} {s : Shared} {H : Hp} {E : XK} (hr : Room k (A.deeper (envOfC "_law_same" (defScope s_law_same) s.heap.objs.size T.f_law_same cdv))) :
    PSs (cxOf (L2.CX P w) P w K mg base N_law_same "_law_same" (defScope s_law_same) T.f_law_same cdv A outer s H E) (defBody s_law_same) (liftS K (fun cls d _ H => E cls d H) (d_law_same self)) := by
  have nd := (sc_law_same).nd
  have hu := hr.units
  have tk : Takes (cxOf (L2.CX P w) P w K mg base N_law_same "_law_same" (defScope s_law_same) T.f_law_same cdv A outer s H E) (fun cls d _ H => E cls d H) := takes_of rfl rfl rfl rfl
  have hp : PassesOwn (model P w) (A.deeper (envOfC "_law_same" (defScope s_law_same) s.heap.objs.size T.f_law_same cdv)) (envOfC "_law_same" (defScope s_law_same) s.heap.objs.size T.f_law_same cdv) (cxOf (L2.CX P w) P w K mg base N_law_same "_law_same" (defScope s_law_same) T.f_law_same cdv A outer s H E).xe := passes_of (X := cxOf (L2.CX P w) P w K mg base N_law_same "_law_same" (defScope s_law_same) T.f_law_same cdv A outer s H E) rfl
  exact (dss_cons (ds_if (dt_tru (de_callB call_isi cd_isi (by rfl) T.n_isinstance (by decide +kernel) (da_cons false (de_var (pv 1)) (da_cons false (de_c (pe_bltn (v := .ty "tuple") (by rfl) T.n_tuple (by decide +kernel) rfl)) da_nil))))
      (dss_cons (ds_if (dw_or (dt_not (dt_tru (de_callB call_isi cd_isi (by rfl) T.n_isinstance (by decide +kernel) (da_cons false (de_var (pv 0)) (da_cons false (de_c (pe_bltn (v := .ty "tuple") (by rfl) T.n_tuple (by decide +kernel) rfl)) da_nil))))) (dw_or1 (dt_cmp (or_ne hu) od_ne (de_callB cr_len cd_len (by rfl) T.n_len (by decide +kernel) (da_cons false (de_var (pv 0)) da_nil)) (de_callB cr_len cd_len (by rfl) T.n_len (by decide +kernel) (da_cons false (de_var (pv 1)) da_nil)) (nomark _)))).pt
      (dss_one (ds_ret (de_c pe_bl)))
      dss_nil)
      (dss_one (ds_ret (de_callB (cr_all rfl) cd_anyAll (by rfl) T.n_all (by decide +kernel) (da_cons false (de_lc (own := [("k", 2)]) false rfl nd (di_range1 (by rfl) T.n_range (da_cons false (de_callB cr_len cd_len (by rfl) T.n_len (by decide +kernel) (da_cons false (de_var (pv 1)) da_nil)) da_nil)) (blkOk_by (own := [("k", 2)]) (N := N_law_same) (sc := defScope s_law_same) (by decide +kernel)) (fun _ _ _ _ _ => (dg_name (i := 2) nd rfl (by first | exact Or.inl rfl | exact Or.inr rfl))) (fun _ _ _ _ _ => dts_nil) (fun _ _ _ _ _ => (de_call slf hr (by rfl) T.g_law_same T.F_law_same.kp T.b_law_same takes0 (da_cons false (de_ix hu (de_var (pv 0)) (de_var (pv 2)) (fun _ _ => rfl)) (da_cons false (de_ix hu (de_var (pv 1)) (de_var (pv 2)) (fun _ _ => rfl)) da_nil)))) (by decide)) da_nil)))))
      dss_nil)
      (dss_cons (ds_if (dt_tru (de_callB call_isi cd_isi (by rfl) T.n_isinstance (by decide +kernel) (da_cons false (de_var (pv 1)) (da_cons false (de_c (pe_bltn (v := .ty "str") (by rfl) T.n_str (by decide +kernel) rfl)) da_nil))))
      (dss_one (ds_ret (de_and (de_callB call_isi cd_isi (by rfl) T.n_isinstance (by decide +kernel) (da_cons false (de_var (pv 0)) (da_cons false (de_c (pe_bltn (v := .ty "str") (by rfl) T.n_str (by decide +kernel) rfl)) da_nil))) (de_one (de_cmp (or_eq hu) od_eq (de_var (pv 0)) (de_var (pv 1)) (nomark _))))))
      dss_nil)
      (dss_one (ds_ret (de_and (de_call (ok_law_is_int T) (hr.mono (Nat.le_trans (by decide) hk)) (by rfl) T.g_law_is_int T.F_law_is_int.kp T.b_law_is_int tk (da_cons false (de_var (pv 0)) da_nil)) (de_one (de_cmp (or_eq hu) od_eq (de_var (pv 0)) (de_var (pv 1)) (nomark _))))))))
theorem okr_law_same (T : Top K mg) : ∀ k : Nat, FnOk P w K mg base (L2.CX P w) (1 + k) T.f_law_same T.fd_law_same P_law_same (liftSp K (spr_law_same k))
  | 0 => fnOk_no (no_law_same)
  | k + 1 => fnD T.F_law_same sc_law_same (b_law_same k) fun _ _ _ _ _ _ hr => w_law_same T (Nat.le_add_right _ _) (okr_law_same T k) hr
theorem ok_law_same (T : Top K mg) : FnOk P w K mg base (L2.CX P w) 6 T.f_law_same T.fd_law_same P_law_same (liftSp K sp_law_same) := okr_law_same T 5
theorem w_law_form (T : Top K mg) {cdv : Value} {A : Around} {outer : List Env} {s : Shared} {H : Hp} {E : XK} (hr : Room 0 (A.deeper (envOfC "_law_form" (defScope s_law_form) s.heap.objs.size T.f_law_form cdv))) :
    PSs (cxOf (L2.CX P w) P w K mg base N_law_form "_law_form" (defScope s_law_form) T.f_law_form cdv A outer s H E) (defBody s_law_form) (liftS K (fun cls d _ H => E cls d H) (d_law_form)) := by
  have nd := (sc_law_form).nd
  have hu := hr.units
  have tk : Takes (cxOf (L2.CX P w) P w K mg base N_law_form "_law_form" (defScope s_law_form) T.f_law_form cdv A outer s H E) (fun cls d _ H => E cls d H) := takes_of rfl rfl rfl rfl
  have hp : PassesOwn (model P w) (A.deeper (envOfC "_law_form" (defScope s_law_form) s.heap.objs.size T.f_law_form cdv)) (envOfC "_law_form" (defScope s_law_form) s.heap.objs.size T.f_law_form cdv) (cxOf (L2.CX P w) P w K mg base N_law_form "_law_form" (defScope s_law_form) T.f_law_form cdv A outer s H E).xe := passes_of (X := cxOf (L2.CX P w) P w K mg base N_law_form "_law_form" (defScope s_law_form) T.f_law_form cdv A outer s H E) rfl
  exact (dss_cons (ds_set true (i := 2) nd rfl (by first | exact Or.inl rfl | exact Or.inr rfl) de_dic0)
      (dss_cons (ds_for hp rfl (di_seq (de_var (pv 1))) (dg_tup rfl (dgs_cons (dg_name (i := 3) nd rfl (by first | exact Or.inl rfl | exact Or.inr rfl)) (dgs_cons (dg_name (i := 4) nd rfl (by first | exact Or.inl rfl | exact Or.inr rfl)) dgs_nil)) rfl)
      (dss_one (ds_setItem false hu (de_bin or_add od_add (de_dget2 hu (de_var (pv 2)) (de_var (pv 3)) (de_c pe_int) ⟨rfl, rfl, rfl, rfl⟩) (de_var (pv 4))) (de_var (pv 2)) (de_var (pv 3)))))
      (dss_one (ds_ret (de_tup (da_cons false (de_var (pv 0)) (da_cons false (de_callTy call_tuple_of cd_tuple (by rfl) T.n_tuple (by decide +kernel) (da_cons false (de_lc (own := [("name", 3)]) false rfl nd (di_seq (de_callB (cr_sortedAny rfl) cd_sorted (by rfl) T.n_sorted (by decide +kernel) (da_cons false (de_var (pv 2)) da_nil))) (blkOk_by (own := [("name", 3)]) (N := N_law_form) (sc := defScope s_law_form) (by decide +kernel)) (fun _ _ _ _ _ => (dg_name (i := 3) nd rfl (by first | exact Or.inl rfl | exact Or.inr rfl))) (fun _ _ _ _ _ => (dts_one (dt_cmp (or_ne hu) od_ne (de_ix hu (de_var (pv 2)) (de_var (pv 3)) (fun _ _ => rfl)) (de_c pe_int) (nomark _)))) (fun _ _ _ _ _ => (de_tup (da_cons false (de_var (pv 3)) (da_cons false (de_ix hu (de_var (pv 2)) (de_var (pv 3)) (fun _ _ => rfl)) da_nil)))) (by decide)) da_nil)) da_nil)))))))
theorem ok_law_form (T : Top K mg) : FnOk P w K mg base (L2.CX P w) 1 T.f_law_form T.fd_law_form P_law_form (liftSp K sp_law_form) :=
  fnD T.F_law_form sc_law_form (b_law_form) fun _ _ _ _ _ _ hr => w_law_form T hr
theorem w_law_sum (T : Top K mg) {cdv : Value} {A : Around} {outer : List Env} {s : Shared} {H : Hp} {E : XK} (hr : Room 1 (A.deeper (envOfC "_law_sum" (defScope s_law_sum) s.heap.objs.size T.f_law_sum cdv))) :
    PSs (cxOf (L2.CX P w) P w K mg base N_law_sum "_law_sum" (defScope s_law_sum) T.f_law_sum cdv A outer s H E) (defBody s_law_sum) (liftS K (fun cls d _ H => E cls d H) (d_law_sum)) := by
  have nd := (sc_law_sum).nd
  have hu := hr.units
  have tk : Takes (cxOf (L2.CX P w) P w K mg base N_law_sum "_law_sum" (defScope s_law_sum) T.f_law_sum cdv A outer s H E) (fun cls d _ H => E cls d H) := takes_of rfl rfl rfl rfl
  have hp : PassesOwn (model P w) (A.deeper (envOfC "_law_sum" (defScope s_law_sum) s.heap.objs.size T.f_law_sum cdv)) (envOfC "_law_sum" (defScope s_law_sum) s.heap.objs.size T.f_law_sum cdv) (cxOf (L2.CX P w) P w K mg base N_law_sum "_law_sum" (defScope s_law_sum) T.f_law_sum cdv A outer s H E).xe := passes_of (X := cxOf (L2.CX P w) P w K mg base N_law_sum "_law_sum" (defScope s_law_sum) T.f_law_sum cdv A outer s H E) rfl
  exact (dss_cons (ds_set false (i := 1) nd rfl (by first | exact Or.inl rfl | exact Or.inr rfl) (de_c pe_int))
      (dss_cons (ds_set true (i := 2) nd rfl (by first | exact Or.inl rfl | exact Or.inr rfl) (de_lst da_nil))
      (dss_cons (ds_for hp rfl (di_seq (de_var (pv 0))) (dg_tup rfl (dgs_cons (dg_name (i := 3) nd rfl (by first | exact Or.inl rfl | exact Or.inr rfl)) (dgs_cons (dg_name (i := 4) nd rfl (by first | exact Or.inl rfl | exact Or.inr rfl)) dgs_nil)) rfl)
      (dss_cons (ds_set false (i := 1) nd rfl (by first | exact Or.inl rfl | exact Or.inr rfl) (de_bin or_add od_add (de_var (pv 1)) (de_bin or_mul od_mul (de_var (pv 3)) (de_ix hu (de_var (pv 4)) (de_c pe_int) (fun _ _ => rfl)))))
      (dss_one (ds_for hp rfl (di_seq (de_ix hu (de_var (pv 4)) (de_c pe_int) (fun _ _ => rfl))) (dg_tup rfl (dgs_cons (dg_name (i := 5) nd rfl (by first | exact Or.inl rfl | exact Or.inr rfl)) (dgs_cons (dg_name (i := 6) nd rfl (by first | exact Or.inl rfl | exact Or.inr rfl)) dgs_nil)) rfl)
      (dss_one (ds_expr (de_bm PySem.F.plainAttrs_list PySem.F.slot_list_append PySem.F.type_list_append mt_append md_append (de_var (pv 2)) (da_cons false (de_tup (da_cons false (de_var (pv 5)) (da_cons false (de_bin or_mul od_mul (de_var (pv 3)) (de_var (pv 6))) da_nil))) da_nil))))))))
      (dss_one (ds_ret (de_call (ok_law_form T) (hr.mono (by decide)) (by rfl) T.g_law_form T.F_law_form.kp T.b_law_form tk (da_cons false (de_var (pv 1)) (da_cons false (de_var (pv 2)) da_nil))))))))
theorem ok_law_sum (T : Top K mg) : FnOk P w K mg base (L2.CX P w) 2 T.f_law_sum T.fd_law_sum P_law_sum (liftSp K sp_law_sum) :=
  fnD T.F_law_sum sc_law_sum (b_law_sum) fun _ _ _ _ _ _ hr => w_law_sum T hr
theorem w_law_var (T : Top K mg) {cdv : Value} {A : Around} {outer : List Env} {s : Shared} {H : Hp} {E : XK} (hr : Room 0 (A.deeper (envOfC "_law_var" (defScope s_law_var) s.heap.objs.size T.f_law_var cdv))) :
    PSs (cxOf (L2.CX P w) P w K mg base N_law_var "_law_var" (defScope s_law_var) T.f_law_var cdv A outer s H E) (defBody s_law_var) (liftS K (fun cls d _ H => E cls d H) (d_law_var)) := by
  have nd := (sc_law_var).nd
  have hu := hr.units
  have tk : Takes (cxOf (L2.CX P w) P w K mg base N_law_var "_law_var" (defScope s_law_var) T.f_law_var cdv A outer s H E) (fun cls d _ H => E cls d H) := takes_of rfl rfl rfl rfl
  have hp : PassesOwn (model P w) (A.deeper (envOfC "_law_var" (defScope s_law_var) s.heap.objs.size T.f_law_var cdv)) (envOfC "_law_var" (defScope s_law_var) s.heap.objs.size T.f_law_var cdv) (cxOf (L2.CX P w) P w K mg base N_law_var "_law_var" (defScope s_law_var) T.f_law_var cdv A outer s H E).xe := passes_of (X := cxOf (L2.CX P w) P w K mg base N_law_var "_law_var" (defScope s_law_var) T.f_law_var cdv A outer s H E) rfl
  exact (dss_one (ds_ret (de_tup (da_cons false (de_c pe_int) (da_cons false (de_tup (da_cons false (de_tup (da_cons false (de_var (pv 0)) (da_cons false (de_c pe_int) da_nil))) da_nil)) da_nil)))))
theorem ok_law_var (T : Top K mg) : FnOk P w K mg base (L2.CX P w) 1 T.f_law_var T.fd_law_var P_law_var (liftSp K sp_law_var) :=
  fnD T.F_law_var sc_law_var (b_law_var) fun _ _ _ _ _ _ hr => w_law_var T hr
theorem w_law_put (T : Top K mg) {cdv : Value} {A : Around} {outer : List Env} {s : Shared} {H : Hp} {E : XK} (hr : Room 2 (A.deeper (envOfC "_law_put" (defScope s_law_put) s.heap.objs.size T.f_law_put cdv))) :
    PSs (cxOf (L2.CX P w) P w K mg base N_law_put "_law_put" (defScope s_law_put) T.f_law_put cdv A outer s H E) (defBody s_law_put) (liftS K (fun cls d _ H => E cls d H) (d_law_put)) := by
  have nd := (sc_law_put).nd
  have hu := hr.units
  have tk : Takes (cxOf (L2.CX P w) P w K mg base N_law_put "_law_put" (defScope s_law_put) T.f_law_put cdv A outer s H E) (fun cls d _ H => E cls d H) := takes_of rfl rfl rfl rfl
  have hp : PassesOwn (model P w) (A.deeper (envOfC "_law_put" (defScope s_law_put) s.heap.objs.size T.f_law_put cdv)) (envOfC "_law_put" (defScope s_law_put) s.heap.objs.size T.f_law_put cdv) (cxOf (L2.CX P w) P w K mg base N_law_put "_law_put" (defScope s_law_put) T.f_law_put cdv A outer s H E).xe := passes_of (X := cxOf (L2.CX P w) P w K mg base N_law_put "_law_put" (defScope s_law_put) T.f_law_put cdv A outer s H E) rfl
  exact (dss_cons (ds_set true (i := 2) nd rfl (by first | exact Or.inl rfl | exact Or.inr rfl) (de_lst (da_cons false (de_tup (da_cons false (de_c pe_int) (da_cons false (de_tup (da_cons false (de_ix hu (de_var (pv 0)) (de_c pe_int) (fun _ _ => rfl)) (da_cons false (de_tup da_nil) da_nil))) da_nil))) da_nil)))
      (dss_cons (ds_for hp rfl (di_seq (de_ix hu (de_var (pv 0)) (de_c pe_int) (fun _ _ => rfl))) (dg_tup rfl (dgs_cons (dg_name (i := 3) nd rfl (by first | exact Or.inl rfl | exact Or.inr rfl)) (dgs_cons (dg_name (i := 4) nd rfl (by first | exact Or.inl rfl | exact Or.inr rfl)) dgs_nil)) rfl)
      (dss_one (ds_expr (de_bm PySem.F.plainAttrs_list PySem.F.slot_list_append PySem.F.type_list_append mt_append md_append (de_var (pv 2)) (da_cons false (de_tup (da_cons false (de_var (pv 4)) (da_cons false (de_dget2 hu (de_var (pv 1)) (de_var (pv 3)) (de_call (ok_law_var T) (hr.mono (by decide)) (by rfl) T.g_law_var T.F_law_var.kp T.b_law_var tk (da_cons false (de_var (pv 3)) da_nil)) ⟨rfl, rfl, rfl, rfl⟩) da_nil))) da_nil)))))
      (dss_one (ds_ret (de_call (ok_law_sum T) (hr.mono (by decide)) (by rfl) T.g_law_sum T.F_law_sum.kp T.b_law_sum tk (da_cons false (de_var (pv 2)) da_nil))))))
theorem ok_law_put (T : Top K mg) : FnOk P w K mg base (L2.CX P w) 3 T.f_law_put T.fd_law_put P_law_put (liftSp K sp_law_put) :=
  fnD T.F_law_put sc_law_put (b_law_put) fun _ _ _ _ _ _ hr => w_law_put T hr
theorem w_law_at (T : Top K mg) {cdv : Value} {A : Around} {outer : List Env} {s : Shared} {H : Hp} {E : XK} (hr : Room 0 (A.deeper (envOfC "_law_at" (defScope s_law_at) s.heap.objs.size T.f_law_at cdv))) :
    PSs (cxOf (L2.CX P w) P w K mg base N_law_at "_law_at" (defScope s_law_at) T.f_law_at cdv A outer s H E) (defBody s_law_at) (liftS K (fun cls d _ H => E cls d H) (d_law_at)) := by
  have nd := (sc_law_at).nd
  have hu := hr.units
  have tk : Takes (cxOf (L2.CX P w) P w K mg base N_law_at "_law_at" (defScope s_law_at) T.f_law_at cdv A outer s H E) (fun cls d _ H => E cls d H) := takes_of rfl rfl rfl rfl
  have hp : PassesOwn (model P w) (A.deeper (envOfC "_law_at" (defScope s_law_at) s.heap.objs.size T.f_law_at cdv)) (envOfC "_law_at" (defScope s_law_at) s.heap.objs.size T.f_law_at cdv) (cxOf (L2.CX P w) P w K mg base N_law_at "_law_at" (defScope s_law_at) T.f_law_at cdv A outer s H E).xe := passes_of (X := cxOf (L2.CX P w) P w K mg base N_law_at "_law_at" (defScope s_law_at) T.f_law_at cdv A outer s H E) rfl
  exact (dss_cons (ds_set false (i := 3) nd rfl (by first | exact Or.inl rfl | exact Or.inr rfl) (de_bin or_mul od_mul (de_var (pv 1)) (de_ix hu (de_var (pv 0)) (de_c pe_int) (fun _ _ => rfl))))
      (dss_cons (ds_for hp rfl (di_seq (de_ix hu (de_var (pv 0)) (de_c pe_int) (fun _ _ => rfl))) (dg_tup rfl (dgs_cons (dg_name (i := 4) nd rfl (by first | exact Or.inl rfl | exact Or.inr rfl)) (dgs_cons (dg_name (i := 5) nd rfl (by first | exact Or.inl rfl | exact Or.inr rfl)) dgs_nil)) rfl)
      (dss_one (ds_set false (i := 3) nd rfl (by first | exact Or.inl rfl | exact Or.inr rfl) (de_bin or_add od_add (de_var (pv 3)) (de_bin or_mul od_mul (de_var (pv 5)) (de_ix hu (de_var (pv 2)) (de_var (pv 4)) (fun _ _ => rfl)))))))
      (dss_one (ds_ret (de_var (pv 3))))))
theorem ok_law_at (T : Top K mg) : FnOk P w K mg base (L2.CX P w) 1 T.f_law_at T.fd_law_at P_law_at (liftSp K sp_law_at) :=
  fnD T.F_law_at sc_law_at (b_law_at) fun _ _ _ _ _ _ hr => w_law_at T hr
theorem w_law_price (T : Top K mg) {cdv : Value} {A : Around} {outer : List Env} {s : Shared} {H : Hp} {E : XK} (hr : Room 0 (A.deeper (envOfC "_law_price" (defScope s_law_price) s.heap.objs.size T.f_law_price cdv))) :
    PSs (cxOf (L2.CX P w) P w K mg base N_law_price "_law_price" (defScope s_law_price) T.f_law_price cdv A outer s H E) (defBody s_law_price) (liftS K (fun cls d _ H => E cls d H) (d_law_price)) := by
  have nd := (sc_law_price).nd
  have hu := hr.units
  have tk : Takes (cxOf (L2.CX P w) P w K mg base N_law_price "_law_price" (defScope s_law_price) T.f_law_price cdv A outer s H E) (fun cls d _ H => E cls d H) := takes_of rfl rfl rfl rfl
  have hp : PassesOwn (model P w) (A.deeper (envOfC "_law_price" (defScope s_law_price) s.heap.objs.size T.f_law_price cdv)) (envOfC "_law_price" (defScope s_law_price) s.heap.objs.size T.f_law_price cdv) (cxOf (L2.CX P w) P w K mg base N_law_price "_law_price" (defScope s_law_price) T.f_law_price cdv A outer s H E).xe := passes_of (X := cxOf (L2.CX P w) P w K mg base N_law_price "_law_price" (defScope s_law_price) T.f_law_price cdv A outer s H E) rfl
  exact (dss_cons (ds_set false (i := 1) nd rfl (by first | exact Or.inl rfl | exact Or.inr rfl) (de_callB (cr_sum rfl) cd_sum (by rfl) T.n_sum (by decide +kernel) (da_cons false (de_lc (own := [("name", 2), ("number", 3)]) false rfl nd (di_seq (de_ix hu (de_var (pv 0)) (de_c pe_int) (fun _ _ => rfl))) (blkOk_by (own := [("name", 2), ("number", 3)]) (N := N_law_price) (sc := defScope s_law_price) (by decide +kernel)) (fun _ _ _ _ _ => (dg_tup rfl (dgs_cons (dg_name (i := 2) nd rfl (by first | exact Or.inl rfl | exact Or.inr rfl)) (dgs_cons (dg_name (i := 3) nd rfl (by first | exact Or.inl rfl | exact Or.inr rfl)) dgs_nil)) rfl)) (fun _ _ _ _ _ => dts_nil) (fun _ _ _ _ _ => (de_callB call_abs cd_abs (by rfl) T.n_abs (by decide +kernel) (da_cons false (de_var (pv 3)) da_nil))) (by decide)) da_nil)))
      (dss_one (ds_ret (de_bin or_add od_add (de_bin or_add od_add (de_bin or_mul od_mul (de_c pe_int) (de_var (pv 1))) (de_bin or_mul od_mul (de_c pe_int) (de_callB (call_max2 rfl) cd_2I (by rfl) T.n_max (by decide +kernel) (da_cons false (de_c pe_int) (da_cons false (de_ix hu (de_var (pv 0)) (de_c pe_int) (fun _ _ => rfl)) da_nil))))) (de_callB (call_max2 rfl) cd_2I (by rfl) T.n_max (by decide +kernel) (da_cons false (de_c pe_int) (da_cons false (de_bin or_add od_add (de_ix hu (de_var (pv 0)) (de_c pe_int) (fun _ _ => rfl)) (de_bin or_mul od_mul (de_c pe_int) (de_var (pv 1)))) da_nil)))))))
theorem ok_law_price (T : Top K mg) : FnOk P w K mg base (L2.CX P w) 1 T.f_law_price T.fd_law_price P_law_price (liftSp K sp_law_price) :=
  fnD T.F_law_price sc_law_price (b_law_price) fun _ _ _ _ _ _ hr => w_law_price T hr
theorem w_law_some_number (T : Top K mg) {cdv : Value} {A : Around} {outer : List Env} {s : Shared} {H : Hp} {E : XK} (hr : Room 2 (A.deeper (envOfC "_law_some_number" (defScope s_law_some_number) s.heap.objs.size T.f_law_some_number cdv))) :
    PSs (cxOf (L2.CX P w) P w K mg base N_law_some_number "_law_some_number" (defScope s_law_some_number) T.f_law_some_number cdv A outer s H E) (defBody s_law_some_number) (liftS K (fun cls d _ H => E cls d H) (d_law_some_number)) := by
  have nd := (sc_law_some_number).nd
  have hu := hr.units
  have tk : Takes (cxOf (L2.CX P w) P w K mg base N_law_some_number "_law_some_number" (defScope s_law_some_number) T.f_law_some_number cdv A outer s H E) (fun cls d _ H => E cls d H) := takes_of rfl rfl rfl rfl
  have hp : PassesOwn (model P w) (A.deeper (envOfC "_law_some_number" (defScope s_law_some_number) s.heap.objs.size T.f_law_some_number cdv)) (envOfC "_law_some_number" (defScope s_law_some_number) s.heap.objs.size T.f_law_some_number cdv) (cxOf (L2.CX P w) P w K mg base N_law_some_number "_law_some_number" (defScope s_law_some_number) T.f_law_some_number cdv A outer s H E).xe := passes_of (X := cxOf (L2.CX P w) P w K mg base N_law_some_number "_law_some_number" (defScope s_law_some_number) T.f_law_some_number cdv A outer s H E) rfl
  exact (dss_cons (ds_set false (i := 1) nd rfl (by first | exact Or.inl rfl | exact Or.inr rfl) (de_call (ok_law_draw T) (hr.mono (by decide)) (by rfl) T.g_law_draw T.F_law_draw.kp T.b_law_draw tk (da_cons false (de_var (pv 0)) (da_cons false (de_c pe_int) da_nil))))
      (dss_cons (ds_if (dt_cmp (or_eq hu) od_eq (de_var (pv 1)) (de_c pe_int) (nomark _))
      (dss_one (ds_ret (de_bin or_add od_add (de_bin or_mul od_mul (de_bin or_sub od_sub (de_call (ok_law_draw T) (hr.mono (by decide)) (by rfl) T.g_law_draw T.F_law_draw.kp T.b_law_draw tk (da_cons false (de_var (pv 0)) (da_cons false (de_bin or_pow od_pow (de_c pe_int) (de_c pe_int)) da_nil))) (de_c pe_int)) (de_bin or_pow od_pow (de_c pe_int) (de_c pe_int))) (de_call (ok_law_draw T) (hr.mono (by decide)) (by rfl) T.g_law_draw T.F_law_draw.kp T.b_law_draw tk (da_cons false (de_var (pv 0)) (da_cons false (de_bin or_pow od_pow (de_c pe_int) (de_c pe_int)) da_nil))))))
      dss_nil)
      (dss_cons (ds_if (dt_cmp (or_eq hu) od_eq (de_var (pv 1)) (de_c pe_int) (nomark _))
      (dss_one (ds_ret (de_call (ok_law_one_of T) (hr.mono (by decide)) (by rfl) T.g_law_one_of T.F_law_one_of.kp T.b_law_one_of tk (da_cons false (de_var (pv 0)) (da_cons false (de_lst (da_cons false (de_c pe_int) (da_cons false (de_neg (de_c pe_int)) (da_cons false (de_c pe_int) (da_cons false (de_neg (de_c pe_int)) (da_cons false (de_c pe_int) (da_cons false (de_neg (de_c pe_int)) da_nil))))))) da_nil)))))
      dss_nil)
      (dss_one (ds_ret (de_bin or_sub od_sub (de_call (ok_law_draw T) (hr.mono (by decide)) (by rfl) T.g_law_draw T.F_law_draw.kp T.b_law_draw tk (da_cons false (de_var (pv 0)) (da_cons false (de_c pe_int) da_nil))) (de_c pe_int)))))))
theorem ok_law_some_number (T : Top K mg) : FnOk P w K mg base (L2.CX P w) 3 T.f_law_some_number T.fd_law_some_number P_law_some_number (liftSp K sp_law_some_number) :=
  fnD T.F_law_some_number sc_law_some_number (b_law_some_number) fun _ _ _ _ _ _ hr => w_law_some_number T hr
theorem w_law_some_pairs (T : Top K mg) {cdv : Value} {A : Around} {outer : List Env} {s : Shared} {H : Hp} {E : XK} (hr : Room 3 (A.deeper (envOfC "_law_some_pairs" (defScope s_law_some_pairs) s.heap.objs.size T.f_law_some_pairs cdv))) :
    PSs (cxOf (L2.CX P w) P w K mg base N_law_some_pairs "_law_some_pairs" (defScope s_law_some_pairs) T.f_law_some_pairs cdv A outer s H E) (defBody s_law_some_pairs) (liftS K (fun cls d _ H => E cls d H) (d_law_some_pairs)) := by
  have nd := (sc_law_some_pairs).nd
  have hu := hr.units
  have tk : Takes (cxOf (L2.CX P w) P w K mg base N_law_some_pairs "_law_some_pairs" (defScope s_law_some_pairs) T.f_law_some_pairs cdv A outer s H E) (fun cls d _ H => E cls d H) := takes_of rfl rfl rfl rfl
  have hp : PassesOwn (model P w) (A.deeper (envOfC "_law_some_pairs" (defScope s_law_some_pairs) s.heap.objs.size T.f_law_some_pairs cdv)) (envOfC "_law_some_pairs" (defScope s_law_some_pairs) s.heap.objs.size T.f_law_some_pairs cdv) (cxOf (L2.CX P w) P w K mg base N_law_some_pairs "_law_some_pairs" (defScope s_law_some_pairs) T.f_law_some_pairs cdv A outer s H E).xe := passes_of (X := cxOf (L2.CX P w) P w K mg base N_law_some_pairs "_law_some_pairs" (defScope s_law_some_pairs) T.f_law_some_pairs cdv A outer s H E) rfl
  exact (dss_one (ds_ret (de_callTy call_tuple_of cd_tuple (by rfl) T.n_tuple (by decide +kernel) (da_cons false (de_lc (own := [("turn", 2)]) false rfl nd (di_range1 (by rfl) T.n_range (da_cons false (de_call (ok_law_draw T) (hr.mono (by decide)) (by rfl) T.g_law_draw T.F_law_draw.kp T.b_law_draw tk (da_cons false (de_var (pv 0)) (da_cons false (de_c pe_int) da_nil))) da_nil)) (blkOk_by (own := [("turn", 2)]) (N := N_law_some_pairs) (sc := defScope s_law_some_pairs) (by decide +kernel)) (fun _ _ _ _ _ => (dg_name (i := 2) nd rfl (by first | exact Or.inl rfl | exact Or.inr rfl))) (fun _ _ _ _ _ => dts_nil) (fun _ _ _ _ _ => (de_tup (da_cons false (de_call (ok_law_one_of T) (hr.mono (by decide)) (by rfl) T.g_law_one_of T.F_law_one_of.kp T.b_law_one_of takes0 (da_cons false (de_var (pv 0)) (da_cons false (de_var (pv 1)) da_nil))) (da_cons false (de_call (ok_law_some_number T) (hr.mono (by decide)) (by rfl) T.g_law_some_number T.F_law_some_number.kp T.b_law_some_number takes0 (da_cons false (de_var (pv 0)) da_nil)) da_nil)))) (by decide)) da_nil))))
theorem ok_law_some_pairs (T : Top K mg) : FnOk P w K mg base (L2.CX P w) 4 T.f_law_some_pairs T.fd_law_some_pairs P_law_some_pairs (liftSp K sp_law_some_pairs) :=
  fnD T.F_law_some_pairs sc_law_some_pairs (b_law_some_pairs) fun _ _ _ _ _ _ hr => w_law_some_pairs T hr
theorem w_law_some_form (T : Top K mg) {cdv : Value} {A : Around} {outer : List Env} {s : Shared} {H : Hp} {E : XK} (hr : Room 4 (A.deeper (envOfC "_law_some_form" (defScope s_law_some_form) s.heap.objs.size T.f_law_some_form cdv))) :
    PSs (cxOf (L2.CX P w) P w K mg base N_law_some_form "_law_some_form" (defScope s_law_some_form) T.f_law_some_form cdv A outer s H E) (defBody s_law_some_form) (liftS K (fun cls d _ H => E cls d H) (d_law_some_form)) := by
  have nd := (sc_law_some_form).nd
  have hu := hr.units
  have tk : Takes (cxOf (L2.CX P w) P w K mg base N_law_some_form "_law_some_form" (defScope s_law_some_form) T.f_law_some_form cdv A outer s H E) (fun cls d _ H => E cls d H) := takes_of rfl rfl rfl rfl
  have hp : PassesOwn (model P w) (A.deeper (envOfC "_law_some_form" (defScope s_law_some_form) s.heap.objs.size T.f_law_some_form cdv)) (envOfC "_law_some_form" (defScope s_law_some_form) s.heap.objs.size T.f_law_some_form cdv) (cxOf (L2.CX P w) P w K mg base N_law_some_form "_law_some_form" (defScope s_law_some_form) T.f_law_some_form cdv A outer s H E).xe := passes_of (X := cxOf (L2.CX P w) P w K mg base N_law_some_form "_law_some_form" (defScope s_law_some_form) T.f_law_some_form cdv A outer s H E) rfl
  exact (dss_one (ds_ret (de_call (ok_law_form T) (hr.mono (by decide)) (by rfl) T.g_law_form T.F_law_form.kp T.b_law_form tk (da_cons false (de_call (ok_law_some_number T) (hr.mono (by decide)) (by rfl) T.g_law_some_number T.F_law_some_number.kp T.b_law_some_number tk (da_cons false (de_var (pv 0)) da_nil)) (da_cons false (de_call (ok_law_some_pairs T) (hr.mono (by decide)) (by rfl) T.g_law_some_pairs T.F_law_some_pairs.kp T.b_law_some_pairs tk (da_cons false (de_var (pv 0)) (da_cons false (de_var (pv 1)) da_nil))) da_nil)))))
theorem ok_law_some_form (T : Top K mg) : FnOk P w K mg base (L2.CX P w) 5 T.f_law_some_form T.fd_law_some_form P_law_some_form (liftSp K sp_law_some_form) :=
  fnD T.F_law_some_form sc_law_some_form (b_law_some_form) fun _ _ _ _ _ _ hr => w_law_some_form T hr
theorem w_law (T : Top K mg) {cdv : Value} {A : Around} {outer : List Env} {s : Shared} {H : Hp} {E : XK} (hr : Room 6 (A.deeper (envOfC "law" (defScope s_law) s.heap.objs.size T.f_law cdv))) :
    PSs (cxOf (L2.CX P w) P w K mg base N_law "law" (defScope s_law) T.f_law cdv A outer s H E) (defBody s_law) (liftS K (fun cls d _ H => E cls d H) (d_law)) := by
  have nd := (sc_law).nd
  have hu := hr.units
  have tk : Takes (cxOf (L2.CX P w) P w K mg base N_law "law" (defScope s_law) T.f_law cdv A outer s H E) (fun cls d _ H => E cls d H) := takes_of rfl rfl rfl rfl
  have hp : PassesOwn (model P w) (A.deeper (envOfC "law" (defScope s_law) s.heap.objs.size T.f_law cdv)) (envOfC "law" (defScope s_law) s.heap.objs.size T.f_law cdv) (cxOf (L2.CX P w) P w K mg base N_law "law" (defScope s_law) T.f_law cdv A outer s H E).xe := passes_of (X := cxOf (L2.CX P w) P w K mg base N_law "law" (defScope s_law) T.f_law cdv A outer s H E) rfl
  exact (dss_cons (ds_set true (i := 1) nd rfl (by first | exact Or.inl rfl | exact Or.inr rfl) (de_call (ok_law_start T) (hr.mono (by decide)) (by rfl) T.g_law_start T.F_law_start.kp T.b_law_start tk (da_cons false (de_var (pv 0)) da_nil)))
      (dss_cons (ds_set false (i := 2) nd rfl (by first | exact Or.inl rfl | exact Or.inr rfl) (de_lst (da_cons false (de_c pe_str) (da_cons false (de_c pe_str) (da_cons false (de_c pe_str) (da_cons false (de_c pe_str) (da_cons false (de_c pe_str) da_nil)))))))
      (dss_cons (ds_for hp rfl (di_range1 (by rfl) T.n_range (da_cons false (de_c pe_int) da_nil)) (dg_name (i := 3) nd rfl (by first | exact Or.inl rfl | exact Or.inr rfl))
      (dss_cons (ds_set false (i := 4) nd rfl (by first | exact Or.inl rfl | exact Or.inr rfl) (de_call (ok_law_some_number T) (hr.mono (by decide)) (by rfl) T.g_law_some_number T.F_law_some_number.kp T.b_law_some_number tk (da_cons false (de_var (pv 1)) da_nil)))
      (dss_cons (ds_set false (i := 5) nd rfl (by first | exact Or.inl rfl | exact Or.inr rfl) (de_call (ok_law_some_pairs T) (hr.mono (by decide)) (by rfl) T.g_law_some_pairs T.F_law_some_pairs.kp T.b_law_some_pairs tk (da_cons false (de_var (pv 1)) (da_cons false (de_var (pv 2)) da_nil))))
      (dss_cons (ds_set false (i := 5) nd rfl (by first | exact Or.inl rfl | exact Or.inr rfl) (de_bin or_add od_add (de_var (pv 5)) (de_callTy call_tuple_of cd_tuple (by rfl) T.n_tuple (by decide +kernel) (da_cons false (de_lc (own := [("name", 11), ("number", 15)]) false rfl nd (di_seq (de_slice (de_var (pv 5)) do_none (do_some (de_call (ok_law_draw T) (hr.mono (by decide)) (by rfl) T.g_law_draw T.F_law_draw.kp T.b_law_draw tk (da_cons false (de_var (pv 1)) (da_cons false (de_c pe_int) da_nil)))))) (blkOk_by (own := [("name", 11), ("number", 15)]) (N := N_law) (sc := defScope s_law) (by decide +kernel)) (fun _ _ _ _ _ => (dg_tup rfl (dgs_cons (dg_name (i := 11) nd rfl (by first | exact Or.inl rfl | exact Or.inr rfl)) (dgs_cons (dg_name (i := 15) nd rfl (by first | exact Or.inl rfl | exact Or.inr rfl)) dgs_nil)) rfl)) (fun _ _ _ _ _ => dts_nil) (fun _ _ _ _ _ => (de_tup (da_cons false (de_var (pv 11)) (da_cons false (de_neg (de_var (pv 15))) da_nil)))) (by decide)) da_nil))))
      (dss_cons (ds_set false (i := 6) nd rfl (by first | exact Or.inl rfl | exact Or.inr rfl) (de_call (ok_form T) (hr.mono (by decide)) (by rfl) T.g_form T.F_form.kp T.b_form tk (da_cons false (de_var (pv 4)) (da_cons false (de_callTy call_tuple_of cd_tuple (by rfl) T.n_tuple (by decide +kernel) (da_cons false (de_call (ok_law_shuffled T) (hr.mono (by decide)) (by rfl) T.g_law_shuffled T.F_law_shuffled.kp T.b_law_shuffled tk (da_cons false (de_var (pv 1)) (da_cons false (de_var (pv 5)) da_nil))) da_nil)) da_nil))))
      (dss_cons (ds_if (dt_not (dt_tru (de_call (ok_law_same T) (hr.mono (by decide)) (by rfl) T.g_law_same T.F_law_same.kp T.b_law_same tk (da_cons false (de_var (pv 6)) (da_cons false (de_call (ok_law_form T) (hr.mono (by decide)) (by rfl) T.g_law_form T.F_law_form.kp T.b_law_form tk (da_cons false (de_var (pv 4)) (da_cons false (de_var (pv 5)) da_nil))) da_nil)))))
      (dss_one (ds_ret (de_c pe_bl)))
      dss_nil)
      (dss_cons (ds_set false (i := 7) nd rfl (by first | exact Or.inl rfl | exact Or.inr rfl) (de_call (ok_law_some_form T) (hr.mono (by decide)) (by rfl) T.g_law_some_form T.F_law_some_form.kp T.b_law_some_form tk (da_cons false (de_var (pv 1)) (da_cons false (de_var (pv 2)) da_nil))))
      (dss_cons (ds_set false (i := 8) nd rfl (by first | exact Or.inl rfl | exact Or.inr rfl) (de_bin or_mul od_mul (de_call (ok_law_some_number T) (hr.mono (by decide)) (by rfl) T.g_law_some_number T.F_law_some_number.kp T.b_law_some_number tk (da_cons false (de_var (pv 1)) da_nil)) (de_call (ok_law_draw T) (hr.mono (by decide)) (by rfl) T.g_law_draw T.F_law_draw.kp T.b_law_draw tk (da_cons false (de_var (pv 1)) (da_cons false (de_c pe_int) da_nil)))))
      (dss_cons (ds_if (dt_not (dt_tru (de_call (ok_law_same T) (hr.mono (by decide)) (by rfl) T.g_law_same T.F_law_same.kp T.b_law_same tk (da_cons false (de_tup (da_cons false (de_call (ok_plus T) (hr.mono (by decide)) (by rfl) T.g_plus T.F_plus.kp T.b_plus tk (da_cons false (de_var (pv 6)) (da_cons false (de_var (pv 7)) da_nil))) (da_cons false (de_call (ok_minus T) (hr.mono (by decide)) (by rfl) T.g_minus T.F_minus.kp T.b_minus tk (da_cons false (de_var (pv 6)) (da_cons false (de_var (pv 7)) da_nil))) (da_cons false (de_call (ok_times T) (hr.mono (by decide)) (by rfl) T.g_times T.F_times.kp T.b_times tk (da_cons false (de_var (pv 8)) (da_cons false (de_var (pv 6)) da_nil))) da_nil)))) (da_cons false (de_tup (da_cons false (de_call (ok_law_sum T) (hr.mono (by decide)) (by rfl) T.g_law_sum T.F_law_sum.kp T.b_law_sum tk (da_cons false (de_lst (da_cons false (de_tup (da_cons false (de_c pe_int) (da_cons false (de_var (pv 6)) da_nil))) (da_cons false (de_tup (da_cons false (de_c pe_int) (da_cons false (de_var (pv 7)) da_nil))) da_nil))) da_nil)) (da_cons false (de_call (ok_law_sum T) (hr.mono (by decide)) (by rfl) T.g_law_sum T.F_law_sum.kp T.b_law_sum tk (da_cons false (de_lst (da_cons false (de_tup (da_cons false (de_c pe_int) (da_cons false (de_var (pv 6)) da_nil))) (da_cons false (de_tup (da_cons false (de_neg (de_c pe_int)) (da_cons false (de_var (pv 7)) da_nil))) da_nil))) da_nil)) (da_cons false (de_call (ok_law_sum T) (hr.mono (by decide)) (by rfl) T.g_law_sum T.F_law_sum.kp T.b_law_sum tk (da_cons false (de_lst (da_cons false (de_tup (da_cons false (de_var (pv 8)) (da_cons false (de_var (pv 6)) da_nil))) da_nil)) da_nil)) da_nil)))) da_nil)))))
      (dss_one (ds_ret (de_c pe_bl)))
      dss_nil)
      (dss_cons (ds_if (dt_not (dt_tru (de_call (ok_law_same T) (hr.mono (by decide)) (by rfl) T.g_law_same T.F_law_same.kp T.b_law_same tk (da_cons false (de_tup (da_cons false (de_call (ok_minus T) (hr.mono (by decide)) (by rfl) T.g_minus T.F_minus.kp T.b_minus tk (da_cons false (de_var (pv 6)) (da_cons false (de_var (pv 6)) da_nil))) (da_cons false (de_call (ok_plus T) (hr.mono (by decide)) (by rfl) T.g_plus T.F_plus.kp T.b_plus tk (da_cons false (de_var (pv 6)) (da_cons false (de_call (ok_times T) (hr.mono (by decide)) (by rfl) T.g_times T.F_times.kp T.b_times tk (da_cons false (de_neg (de_c pe_int)) (da_cons false (de_var (pv 6)) da_nil))) da_nil))) (da_cons false (de_call (ok_times T) (hr.mono (by decide)) (by rfl) T.g_times T.F_times.kp T.b_times tk (da_cons false (de_c pe_int) (da_cons false (de_var (pv 7)) da_nil))) da_nil)))) (da_cons false (de_tup (da_cons false (de_tup (da_cons false (de_c pe_int) (da_cons false (de_tup da_nil) da_nil))) (da_cons false (de_tup (da_cons false (de_c pe_int) (da_cons false (de_tup da_nil) da_nil))) (da_cons false (de_tup (da_cons false (de_c pe_int) (da_cons false (de_tup da_nil) da_nil))) da_nil)))) da_nil)))))
      (dss_one (ds_ret (de_c pe_bl)))
      dss_nil)
      (dss_cons (ds_set false (i := 9) nd rfl (by first | exact Or.inl rfl | exact Or.inr rfl) (de_slice (de_call (ok_law_shuffled T) (hr.mono (by decide)) (by rfl) T.g_law_shuffled T.F_law_shuffled.kp T.b_law_shuffled tk (da_cons false (de_var (pv 1)) (da_cons false (de_var (pv 2)) da_nil))) do_none (do_some (de_call (ok_law_draw T) (hr.mono (by decide)) (by rfl) T.g_law_draw T.F_law_draw.kp T.b_law_draw tk (da_cons false (de_var (pv 1)) (da_cons false (de_c pe_int) da_nil))))))
      (dss_cons (ds_set true (i := 10) nd rfl (by first | exact Or.inl rfl | exact Or.inr rfl) de_dic0)
      (dss_cons (ds_for hp rfl (di_seq (de_var (pv 9))) (dg_name (i := 11) nd rfl (by first | exact Or.inl rfl | exact Or.inr rfl))
      (dss_one (ds_setItem false hu (de_call (ok_law_some_form T) (hr.mono (by decide)) (by rfl) T.g_law_some_form T.F_law_some_form.kp T.b_law_some_form tk (da_cons false (de_var (pv 1)) (da_cons false (de_var (pv 2)) da_nil))) (de_var (pv 10)) (de_var (pv 11)))))
      (dss_cons (ds_if (dt_not (dt_tru (de_call (ok_law_same T) (hr.mono (by decide)) (by rfl) T.g_law_same T.F_law_same.kp T.b_law_same tk (da_cons false (de_call (ok_image T) (hr.mono (by decide)) (by rfl) T.g_image T.F_image.kp T.b_image tk (da_cons false (de_var (pv 6)) (da_cons false (de_callTy call_tuple_of cd_tuple (by rfl) T.n_tuple (by decide +kernel) (da_cons false (de_lc (own := [("name", 11)]) false rfl nd (di_seq (de_var (pv 9))) (blkOk_by (own := [("name", 11)]) (N := N_law) (sc := defScope s_law) (by decide +kernel)) (fun _ _ _ _ _ => (dg_name (i := 11) nd rfl (by first | exact Or.inl rfl | exact Or.inr rfl))) (fun _ _ _ _ _ => dts_nil) (fun _ _ _ _ _ => (de_tup (da_cons false (de_var (pv 11)) (da_cons false (de_ix hu (de_var (pv 10)) (de_var (pv 11)) (fun _ _ => rfl)) da_nil)))) (by decide)) da_nil)) da_nil))) (da_cons false (de_call (ok_law_put T) (hr.mono (by decide)) (by rfl) T.g_law_put T.F_law_put.kp T.b_law_put tk (da_cons false (de_var (pv 6)) (da_cons false (de_var (pv 10)) da_nil))) da_nil)))))
      (dss_one (ds_ret (de_c pe_bl)))
      dss_nil)
      (dss_cons (ds_set false (i := 12) nd rfl (by first | exact Or.inl rfl | exact Or.inr rfl) (de_disp (ps := [((dC (.str "@n")), (dCall sp_law_var (dCons false (dC (.str "i")) dNil))), ((dC (.str "i")), (dCall sp_law_var (dCons false (dC (.str "@n")) dNil)))]) (pps_cons (de_c pe_str) (de_call (ok_law_var T) (hr.mono (by decide)) (by rfl) T.g_law_var T.F_law_var.kp T.b_law_var tk (da_cons false (de_c pe_str) da_nil)) (pps_cons (de_c pe_str) (de_call (ok_law_var T) (hr.mono (by decide)) (by rfl) T.g_law_var T.F_law_var.kp T.b_law_var tk (da_cons false (de_c pe_str) da_nil)) pps_nil)) (by rfl) (by rfl) (fun z => by cases z) (by decide)))
      (dss_cons (ds_if (dt_not (dt_tru (de_call (ok_law_same T) (hr.mono (by decide)) (by rfl) T.g_law_same T.F_law_same.kp T.b_law_same tk (da_cons false (de_call (ok_image T) (hr.mono (by decide)) (by rfl) T.g_image T.F_image.kp T.b_image tk (da_cons false (de_var (pv 6)) (da_cons false (de_tup (da_cons false (de_tup (da_cons false (de_c pe_str) (da_cons false (de_call (ok_law_var T) (hr.mono (by decide)) (by rfl) T.g_law_var T.F_law_var.kp T.b_law_var tk (da_cons false (de_c pe_str) da_nil)) da_nil))) (da_cons false (de_tup (da_cons false (de_c pe_str) (da_cons false (de_call (ok_law_var T) (hr.mono (by decide)) (by rfl) T.g_law_var T.F_law_var.kp T.b_law_var tk (da_cons false (de_c pe_str) da_nil)) da_nil))) da_nil))) da_nil))) (da_cons false (de_call (ok_law_put T) (hr.mono (by decide)) (by rfl) T.g_law_put T.F_law_put.kp T.b_law_put tk (da_cons false (de_var (pv 6)) (da_cons false (de_var (pv 12)) da_nil))) da_nil)))))
      (dss_one (ds_ret (de_c pe_bl)))
      dss_nil)
      (dss_cons (ds_set true (i := 13) nd rfl (by first | exact Or.inl rfl | exact Or.inr rfl) de_dic0)
      (dss_cons (ds_for hp rfl (di_seq (de_var (pv 2))) (dg_name (i := 11) nd rfl (by first | exact Or.inl rfl | exact Or.inr rfl))
      (dss_one (ds_setItem false hu (de_call (ok_law_some_number T) (hr.mono (by decide)) (by rfl) T.g_law_some_number T.F_law_some_number.kp T.b_law_some_number tk (da_cons false (de_var (pv 1)) da_nil)) (de_var (pv 13)) (de_var (pv 11)))))
      (dss_cons (ds_if (dt_not (dt_tru (de_call (ok_law_same T) (hr.mono (by decide)) (by rfl) T.g_law_same T.F_law_same.kp T.b_law_same tk (da_cons false (de_call (ok_value T) (hr.mono (by decide)) (by rfl) T.g_value T.F_value.kp T.b_value tk (da_cons false (de_var (pv 6)) (da_cons false (de_callTy call_tuple_of cd_tuple (by rfl) T.n_tuple (by decide +kernel) (da_cons false (de_lc (own := [("name", 11)]) false rfl nd (di_seq (de_call (ok_law_shuffled T) (hr.mono (by decide)) (by rfl) T.g_law_shuffled T.F_law_shuffled.kp T.b_law_shuffled tk (da_cons false (de_var (pv 1)) (da_cons false (de_var (pv 2)) da_nil)))) (blkOk_by (own := [("name", 11)]) (N := N_law) (sc := defScope s_law) (by decide +kernel)) (fun _ _ _ _ _ => (dg_name (i := 11) nd rfl (by first | exact Or.inl rfl | exact Or.inr rfl))) (fun _ _ _ _ _ => dts_nil) (fun _ _ _ _ _ => (de_tup (da_cons false (de_var (pv 11)) (da_cons false (de_ix hu (de_var (pv 13)) (de_var (pv 11)) (fun _ _ => rfl)) da_nil)))) (by decide)) da_nil)) da_nil))) (da_cons false (de_call (ok_law_at T) (hr.mono (by decide)) (by rfl) T.g_law_at T.F_law_at.kp T.b_law_at tk (da_cons false (de_var (pv 6)) (da_cons false (de_c pe_int) (da_cons false (de_var (pv 13)) da_nil)))) da_nil)))))
      (dss_one (ds_ret (de_c pe_bl)))
      dss_nil)
      (dss_cons (ds_set false (i := 14) nd rfl (by first | exact Or.inl rfl | exact Or.inr rfl) (de_call (ok_law_form T) (hr.mono (by decide)) (by rfl) T.g_law_form T.F_law_form.kp T.b_law_form tk (da_cons false (de_bin or_sub od_sub (de_call (ok_law_draw T) (hr.mono (by decide)) (by rfl) T.g_law_draw T.F_law_draw.kp T.b_law_draw tk (da_cons false (de_var (pv 1)) (da_cons false (de_c pe_int) da_nil))) (de_c pe_int)) (da_cons false (de_tup (da_cons false (de_tup (da_cons false (de_call (ok_law_one_of T) (hr.mono (by decide)) (by rfl) T.g_law_one_of T.F_law_one_of.kp T.b_law_one_of tk (da_cons false (de_var (pv 1)) (da_cons false (de_var (pv 2)) da_nil))) (da_cons false (de_bin or_sub od_sub (de_call (ok_law_draw T) (hr.mono (by decide)) (by rfl) T.g_law_draw T.F_law_draw.kp T.b_law_draw tk (da_cons false (de_var (pv 1)) (da_cons false (de_c pe_int) da_nil))) (de_c pe_int)) da_nil))) da_nil)) da_nil))))
      (dss_one (ds_if (dt_not (dt_tru (de_call (ok_law_same T) (hr.mono (by decide)) (by rfl) T.g_law_same T.F_law_same.kp T.b_law_same tk (da_cons false (de_tup (da_cons false (de_call (ok_price T) (hr.mono (by decide)) (by rfl) T.g_price T.F_price.kp T.b_price tk (da_cons false (de_var (pv 6)) da_nil)) (da_cons false (de_call (ok_price T) (hr.mono (by decide)) (by rfl) T.g_price T.F_price.kp T.b_price tk (da_cons false (de_var (pv 7)) da_nil)) (da_cons false (de_call (ok_price T) (hr.mono (by decide)) (by rfl) T.g_price T.F_price.kp T.b_price tk (da_cons false (de_var (pv 14)) da_nil)) da_nil)))) (da_cons false (de_tup (da_cons false (de_call (ok_law_price T) (hr.mono (by decide)) (by rfl) T.g_law_price T.F_law_price.kp T.b_law_price tk (da_cons false (de_var (pv 6)) da_nil)) (da_cons false (de_call (ok_law_price T) (hr.mono (by decide)) (by rfl) T.g_law_price T.F_law_price.kp T.b_law_price tk (da_cons false (de_var (pv 7)) da_nil)) (da_cons false (de_call (ok_law_price T) (hr.mono (by decide)) (by rfl) T.g_law_price T.F_law_price.kp T.b_law_price tk (da_cons false (de_var (pv 14)) da_nil)) da_nil)))) da_nil)))))
      (dss_one (ds_ret (de_c pe_bl)))
      dss_nil))))))))))))))))))))))
      (dss_one (ds_ret (de_call (ok_law_same T) (hr.mono (by decide)) (by rfl) T.g_law_same T.F_law_same.kp T.b_law_same tk (da_cons false (de_tup (da_cons false (de_call (ok_price T) (hr.mono (by decide)) (by rfl) T.g_price T.F_price.kp T.b_price tk (da_cons false (de_tup (da_cons false (de_c pe_int) (da_cons false (de_tup da_nil) da_nil))) da_nil)) (da_cons false (de_call (ok_price T) (hr.mono (by decide)) (by rfl) T.g_price T.F_price.kp T.b_price tk (da_cons false (de_tup (da_cons false (de_c pe_int) (da_cons false (de_tup da_nil) da_nil))) da_nil)) (da_cons false (de_call (ok_price T) (hr.mono (by decide)) (by rfl) T.g_price T.F_price.kp T.b_price tk (da_cons false (de_tup (da_cons false (de_neg (de_c pe_int)) (da_cons false (de_tup da_nil) da_nil))) da_nil)) (da_cons false (de_call (ok_price T) (hr.mono (by decide)) (by rfl) T.g_price T.F_price.kp T.b_price tk (da_cons false (de_tup (da_cons false (de_neg (de_c pe_int)) (da_cons false (de_tup (da_cons false (de_tup (da_cons false (de_c pe_str) (da_cons false (de_c pe_int) da_nil))) da_nil)) da_nil))) da_nil)) da_nil))))) (da_cons false (de_tup (da_cons false (de_c pe_int) (da_cons false (de_c pe_int) (da_cons false (de_c pe_int) (da_cons false (de_c pe_int) da_nil))))) da_nil))))))))
theorem ok_law (T : Top K mg) : FnOk P w K mg base (L2.CX P w) 7 T.f_law T.fd_law P_law (liftSp K sp_law) :=
  fnD T.F_law sc_law (b_law) fun _ _ _ _ _ _ hr => w_law T hr
end
end K65


namespace K65
open PySem PySem.Spec PyProof.Rows L2 DW
theorem bnd_form {K : PySem.W.Frag} {f : Addr} {fd : FuncData} (F : Fun K "form" "form" s_form f fd) : Binds K fd P_form [] := F.binds fun _ _ _ _ _ _ us hl => match us, hl with | [_, _], _ => rfl
theorem bnd_plus {K : PySem.W.Frag} {f : Addr} {fd : FuncData} (F : Fun K "plus" "plus" s_plus f fd) : Binds K fd P_plus [] := F.binds fun _ _ _ _ _ _ us hl => match us, hl with | [_, _], _ => rfl
theorem bnd_times {K : PySem.W.Frag} {f : Addr} {fd : FuncData} (F : Fun K "times" "times" s_times f fd) : Binds K fd P_times [] := F.binds fun _ _ _ _ _ _ us hl => match us, hl with | [_, _], _ => rfl
theorem bnd_minus {K : PySem.W.Frag} {f : Addr} {fd : FuncData} (F : Fun K "minus" "minus" s_minus f fd) : Binds K fd P_minus [] := F.binds fun _ _ _ _ _ _ us hl => match us, hl with | [_, _], _ => rfl
theorem bnd_image {K : PySem.W.Frag} {f : Addr} {fd : FuncData} (F : Fun K "image" "image" s_image f fd) : Binds K fd P_image [] := F.binds fun _ _ _ _ _ _ us hl => match us, hl with | [_, _], _ => rfl
theorem bnd_value {K : PySem.W.Frag} {f : Addr} {fd : FuncData} (F : Fun K "value" "value" s_value f fd) : Binds K fd P_value [] := F.binds fun _ _ _ _ _ _ us hl => match us, hl with | [_, _], _ => rfl
theorem bnd_price {K : PySem.W.Frag} {f : Addr} {fd : FuncData} (F : Fun K "price" "price" s_price f fd) : Binds K fd P_price [] := F.binds fun _ _ _ _ _ _ us hl => match us, hl with | [_], _ => rfl
theorem bnd_law_start {K : PySem.W.Frag} {f : Addr} {fd : FuncData} (F : Fun K "_law_start" "_law_start" s_law_start f fd) : Binds K fd P_law_start [] := F.binds fun _ _ _ _ _ _ us hl => match us, hl with | [_], _ => rfl
theorem bnd_law_draw {K : PySem.W.Frag} {f : Addr} {fd : FuncData} (F : Fun K "_law_draw" "_law_draw" s_law_draw f fd) : Binds K fd P_law_draw [] := F.binds fun _ _ _ _ _ _ us hl => match us, hl with | [_, _], _ => rfl
theorem bnd_law_one_of {K : PySem.W.Frag} {f : Addr} {fd : FuncData} (F : Fun K "_law_one_of" "_law_one_of" s_law_one_of f fd) : Binds K fd P_law_one_of [] := F.binds fun _ _ _ _ _ _ us hl => match us, hl with | [_, _], _ => rfl
theorem bnd_law_shuffled {K : PySem.W.Frag} {f : Addr} {fd : FuncData} (F : Fun K "_law_shuffled" "_law_shuffled" s_law_shuffled f fd) : Binds K fd P_law_shuffled [] := F.binds fun _ _ _ _ _ _ us hl => match us, hl with | [_, _], _ => rfl
theorem bnd_law_is_int {K : PySem.W.Frag} {f : Addr} {fd : FuncData} (F : Fun K "_law_is_int" "_law_is_int" s_law_is_int f fd) : Binds K fd P_law_is_int [] := F.binds fun _ _ _ _ _ _ us hl => match us, hl with | [_], _ => rfl
theorem bnd_law_same {K : PySem.W.Frag} {f : Addr} {fd : FuncData} (F : Fun K "_law_same" "_law_same" s_law_same f fd) : Binds K fd P_law_same [] := F.binds fun _ _ _ _ _ _ us hl => match us, hl with | [_, _], _ => rfl
theorem bnd_law_form {K : PySem.W.Frag} {f : Addr} {fd : FuncData} (F : Fun K "_law_form" "_law_form" s_law_form f fd) : Binds K fd P_law_form [] := F.binds fun _ _ _ _ _ _ us hl => match us, hl with | [_, _], _ => rfl
theorem bnd_law_sum {K : PySem.W.Frag} {f : Addr} {fd : FuncData} (F : Fun K "_law_sum" "_law_sum" s_law_sum f fd) : Binds K fd P_law_sum [] := F.binds fun _ _ _ _ _ _ us hl => match us, hl with | [_], _ => rfl
theorem bnd_law_var {K : PySem.W.Frag} {f : Addr} {fd : FuncData} (F : Fun K "_law_var" "_law_var" s_law_var f fd) : Binds K fd P_law_var [] := F.binds fun _ _ _ _ _ _ us hl => match us, hl with | [_], _ => rfl
theorem bnd_law_put {K : PySem.W.Frag} {f : Addr} {fd : FuncData} (F : Fun K "_law_put" "_law_put" s_law_put f fd) : Binds K fd P_law_put [] := F.binds fun _ _ _ _ _ _ us hl => match us, hl with | [_, _], _ => rfl
theorem bnd_law_at {K : PySem.W.Frag} {f : Addr} {fd : FuncData} (F : Fun K "_law_at" "_law_at" s_law_at f fd) : Binds K fd P_law_at [] := F.binds fun _ _ _ _ _ _ us hl => match us, hl with | [_, _, _], _ => rfl
theorem bnd_law_price {K : PySem.W.Frag} {f : Addr} {fd : FuncData} (F : Fun K "_law_price" "_law_price" s_law_price f fd) : Binds K fd P_law_price [] := F.binds fun _ _ _ _ _ _ us hl => match us, hl with | [_], _ => rfl
theorem bnd_law_some_number {K : PySem.W.Frag} {f : Addr} {fd : FuncData} (F : Fun K "_law_some_number" "_law_some_number" s_law_some_number f fd) : Binds K fd P_law_some_number [] := F.binds fun _ _ _ _ _ _ us hl => match us, hl with | [_], _ => rfl
theorem bnd_law_some_pairs {K : PySem.W.Frag} {f : Addr} {fd : FuncData} (F : Fun K "_law_some_pairs" "_law_some_pairs" s_law_some_pairs f fd) : Binds K fd P_law_some_pairs [] := F.binds fun _ _ _ _ _ _ us hl => match us, hl with | [_, _], _ => rfl
theorem bnd_law_some_form {K : PySem.W.Frag} {f : Addr} {fd : FuncData} (F : Fun K "_law_some_form" "_law_some_form" s_law_some_form f fd) : Binds K fd P_law_some_form [] := F.binds fun _ _ _ _ _ _ us hl => match us, hl with | [_, _], _ => rfl
theorem bnd_law {K : PySem.W.Frag} {f : Addr} {fd : FuncData} (F : Fun K "law" "law" s_law f fd) : Binds K fd P_law [] := F.binds fun _ _ _ _ _ _ us hl => match us, hl with | [_], _ => rfl
theorem all_mk {P : Program} {w : World} {K : PySem.W.Frag} {h : Heap} {mg : Str → Option Value} {fa : Addr} (X : K.In h) (G : h.Ns mainGlobals mg) (hfa : mg "law" = some (.ref fa))
    (D_form : DefOk K mg "form" s_form)
    (D_plus : DefOk K mg "plus" s_plus)
    (D_times : DefOk K mg "times" s_times)
    (D_minus : DefOk K mg "minus" s_minus)
    (D_image : DefOk K mg "image" s_image)
    (D_value : DefOk K mg "value" s_value)
    (D_price : DefOk K mg "price" s_price)
    (D_law_start : DefOk K mg "_law_start" s_law_start)
    (D_law_draw : DefOk K mg "_law_draw" s_law_draw)
    (D_law_one_of : DefOk K mg "_law_one_of" s_law_one_of)
    (D_law_shuffled : DefOk K mg "_law_shuffled" s_law_shuffled)
    (D_law_is_int : DefOk K mg "_law_is_int" s_law_is_int)
    (D_law_same : DefOk K mg "_law_same" s_law_same)
    (D_law_form : DefOk K mg "_law_form" s_law_form)
    (D_law_sum : DefOk K mg "_law_sum" s_law_sum)
    (D_law_var : DefOk K mg "_law_var" s_law_var)
    (D_law_put : DefOk K mg "_law_put" s_law_put)
    (D_law_at : DefOk K mg "_law_at" s_law_at)
    (D_law_price : DefOk K mg "_law_price" s_law_price)
    (D_law_some_number : DefOk K mg "_law_some_number" s_law_some_number)
    (D_law_some_pairs : DefOk K mg "_law_some_pairs" s_law_some_pairs)
    (D_law_some_form : DefOk K mg "_law_some_form" s_law_some_form)
    (D_law : DefOk K mg "law" s_law)
    (z_abs : PySem.W.nsIn K mainGlobals "abs" = some none)
    (z_all : PySem.W.nsIn K mainGlobals "all" = some none)
    (z_bool : PySem.W.nsIn K mainGlobals "bool" = some none)
    (z_int : PySem.W.nsIn K mainGlobals "int" = some none)
    (z_isinstance : PySem.W.nsIn K mainGlobals "isinstance" = some none)
    (z_len : PySem.W.nsIn K mainGlobals "len" = some none)
    (z_list : PySem.W.nsIn K mainGlobals "list" = some none)
    (z_max : PySem.W.nsIn K mainGlobals "max" = some none)
    (z_range : PySem.W.nsIn K mainGlobals "range" = some none)
    (z_sorted : PySem.W.nsIn K mainGlobals "sorted" = some none)
    (z_str : PySem.W.nsIn K mainGlobals "str" = some none)
    (z_sum : PySem.W.nsIn K mainGlobals "sum" = some none)
    (z_tuple : PySem.W.nsIn K mainGlobals "tuple" = some none)
    (c_SLOPE_PRICE : ConstOf K mg "SLOPE_PRICE" v_SLOPE_PRICE)
    (c_CONSTANT_PRICE : ConstOf K mg "CONSTANT_PRICE" v_CONSTANT_PRICE)
    (c_PRICE_BASE : ConstOf K mg "PRICE_BASE" v_PRICE_BASE)
    (c_ZERO : ConstOf K mg "ZERO" v_ZERO)
    : ∃ fd : FuncData, (∀ (s : Shared) (u : Value), BindsTo s fd ⟨[u], []⟩ [("script", u)]) ∧ ∀ base : Heap, K.In base → base.Ns mainGlobals mg → FnOk P w K mg base (L2.CX P w) 7 fa fd ["script"] (liftSp K sp_law) := by
  obtain ⟨f_form, fd_form, F_form, g_form⟩ := D_form
  obtain ⟨f_plus, fd_plus, F_plus, g_plus⟩ := D_plus
  obtain ⟨f_times, fd_times, F_times, g_times⟩ := D_times
  obtain ⟨f_minus, fd_minus, F_minus, g_minus⟩ := D_minus
  obtain ⟨f_image, fd_image, F_image, g_image⟩ := D_image
  obtain ⟨f_value, fd_value, F_value, g_value⟩ := D_value
  obtain ⟨f_price, fd_price, F_price, g_price⟩ := D_price
  obtain ⟨f_law_start, fd_law_start, F_law_start, g_law_start⟩ := D_law_start
  obtain ⟨f_law_draw, fd_law_draw, F_law_draw, g_law_draw⟩ := D_law_draw
  obtain ⟨f_law_one_of, fd_law_one_of, F_law_one_of, g_law_one_of⟩ := D_law_one_of
  obtain ⟨f_law_shuffled, fd_law_shuffled, F_law_shuffled, g_law_shuffled⟩ := D_law_shuffled
  obtain ⟨f_law_is_int, fd_law_is_int, F_law_is_int, g_law_is_int⟩ := D_law_is_int
  obtain ⟨f_law_same, fd_law_same, F_law_same, g_law_same⟩ := D_law_same
  obtain ⟨f_law_form, fd_law_form, F_law_form, g_law_form⟩ := D_law_form
  obtain ⟨f_law_sum, fd_law_sum, F_law_sum, g_law_sum⟩ := D_law_sum
  obtain ⟨f_law_var, fd_law_var, F_law_var, g_law_var⟩ := D_law_var
  obtain ⟨f_law_put, fd_law_put, F_law_put, g_law_put⟩ := D_law_put
  obtain ⟨f_law_at, fd_law_at, F_law_at, g_law_at⟩ := D_law_at
  obtain ⟨f_law_price, fd_law_price, F_law_price, g_law_price⟩ := D_law_price
  obtain ⟨f_law_some_number, fd_law_some_number, F_law_some_number, g_law_some_number⟩ := D_law_some_number
  obtain ⟨f_law_some_pairs, fd_law_some_pairs, F_law_some_pairs, g_law_some_pairs⟩ := D_law_some_pairs
  obtain ⟨f_law_some_form, fd_law_some_form, F_law_some_form, g_law_some_form⟩ := D_law_some_form
  obtain ⟨f_law, fd_law, F_law, g_law⟩ := D_law
  obtain ⟨T, h1, h2⟩ : ∃ T : Top K mg, T.f_law = f_law ∧ T.fd_law = fd_law := ⟨{ f_form := f_form, fd_form := fd_form, F_form := F_form, g_form := g_form, b_form := bnd_form F_form, f_plus := f_plus, fd_plus := fd_plus, F_plus := F_plus, g_plus := g_plus, b_plus := bnd_plus F_plus, f_times := f_times, fd_times := fd_times, F_times := F_times, g_times := g_times, b_times := bnd_times F_times, f_minus := f_minus, fd_minus := fd_minus, F_minus := F_minus, g_minus := g_minus, b_minus := bnd_minus F_minus, f_image := f_image, fd_image := fd_image, F_image := F_image, g_image := g_image, b_image := bnd_image F_image, f_value := f_value, fd_value := fd_value, F_value := F_value, g_value := g_value, b_value := bnd_value F_value, f_price := f_price, fd_price := fd_price, F_price := F_price, g_price := g_price, b_price := bnd_price F_price, f_law_start := f_law_start, fd_law_start := fd_law_start, F_law_start := F_law_start, g_law_start := g_law_start, b_law_start := bnd_law_start F_law_start, f_law_draw := f_law_draw, fd_law_draw := fd_law_draw, F_law_draw := F_law_draw, g_law_draw := g_law_draw, b_law_draw := bnd_law_draw F_law_draw, f_law_one_of := f_law_one_of, fd_law_one_of := fd_law_one_of, F_law_one_of := F_law_one_of, g_law_one_of := g_law_one_of, b_law_one_of := bnd_law_one_of F_law_one_of, f_law_shuffled := f_law_shuffled, fd_law_shuffled := fd_law_shuffled, F_law_shuffled := F_law_shuffled, g_law_shuffled := g_law_shuffled, b_law_shuffled := bnd_law_shuffled F_law_shuffled, f_law_is_int := f_law_is_int, fd_law_is_int := fd_law_is_int, F_law_is_int := F_law_is_int, g_law_is_int := g_law_is_int, b_law_is_int := bnd_law_is_int F_law_is_int, f_law_same := f_law_same, fd_law_same := fd_law_same, F_law_same := F_law_same, g_law_same := g_law_same, b_law_same := bnd_law_same F_law_same, f_law_form := f_law_form, fd_law_form := fd_law_form, F_law_form := F_law_form, g_law_form := g_law_form, b_law_form := bnd_law_form F_law_form, f_law_sum := f_law_sum, fd_law_sum := fd_law_sum, F_law_sum := F_law_sum, g_law_sum := g_law_sum, b_law_sum := bnd_law_sum F_law_sum, f_law_var := f_law_var, fd_law_var := fd_law_var, F_law_var := F_law_var, g_law_var := g_law_var, b_law_var := bnd_law_var F_law_var, f_law_put := f_law_put, fd_law_put := fd_law_put, F_law_put := F_law_put, g_law_put := g_law_put, b_law_put := bnd_law_put F_law_put, f_law_at := f_law_at, fd_law_at := fd_law_at, F_law_at := F_law_at, g_law_at := g_law_at, b_law_at := bnd_law_at F_law_at, f_law_price := f_law_price, fd_law_price := fd_law_price, F_law_price := F_law_price, g_law_price := g_law_price, b_law_price := bnd_law_price F_law_price, f_law_some_number := f_law_some_number, fd_law_some_number := fd_law_some_number, F_law_some_number := F_law_some_number, g_law_some_number := g_law_some_number, b_law_some_number := bnd_law_some_number F_law_some_number, f_law_some_pairs := f_law_some_pairs, fd_law_some_pairs := fd_law_some_pairs, F_law_some_pairs := F_law_some_pairs, g_law_some_pairs := g_law_some_pairs, b_law_some_pairs := bnd_law_some_pairs F_law_some_pairs, f_law_some_form := f_law_some_form, fd_law_some_form := fd_law_some_form, F_law_some_form := F_law_some_form, g_law_some_form := g_law_some_form, b_law_some_form := bnd_law_some_form F_law_some_form, f_law := f_law, fd_law := fd_law, F_law := F_law, g_law := g_law, b_law := bnd_law F_law, n_abs := PySem.W.mg_none_of X G z_abs, n_all := PySem.W.mg_none_of X G z_all, n_bool := PySem.W.mg_none_of X G z_bool, n_int := PySem.W.mg_none_of X G z_int, n_isinstance := PySem.W.mg_none_of X G z_isinstance, n_len := PySem.W.mg_none_of X G z_len, n_list := PySem.W.mg_none_of X G z_list, n_max := PySem.W.mg_none_of X G z_max, n_range := PySem.W.mg_none_of X G z_range, n_sorted := PySem.W.mg_none_of X G z_sorted, n_str := PySem.W.mg_none_of X G z_str, n_sum := PySem.W.mg_none_of X G z_sum, n_tuple := PySem.W.mg_none_of X G z_tuple, c_SLOPE_PRICE := c_SLOPE_PRICE, c_CONSTANT_PRICE := c_CONSTANT_PRICE, c_PRICE_BASE := c_PRICE_BASE, c_ZERO := c_ZERO }, rfl, rfl⟩
  have e : fa = f_law := by
    have e := hfa.symm.trans g_law
    cases e
    rfl
  rw [e]
  refine ⟨fd_law, binds_one F_law fun _ _ _ _ _ _ _ => rfl, fun base _ _ => ?_⟩
  rw [← h1, ← h2]
  exact ok_law T
end K65
open PySem PySem.W PyProof.Rows
set_option maxHeartbeats 0 in
theorem PySem.Challenge.cw_meanwithin_k65_forms_reckoned_holds : PySem.Challenge.rw_meanwithin_k65_forms_reckoned.Holds := by
  w_on; o_law; k_head; (case hw => w_witness2)
  k_fill
  refine L2.walk_of (l := PySem.Challenge.rw_meanwithin_k65_forms_reckoned) (n := 63) (k := 7) (x := "script") (CX := fun w => L2.CX (PySem.Challenge.rw_meanwithin_k65_forms_reckoned).prog w) (sp := fun w => DW.liftSp _ K65.sp_law) rfl (by decide) rfl ⟨rfl, by decide, by decide⟩ (fun w h Y => PySem.W.kIn_of Y) ?F (fun w H a ns hl _ hS => DW.head_sp hS (K65.head_law ns hl)) (fun w H s e s' h => DW.cx_no h)
  case F =>
    intro w mg fa h KX G hmg
    have D_form : DW.DefOk _ mg "form" K65.s_form := DW.def_mk KX G (by k_is) (by k_is) (by k_is) (by k_is)
    have D_plus : DW.DefOk _ mg "plus" K65.s_plus := DW.def_mk KX G (by k_is) (by k_is) (by k_is) (by k_is)
    have D_times : DW.DefOk _ mg "times" K65.s_times := DW.def_mk KX G (by k_is) (by k_is) (by k_is) (by k_is)
    have D_minus : DW.DefOk _ mg "minus" K65.s_minus := DW.def_mk KX G (by k_is) (by k_is) (by k_is) (by k_is)
    have D_image : DW.DefOk _ mg "image" K65.s_image := DW.def_mk KX G (by k_is) (by k_is) (by k_is) (by k_is)
    have D_value : DW.DefOk _ mg "value" K65.s_value := DW.def_mk KX G (by k_is) (by k_is) (by k_is) (by k_is)
    have D_price : DW.DefOk _ mg "price" K65.s_price := DW.def_mk KX G (by k_is) (by k_is) (by k_is) (by k_is)
    have D_law_start : DW.DefOk _ mg "_law_start" K65.s_law_start := DW.def_mk KX G (by k_is) (by k_is) (by k_is) (by k_is)
    have D_law_draw : DW.DefOk _ mg "_law_draw" K65.s_law_draw := DW.def_mk KX G (by k_is) (by k_is) (by k_is) (by k_is)
    have D_law_one_of : DW.DefOk _ mg "_law_one_of" K65.s_law_one_of := DW.def_mk KX G (by k_is) (by k_is) (by k_is) (by k_is)
    have D_law_shuffled : DW.DefOk _ mg "_law_shuffled" K65.s_law_shuffled := DW.def_mk KX G (by k_is) (by k_is) (by k_is) (by k_is)
    have D_law_is_int : DW.DefOk _ mg "_law_is_int" K65.s_law_is_int := DW.def_mk KX G (by k_is) (by k_is) (by k_is) (by k_is)
    have D_law_same : DW.DefOk _ mg "_law_same" K65.s_law_same := DW.def_mk KX G (by k_is) (by k_is) (by k_is) (by k_is)
    have D_law_form : DW.DefOk _ mg "_law_form" K65.s_law_form := DW.def_mk KX G (by k_is) (by k_is) (by k_is) (by k_is)
    have D_law_sum : DW.DefOk _ mg "_law_sum" K65.s_law_sum := DW.def_mk KX G (by k_is) (by k_is) (by k_is) (by k_is)
    have D_law_var : DW.DefOk _ mg "_law_var" K65.s_law_var := DW.def_mk KX G (by k_is) (by k_is) (by k_is) (by k_is)
    have D_law_put : DW.DefOk _ mg "_law_put" K65.s_law_put := DW.def_mk KX G (by k_is) (by k_is) (by k_is) (by k_is)
    have D_law_at : DW.DefOk _ mg "_law_at" K65.s_law_at := DW.def_mk KX G (by k_is) (by k_is) (by k_is) (by k_is)
    have D_law_price : DW.DefOk _ mg "_law_price" K65.s_law_price := DW.def_mk KX G (by k_is) (by k_is) (by k_is) (by k_is)
    have D_law_some_number : DW.DefOk _ mg "_law_some_number" K65.s_law_some_number := DW.def_mk KX G (by k_is) (by k_is) (by k_is) (by k_is)
    have D_law_some_pairs : DW.DefOk _ mg "_law_some_pairs" K65.s_law_some_pairs := DW.def_mk KX G (by k_is) (by k_is) (by k_is) (by k_is)
    have D_law_some_form : DW.DefOk _ mg "_law_some_form" K65.s_law_some_form := DW.def_mk KX G (by k_is) (by k_is) (by k_is) (by k_is)
    have D_law : DW.DefOk _ mg "law" K65.s_law := DW.def_mk KX G (by k_is) (by k_is) (by k_is) (by k_is)
    have c_SLOPE_PRICE : DW.ConstOf _ mg "SLOPE_PRICE" K65.v_SLOPE_PRICE := DW.const_int KX G (by k_is)
    have c_CONSTANT_PRICE : DW.ConstOf _ mg "CONSTANT_PRICE" K65.v_CONSTANT_PRICE := DW.const_int KX G (by k_is)
    have c_PRICE_BASE : DW.ConstOf _ mg "PRICE_BASE" K65.v_PRICE_BASE := DW.const_int KX G (by k_is)
    have c_ZERO : DW.ConstOf _ mg "ZERO" K65.v_ZERO := DW.const_ref KX G (by k_is) (DW.rep_ktup (vs := [.int 0, .ref _]) (by k_is) (by decide) (by exact .cons ⟨_, rfl⟩ (.cons rfl .nil)) (by exact fun Fr f => ⟨_, _, rfl, rfl, _, _, rfl, DW.rep_ktup (ds := []) (vs := []) (by k_is) (by decide) .nil (fun _ _ => rfl) Fr f, rfl⟩))
    refine K65.all_mk KX G hmg D_form D_plus D_times D_minus D_image D_value D_price D_law_start D_law_draw D_law_one_of D_law_shuffled D_law_is_int D_law_same D_law_form D_law_sum D_law_var D_law_put D_law_at D_law_price D_law_some_number D_law_some_pairs D_law_some_form D_law ?z_abs ?z_all ?z_bool ?z_int ?z_isinstance ?z_len ?z_list ?z_max ?z_range ?z_sorted ?z_str ?z_sum ?z_tuple c_SLOPE_PRICE c_CONSTANT_PRICE c_PRICE_BASE c_ZERO
    case z_abs => k_is
    case z_all => k_is
    case z_bool => k_is
    case z_int => k_is
    case z_isinstance => k_is
    case z_len => k_is
    case z_list => k_is
    case z_max => k_is
    case z_range => k_is
    case z_sorted => k_is
    case z_str => k_is
    case z_sum => k_is
    case z_tuple => k_is

