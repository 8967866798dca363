import PyProof.Rows.All
import HandS.ForMost
import HandS.Exc
import HandS.ExcOwn
import HandS.TryOnly
import HandS.WordsExc
import HandS.Flow
import HandS.Wide
import HandS.More
import HandS.IsInst
import HandS.TupAny
import HandS.Style
import HandS.StrMore
import HandS.CallLocal
import HandS.SortInts
import HandS.DictComp
import HandS.ExcIs
import PyProof.StrOps2
import HandS.WideBits
import HandS.Codes
import HandS.SetFor
import PySem.Challenge.RW_meanwithin_k66_written_forms
set_option Elab.async false
set_option linter.all false
set_option maxRecDepth 100000
/-! DW1: data without addresses: values D, a store of cells, and how they stand in the abstract heap. -/
namespace DW
open PySem PySem.Spec PyProof.Rows L2

/-- values: plain data, frozen containers, new containers that nobody holds (tl, td), references to cells of the store -/
inductive D where
  | non | bl (b : Bool) | int (i : Int) | str (x : Str) | tup (ds : List D) | ref (n : Nat)
  | fl (ds : List D) | sl (ds : List D) | tl (ds : List D)
  | fd (ks : List Key) (ds : List D) | td (ks : List Key) (ds : List D)
  | con (a : Addr) | ty (n : String)
  deriving Inhabited
/-- what a cell holds -/
inductive MO where
  | lst (ds : List D) | dic (kvs : List (Key × D)) | obj (C : Addr) (fs : List (Str × D))
  deriving Inhabited

section
variable (K : PySem.W.Frag) (Fr : Hp) (f : List Addr)
mutual
/-- the value v stands for d: Fr is what never changes, f where the cells stand -/
def Rep : D → V → Prop
  | .non, v => v = .non
  | .bl b, v => v = .bl b
  | .int i, v => v = .int i
  | .str x, v => v = .str x
  | .tup ds, v => ∃ a vs, v = .ref a ∧ SqT K Fr a vs ∧ Reps ds vs
  | .ref n, v => ∃ a, f[n]? = some a ∧ v = .ref a
  | .fl ds, v => ∃ a vs, v = .ref a ∧ Fr a = some (.lst vs) ∧ Reps ds vs
  | .sl ds, v => ∃ a vs, v = .ref a ∧ SqL K Fr a vs ∧ Reps ds vs
  | .fd ks ds, v => ∃ a kvs, v = .ref a ∧ Fr a = some (.dK kvs) ∧ kvs.map (·.1) = ks ∧ Reps ds (kvs.map (·.2))
  | .con a, v => v = .ref a
  | .ty n, v => v = .ty n
  | .tl _, _ => False
  | .td _ _, _ => False
def Reps : List D → List V → Prop
  | [], vs => vs = []
  | d :: ds, vs => ∃ v r, vs = v :: r ∧ Rep d v ∧ Reps ds r
end
end

theorem Same.seqT {K : PySem.W.Frag} {H H' : Hp} {a : Addr} {xs : List V} (e : Same H H') (h : SqT K H a xs) : SqT K H' a xs := by
  rcases h with (h | ⟨o, h⟩) | h
  · exact .inl (.inl (e _ _ h))
  · exact .inl (.inr ⟨o, e _ _ h⟩)
  · exact .inr h

theorem pre_get {α : Type} {f f' : List α} (h : f <+: f') {n : Nat} {a : α} (e : f[n]? = some a) : f'[n]? = some a := by
  obtain ⟨t, rfl⟩ := h
  rw [List.getElem?_append_left]
  · exact e
  · exact (List.getElem?_eq_some_iff.mp e).1

section
variable {K : PySem.W.Frag} {Fr Fr' : Hp} {f f' : List Addr}
mutual
theorem Rep.mono (hF : Same Fr Fr') (hf : f <+: f') : ∀ (d : D) (v : V), Rep K Fr f d v → Rep K Fr' f' d v
  | .non, _, h => h
  | .bl _, _, h => h
  | .int _, _, h => h
  | .str _, _, h => h
  | .tup ds, _, h => by
    obtain ⟨a, vs, e, s, r⟩ := h
    exact ⟨a, vs, e, Same.seqT hF s, Reps.mono hF hf ds vs r⟩
  | .ref _, _, h => by
    obtain ⟨a, e, q⟩ := h
    exact ⟨a, pre_get hf e, q⟩
  | .fl ds, _, h => by
    obtain ⟨a, vs, e, s, r⟩ := h
    exact ⟨a, vs, e, hF _ _ s, Reps.mono hF hf ds vs r⟩
  | .sl ds, _, h => by
    obtain ⟨a, vs, e, s, r⟩ := h
    exact ⟨a, vs, e, hF.seq s, Reps.mono hF hf ds vs r⟩
  | .fd ks ds, _, h => by
    obtain ⟨a, kvs, e, s, k, r⟩ := h
    exact ⟨a, kvs, e, hF _ _ s, k, Reps.mono hF hf ds _ r⟩
  | .con _, _, h => h
  | .ty _, _, h => h
  | .tl _, _, h => h
  | .td _ _, _, h => h
theorem Reps.mono (hF : Same Fr Fr') (hf : f <+: f') : ∀ (ds : List D) (vs : List V), Reps K Fr f ds vs → Reps K Fr' f' ds vs
  | [], _, h => h
  | d :: ds, _, h => by
    obtain ⟨v, r, e, h1, h2⟩ := h
    exact ⟨v, r, e, Rep.mono hF hf d v h1, Reps.mono hF hf ds r h2⟩
end

theorem Reps.length : ∀ {ds : List D} {vs : List V}, Reps K Fr f ds vs → ds.length = vs.length
  | [], vs, h => by cases (show vs = [] from h); rfl
  | d :: ds, vs, h => by
    obtain ⟨v, r, rfl, _, h2⟩ := h
    simp [Reps.length h2]
theorem Reps.get : ∀ {ds : List D} {vs : List V} {i : Nat} {d : D}, Reps K Fr f ds vs → ds[i]? = some d → ∃ v, vs[i]? = some v ∧ Rep K Fr f d v
  | [], vs, i, d, _, e => by simp at e
  | x :: ds, vs, 0, d, h, e => by
    obtain ⟨v, r, rfl, h1, _⟩ := h
    simp at e; subst e
    exact ⟨v, rfl, h1⟩
  | x :: ds, vs, i + 1, d, h, e => by
    obtain ⟨v, r, rfl, _, h2⟩ := h
    obtain ⟨w, e1, r1⟩ := Reps.get (i := i) h2 (by simpa using e)
    exact ⟨w, by simpa using e1, r1⟩
theorem Reps.get' {ds : List D} {vs : List V} {i : Nat} {v : V} (h : Reps K Fr f ds vs) (e : vs[i]? = some v) : ∃ d, ds[i]? = some d ∧ Rep K Fr f d v := by
  have hl := h.length
  have hi : i < vs.length := (List.getElem?_eq_some_iff.mp e).1
  obtain ⟨w, e1, r⟩ := Reps.get (i := i) (d := ds[i]'(by omega)) h (List.getElem?_eq_getElem _)
  rw [e] at e1; cases e1
  exact ⟨_, List.getElem?_eq_getElem (by omega), r⟩
theorem Reps.append : ∀ {ds es : List D} {vs ws : List V}, Reps K Fr f ds vs → Reps K Fr f es ws → Reps K Fr f (ds ++ es) (vs ++ ws)
  | [], es, vs, ws, h, h' => by cases (show vs = [] from h); exact h'
  | d :: ds, es, vs, ws, h, h' => by
    obtain ⟨v, r, rfl, h1, h2⟩ := h
    exact ⟨v, r ++ ws, rfl, h1, Reps.append h2 h'⟩
theorem Reps.take : ∀ {ds : List D} {vs : List V} (n : Nat), Reps K Fr f ds vs → Reps K Fr f (ds.take n) (vs.take n)
  | _, _, 0, _ => rfl
  | [], vs, n + 1, h => by cases (show vs = [] from h); rfl
  | d :: ds, vs, n + 1, h => by
    obtain ⟨v, r, rfl, h1, h2⟩ := h
    exact ⟨v, _, rfl, h1, Reps.take n h2⟩
theorem Reps.drop : ∀ {ds : List D} {vs : List V} (n : Nat), Reps K Fr f ds vs → Reps K Fr f (ds.drop n) (vs.drop n)
  | _, _, 0, h => h
  | [], vs, n + 1, h => by cases (show vs = [] from h); rfl
  | d :: ds, vs, n + 1, h => by
    obtain ⟨v, r, rfl, h1, h2⟩ := h
    exact Reps.drop n h2
theorem Reps.set : ∀ {ds : List D} {vs : List V} {d : D} {v : V} (i : Nat), Rep K Fr f d v → Reps K Fr f ds vs → Reps K Fr f (ds.set i d) (vs.set i v)
  | [], vs, d, v, i, _, h => by cases (show vs = [] from h); rfl
  | x :: ds, vs, d, v, 0, r, h => by
    obtain ⟨w, t, rfl, h1, h2⟩ := h
    exact ⟨v, t, rfl, r, h2⟩
  | x :: ds, vs, d, v, i + 1, r, h => by
    obtain ⟨w, t, rfl, h1, h2⟩ := h
    exact ⟨w, _, rfl, h1, Reps.set i r h2⟩
theorem Reps.reverse : ∀ {ds : List D} {vs : List V}, Reps K Fr f ds vs → Reps K Fr f ds.reverse vs.reverse
  | [], vs, h => by cases (show vs = [] from h); rfl
  | d :: ds, vs, h => by
    obtain ⟨v, r, rfl, h1, h2⟩ := h
    rw [List.reverse_cons, List.reverse_cons]
    exact Reps.append (Reps.reverse h2) ⟨v, [], rfl, h1, rfl⟩
theorem Reps.one {d : D} {vs : List V} (h : Reps K Fr f [d] vs) : ∃ v, vs = [v] ∧ Rep K Fr f d v := by
  obtain ⟨v, r, rfl, h1, h2⟩ := h
  cases (show r = [] from h2)
  exact ⟨v, rfl, h1⟩
theorem Reps.two {d e : D} {vs : List V} (h : Reps K Fr f [d, e] vs) : ∃ v w, vs = [v, w] ∧ Rep K Fr f d v ∧ Rep K Fr f e w := by
  obtain ⟨v, r, rfl, h1, h2⟩ := h
  obtain ⟨w, rfl, h3⟩ := Reps.one h2
  exact ⟨v, w, rfl, h1, h3⟩
theorem Reps.of1 {d : D} {v : V} (h : Rep K Fr f d v) : Reps K Fr f [d] [v] := ⟨v, [], rfl, h, rfl⟩
end

/-- a cell's content at the address a -/
def RepO (K : PySem.W.Frag) (Fr : Hp) (f : List Addr) (a : Addr) : MO → HO → Prop
  | .lst ds, o => ∃ vs, o = .lst vs ∧ Reps K Fr f ds vs
  | .dic kvs, o => ∃ ks, o = .dK ks ∧ ks.map (·.1) = kvs.map (·.1) ∧ Reps K Fr f (kvs.map (·.2)) (ks.map (·.2))
  | .obj C fs, o => ∃ dx gs, o = .ins C dx gs ∧ Fr dx = some (.own a) ∧ gs.map (·.1) = fs.map (·.1) ∧ Reps K Fr f (fs.map (·.2)) (gs.map (·.2))
theorem RepO.mono {K : PySem.W.Frag} {Fr Fr' : Hp} {f f' : List Addr} (hF : Same Fr Fr') (hf : f <+: f') {a : Addr} {m : MO} {o : HO} (h : RepO K Fr f a m o) : RepO K Fr' f' a m o := by
  cases m with
  | lst ds => obtain ⟨vs, e, r⟩ := h; exact ⟨vs, e, Reps.mono hF hf _ _ r⟩
  | dic kvs => obtain ⟨ks, e, k, r⟩ := h; exact ⟨ks, e, k, Reps.mono hF hf _ _ r⟩
  | obj C fs => obtain ⟨dx, gs, e, p, k, r⟩ := h; exact ⟨dx, gs, e, hF _ _ p, k, Reps.mono hF hf _ _ r⟩
theorem RepO.mut {K : PySem.W.Frag} {Fr : Hp} {f : List Addr} {a : Addr} {m : MO} {o : HO} (h : RepO K Fr f a m o) : Mut (some o) := by
  cases m with
  | lst ds => obtain ⟨vs, rfl, r⟩ := h; trivial
  | dic kvs => obtain ⟨ks, rfl, k, r⟩ := h; trivial
  | obj C fs => obtain ⟨dx, gs, rfl, p, k, r⟩ := h; trivial

abbrev Sto := List MO
abbrev Slots := List (Option D)

/-- the store alone; Pr: what else must stay as it is, and no value stands there -/
structure SimC (K : PySem.W.Frag) (Pr Fr : Hp) (f : List Addr) (st : Sto) (H : Hp) : Prop where
  fr : Same Fr H
  pr : Same Pr H
  pF : ∀ a o, Pr a = some o → Fr a = none
  pf : ∀ a o, Pr a = some o → a ∉ f
  nd : f.Nodup
  len : f.length = st.length
  nf : ∀ a ∈ f, Fr a = none
  cell : ∀ (n : Nat) (m : MO) (a : Addr), st[n]? = some m → f[n]? = some a → ∃ o, H a = some o ∧ RepO K Fr f a m o
/-- the slots -/
def RepS (K : PySem.W.Frag) (Fr : Hp) (f : List Addr) : Slots → L2.St → Prop
  | [], σ => σ = []
  | d :: ds, σ => ∃ v r, σ = v :: r ∧ (∀ x, d = some x → ∃ y, v = some y ∧ Rep K Fr f x y) ∧ RepS K Fr f ds r
structure Sim (K : PySem.W.Frag) (Pr Fr : Hp) (f : List Addr) (env : Slots) (st : Sto) (σ : L2.St) (H : Hp) : Prop extends SimC K Pr Fr f st H where
  env : RepS K Fr f env σ

section
variable {K : PySem.W.Frag} {Pr Fr Fr' : Hp} {f f' : List Addr} {st : Sto} {H H' : Hp} {σ : L2.St}
theorem RepS.mono (hF : Same Fr Fr') (hf : f <+: f') : ∀ {env : Slots} {σ : L2.St}, RepS K Fr f env σ → RepS K Fr' f' env σ
  | [], _, h => h
  | d :: ds, _, h => by
    obtain ⟨v, r, e, h1, h2⟩ := h
    exact ⟨v, r, e, fun x ex => let ⟨y, e1, r1⟩ := h1 x ex; ⟨y, e1, Rep.mono hF hf _ _ r1⟩, RepS.mono hF hf h2⟩
theorem RepS.get : ∀ {env : Slots} {σ : L2.St} {i : Nat} {x : D}, RepS K Fr f env σ → env[i]? = some (some x) → ∃ y, σ[i]? = some (some y) ∧ Rep K Fr f x y
  | [], σ, i, x, _, e => by simp at e
  | d :: ds, σ, 0, x, h, e => by
    obtain ⟨v, r, rfl, h1, _⟩ := h
    simp at e
    obtain ⟨y, e1, r1⟩ := h1 x e
    exact ⟨y, by simp [e1], r1⟩
  | d :: ds, σ, i + 1, x, h, e => by
    obtain ⟨v, r, rfl, _, h2⟩ := h
    obtain ⟨y, e1, r1⟩ := RepS.get (i := i) h2 (by simpa using e)
    exact ⟨y, by simpa using e1, r1⟩
theorem RepS.set : ∀ {env : Slots} {σ : L2.St} {x : D} {y : V} (i : Nat), Rep K Fr f x y → RepS K Fr f env σ → RepS K Fr f (env.set i (some x)) (σ.set i (some y))
  | [], σ, x, y, i, _, h => by cases (show σ = [] from h); rfl
  | d :: ds, σ, x, y, 0, r, h => by
    obtain ⟨v, t, rfl, h1, h2⟩ := h
    exact ⟨some y, t, rfl, fun z e => by cases e; exact ⟨y, rfl, r⟩, h2⟩
  | d :: ds, σ, x, y, i + 1, r, h => by
    obtain ⟨v, t, rfl, h1, h2⟩ := h
    exact ⟨v, _, rfl, h1, RepS.set i r h2⟩
theorem RepS.unset : ∀ {env : Slots} {σ : L2.St} (i : Nat), RepS K Fr f env σ → RepS K Fr f (env.set i none) (σ.set i none)
  | [], σ, i, h => by cases (show σ = [] from h); rfl
  | d :: ds, σ, 0, h => by
    obtain ⟨v, t, rfl, h1, h2⟩ := h
    exact ⟨none, t, rfl, (fun z e => by cases e), h2⟩
  | d :: ds, σ, i + 1, h => by
    obtain ⟨v, t, rfl, h1, h2⟩ := h
    exact ⟨v, _, rfl, h1, RepS.unset i h2⟩
theorem RepS.length : ∀ {env : Slots} {σ : L2.St}, RepS K Fr f env σ → env.length = σ.length
  | [], σ, h => by cases (show σ = [] from h); rfl
  | d :: ds, σ, h => by
    obtain ⟨v, t, rfl, h1, h2⟩ := h
    simp [RepS.length h2]

/-- a cell -/
theorem SimC.at (S : SimC K Pr Fr f st H) {n : Nat} {m : MO} (e : st[n]? = some m) : ∃ a o, f[n]? = some a ∧ H a = some o ∧ RepO K Fr f a m o := by
  have hn : n < st.length := (List.getElem?_eq_some_iff.mp e).1
  have hf : n < f.length := by rw [S.len]; exact hn
  have ef : f[n]? = some f[n] := List.getElem?_eq_getElem hf
  obtain ⟨o, h1, h2⟩ := S.cell n m _ e ef
  exact ⟨_, o, ef, h1, h2⟩
theorem SimC.lst (S : SimC K Pr Fr f st H) {n : Nat} {ds : List D} (e : st[n]? = some (.lst ds)) : ∃ a vs, f[n]? = some a ∧ H a = some (.lst vs) ∧ Reps K Fr f ds vs := by
  obtain ⟨a, o, h1, h2, vs, rfl, r⟩ := S.at e
  exact ⟨a, vs, h1, h2, r⟩
theorem SimC.dic (S : SimC K Pr Fr f st H) {n : Nat} {kvs : List (Key × D)} (e : st[n]? = some (.dic kvs)) : ∃ a ks, f[n]? = some a ∧ H a = some (.dK ks) ∧ ks.map (·.1) = kvs.map (·.1) ∧ Reps K Fr f (kvs.map (·.2)) (ks.map (·.2)) := by
  obtain ⟨a, o, h1, h2, vs, rfl, r⟩ := S.at e
  exact ⟨a, vs, h1, h2, r⟩
theorem get_inj {f : List Addr} (nd : f.Nodup) {i j : Nat} {a : Addr} (h1 : f[i]? = some a) (h2 : f[j]? = some a) : i = j := by
  obtain ⟨l1, e1⟩ := List.getElem?_eq_some_iff.mp h1
  obtain ⟨l2, e2⟩ := List.getElem?_eq_some_iff.mp h2
  exact (List.getElem_inj nd).mp (e1.trans e2.symm)
/-- a cell is written -/
theorem SimC.write (S : SimC K Pr Fr f st H) {n : Nat} {a : Addr} {m : MO} {o : HO} (ef : f[n]? = some a) (r : RepO K Fr f a m o) : SimC K Pr Fr f (st.set n m) (upd H a o) where
  fr := fun b u e => by
    rw [upd_ne]
    · exact S.fr b u e
    · intro z; subst z
      rw [S.nf _ (List.mem_of_getElem? ef)] at e; cases e
  pr := fun b u e => by
    rw [upd_ne]
    · exact S.pr b u e
    · intro z; subst z
      exact S.pf _ _ e (List.mem_of_getElem? ef)
  pF := S.pF
  pf := S.pf
  nd := S.nd
  len := by rw [S.len, List.length_set]
  nf := S.nf
  cell := fun k m' b e1 e2 => by
    by_cases hk : k = n
    · subst hk
      rw [ef] at e2; cases e2
      have hn : k < st.length := by rw [← S.len]; exact (List.getElem?_eq_some_iff.mp ef).1
      rw [List.getElem?_set_self hn] at e1
      cases e1
      exact ⟨o, upd_same, r⟩
    · rw [List.getElem?_set_ne (Ne.symm hk)] at e1
      obtain ⟨o', h1, h2⟩ := S.cell k m' b e1 e2
      refine ⟨o', ?_, h2⟩
      rw [upd_ne]
      · exact h1
      · intro z; subst z
        exact hk (get_inj S.nd e2 ef)
/-- something new is laid and never changes -/
theorem SimC.lay (S : SimC K Pr Fr f st H) {p : Addr} {o : HO} (hp : H p = none) : SimC K Pr (upd Fr p o) f st (upd H p o) ∧ Same Fr (upd Fr p o) := by
  have hFp : Fr p = none := S.fr.free hp
  have sm : Same Fr (upd Fr p o) := fun b u e => by rw [upd_ne (ne_of_none e hFp)]; exact e
  refine ⟨⟨fun b u e => ?_, fun b u e => ?_, fun b u e => ?_, S.pf, S.nd, S.len, fun a ha => ?_, fun n m a e1 e2 => ?_⟩, sm⟩
  · by_cases hb : b = p
    · subst hb; rw [upd_same] at e ⊢; exact e
    · rw [upd_ne hb] at e ⊢; exact S.fr b u e
  · rw [upd_ne (ne_of_none (S.pr b u e) hp)]; exact S.pr b u e
  · rw [upd_ne (ne_of_none (S.pr b u e) hp)]; exact S.pF b u e
  · rw [upd_ne]
    · exact S.nf a ha
    · intro z; subst z
      obtain ⟨n, hn, e⟩ := List.getElem_of_mem ha
      obtain ⟨b, o', h1, h2, _⟩ := S.at (n := n) (List.getElem?_eq_getElem (by rw [← S.len]; exact hn))
      rw [List.getElem?_eq_getElem hn, e] at h1
      cases h1
      rw [hp] at h2; cases h2
  · obtain ⟨o', h1, h2⟩ := S.cell n m a e1 e2
    exact ⟨o', by rw [upd_ne (ne_of_none h1 hp)]; exact h1, h2.mono sm (List.prefix_refl _)⟩
/-- what stands and nobody holds is frozen -/
theorem SimC.freeze (S : SimC K Pr Fr f st H) {p : Addr} {o : HO} (hp : H p = some o) (hF : Fr p = none) (hP : Pr p = none) (hn : p ∉ f) : SimC K Pr (upd Fr p o) f st H ∧ Same Fr (upd Fr p o) := by
  have sm : Same Fr (upd Fr p o) := fun b u e => by rw [upd_ne (ne_of_none e hF)]; exact e
  refine ⟨⟨fun b u e => ?_, S.pr, fun b u e => ?_, S.pf, S.nd, S.len, fun a ha => ?_, fun n m a e1 e2 => ?_⟩, sm⟩
  · by_cases hb : b = p
    · subst hb; rw [upd_same] at e; cases e; exact hp
    · rw [upd_ne hb] at e; exact S.fr b u e
  · rw [upd_ne (ne_of_none e hP)]; exact S.pF b u e
  · rw [upd_ne]
    · exact S.nf a ha
    · intro z; subst z; exact hn ha
  · obtain ⟨o', h1, h2⟩ := S.cell n m a e1 e2
    exact ⟨o', h1, h2.mono sm (List.prefix_refl _)⟩
/-- .. becomes a cell -/
theorem SimC.box (S : SimC K Pr Fr f st H) {p : Addr} {o : HO} {m : MO} (hp : H p = some o) (hF : Fr p = none) (hP : Pr p = none) (hn : p ∉ f) (r : RepO K Fr f p m o) : SimC K Pr Fr (f ++ [p]) (st ++ [m]) H where
  fr := S.fr
  pr := S.pr
  pF := S.pF
  pf := fun a u e ha => by
    rcases List.mem_append.mp ha with h | h
    · exact S.pf a u e h
    · have : a = p := by simpa using h
      subst this; rw [hP] at e; cases e
  nd := by
    rw [List.nodup_append]
    exact ⟨S.nd, by simp, fun a ha b hb => by
      have : b = p := by simpa using hb
      subst this
      intro z; subst z; exact hn ha⟩
  len := by simp [S.len]
  nf := fun a ha => by
    rcases List.mem_append.mp ha with h | h
    · exact S.nf a h
    · have : a = p := by simpa using h
      subst this; exact hF
  cell := fun n m' a e1 e2 => by
    by_cases hn : n < st.length
    · rw [List.getElem?_append_left hn] at e1
      rw [List.getElem?_append_left (by rw [S.len]; exact hn)] at e2
      obtain ⟨o', h1, h2⟩ := S.cell n m' a e1 e2
      exact ⟨o', h1, h2.mono (Same.refl _) (List.prefix_append _ _)⟩
    · have hn' : n = st.length := by
        have := (List.getElem?_eq_some_iff.mp e1).1
        simp at this
        omega
      subst hn'
      rw [List.getElem?_append_right (Nat.le_refl _)] at e1
      rw [← S.len, List.getElem?_append_right (Nat.le_refl _)] at e2
      simp at e1 e2
      subst e1 e2
      exact ⟨o, hp, r.mono (Same.refl _) (List.prefix_append _ _)⟩
/-- another object, neither frozen nor a cell, is laid or changed -/
theorem SimC.other (S : SimC K Pr Fr f st H) {p : Addr} {o : HO} (hF : Fr p = none) (hP : Pr p = none) (hn : p ∉ f) : SimC K Pr Fr f st (upd H p o) where
  fr := fun b u e => by rw [upd_ne (ne_of_none e hF)]; exact S.fr b u e
  pr := fun b u e => by rw [upd_ne (ne_of_none e hP)]; exact S.pr b u e
  pF := S.pF
  pf := S.pf
  nd := S.nd
  len := S.len
  nf := S.nf
  cell := fun n m a e1 e2 => by
    obtain ⟨o', h1, h2⟩ := S.cell n m a e1 e2
    refine ⟨o', ?_, h2⟩
    rw [upd_ne]
    · exact h1
    · intro z; subst z; exact hn (List.mem_of_getElem? e2)
theorem SimC.notCell (S : SimC K Pr Fr f st H) {p : Addr} (hp : H p = none) : p ∉ f := fun ha => by
  obtain ⟨n, hn, e⟩ := List.getElem_of_mem ha
  obtain ⟨b, o', h1, h2, _⟩ := S.at (n := n) (List.getElem?_eq_getElem (by rw [← S.len]; exact hn))
  rw [List.getElem?_eq_getElem hn, e] at h1
  cases h1
  rw [hp] at h2; cases h2
end
end DW

/-! DW2: what an expression does to data, and how it is lifted to the layer's readings. -/
namespace DW
open PySem PySem.Spec PyProof.Rows L2

abbrev EdT := Addr → Slots → Sto → Prop
abbrev DE := EdT → Slots → Sto → (D → Sto → Prop) → Prop
abbrev DT := EdT → Slots → Sto → (Bool → Sto → Prop) → Prop
abbrev DA := EdT → Slots → Sto → (List D → Sto → Prop) → Prop
abbrev DO := EdT → Slots → Sto → (Option Int → Sto → Prop) → Prop
abbrev noEd : EdT := fun _ _ _ => False
abbrev noW : WX := fun _ _ _ _ => False

def RepX (K : PySem.W.Frag) (Pr Fr : Hp) (f : List Addr) (H : Hp) : D → V → Prop
  | .tl ds, v => ∃ a vs, v = .ref a ∧ H a = some (.lst vs) ∧ Fr a = none ∧ Pr a = none ∧ a ∉ f ∧ Reps K Fr f ds vs
  | .td ks ds, v => ∃ a kvs, v = .ref a ∧ H a = some (.dK kvs) ∧ Fr a = none ∧ Pr a = none ∧ a ∉ f ∧ kvs.map (·.1) = ks ∧ Reps K Fr f ds (kvs.map (·.2))
  | d, v => Rep K Fr f d v
@[reducible] def frz : D → D
  | .tl ds => .fl ds
  | .td ks ds => .fd ks ds
  | d => d

section
variable {K : PySem.W.Frag} {Pr Fr Fr' : Hp} {f f' : List Addr} {st : Sto} {H H' : Hp} {σ : L2.St} {env : Slots}
theorem RepX.of {d : D} {v : V} (r : Rep K Fr f d v) : RepX K Pr Fr f H d v := by
  cases d <;> first | exact r | exact (show False from r).elim
theorem RepX.frz (S : SimC K Pr Fr f st H) {d : D} {v : V} (r : RepX K Pr Fr f H d v) : ∃ Fr', SimC K Pr Fr' f st H ∧ Same Fr Fr' ∧ Rep K Fr' f (frz d) v := by
  cases d with
  | tl ds =>
    obtain ⟨a, vs, rfl, h1, h2, h3, h4, r⟩ := r
    obtain ⟨S', sm⟩ := S.freeze h1 h2 h3 h4
    exact ⟨_, S', sm, a, vs, rfl, upd_same, Reps.mono sm (List.prefix_refl _) _ _ r⟩
  | td ks ds =>
    obtain ⟨a, kvs, rfl, h1, h2, h3, h4, e, r⟩ := r
    obtain ⟨S', sm⟩ := S.freeze h1 h2 h3 h4
    exact ⟨_, S', sm, a, kvs, rfl, upd_same, e, Reps.mono sm (List.prefix_refl _) _ _ r⟩
  | _ => exact ⟨Fr, S, Same.refl _, r⟩
theorem Sim.up (S : Sim K Pr Fr f env st σ H) {st' : Sto} (hF : Same Fr Fr') (hf : f <+: f') (C : SimC K Pr Fr' f' st' H') : Sim K Pr Fr' f' env st' σ H' :=
  ⟨C, RepS.mono hF hf S.env⟩
theorem SimC.frL (S : SimC K Pr Fr f st H) {a : Addr} {vs : List V} (h : SqL K Fr a vs) : SqL K H a vs := S.fr.seq h
theorem SimC.frT (S : SimC K Pr Fr f st H) {a : Addr} {vs : List V} (h : SqT K Fr a vs) : SqT K H a vs := Same.seqT S.fr h
end

/-- a new container becomes a cell -/
def box (st : Sto) : D → D × Sto
  | .tl ds => (.ref st.length, st ++ [.lst ds])
  | .td ks ds => (.ref st.length, st ++ [.dic (ks.zip ds)])
  | d => (d, st)
/-- what is held: a cell (bx) or frozen -/
@[reducible] def keep (bx : Bool) (st : Sto) (x : D) : D × Sto := if bx = true then box st x else (frz x, st)
theorem RepX.box {K : PySem.W.Frag} {Fr : Hp} {f : List Addr} {st : Sto} {H : Hp} (S : SimC K Pr Fr f st H) {d : D} {v : V} (r : RepX K Pr Fr f H d v) : ∃ f', f <+: f' ∧ SimC K Pr Fr f' (box st d).2 H ∧ Rep K Fr f' (box st d).1 v := by
  cases d with
  | tl ds =>
    obtain ⟨a, vs, rfl, h1, h2, h3, h4, r⟩ := r
    refine ⟨f ++ [a], List.prefix_append _ _, S.box (m := .lst ds) h1 h2 h3 h4 ⟨vs, rfl, r⟩, a, ?_, rfl⟩
    rw [← S.len, List.getElem?_append_right (Nat.le_refl _)]
    simp
  | td ks ds =>
    obtain ⟨a, kvs, rfl, h1, h2, h3, h4, e, r⟩ := r
    have hl := r.length
    have hl2 := congrArg List.length e
    simp only [List.length_map] at hl hl2
    refine ⟨f ++ [a], List.prefix_append _ _, S.box (m := .dic (ks.zip ds)) h1 h2 h3 h4 ⟨kvs, rfl, ?_, ?_⟩, a, ?_, rfl⟩
    · rw [List.map_fst_zip (by omega), e]
    · rw [List.map_snd_zip (by omega)]; exact r
    · rw [← S.len, List.getElem?_append_right (Nat.le_refl _)]
      simp
  | _ => exact ⟨f, List.prefix_refl _, S, r⟩
theorem RepX.keep {K : PySem.W.Frag} {Fr : Hp} {f : List Addr} {st : Sto} {H : Hp} (bx : Bool) (S : SimC K Pr Fr f st H) {d : D} {v : V} (r : RepX K Pr Fr f H d v) : ∃ Fr' f', Same Fr Fr' ∧ f <+: f' ∧ SimC K Pr Fr' f' (keep bx st d).2 H ∧ Rep K Fr' f' (keep bx st d).1 v := by
  cases bx with
  | true =>
    obtain ⟨f', p, S', r'⟩ := r.box S
    exact ⟨Fr, f', Same.refl _, p, S', r'⟩
  | false =>
    obtain ⟨Fr', S', s, r'⟩ := r.frz S
    exact ⟨Fr', f, s, List.prefix_refl _, S', r'⟩
theorem keep_false (st : Sto) (x : D) : keep false st x = (frz x, st) := rfl
theorem keep_true (st : Sto) (x : D) : keep true st x = box st x := rfl

/-- a state of the data stands in the layer's state, and what is wished of exceptions is granted -/
structure At (K : PySem.W.Frag) (W : WX) (Ed : EdT) (Pr Fr : Hp) (f : List Addr) (env : Slots) (st : Sto) (σ : L2.St) (H : Hp) : Prop extends Sim K Pr Fr f env st σ H where
  exn : ∀ C env' st' Fr' f' σ' H', Same Fr Fr' → f <+: f' → Sim K Pr Fr' f' env' st' σ' H' → Ed C env' st' → W (.ref C) none σ' H'
theorem At.up {K : PySem.W.Frag} {W : WX} {Ed : EdT} {Pr Fr Fr' : Hp} {f f' : List Addr} {env env' : Slots} {st st' : Sto} {σ σ' : L2.St} {H H' : Hp} (A : At K W Ed Pr Fr f env st σ H) (hF : Same Fr Fr') (hf : f <+: f')
    (S : Sim K Pr Fr' f' env' st' σ' H') : At K W Ed Pr Fr' f' env' st' σ' H' :=
  ⟨S, fun C e s Fr2 f2 σ2 H2 h1 h2 => A.exn C e s Fr2 f2 σ2 H2 (hF.trans h1) (hf.trans h2)⟩

section
variable (K : PySem.W.Frag) (W : WX)
def liftE (d : DE) : TE := fun σ H Q => ∃ Ed Pr Fr f env st Q0, At K W Ed Pr Fr f env st σ H ∧ d Ed env st Q0 ∧
  ∀ x st', Q0 x st' → ∀ v Fr' f' H', Same Fr Fr' → f <+: f' → Sim K Pr Fr' f' env st' σ H' → RepX K Pr Fr' f' H' x v → Q v H'
def liftT (d : DT) : TT := fun σ H Q => ∃ Ed Pr Fr f env st Q0, At K W Ed Pr Fr f env st σ H ∧ d Ed env st Q0 ∧
  ∀ x st', Q0 x st' → ∀ Fr' f' H', Same Fr Fr' → f <+: f' → Sim K Pr Fr' f' env st' σ H' → Q x H'
def liftA (d : DA) : TA := fun σ H Q => ∃ Ed Pr Fr f env st Q0, At K W Ed Pr Fr f env st σ H ∧ d Ed env st Q0 ∧
  ∀ xs st', Q0 xs st' → ∀ vs Fr' f' H', Same Fr Fr' → f <+: f' → Sim K Pr Fr' f' env st' σ H' → Reps K Fr' f' xs vs → Q vs H'
def liftO (d : DO) : TO := fun σ H Q => ∃ Ed Pr Fr f env st Q0, At K W Ed Pr Fr f env st σ H ∧ d Ed env st Q0 ∧
  ∀ x st', Q0 x st' → ∀ Fr' f' H', Same Fr Fr' → f <+: f' → Sim K Pr Fr' f' env st' σ H' → Q x H'
end

section
variable {X : Cx} {e : Expr} {es : List Expr}
theorem PEimp {t t' : TE} (h : PE X e t) (i : ∀ σ H Q, t' σ H Q → t σ H Q) : PE X e t' := ⟨fun pins s σ H Q I q => h.run pins s σ H Q I (i σ H Q q)⟩
theorem PTimp {t t' : TT} (h : PT X e t) (i : ∀ σ H Q, t' σ H Q → t σ H Q) : PT X e t' := ⟨fun pins s σ H Q I q => h.run pins s σ H Q I (i σ H Q q)⟩
theorem PWimp {t t' : TT} (h : PW X e t) (i : ∀ σ H Q, t' σ H Q → t σ H Q) : PW X e t' := ⟨fun w pins s σ H Q I q => h.run w pins s σ H Q I (i σ H Q q)⟩
theorem PAimp {t t' : TA} (h : PA X es t) (i : ∀ σ H Q, t' σ H Q → t σ H Q) : PA X es t' := ⟨fun p pins s σ H Q I q => h.run p pins s σ H Q I (i σ H Q q)⟩
theorem PSimp {s : Stmt} {t t' : TS} (h : PS X s t) (i : ∀ D σ H, t' D σ H → t D σ H) : PS X s t' := ⟨fun pins s σ H D I q => h.run pins s σ H D I (i D σ H q)⟩
theorem PSsimp {s : List Stmt} {t t' : TS} (h : PSs X s t) (i : ∀ D σ H, t' D σ H → t D σ H) : PSs X s t' := ⟨fun pins s σ H D I q => h.run pins s σ H D I (i D σ H q)⟩
end

/-! ### names, constants -/
def dVar (i : Nat) : DE := fun _ env st Q => match env[i]? with
  | some (some x) => Q x st
  | _ => False
def dC (x : D) : DE := fun _ _ st Q => Q x st

section
variable {X : Cx} {W : WX} {pos : Pos}
end
section
variable {X : Cx} {W : WX} {pos : Pos}
theorem de_var {i : Nat} {x : Str} (h : PE X (.Name x pos) (tVar i)) : PE X (.Name x pos) (liftE X.K W (dVar i)) := PEimp h fun σ H Q q => by
  obtain ⟨Ed, Pr, Fr, f, env, st, Q0, A, d, k⟩ := q
  unfold dVar at d
  split at d
  · rename_i x e
    obtain ⟨y, e1, r⟩ := RepS.get A.env e
    exact ⟨y, e1, k x st d y Fr f H (Same.refl _) (List.prefix_refl _) A.toSim (.of r)⟩
  · exact d.elim
/-- what a value that needs no heap stands for -/
def plainD : V → Option D
  | .non => some .non
  | .bl b => some (.bl b)
  | .int i => some (.int i)
  | .str x => some (.str x)
  | .ref a => some (.con a)
  | .ty n => some (.ty n)
  | _ => none
theorem de_c {e : Expr} {v : V} {x : D} (h : PE X e (tC v)) (hx : plainD v = some x := by rfl) : PE X e (liftE X.K W (dC x)) := PEimp h fun σ H Q q => by
  obtain ⟨Ed, Pr, Fr, f, env, st, Q0, A, d, k⟩ := q
  refine k x st d v Fr f H (Same.refl _) (List.prefix_refl _) A.toSim ?_
  cases v <;> first | (cases hx; exact rfl) | exact nomatch hx
end

/-! ### sequences -/
def lisOf (st : Sto) : D → Option (List D)
  | .fl ds => some ds
  | .ref n => match st[n]? with
    | some (.lst ds) => some ds
    | _ => none
  | _ => none
def seqOf (st : Sto) : D → Option (List D)
  | .tup ds => some ds
  | .sl ds => some ds
  | d => lisOf st d
section
variable {K : PySem.W.Frag} {Pr Fr Fr' : Hp} {f f' : List Addr} {st : Sto} {H H' : Hp} {σ : L2.St} {env : Slots}
theorem listOf_rep (S : SimC K Pr Fr f st H) {d : D} {v : V} {ds : List D} (e : lisOf st d = some ds) (r : Rep K Fr f d v) : ∃ a vs, v = .ref a ∧ H a = some (.lst vs) ∧ Reps K Fr f ds vs := by
  unfold lisOf at e
  split at e
  · cases e
    obtain ⟨a, vs, rfl, h1, r⟩ := r
    exact ⟨a, vs, rfl, S.fr _ _ h1, r⟩
  · obtain ⟨a, h1, rfl⟩ := r
    split at e
    · rename_i e1
      cases e
      obtain ⟨b, vs, h2, h3, r⟩ := S.lst e1
      rw [h1] at h2; cases h2
      exact ⟨a, vs, rfl, h3, r⟩
    · cases e
  · cases e
theorem seqOf_rep (S : SimC K Pr Fr f st H) {d : D} {v : V} {ds : List D} (e : seqOf st d = some ds) (r : Rep K Fr f d v) : ∃ a vs, v = .ref a ∧ (SqL K H a vs ∨ SqT K H a vs) ∧ Reps K Fr f ds vs := by
  unfold seqOf at e
  split at e
  · cases e
    obtain ⟨a, vs, rfl, h1, r⟩ := r
    exact ⟨a, vs, rfl, .inr (S.frT h1), r⟩
  · cases e
    obtain ⟨a, vs, rfl, h1, r⟩ := r
    exact ⟨a, vs, rfl, .inl (S.frL h1), r⟩
  · obtain ⟨a, vs, rfl, h1, r⟩ := listOf_rep S e r
    exact ⟨a, vs, rfl, .inl (.inl (.inl h1)), r⟩
end

/-! ### two-place operations -/
/-- an operation on values does what op does on data -/
def OpD (K : PySem.W.Frag) (r : R2) (op : Sto → D → D → (D → Prop) → Prop) : Prop :=
  ∀ (Pr Fr : Hp) (f : List Addr) (st : Sto) (H : Hp) (x y : D) (v u : V) (k : D → Prop) (Q : VK), SimC K Pr Fr f st H → Rep K Fr f x v → Rep K Fr f y u → op st x y k →
    (∀ z w Fr' H', k z → Same Fr Fr' → SimC K Pr Fr' f st H' → RepX K Pr Fr' f H' z w → Q w H') → r v u H Q
def dOp (op : Sto → D → D → (D → Prop) → Prop) (da db : DE) : DE := fun Ed env st Q => da Ed env st fun x st1 => db Ed env st1 fun y st2 => op st2 (frz x) (frz y) fun z => Q z st2
/-- two expressions in a row, both frozen -/
theorem lift2 {K : PySem.W.Frag} {W : WX} {da db : DE} {σ : L2.St} {H : Hp} {Ed : EdT} {Fr : Hp} {f : List Addr} {env : Slots} {st : Sto} {R : D → D → Sto → Prop} {Q : V → V → Hp → Prop} (A : At K W Ed Pr Fr f env st σ H)
    (h : da Ed env st fun x st1 => db Ed env st1 fun y st2 => R (frz x) (frz y) st2)
    (k : ∀ x y st2 v u Fr' f' H', R x y st2 → Same Fr Fr' → f <+: f' → Sim K Pr Fr' f' env st2 σ H' → Rep K Fr' f' x v → Rep K Fr' f' y u → Q v u H') :
    liftE K W da σ H fun v H1 => liftE K W db σ H1 fun u H2 => Q v u H2 := by
  refine ⟨Ed, Pr, Fr, f, env, st, _, A, h, fun x st1 h1 v Fr1 f1 H1 s1 p1 S1 r1 => ?_⟩
  obtain ⟨Fr2, C2, s2, r2⟩ := r1.frz S1.toSimC
  have A2 := A.up (s1.trans s2) p1 (S1.up s2 (List.prefix_refl _) C2)
  refine ⟨Ed, Pr, Fr2, f1, env, st1, _, A2, h1, fun y st2 h2 u Fr3 f3 H3 s3 p3 S3 r3 => ?_⟩
  obtain ⟨Fr4, C4, s4, r4⟩ := r3.frz S3.toSimC
  exact k _ _ _ _ _ _ _ _ h2 (((s1.trans s2).trans s3).trans s4) (p1.trans p3) (S3.up s4 (List.prefix_refl _) C4) (Rep.mono (s3.trans s4) p3 _ _ r2) r4
theorem lift1 {K : PySem.W.Frag} {W : WX} {da : DE} {σ : L2.St} {H : Hp} {Ed : EdT} {Fr : Hp} {f : List Addr} {env : Slots} {st : Sto} {R : D → Sto → Prop} {Q : V → Hp → Prop} (A : At K W Ed Pr Fr f env st σ H)
    (h : da Ed env st fun x st1 => R (frz x) st1)
    (k : ∀ x st1 v Fr' f' H', R x st1 → Same Fr Fr' → f <+: f' → Sim K Pr Fr' f' env st1 σ H' → Rep K Fr' f' x v → Q v H') :
    liftE K W da σ H Q := by
  refine ⟨Ed, Pr, Fr, f, env, st, _, A, h, fun x st1 h1 v Fr1 f1 H1 s1 p1 S1 r1 => ?_⟩
  obtain ⟨Fr2, C2, s2, r2⟩ := r1.frz S1.toSimC
  exact k _ _ _ _ _ _ h1 (s1.trans s2) p1 (S1.up s2 (List.prefix_refl _) C2) r2
theorem lift_op {K : PySem.W.Frag} {W : WX} {r : R2} {op : Sto → D → D → (D → Prop) → Prop} {da db : DE} (ho : OpD K r op) (σ : L2.St) (H : Hp) (Q : VK) (q : liftE K W (dOp op da db) σ H Q) : tOp r (liftE K W da) (liftE K W db) σ H Q := by
  obtain ⟨Ed, Pr, Fr, f, env, st, Q0, A, d, k⟩ := q
  refine lift2 (R := fun x y st2 => op st2 x y fun z => Q0 z st2) A d fun x y st2 v u Fr' f' H' h s p S r1 r2 => ?_
  exact ho Pr Fr' f' st2 H' x y v u _ Q S.toSimC r1 r2 h fun z w Fr2 H2 hz s2 C2 rz => k z st2 hz w Fr2 f' H2 (s.trans s2) p (S.up s2 (List.prefix_refl _) C2) rz

theorem OpD.or {K : PySem.W.Frag} {r r' : R2} {op : Sto → D → D → (D → Prop) → Prop} (h : ∀ st x y k, op st x y k → (∃ o, OpD K r o ∧ o st x y k) ∨ ∃ o, OpD K r' o ∧ o st x y k) : OpD K (fun x y H Q => r x y H Q ∨ r' x y H Q) op := by
  intro Pr Fr f st H x y v u k Q S r1 r2 o q
  rcases h st x y k o with ⟨o', h1, h2⟩ | ⟨o', h1, h2⟩
  · exact .inl (h1 Pr Fr f st H x y v u k Q S r1 r2 h2 q)
  · exact .inr (h1 Pr Fr f st H x y v u k Q S r1 r2 h2 q)
end DW

/-! DW3: the operations. -/
namespace DW
open PySem PySem.Spec PyProof.Rows L2

section
variable {K : PySem.W.Frag} {Fr Fr' : Hp} {f f' : List Addr} {st : Sto} {H H' : Hp} {σ : L2.St} {env : Slots}
theorem lay_tup (S : SimC K Pr Fr f st H) {p : Addr} {ds : List D} {vs : List V} (hp : H p = none) (r : Reps K Fr f ds vs) :
    Same Fr (upd Fr p (.tup vs)) ∧ SimC K Pr (upd Fr p (.tup vs)) f st (upd H p (.tup vs)) ∧ RepX K Pr (upd Fr p (.tup vs)) f (upd H p (.tup vs)) (.tup ds) (.ref p) := by
  obtain ⟨S', sm⟩ := S.lay (o := .tup vs) hp
  exact ⟨sm, S', p, vs, rfl, .inl (.inl upd_same), Reps.mono sm (List.prefix_refl _) _ _ r⟩
theorem lay_lst (S : SimC K Pr Fr f st H) {p : Addr} {ds : List D} {vs : List V} (hp : H p = none) (r : Reps K Fr f ds vs) :
    SimC K Pr Fr f st (upd H p (.lst vs)) ∧ RepX K Pr Fr f (upd H p (.lst vs)) (.tl ds) (.ref p) :=
  ⟨S.other (S.fr.free hp) (S.pr.free hp) (S.notCell hp), p, vs, rfl, upd_same, S.fr.free hp, S.pr.free hp, S.notCell hp, r⟩
theorem lay_dic (S : SimC K Pr Fr f st H) {p : Addr} {ks : List Key} {ds : List D} {kvs : List (Key × V)} (hp : H p = none) (e : kvs.map (·.1) = ks) (r : Reps K Fr f ds (kvs.map (·.2))) :
    SimC K Pr Fr f st (upd H p (.dK kvs)) ∧ RepX K Pr Fr f (upd H p (.dK kvs)) (.td ks ds) (.ref p) :=
  ⟨S.other (S.fr.free hp) (S.pr.free hp) (S.notCell hp), p, kvs, rfl, upd_same, S.fr.free hp, S.pr.free hp, S.notCell hp, e, r⟩
end

/-! ### + - * // % -/
def rAddAny (K : PySem.W.Frag) : R2 := fun x y H Q => rI0 (fun i j => .int (i + j)) x y H Q ∨ (fun x y H Q => ∃ i j, x = V.str i ∧ y = V.str j ∧ i.length + j.length ≤ sizeLine ∧ Q (.str (i ++ j)) H) x y H Q ∨ rCatA K x y H Q ∨ rCat x y H Q
theorem or_add {X : Cx} : OpR X (binaryOp .Add) (rAddAny X.K) := op_add.or (op_add_str.or (op_catA.or op_cat))
def opAdd : Sto → D → D → (D → Prop) → Prop := fun st x y k => match x, y with
  | .int i, .int j => k (.int (i + j))
  | .str a, .str b => a.length + b.length ≤ sizeLine ∧ k (.str (a ++ b))
  | .tup a, .tup b => a.length + b.length ≤ sizeLine ∧ k (.tup (a ++ b))
  | x, y => match lisOf st x, lisOf st y with
    | some a, some b => a.length + b.length ≤ sizeLine ∧ k (.tl (a ++ b))
    | _, _ => False
theorem od_add {K : PySem.W.Frag} : OpD K (rAddAny K) opAdd := by
  intro Pr Fr f st H x y v u k Q S r1 r2 o q
  unfold opAdd at o
  split at o
  · cases (show v = _ from r1); cases (show u = _ from r2)
    exact .inl ⟨_, _, rfl, rfl, q _ _ Fr H o (Same.refl _) S rfl⟩
  · cases (show v = _ from r1); cases (show u = _ from r2)
    exact .inr (.inl ⟨_, _, rfl, rfl, o.1, q _ _ Fr H o.2 (Same.refl _) S rfl⟩)
  · obtain ⟨a, xs, rfl, h1, r1⟩ := r1
    obtain ⟨b, ys, rfl, h2, r2⟩ := r2
    refine .inr (.inr (.inl ⟨a, b, xs, ys, rfl, rfl, S.frT h1, S.frT h2, by rw [← r1.length, ← r2.length]; exact o.1, fun e => ?_, fun _ e => ?_, fun _ _ p hp => ?_⟩))
    · subst e
      rename_i a1 b1
      have e : a1 = [] := List.eq_nil_of_length_eq_zero r1.length
      subst e
      exact q _ _ Fr H o.2 (Same.refl _) S ⟨b, ys, rfl, h2, r2⟩
    · subst e
      rename_i a1 b1 _
      have e : b1 = [] := List.eq_nil_of_length_eq_zero r2.length
      subst e
      exact q _ _ Fr H o.2 (Same.refl _) S ⟨a, xs, rfl, h1, by rw [List.append_nil]; exact r1⟩
    · obtain ⟨sm, S', rx⟩ := lay_tup S hp (r1.append r2)
      exact q _ _ _ _ o.2 sm S' rx
  · split at o
    · rename_i a b e1 e2
      obtain ⟨p1, xs, rfl, h1, r1⟩ := listOf_rep S e1 r1
      obtain ⟨p2, ys, rfl, h2, r2⟩ := listOf_rep S e2 r2
      refine .inr (.inr (.inr ⟨p1, p2, xs, ys, rfl, rfl, h1, h2, by rw [← r1.length, ← r2.length]; exact o.1, fun p hp => ?_⟩))
      obtain ⟨S', rx⟩ := lay_lst S hp (r1.append r2)
      exact q _ _ _ _ o.2 (Same.refl _) S' rx
    · exact o.elim
/-- operations on two ints -/
def opJ (C : Int → Int → Prop) (g : Int → Int → D) : Sto → D → D → (D → Prop) → Prop := fun _ x y k => match x, y with
  | .int i, .int j => C i j ∧ k (g i j)
  | _, _ => False
theorem rep_plain {K : PySem.W.Frag} {Fr : Hp} {f : List Addr} {H : Hp} {w : V} {z : D} (e : plainD w = some z) : RepX K Pr Fr f H z w := by
  cases w <;> first | (cases e; exact rfl) | exact nomatch e
theorem od_I {K : PySem.W.Frag} {C : Int → Int → Prop} {g : Int → Int → V} {g' : Int → Int → D} (hg : ∀ i j, plainD (g i j) = some (g' i j)) : OpD K (rI C g) (opJ C g') := by
  intro Pr Fr f st H x y v u k Q S r1 r2 o q
  unfold opJ at o
  split at o
  · cases (show v = _ from r1); cases (show u = _ from r2)
    rename_i i j
    exact ⟨_, _, rfl, rfl, o.1, q _ _ Fr H o.2 (Same.refl _) S (rep_plain (hg i j))⟩
  · exact o.elim
def opJ0 (g : Int → Int → D) : Sto → D → D → (D → Prop) → Prop := fun _ x y k => match x, y with
  | .int i, .int j => k (g i j)
  | _, _ => False
theorem od_I0 {K : PySem.W.Frag} {g : Int → Int → V} {g' : Int → Int → D} (hg : ∀ i j, plainD (g i j) = some (g' i j)) : OpD K (rI0 g) (opJ0 g') := by
  intro Pr Fr f st H x y v u k Q S r1 r2 o q
  unfold opJ0 at o
  split at o
  · cases (show v = _ from r1); cases (show u = _ from r2)
    rename_i i j
    exact ⟨_, _, rfl, rfl, q _ _ Fr H o (Same.refl _) S (rep_plain (hg i j))⟩
  · exact o.elim
def CDivD (_ j : Int) : Prop := j ≠ 0 ∧ j.natAbs.log2 < 9000
theorem or_sub {X : Cx} : OpR X (binaryOp .Sub) (rI0 fun i j => .int (i - j)) := op_sub
theorem od_sub {K : PySem.W.Frag} : OpD K (rI0 fun i j => .int (i - j)) (opJ0 fun i j => .int (i - j)) := od_I0 fun _ _ => rfl
theorem or_fdiv {X : Cx} : OpR X (binaryOp .FloorDiv) (rI CDivD fun i j => .int (i.fdiv j)) := L2.opI fun _ _ _ _ _ _ _ hc q => floordiv_int hc.1 q (.inl (PyProof.noPylong_of_log2 hc.2))
theorem od_fdiv {K : PySem.W.Frag} : OpD K (rI CDivD fun i j => .int (i.fdiv j)) (opJ CDivD fun i j => .int (i.fdiv j)) := od_I fun _ _ => rfl
theorem or_mod {X : Cx} : OpR X (binaryOp .Mod) (rI (fun _ j => j ≠ 0) fun i j => .int (i.fmod j)) := op_modN
theorem od_mod {K : PySem.W.Frag} : OpD K (rI (fun _ j => j ≠ 0) fun i j => .int (i.fmod j)) (opJ (fun _ j => j ≠ 0) fun i j => .int (i.fmod j)) := od_I fun _ _ => rfl
theorem or_pow {X : Cx} : OpR X (binaryOp .Pow) (rI CPow fun i j => .int (i ^ j.toNat)) := op_pow
theorem od_pow {K : PySem.W.Frag} : OpD K (rI CPow fun i j => .int (i ^ j.toNat)) (opJ CPow fun i j => .int (i ^ j.toNat)) := od_I fun _ _ => rfl
def rMulAny : R2 := fun x y H Q => rI IntMulOk (fun i j => .int (i * j)) x y H Q ∨ rRep x y H Q
theorem or_mul {X : Cx} : OpR X (binaryOp .Mult) rMulAny := (L2.opI fun _ _ _ _ _ _ _ hc q => mul_int q hc).or op_rep
def opMul : Sto → D → D → (D → Prop) → Prop := fun st x y k => match x, y with
  | .int i, .int j => IntMulOk i j ∧ k (.int (i * j))
  | x, .int j => match lisOf st x with
    | some ds => -(2 ^ 63) ≤ j ∧ j < 2 ^ 63 ∧ ds.length * j.toNat ≤ sizeLine ∧ k (.tl (List.replicate j.toNat ds).flatten)
    | none => False
  | _, _ => False
theorem Reps.rep {K : PySem.W.Frag} {Fr : Hp} {f : List Addr} {ds : List D} {vs : List V} (h : Reps K Fr f ds vs) : ∀ n : Nat, Reps K Fr f (List.replicate n ds).flatten (List.replicate n vs).flatten
  | 0 => rfl
  | n + 1 => by
    rw [List.replicate_succ, List.replicate_succ, List.flatten_cons, List.flatten_cons]
    exact h.append (Reps.rep h n)
theorem od_mul {K : PySem.W.Frag} : OpD K rMulAny opMul := by
  intro Pr Fr f st H x y v u k Q S r1 r2 o q
  unfold opMul at o
  split at o
  · cases (show v = _ from r1); cases (show u = _ from r2)
    exact .inl ⟨_, _, rfl, rfl, o.1, q _ _ Fr H o.2 (Same.refl _) S rfl⟩
  · cases (show u = _ from r2)
    split at o
    · rename_i ds e1
      obtain ⟨p1, xs, rfl, h1, r1⟩ := listOf_rep S e1 r1
      obtain ⟨o1, o2, o3, o4⟩ := o
      refine .inr ⟨p1, _, xs, rfl, rfl, h1, o1, o2, by rw [← r1.length]; exact o3, fun p hp => ?_⟩
      obtain ⟨S', rx⟩ := lay_lst S hp (r1.rep _)
      exact q _ _ _ _ o4 (Same.refl _) S' rx
    · exact o.elim
  · exact o.elim
/-- from bounds by powers of two -/
theorem mulOk {i j : Int} (a b : Nat) (ha : i.natAbs < 2 ^ a) (hb : j.natAbs < 2 ^ b) (h : a + b ≤ 1000000 := by decide) : IntMulOk i j := by
  have h1 : i.natAbs < 2 ^ (a + 1) := Nat.lt_of_lt_of_le ha (Nat.pow_le_pow_right (by omega) (by omega))
  have h2 : j.natAbs < 2 ^ (b + 1) := Nat.lt_of_lt_of_le hb (Nat.pow_le_pow_right (by omega) (by omega))
  have x := PySem.Flt.log2_lt_of (by omega) h1
  have y := PySem.Flt.log2_lt_of (by omega) h2
  refine CMulW.ok ?_
  by_cases h0 : a + b < 999998
  · unfold CMulW; omega
  · by_cases ha0 : a = 0
    · subst ha0
      have : i.natAbs = 0 := by simpa using ha
      have e : i.natAbs.log2 = 0 := by rw [this]; decide
      by_cases hb0 : b = 0
      · omega
      · have y' := PySem.Flt.log2_lt_of (by omega) hb
        unfold CMulW; omega
    · by_cases hb0 : b = 0
      · subst hb0
        have : j.natAbs = 0 := by simpa using hb
        have e : j.natAbs.log2 = 0 := by rw [this]; decide
        have x' := PySem.Flt.log2_lt_of (by omega) ha
        unfold CMulW; omega
      · have x' := PySem.Flt.log2_lt_of (by omega) ha
        have y' := PySem.Flt.log2_lt_of (by omega) hb
        unfold CMulW; omega

/-! ### comparisons -/
def rLtAny : R2 := fun x y H Q => rI0 (fun i j => .bl (decide (i < j))) x y H Q ∨ (fun x y H Q => ∃ i j, x = V.str i ∧ y = V.str j ∧ Q (.bl (decide (i.cps.toList < j.cps.toList))) H) x y H Q
def rLeAny : R2 := fun x y H Q => rI0 (fun i j => .bl (decide (i ≤ j))) x y H Q ∨ (fun x y H Q => ∃ i j, x = V.str i ∧ y = V.str j ∧ Q (.bl (!decide (j.cps.toList < i.cps.toList))) H) x y H Q
def rGtAny : R2 := fun x y H Q => rI0 (fun i j => .bl (decide (j < i))) x y H Q ∨ (fun x y H Q => ∃ i j, x = V.str i ∧ y = V.str j ∧ Q (.bl (decide (j.cps.toList < i.cps.toList))) H) x y H Q
def rGeAny : R2 := fun x y H Q => rI0 (fun i j => .bl (decide (j ≤ i))) x y H Q ∨ (fun x y H Q => ∃ i j, x = V.str i ∧ y = V.str j ∧ Q (.bl (!decide (i.cps.toList < j.cps.toList))) H) x y H Q
theorem or_lt {X : Cx} : OpR X (compareOp .Lt) rLtAny := op_lt.or op_lt_str
theorem or_le {X : Cx} : OpR X (compareOp .LtE) rLeAny := op_le.or op_le_str
theorem or_gt {X : Cx} : OpR X (compareOp .Gt) rGtAny := op_gt.or op_gt_str
theorem or_ge {X : Cx} : OpR X (compareOp .GtE) rGeAny := op_ge.or op_ge_str
def opCmp (g : Int → Int → Bool) (g' : List Nat → List Nat → Bool) : Sto → D → D → (D → Prop) → Prop := fun _ x y k => match x, y with
  | .int i, .int j => k (.bl (g i j))
  | .str a, .str b => k (.bl (g' a.cps.toList b.cps.toList))
  | _, _ => False
theorem od_cmp {K : PySem.W.Frag} {g : Int → Int → Bool} {g' : List Nat → List Nat → Bool} : OpD K (fun x y H Q => rI0 (fun i j => .bl (g i j)) x y H Q ∨ (fun x y H Q => ∃ i j, x = V.str i ∧ y = V.str j ∧ Q (.bl (g' i.cps.toList j.cps.toList)) H) x y H Q) (opCmp g g') := by
  intro Pr Fr f st H x y v u k Q S r1 r2 o q
  unfold opCmp at o
  split at o
  · cases (show v = _ from r1); cases (show u = _ from r2)
    exact .inl ⟨_, _, rfl, rfl, q _ _ Fr H o (Same.refl _) S rfl⟩
  · cases (show v = _ from r1); cases (show u = _ from r2)
    exact .inr ⟨_, _, rfl, rfl, q _ _ Fr H o (Same.refl _) S rfl⟩
  · exact o.elim
abbrev opLt := opCmp (fun i j => decide (i < j)) (fun a b => decide (a < b))
abbrev opLe := opCmp (fun i j => decide (i ≤ j)) (fun a b => !decide (b < a))
abbrev opGt := opCmp (fun i j => decide (j < i)) (fun a b => decide (b < a))
abbrev opGe := opCmp (fun i j => decide (j ≤ i)) (fun a b => !decide (a < b))
theorem od_lt {K : PySem.W.Frag} : OpD K rLtAny opLt := od_cmp
theorem od_le {K : PySem.W.Frag} : OpD K rLeAny opLe := od_cmp
theorem od_gt {K : PySem.W.Frag} : OpD K rGtAny opGt := od_cmp
theorem od_ge {K : PySem.W.Frag} : OpD K rGeAny opGe := od_cmp

/-! ### == of data -/
mutual
def toPy : D → PyData
  | .non => .none
  | .bl b => .bool b
  | .int i => .int i
  | .str x => .str x
  | .tup ds => .tuple (toPys ds)
  | .fl ds => .list (toPys ds)
  | .sl ds => .list (toPys ds)
  | _ => .none
def toPys : List D → List PyData
  | [] => []
  | d :: ds => toPy d :: toPys ds
end
mutual
def isDat : D → Bool
  | .non => true
  | .bl _ => true
  | .int _ => true
  | .str _ => true
  | .tup ds => areDat ds
  | .fl ds => areDat ds
  | .sl ds => areDat ds
  | _ => false
def areDat : List D → Bool
  | [] => true
  | d :: ds => isDat d && areDat ds
end
section
variable {K : PySem.W.Frag} {Fr : Hp} {f : List Addr} {st : Sto} {H : Hp}
mutual
theorem dp_of (S : Same Fr H) : ∀ (d : D) (v : V), isDat d = true → Rep K Fr f d v → Dp K H v (toPy d)
  | .non, v, _, r => by cases (show v = _ from r); exact .non
  | .bl _, v, _, r => by cases (show v = _ from r); exact .bl _
  | .int _, v, _, r => by cases (show v = _ from r); exact .int _
  | .str _, v, _, r => by cases (show v = _ from r); exact .str _
  | .tup ds, v, h, r => by
    obtain ⟨a, vs, rfl, h1, r⟩ := r
    exact .tup (Same.seqT S h1) (dps_of S ds vs h r)
  | .fl ds, v, h, r => by
    obtain ⟨a, vs, rfl, h1, r⟩ := r
    exact .lst (.inl (.inl (S _ _ h1))) (dps_of S ds vs h r)
  | .sl ds, v, h, r => by
    obtain ⟨a, vs, rfl, h1, r⟩ := r
    exact .lst (S.seq h1) (dps_of S ds vs h r)
  | .ref _, _, h, _ => by cases h
  | .tl _, _, h, _ => by cases h
  | .td _ _, _, h, _ => by cases h
  | .fd _ _, _, h, _ => by cases h
  | .con _, _, h, _ => by cases h
  | .ty _, _, h, _ => by cases h
theorem dps_of (S : Same Fr H) : ∀ (ds : List D) (vs : List V), areDat ds = true → Reps K Fr f ds vs → DpAll K H vs (toPys ds)
  | [], vs, _, r => by cases (show vs = [] from r); exact .nil
  | d :: ds, vs, h, r => by
    obtain ⟨v, t, rfl, r1, r2⟩ := r
    have h' := Bool.and_eq_true_iff.mp (show (isDat d && areDat ds) = true from h)
    exact .cons (dp_of S d v h'.1 r1) (dps_of S ds t h'.2 r2)
end
end
def opEqW (neg : Bool) : Sto → D → D → (D → Prop) → Prop := fun _ x y k => match x, y with
  | .int i, .int j => k (.bl (neg ^^ (i == j)))
  | .str a, .str b => k (.bl (neg ^^ (a == b)))
  | x, y => isDat x = true ∧ isDat y = true ∧ SeqAt.shaped (toPy x) = true ∧ SeqAt.shaped (toPy y) = true ∧ k (.bl (neg ^^ PyData.eqv (toPy x) (toPy y)))
abbrev opEq := opEqW false
abbrev opNe := opEqW true
def rEqAny (K : PySem.W.Frag) : R2 := fun x y H Q => rEq x y H Q ∨ rEqD K x y H Q
def rNeAny (K : PySem.W.Frag) : R2 := fun x y H Q => rNe x y H Q ∨ rNeD K x y H Q
theorem or_eq {X : Cx} (hu : X.A.units + 64 < cLine) : OpR X (compareOp .Eq) (rEqAny X.K) := op_eq.or (op_eqD hu)
theorem or_ne {X : Cx} (hu : X.A.units + 64 < cLine) : OpR X (compareOp .NotEq) (rNeAny X.K) := op_ne.or (op_neD hu)
theorem od_eq {K : PySem.W.Frag} : OpD K (rEqAny K) opEq := by
  intro Pr Fr f st H x y v u k Q S r1 r2 o q
  unfold opEq opEqW at o
  split at o
  · cases (show v = _ from r1); cases (show u = _ from r2)
    refine .inl ⟨rfl, ?_⟩
    rw [dec_int]
    exact q _ _ Fr H o (Same.refl _) S (by simp [RepX, Rep])
  · cases (show v = _ from r1); cases (show u = _ from r2)
    refine .inl ⟨rfl, ?_⟩
    rw [dec_str]
    exact q _ _ Fr H o (Same.refl _) S (by simp [RepX, Rep])
  · obtain ⟨o1, o2, o3, o4, o5⟩ := o
    exact .inr ⟨_, _, dp_of S.fr _ _ o1 r1, dp_of S.fr _ _ o2 r2, o3, o4, q _ _ Fr H o5 (Same.refl _) S (by simp [RepX, Rep])⟩
theorem od_ne {K : PySem.W.Frag} : OpD K (rNeAny K) opNe := by
  intro Pr Fr f st H x y v u k Q S r1 r2 o q
  unfold opNe opEqW at o
  split at o
  · cases (show v = _ from r1); cases (show u = _ from r2)
    refine .inl ⟨rfl, ?_⟩
    rw [dec_int]
    exact q _ _ Fr H o (Same.refl _) S (by simp [RepX, Rep])
  · cases (show v = _ from r1); cases (show u = _ from r2)
    refine .inl ⟨rfl, ?_⟩
    rw [dec_str]
    exact q _ _ Fr H o (Same.refl _) S (by simp [RepX, Rep])
  · obtain ⟨o1, o2, o3, o4, o5⟩ := o
    exact .inr ⟨_, _, dp_of S.fr _ _ o1 r1, dp_of S.fr _ _ o2 r2, o3, o4, q _ _ Fr H o5 (Same.refl _) S (by simp [RepX, Rep])⟩
end DW

/-! DW4: dicts as lists of pairs; in, subscripts, slices, truth. -/
namespace DW
open PySem PySem.Spec PyProof.Rows L2

/-! ### dicts as lists of pairs -/
section
variable {κ α : Type} [DecidableEq κ]
def valP (kvs : List (κ × α)) (k : κ) : Option α := (kvs.find? fun kv => decide (kv.1 = k)).map (·.2)
def putP (kvs : List (κ × α)) (k : κ) (v : α) : List (κ × α) :=
  if (kvs.any fun kv => decide (kv.1 = k)) = true then kvs.map (fun kv => if kv.1 = k then (kv.1, v) else kv) else kvs ++ [(k, v)]
def dropP (kvs : List (κ × α)) (k : κ) : List (κ × α) := kvs.filter fun kv => decide (kv.1 ≠ k)
end
section
variable {K : PySem.W.Frag} {Fr Fr' : Hp} {f f' : List Addr} {st : Sto} {H H' : Hp}
/-- two tables with the same keys -/
def RepK (K : PySem.W.Frag) (Fr : Hp) (f : List Addr) (kvs : List (Key × D)) (us : List (Key × V)) : Prop := us.map (·.1) = kvs.map (·.1) ∧ Reps K Fr f (kvs.map (·.2)) (us.map (·.2))
theorem RepK.nil : RepK K Fr f [] [] := ⟨rfl, rfl⟩
theorem RepK.inv0 {us : List (Key × V)} (h : RepK K Fr f [] us) : us = [] := by
  obtain ⟨e, _⟩ := h
  simpa using e
theorem RepK.inv {p : Key × D} {kvs : List (Key × D)} {us : List (Key × V)} (h : RepK K Fr f (p :: kvs) us) : ∃ v r, us = (p.1, v) :: r ∧ Rep K Fr f p.2 v ∧ RepK K Fr f kvs r := by
  obtain ⟨e, r⟩ := h
  cases us with
  | nil => simp at e
  | cons u us =>
    simp only [List.map_cons, List.cons.injEq] at e
    obtain ⟨v, t, e2, r1, r2⟩ := r
    simp only [List.map_cons, List.cons.injEq] at e2
    obtain ⟨e3, e4⟩ := e2
    subst e3 e4
    exact ⟨u.2, us, by rw [← e.1], r1, e.2, r2⟩
theorem RepK.cons {p : Key × D} {kvs : List (Key × D)} {v : V} {r : List (Key × V)} (h1 : Rep K Fr f p.2 v) (h2 : RepK K Fr f kvs r) : RepK K Fr f (p :: kvs) ((p.1, v) :: r) :=
  ⟨by simp [h2.1], v, _, rfl, h1, h2.2⟩
theorem RepK.mono (hF : Same Fr Fr') (hf : f <+: f') {kvs : List (Key × D)} {us : List (Key × V)} (h : RepK K Fr f kvs us) : RepK K Fr' f' kvs us := ⟨h.1, Reps.mono hF hf _ _ h.2⟩
theorem RepK.length {kvs : List (Key × D)} {us : List (Key × V)} (h : RepK K Fr f kvs us) : us.length = kvs.length := by
  have := congrArg List.length h.1
  simpa using this
theorem RepK.append : ∀ {kvs ms : List (Key × D)} {us ws : List (Key × V)}, RepK K Fr f kvs us → RepK K Fr f ms ws → RepK K Fr f (kvs ++ ms) (us ++ ws) := fun h h' =>
  ⟨by simp [h.1, h'.1], by simpa using h.2.append h'.2⟩
theorem RepK.val (k : Key) : ∀ {kvs : List (Key × D)} {us : List (Key × V)}, RepK K Fr f kvs us → (∀ d, valP kvs k = some d → ∃ v, valV us k = some v ∧ Rep K Fr f d v) ∧ (valP kvs k = none → valV us k = none)
  | [], us, h => by
    cases h.inv0
    exact ⟨fun d e => by simp [valP] at e, fun _ => rfl⟩
  | p :: kvs, us, h => by
    obtain ⟨v, r, rfl, h1, h2⟩ := h.inv
    by_cases e : p.1 = k
    · refine ⟨fun d q => ?_, fun q => ?_⟩
      · have q' : p.2 = d := by simpa [valP, List.find?_cons, e] using q
        subst q'
        exact ⟨v, valV_pos (p := (p.1, v)) e, h1⟩
      · simp [valP, List.find?_cons, e] at q
    · have ih := RepK.val k h2
      have e1 : valP (p :: kvs) k = valP kvs k := by simp [valP, List.find?_cons, e]
      have e2 : valV ((p.1, v) :: r) k = valV r k := valV_neg (p := (p.1, v)) e
      rw [e1, e2]
      exact ih
theorem RepK.some {k : Key} {kvs : List (Key × D)} {us : List (Key × V)} (h : RepK K Fr f kvs us) : (valV us k).isSome = (valP kvs k).isSome := by
  have := RepK.val k h
  cases e : valP kvs k with
  | none => rw [this.2 e]; rfl
  | some d => obtain ⟨v, e1, _⟩ := this.1 d e; rw [e1] <;> rfl
theorem RepK.any {k : Key} : ∀ {kvs : List (Key × D)} {us : List (Key × V)}, RepK K Fr f kvs us → (us.any fun kv => decide (kv.1 = k)) = kvs.any fun kv => decide (kv.1 = k)
  | [], us, h => by cases h.inv0; rfl
  | p :: kvs, us, h => by
    obtain ⟨v, r, rfl, h1, h2⟩ := h.inv
    simp only [List.any_cons, RepK.any h2]
theorem RepK.repl {k : Key} {d : D} {v : V} (hr : Rep K Fr f d v) : ∀ {kvs : List (Key × D)} {us : List (Key × V)}, RepK K Fr f kvs us →
    RepK K Fr f (kvs.map fun kv => if kv.1 = k then (kv.1, d) else kv) (us.map fun kv => if kv.1 = k then (kv.1, v) else kv)
  | [], us, h => by cases h.inv0; exact .nil
  | p :: kvs, us, h => by
    obtain ⟨w, r, rfl, h1, h2⟩ := h.inv
    have ih := RepK.repl (k := k) hr h2
    rw [List.map_cons, List.map_cons]
    by_cases e : p.1 = k
    · rw [if_pos e, if_pos e]
      exact RepK.cons (p := (p.1, d)) hr ih
    · rw [if_neg e, if_neg e]
      exact RepK.cons h1 ih
theorem RepK.put {k : Key} {d : D} {v : V} (hr : Rep K Fr f d v) {kvs : List (Key × D)} {us : List (Key × V)} (h : RepK K Fr f kvs us) : RepK K Fr f (putP kvs k d) (putK us k v) := by
  unfold putP putK
  rw [h.any]
  split
  · exact h.repl hr
  · exact h.append (RepK.cons (p := (k, d)) hr .nil)
theorem RepK.drop {k : Key} : ∀ {kvs : List (Key × D)} {us : List (Key × V)}, RepK K Fr f kvs us → RepK K Fr f (dropP kvs k) (dropK us k)
  | [], us, h => by cases h.inv0; exact .nil
  | p :: kvs, us, h => by
    obtain ⟨w, r, rfl, h1, h2⟩ := h.inv
    have ih := RepK.drop (k := k) h2
    unfold dropP dropK at *
    by_cases e : p.1 = k
    · rw [List.filter_cons_of_neg (by simp [e]), List.filter_cons_of_neg (by simp [e])]
      exact ih
    · rw [List.filter_cons_of_pos (by simp [e]), List.filter_cons_of_pos (by simp [e])]
      exact RepK.cons h1 ih
end
def dicOf (st : Sto) : D → Option (List (Key × D))
  | .fd ks ds => some (ks.zip ds)
  | .ref n => match st[n]? with
    | some (.dic kvs) => some kvs
    | _ => none
  | _ => none
theorem dicOf_rep {K : PySem.W.Frag} {Fr : Hp} {f : List Addr} {st : Sto} {H : Hp} (S : SimC K Pr Fr f st H) {d : D} {v : V} {kvs : List (Key × D)} (e : dicOf st d = some kvs) (r : Rep K Fr f d v) :
    ∃ a us, v = .ref a ∧ H a = some (.dK us) ∧ RepK K Fr f kvs us := by
  unfold dicOf at e
  split at e
  · cases e
    obtain ⟨a, us, rfl, h1, e1, r⟩ := r
    have hl := r.length
    have hl2 := congrArg List.length e1
    simp only [List.length_map] at hl hl2
    refine ⟨a, us, rfl, S.fr _ _ h1, ?_, ?_⟩
    · rw [List.map_fst_zip (by omega), e1]
    · rw [List.map_snd_zip (by omega)]
      exact r
  · obtain ⟨a, h1, rfl⟩ := r
    split at e
    · rename_i e1
      cases e
      obtain ⟨b, us, h2, h3, e2, r⟩ := S.dic e1
      rw [h1] at h2; cases h2
      exact ⟨a, us, rfl, h3, e2, r⟩
    · cases e
  · cases e
def keyOf : D → Option Key
  | .int i => some (.inl i)
  | .str x => some (.inr x)
  | _ => none
theorem keyOf_rep {K : PySem.W.Frag} {Fr : Hp} {f : List Addr} {d : D} {v : V} {k : Key} (e : keyOf d = some k) (r : Rep K Fr f d v) : v = kV k := by
  cases d <;> first | (cases e; exact r) | exact nomatch e
def unkey : Key → D
  | .inl i => .int i
  | .inr x => .str x

/-! ### in, not in -/
def flatD : D → Bool
  | .non => true
  | .bl _ => true
  | .int _ => true
  | .str _ => true
  | _ => false
def eqD : D → D → Bool
  | .non, .non => true
  | .bl a, .bl b => a == b
  | .bl a, .int b => (if a then 1 else 0) == b
  | .int a, .bl b => a == (if b then 1 else 0)
  | .int a, .int b => a == b
  | .str a, .str b => a == b
  | _, _ => false
section
variable {K : PySem.W.Frag} {Fr : Hp} {f : List Addr}
theorem flat_rep {d : D} {v : V} (h : flatD d = true) (r : Rep K Fr f d v) : flatV v = true := by
  cases d <;> first | (cases (show v = _ from r); rfl) | (cases h; done)
theorem eqD_rep {d e : D} {v u : V} (h1 : flatD d = true) (h2 : flatD e = true) (r1 : Rep K Fr f d v) (r2 : Rep K Fr f e u) : eqV v u = eqD d e := by
  cases d <;> first
    | (cases h1; done)
    | (cases (show v = _ from r1)
       cases e <;> first
        | (cases h2; done)
        | (cases (show u = _ from r2); rfl))
theorem flats_rep : ∀ {ds : List D} {vs : List V}, ds.all flatD = true → Reps K Fr f ds vs → vs.all flatV = true
  | [], vs, _, r => by cases (show vs = [] from r); rfl
  | d :: ds, vs, h, r => by
    obtain ⟨v, t, rfl, r1, r2⟩ := r
    simp only [List.all_cons, Bool.and_eq_true] at h ⊢
    exact ⟨flat_rep h.1 r1, flats_rep h.2 r2⟩
theorem inV_rep {x : D} {u : V} (hx : flatD x = true) (rx : Rep K Fr f x u) : ∀ {ds : List D} {vs : List V}, ds.all flatD = true → Reps K Fr f ds vs → inV u vs = ds.any fun d => eqD d x
  | [], vs, _, r => by cases (show vs = [] from r); rfl
  | d :: ds, vs, h, r => by
    obtain ⟨v, t, rfl, r1, r2⟩ := r
    simp only [List.all_cons, Bool.and_eq_true] at h
    have ih := inV_rep hx rx h.2 r2
    unfold inV at ih ⊢
    rw [List.any_cons, List.any_cons, ih, eqD_rep h.1 hx r1 rx]
end
def rInDic : R2 := fun x y H Q => ∃ a o, y = .ref a ∧ DGet H a x o ∧ Q (.bl o.isSome) H
def rNotInDic : R2 := fun x y H Q => ∃ a o, y = .ref a ∧ DGet H a x o ∧ Q (.bl (!o.isSome)) H
theorem op_in_dic {X : Cx} (hu : X.A.units + 1 < cLine) : OpR X (compareOp .In) rInDic := by
  intro pins s σ H x y v u Q I rx ry h
  obtain ⟨a, o, rfl, g, q⟩ := h
  cases ry
  exact d_in hu I g rx fun s' I' => ⟨.bl _, H, I', rfl, q⟩
theorem op_notIn_dic {X : Cx} (hu : X.A.units + 1 < cLine) : OpR X (compareOp .NotIn) rNotInDic := by
  intro pins s σ H x y v u Q I rx ry h
  obtain ⟨a, o, rfl, g, q⟩ := h
  cases ry
  exact d_notIn hu I g rx fun s' I' => ⟨.bl _, H, I', rfl, q⟩
def rInAny (K : PySem.W.Frag) : R2 := fun x y H Q => rIn K false x y H Q ∨ (fun x y H Q => ∃ (c : Nat) (z : Str), x = .str ⟨#[c]⟩ ∧ y = .str z ∧ Q (.bl (decide (c ∈ z.cps.toList))) H) x y H Q ∨ rInDic x y H Q
def rNotInAny (K : PySem.W.Frag) : R2 := fun x y H Q => rIn K true x y H Q ∨ (fun x y H Q => ∃ (c : Nat) (z : Str), x = .str ⟨#[c]⟩ ∧ y = .str z ∧ Q (.bl (!decide (c ∈ z.cps.toList))) H) x y H Q ∨ rNotInDic x y H Q
theorem or_in {X : Cx} (hu : X.A.units + 64 < cLine) : OpR X (compareOp .In) (rInAny X.K) := op_in_seq.or (op_in_sign.or (op_in_dic (by omega)))
theorem or_notIn {X : Cx} (hu : X.A.units + 64 < cLine) : OpR X (compareOp .NotIn) (rNotInAny X.K) := op_notIn_seq.or (op_notIn_sign.or (op_notIn_dic (by omega)))
def opInW (neg : Bool) : Sto → D → D → (D → Prop) → Prop := fun st x y k => match x, y with
  | .str a, .str b => ∃ c : Nat, a = ⟨#[c]⟩ ∧ k (.bl (neg ^^ decide (c ∈ b.cps.toList)))
  | x, y => match seqOf st y with
    | some ds => flatD x = true ∧ ds.all flatD = true ∧ k (.bl (neg ^^ ds.any fun d => eqD d x))
    | none => match dicOf st y, keyOf x with
      | some kvs, some q => k (.bl (neg ^^ (valP kvs q).isSome))
      | _, _ => False
abbrev opIn := opInW false
abbrev opNotIn := opInW true
theorem od_in {K : PySem.W.Frag} : OpD K (rInAny K) opIn := by
  intro Pr Fr f st H x y v u k Q S r1 r2 o q
  unfold opIn opInW at o
  split at o
  · obtain ⟨c, rfl, o⟩ := o
    cases (show v = _ from r1); cases (show u = _ from r2)
    exact .inr (.inl ⟨c, _, rfl, rfl, q _ _ Fr H o (Same.refl _) S (by simp [RepX, Rep])⟩)
  · split at o
    · rename_i ds e
      obtain ⟨o1, o2, o⟩ := o
      obtain ⟨a, vs, rfl, h1, r2⟩ := seqOf_rep S e r2
      refine .inl ⟨a, vs, rfl, h1, flat_rep o1 r1, flats_rep o2 r2, ?_⟩
      rw [if_neg (by simp)]
      exact q _ _ Fr H o (Same.refl _) S (by simp [RepX, Rep, inV_rep o1 r1 o2 r2])
    · split at o
      · rename_i kvs kk e1 e2
        obtain ⟨a, us, rfl, h1, r2⟩ := dicOf_rep S e1 r2
        obtain rfl := keyOf_rep e2 r1
        refine .inr (.inr ⟨a, _, rfl, DGet.k h1, ?_⟩)
        exact q _ _ Fr H o (Same.refl _) S (by simp [RepX, Rep, r2.some])
      · exact o.elim
theorem od_notIn {K : PySem.W.Frag} : OpD K (rNotInAny K) opNotIn := by
  intro Pr Fr f st H x y v u k Q S r1 r2 o q
  unfold opNotIn opInW at o
  split at o
  · obtain ⟨c, rfl, o⟩ := o
    cases (show v = _ from r1); cases (show u = _ from r2)
    exact .inr (.inl ⟨c, _, rfl, rfl, q _ _ Fr H o (Same.refl _) S (by simp [RepX, Rep])⟩)
  · split at o
    · rename_i ds e
      obtain ⟨o1, o2, o⟩ := o
      obtain ⟨a, vs, rfl, h1, r2⟩ := seqOf_rep S e r2
      refine .inl ⟨a, vs, rfl, h1, flat_rep o1 r1, flats_rep o2 r2, ?_⟩
      rw [if_pos rfl]
      exact q _ _ Fr H o (Same.refl _) S (by simp [RepX, Rep, inV_rep o1 r1 o2 r2])
    · split at o
      · rename_i kvs kk e1 e2
        obtain ⟨a, us, rfl, h1, r2⟩ := dicOf_rep S e1 r2
        obtain rfl := keyOf_rep e2 r1
        refine .inr (.inr ⟨a, _, rfl, DGet.k h1, ?_⟩)
        exact q _ _ Fr H o (Same.refl _) S (by simp [RepX, Rep, r2.some])
      · exact o.elim
/-! ### is -/
def rIsAny : R2 := fun x y H Q => rIsB x y H Q ∨ (fun x y H Q => y = V.non ∧ Q (.bl (decide (x = V.non))) H) x y H Q
def rNotIsAny : R2 := fun x y H Q => rNotB x y H Q ∨ (fun x y H Q => y = V.non ∧ Q (.bl (!decide (x = V.non))) H) x y H Q
theorem or_is {X : Cx} : OpR X (compareOp .Is) rIsAny := op_isBl.or op_isN
theorem or_isNot {X : Cx} : OpR X (compareOp .IsNot) rNotIsAny := op_notBl.or op_notN
def isNonD : D → Bool
  | .non => true
  | _ => false
def opIsW (neg : Bool) : Sto → D → D → (D → Prop) → Prop := fun _ x y k => match x, y with
  | .bl a, .bl b => k (.bl (neg ^^ (a == b)))
  | x, .non => k (.bl (neg ^^ isNonD x))
  | _, _ => False
abbrev opIs := opIsW false
abbrev opIsNot := opIsW true
theorem dec_beq {a b : Bool} : decide (a = b) = (a == b) := by cases a <;> cases b <;> rfl
theorem isNon_rep {K : PySem.W.Frag} {Fr : Hp} {f : List Addr} {d : D} {v : V} (r : Rep K Fr f d v) : decide (v = V.non) = isNonD d := by
  cases d with
  | tup _ => obtain ⟨a, _, rfl, _⟩ := r; rfl
  | ref _ => obtain ⟨a, _, rfl⟩ := r; rfl
  | fl _ => obtain ⟨a, _, rfl, _⟩ := r; rfl
  | sl _ => obtain ⟨a, _, rfl, _⟩ := r; rfl
  | fd _ _ => obtain ⟨a, _, rfl, _⟩ := r; rfl
  | tl _ => exact (show False from r).elim
  | td _ _ => exact (show False from r).elim
  | _ => cases (show v = _ from r); rfl
theorem od_is {K : PySem.W.Frag} : OpD K rIsAny opIs := by
  intro Pr Fr f st H x y v u k Q S r1 r2 o q
  unfold opIs opIsW at o
  split at o
  · cases (show v = _ from r1); cases (show u = _ from r2)
    refine .inl ⟨_, _, rfl, rfl, q _ _ Fr H o (Same.refl _) S ?_⟩
    simp only [RepX, Rep, Bool.false_xor, V.bl.injEq]
    exact dec_beq
  · cases (show u = _ from r2)
    refine .inr ⟨rfl, q _ _ Fr H o (Same.refl _) S ?_⟩
    simp only [RepX, Rep, Bool.false_xor, V.bl.injEq]
    exact isNon_rep r1
  · exact o.elim
theorem od_isNot {K : PySem.W.Frag} : OpD K rNotIsAny opIsNot := by
  intro Pr Fr f st H x y v u k Q S r1 r2 o q
  unfold opIsNot opIsW at o
  split at o
  · cases (show v = _ from r1); cases (show u = _ from r2)
    refine .inl ⟨_, _, rfl, rfl, q _ _ Fr H o (Same.refl _) S ?_⟩
    show V.bl _ = V.bl (true ^^ _)
    rw [Bool.true_xor, dec_beq]
  · cases (show u = _ from r2)
    refine .inr ⟨rfl, q _ _ Fr H o (Same.refl _) S ?_⟩
    show V.bl _ = V.bl (true ^^ _)
    rw [Bool.true_xor, isNon_rep r1]
  · exact o.elim

/-! ### subscripts -/
def rIxDic : R2 := fun x y H Q => ∃ a v, x = .ref a ∧ DGet H a y (some v) ∧ Q v H
theorem ix_dic {X : Cx} (hu : X.A.units + 1 < cLine) : IxR X rIxDic := by
  intro value slice pins s σ H x y v u Q I rx ry h hs
  obtain ⟨a, w, rfl, g, q⟩ := h
  obtain rfl : v = Value.ref a := rx
  exact tail_any (dict_typeIs I g) PySem.F.slot_dict_getitem.lookup (d_getItem hu I g ry fun w' s' I' r' => ⟨w, H, I', r', q⟩) hs
def rIxAny (K : PySem.W.Frag) : R2 := fun x y H Q => rIx K x y H Q ∨ rIxDic x y H Q
theorem xr_any {X : Cx} (hu : X.A.units + 64 < cLine) : IxR X (rIxAny X.K) := ix_seq.or (ix_dic (by omega))
def opIxDic : Sto → D → D → (D → Prop) → Prop := fun st x y k => match dicOf st x, keyOf y with
  | some kvs, some q => (match valP kvs q with
    | some d => k d
    | none => False)
  | _, _ => False
def opIx : Sto → D → D → (D → Prop) → Prop := fun st x y k => match y with
  | .int i => (match x with
    | .str z => z.length ≤ sizeLine ∧ (match atI z.cps.toList i with
      | some c => k (.str ⟨#[c]⟩)
      | none => False)
    | x => (match seqOf st x with
      | some ds => (match atI ds i with
        | some d => k d
        | none => False)
      | none => opIxDic st x (.int i) k))
  | y => opIxDic st x y k
theorem atI_rep {K : PySem.W.Frag} {Fr : Hp} {f : List Addr} {ds : List D} {vs : List V} {i : Int} {d : D} (r : Reps K Fr f ds vs) (e : atI ds i = some d) : ∃ v, atI vs i = some v ∧ Rep K Fr f d v := by
  unfold atI at e ⊢
  rw [← r.length]
  cases h : ixN ds.length i with
  | none => rw [h] at e; cases e
  | some j =>
    rw [h] at e
    obtain ⟨v, e1, r1⟩ := r.get (show ds[j]? = some d from e)
    exact ⟨v, e1, r1⟩
theorem od_ixDic {K : PySem.W.Frag} : OpD K (rIxAny K) opIxDic := by
  intro Pr Fr f st H x y v u k Q S r1 r2 o q
  unfold opIxDic at o
  split at o
  · rename_i kvs kk e1 e2
    obtain ⟨a, us, rfl, h1, r1⟩ := dicOf_rep S e1 r1
    obtain rfl := keyOf_rep e2 r2
    split at o
    · rename_i d ed
      obtain ⟨w, ew, rw'⟩ := (RepK.val kk r1).1 d ed
      exact .inr ⟨a, w, rfl, by rw [← ew]; exact DGet.k h1, q _ _ Fr H o (Same.refl _) S (.of rw')⟩
    · exact o.elim
  · exact o.elim
theorem od_ix {K : PySem.W.Frag} : OpD K (rIxAny K) opIx := by
  intro Pr Fr f st H x y v u k Q S r1 r2 o q
  unfold opIx at o
  split at o
  · cases (show u = _ from r2)
    split at o
    · cases (show v = _ from r1)
      obtain ⟨o1, o⟩ := o
      split at o
      · rename_i c e
        exact .inl (.inr (.inr ⟨_, _, c, rfl, rfl, o1, e, q _ _ Fr H o (Same.refl _) S rfl⟩))
      · exact o.elim
    · split at o
      · rename_i ds e
        obtain ⟨a, vs, rfl, h1, r1⟩ := seqOf_rep S e r1
        split at o
        · rename_i d ed
          obtain ⟨w, ew, rw'⟩ := atI_rep r1 ed
          rcases h1 with h1 | h1
          · exact .inl (.inl ⟨a, vs, _, w, rfl, rfl, h1, ew, q _ _ Fr H o (Same.refl _) S (.of rw')⟩)
          · exact .inl (.inr (.inl ⟨a, vs, _, w, rfl, rfl, h1, ew, q _ _ Fr H o (Same.refl _) S (.of rw')⟩))
        · exact o.elim
      · exact od_ixDic Pr Fr f st H _ (.int _) _ _ k Q S r1 rfl o q
  · exact od_ixDic Pr Fr f st H _ _ _ _ k Q S r1 r2 o q

/-! ### slices -/
def cutD {α : Type} (xs : List α) (lo hi : Option Int) : List α := (xs.drop (HT.sIx xs.length 0 lo)).take (HT.sIx xs.length xs.length hi - HT.sIx xs.length 0 lo)
theorem Reps.cut {K : PySem.W.Frag} {Fr : Hp} {f : List Addr} {ds : List D} {vs : List V} (r : Reps K Fr f ds vs) (lo hi : Option Int) : Reps K Fr f (cutD ds lo hi) (cutV vs lo hi) := by
  unfold cutD cutV
  rw [← r.length]
  exact (r.drop _).take _
theorem cutD_whole {α : Type} {xs : List α} {lo hi : Option Int} (h : HT.sIx xs.length 0 lo = 0 ∧ HT.sIx xs.length xs.length hi = xs.length) : cutD xs lo hi = xs := by
  unfold cutD
  rw [h.1, h.2]
  simp
def rSlAny (K : PySem.W.Frag) : V → Option Int → Option Int → Hp → VK → Prop := fun x lo hi H Q => rSlS x lo hi H Q ∨ rSlA K x lo hi H Q ∨ rSlL K x lo hi H Q
theorem sr_any {X : Cx} : SlR X (rSlAny X.K) := sl_str.or (sl_tupA.or sl_list)
def opSl : Sto → D → Option Int → Option Int → (D → Prop) → Prop := fun st x lo hi k => match x with
  | .str z => z.length ≤ sizeLine ∧ k (.str (cutS z lo hi))
  | .tup ds => k (.tup (cutD ds lo hi))
  | .sl ds => k (.tl (cutD ds lo hi))
  | x => match lisOf st x with
    | some ds => k (.tl (cutD ds lo hi))
    | none => False
def dSl (de : DE) (lo hi : DO) : DE := fun Ed env st Q => de Ed env st fun x st1 => lo Ed env st1 fun l st2 => hi Ed env st2 fun h st3 => opSl st3 (frz x) l h fun z => Q z st3
theorem sl_rep {K : PySem.W.Frag} {Fr : Hp} {f : List Addr} {st : Sto} {H : Hp} {x : D} {v : V} {lo hi : Option Int} {k : D → Prop} {Q : VK} (S : SimC K Pr Fr f st H) (r1 : Rep K Fr f x v) (o : opSl st x lo hi k)
    (q : ∀ z w Fr' H', k z → Same Fr Fr' → SimC K Pr Fr' f st H' → RepX K Pr Fr' f H' z w → Q w H') : rSlAny K v lo hi H Q := by
  unfold opSl at o
  split at o
  · cases (show v = _ from r1)
    exact .inl ⟨_, rfl, o.1, q _ _ Fr H o.2 (Same.refl _) S rfl⟩
  · rename_i ds
    obtain ⟨a, xs, rfl, h1, r1⟩ := r1
    refine .inr (.inl ⟨a, xs, rfl, S.frT h1, fun e => ?_, fun _ p hp => ?_⟩)
    · refine q _ _ Fr H o (Same.refl _) S ⟨a, xs, rfl, h1, ?_⟩
      rw [← r1.length] at e
      rw [cutD_whole e]
      exact r1
    · obtain ⟨sm, S', rx⟩ := lay_tup S hp (r1.cut lo hi)
      exact q _ _ _ _ o sm S' rx
  · obtain ⟨a, xs, rfl, h1, r1⟩ := r1
    refine .inr (.inr ⟨a, xs, rfl, S.frL h1, fun p hp => ?_⟩)
    obtain ⟨S', rx⟩ := lay_lst S hp (r1.cut lo hi)
    exact q _ _ _ _ o (Same.refl _) S' rx
  · split at o
    · rename_i ds e
      obtain ⟨a, xs, rfl, h1, r1⟩ := listOf_rep S e r1
      refine .inr (.inr ⟨a, xs, rfl, .inl (.inl h1), fun p hp => ?_⟩)
      obtain ⟨S', rx⟩ := lay_lst S hp (r1.cut lo hi)
      exact q _ _ _ _ o (Same.refl _) S' rx
    · exact o.elim

/-! ### truth -/
def opTru : Sto → D → (Bool → Prop) → Prop := fun st x k => match x with
  | .non => k false
  | .bl b => k b
  | .int i => k (i != 0)
  | .str z => z.length ≤ sizeLine ∧ k ((z.length : Int) != 0)
  | x => match seqOf st x with
    | some ds => k (!ds.isEmpty)
    | none => match dicOf st x with
      | some kvs => k (!kvs.isEmpty)
      | none => False
theorem tru_rep {K : PySem.W.Frag} {Fr : Hp} {f : List Addr} {st : Sto} {H : Hp} {x : D} {v : V} {k : Bool → Prop} (S : SimC K Pr Fr f st H) (r1 : Rep K Fr f x v) (o : opTru st x k) : ∃ b, TruV K v H b ∧ k b := by
  unfold opTru at o
  split at o
  · cases (show v = _ from r1); exact ⟨_, rfl, o⟩
  · cases (show v = _ from r1); exact ⟨_, rfl, o⟩
  · cases (show v = _ from r1); exact ⟨_, rfl, o⟩
  · cases (show v = _ from r1); exact ⟨_, ⟨o.1, rfl⟩, o.2⟩
  · split at o
    · rename_i ds e
      obtain ⟨a, vs, rfl, h1, r⟩ := seqOf_rep S e r1
      have e : ds.isEmpty = vs.isEmpty := by
        have := r.length
        cases ds <;> cases vs <;> simp_all
      rcases h1 with h1 | h1
      · exact ⟨_, .inl ⟨vs, h1, rfl⟩, by rw [← e]; exact o⟩
      · exact ⟨_, .inr (.inl ⟨vs, h1, rfl⟩), by rw [← e]; exact o⟩
    · split at o
      · rename_i kvs e
        obtain ⟨a, us, rfl, h1, r⟩ := dicOf_rep S e r1
        have e : kvs.isEmpty = us.isEmpty := by
          have := r.length
          cases kvs <;> cases us <;> simp_all
        exact ⟨_, .inr (.inr ⟨us, h1, rfl⟩), by rw [← e]; exact o⟩
      · exact o.elim
end DW

/-! DW5: the rules for expressions. -/
namespace DW
open PySem PySem.Spec PyProof.Rows L2

section
variable {X : Cx} {W : WX} {a b c e o i : Expr} {es rest : List Expr} {da db dc dx : DE} {ds : DA} {pos p1 p2 p3 : Pos}

/-! ### operators -/
theorem de_bin {op : Operator} {r : R2} {f : Sto → D → D → (D → Prop) → Prop} (hr : OpR X (binaryOp op) r) (ho : OpD X.K r f) (ha : PE X a (liftE X.K W da)) (hb : PE X b (liftE X.K W db)) : PE X (.BinOp a op b pos) (liftE X.K W (dOp f da db)) :=
  PEimp (pe_op hr ha hb) (lift_op ho)
theorem de_cmp {op : CmpOp} {r : R2} {f : Sto → D → D → (D → Prop) → Prop} (hr : OpR X (compareOp op) r) (ho : OpD X.K r f) (ha : PE X a (liftE X.K W da)) (hb : PE X b (liftE X.K W db)) (hm : behindInMarks op b = false) : PE X (.Compare a [op] [b] pos) (liftE X.K W (dOp f da db)) :=
  PEimp (pe_cmpR hr ha hb hm) (lift_op ho)
theorem de_ix (hu : X.A.units + 64 < cLine) (ha : PE X a (liftE X.K W da)) (hb : PE X b (liftE X.K W db)) (hs : PlainIx b) : PE X (.Subscript a b pos) (liftE X.K W (dOp opIx da db)) :=
  PEimp (pe_ix (xr_any hu) ha hb hs) (lift_op od_ix)
def dNeg (da : DE) : DE := fun Ed env st Q => da Ed env st fun x st1 => match x with
  | .int i => Q (.int (-i)) st1
  | _ => False
theorem de_neg (ha : PE X a (liftE X.K W da)) : PE X (.UnaryOp .USub a pos) (liftE X.K W (dNeg da)) := PEimp (pe_un un_neg ha) fun σ H Q q => by
  obtain ⟨Ed, Pr, Fr, f, env, st, Q0, A, d, k⟩ := q
  refine ⟨Ed, Pr, Fr, f, env, st, _, A, d, fun x st1 h1 v Fr1 f1 H1 s1 p1 S1 r1 => ?_⟩
  split at h1
  · cases (show v = _ from r1)
    exact ⟨_, rfl, k _ _ h1 _ Fr1 f1 H1 s1 p1 S1 rfl⟩
  · exact h1.elim

/-! ### displays, arguments -/
def dNil : DA := fun _ _ st Q => Q [] st
def dCons (bx : Bool) (da : DE) (ds : DA) : DA := fun Ed env st Q => da Ed env st fun x st1 => ds Ed env (keep bx st1 x).2 fun xs st2 => Q ((keep bx st1 x).1 :: xs) st2
theorem da_nil : PA X [] (liftA X.K W dNil) := PAimp pa_nil fun σ H Q q => by
  obtain ⟨Ed, Pr, Fr, f, env, st, Q0, A, d, k⟩ := q
  exact k _ _ d _ Fr f H (Same.refl _) (List.prefix_refl _) A.toSim rfl
theorem da_cons (bx : Bool) (ha : PE X e (liftE X.K W da)) (hr : PA X es (liftA X.K W ds)) (hs : starEach (e :: es) X.env = (false, eval e X.env) :: starEach es X.env := by rfl) : PA X (e :: es) (liftA X.K W (dCons bx da ds)) := PAimp (pa_cons ha hr hs) fun σ H Q q => by
  obtain ⟨Ed, Pr, Fr, f, env, st, Q0, A, d, k⟩ := q
  refine ⟨Ed, Pr, Fr, f, env, st, _, A, d, fun x st1 h1 v Fr1 f1 H1 s1 p1 S1 r1 => ?_⟩
  obtain ⟨Fr2, f2, s2, p2, C2, r2⟩ := r1.keep bx S1.toSimC
  have A2 := A.up (s1.trans s2) (p1.trans p2) (S1.up s2 p2 C2)
  refine ⟨Ed, Pr, Fr2, f2, env, _, _, A2, h1, fun xs st2 h2 vs Fr3 f3 H3 s3 p3 S3 r3 => ?_⟩
  exact k _ _ h2 _ Fr3 f3 H3 ((s1.trans s2).trans s3) ((p1.trans p2).trans p3) S3 ⟨v, vs, rfl, Rep.mono s3 p3 _ _ r2, r3⟩
theorem liftA1 {K : PySem.W.Frag} {W : WX} {ds : DA} {σ : L2.St} {H : Hp} {Ed : EdT} {Fr : Hp} {f : List Addr} {env : Slots} {st : Sto} {R : List D → Sto → Prop} {Q : List V → Hp → Prop} (A : At K W Ed Pr Fr f env st σ H)
    (h : ds Ed env st R)
    (k : ∀ xs st1 vs Fr' f' H', R xs st1 → Same Fr Fr' → f <+: f' → Sim K Pr Fr' f' env st1 σ H' → Reps K Fr' f' xs vs → Q vs H') : liftA K W ds σ H Q :=
  ⟨Ed, Pr, Fr, f, env, st, _, A, h, fun xs st1 h1 vs Fr1 f1 H1 s1 p1 S1 r1 => k _ _ _ _ _ _ h1 s1 p1 S1 r1⟩
def dTup (ds : DA) : DE := fun Ed env st Q => ds Ed env st fun xs st1 => xs.length ≤ sizeLine ∧ Q (.tup xs) st1
def dLst (ds : DA) : DE := fun Ed env st Q => ds Ed env st fun xs st1 => xs.length ≤ sizeLine ∧ Q (.tl xs) st1
theorem de_tup {k} (h : PA X es (liftA X.K W ds)) : PE X (.Tuple es k pos) (liftE X.K W (dTup ds)) := PEimp (pe_tup h) fun σ H Q q => by
  obtain ⟨Ed, Pr, Fr, f, env, st, Q0, A, d, k⟩ := q
  refine liftA1 A d fun xs st1 vs Fr1 f1 H1 h1 s1 p1 S1 r1 => ⟨by rw [← r1.length]; exact h1.1, fun p hp => ?_⟩
  obtain ⟨sm, S', rx⟩ := lay_tup S1.toSimC hp r1
  exact k _ _ h1.2 _ _ f1 _ (s1.trans sm) p1 (S1.up sm (List.prefix_refl _) S') rx
theorem de_lst (h : PA X es (liftA X.K W ds)) : PE X (.List es pos) (liftE X.K W (dLst ds)) := PEimp (pe_lst h) fun σ H Q q => by
  obtain ⟨Ed, Pr, Fr, f, env, st, Q0, A, d, k⟩ := q
  refine liftA1 A d fun xs st1 vs Fr1 f1 H1 h1 s1 p1 S1 r1 => ⟨by rw [← r1.length]; exact h1.1, fun p hp => ?_⟩
  obtain ⟨S', rx⟩ := lay_lst S1.toSimC hp r1
  exact k _ _ h1.2 _ _ f1 _ s1 p1 (S1.up (Same.refl _) (List.prefix_refl _) S') rx
/-- {} -/
def dDic0 : DE := fun _ _ st Q => Q (.td [] []) st
theorem de_dic0 : PE X (.Dict [] [] pos) (liftE X.K W dDic0) := PEimp pe_dnewK fun σ H Q q => by
  obtain ⟨Ed, Pr, Fr, f, env, st, Q0, A, d, k⟩ := q
  intro p hp
  obtain ⟨S', rx⟩ := lay_dic (ks := []) (ds := []) (kvs := []) A.toSimC hp rfl rfl
  exact k _ _ d _ _ f _ (Same.refl _) (List.prefix_refl _) (A.toSim.up (Same.refl _) (List.prefix_refl _) S') rx

/-! ### slices -/
def oNone : DO := fun _ _ st Q => Q none st
def oSome (de : DE) : DO := fun Ed env st Q => de Ed env st fun x st1 => match x with
  | .int i => Q (some i) st1
  | _ => False
theorem do_none : PO X none (liftO X.K W oNone) := ⟨fun pins s σ H Q I q => po_none.run pins s σ H Q I (by
  obtain ⟨Ed, Pr, Fr, f, env, st, Q0, A, d, k⟩ := q
  exact k _ _ d Fr f H (Same.refl _) (List.prefix_refl _) A.toSim)⟩
theorem do_some (h : PE X e (liftE X.K W dx)) : PO X (some e) (liftO X.K W (oSome dx)) := ⟨fun pins s σ H Q I q => (po_some h).run pins s σ H Q I (by
  obtain ⟨Ed, Pr, Fr, f, env, st, Q0, A, d, k⟩ := q
  refine ⟨Ed, Pr, Fr, f, env, st, _, A, d, fun x st1 h1 v Fr1 f1 H1 s1 p1 S1 r1 => ?_⟩
  split at h1
  · cases (show v = _ from r1)
    exact ⟨_, rfl, k _ _ h1 Fr1 f1 H1 s1 p1 S1⟩
  · exact h1.elim)⟩
theorem liftO1 {K : PySem.W.Frag} {W : WX} {d : DO} {σ : L2.St} {H : Hp} {Ed : EdT} {Fr : Hp} {f : List Addr} {env : Slots} {st : Sto} {R : Option Int → Sto → Prop} {Q : Option Int → Hp → Prop} (A : At K W Ed Pr Fr f env st σ H)
    (h : d Ed env st R) (k : ∀ x st1 Fr' f' H', R x st1 → Same Fr Fr' → f <+: f' → Sim K Pr Fr' f' env st1 σ H' → Q x H') : liftO K W d σ H Q :=
  ⟨Ed, Pr, Fr, f, env, st, _, A, h, fun x st1 h1 Fr1 f1 H1 s1 p1 S1 => k _ _ _ _ _ h1 s1 p1 S1⟩
theorem de_slice {lo hi : Option Expr} {dl dh : DO} (he : PE X e (liftE X.K W dx)) (hl : PO X lo (liftO X.K W dl)) (hh : PO X hi (liftO X.K W dh)) : PE X (.Subscript e (.Slice lo hi none p2) pos) (liftE X.K W (dSl dx dl dh)) :=
  PEimp (pe_slice sr_any he hl hh) fun σ H Q q => by
  obtain ⟨Ed, Pr, Fr, f, env, st, Q0, A, d, k⟩ := q
  refine lift1 (R := fun x st1 => dl Ed env st1 fun l st2 => dh Ed env st2 fun h st3 => opSl st3 x l h fun z => Q0 z st3) A d fun x st1 v Fr1 f1 H1 h1 s1 p1 S1 r1 => ?_
  have A1 := A.up s1 p1 S1
  refine liftO1 A1 h1 fun l st2 Fr2 f2 H2 h2 s2 p2 S2 => ?_
  refine liftO1 (A1.up s2 p2 S2) h2 fun hh st3 Fr3 f3 H3 h3 s3 p3 S3 => ?_
  exact sl_rep S3.toSimC (Rep.mono (s2.trans s3) (p2.trans p3) _ _ r1) h3 fun z w Fr4 H4 hz s4 S4 rz => k _ _ hz w Fr4 f3 H4 (((s1.trans s2).trans s3).trans s4) ((p1.trans p2).trans p3) (S3.up s4 (List.prefix_refl _) S4) rz
def dRev (da : DE) : DE := fun Ed env st Q => da Ed env st fun x st1 => match x with
  | .sl ds => Q (.tl ds.reverse) st1
  | x => match lisOf st1 (frz x) with
    | some ds => Q (.tl ds.reverse) st1
    | none => False
theorem de_rev {k : Nat} (ha : PE X a (liftE X.K W da)) : PE X (.Subscript a (.Slice none none (some (.UnaryOp .USub (.Constant (.int 1) k p1) p2)) p3) pos) (liftE X.K W (dRev da)) := PEimp (pe_revL ha) fun σ H Q q => by
  obtain ⟨Ed, Pr, Fr, f, env, st, Q0, A, d, k⟩ := q
  refine ⟨Ed, Pr, Fr, f, env, st, _, A, d, fun x st1 h1 v Fr1 f1 H1 s1 p1 S1 r1 => ?_⟩
  split at h1
  · obtain ⟨l, vs, rfl, h2, r⟩ := r1
    refine ⟨l, vs, rfl, S1.frL h2, fun p hp => ?_⟩
    obtain ⟨S', rx⟩ := lay_lst S1.toSimC hp r.reverse
    exact k _ _ h1 _ _ f1 _ s1 p1 (S1.up (Same.refl _) (List.prefix_refl _) S') rx
  · split at h1
    · rename_i ds e
      obtain ⟨Fr2, C2, s2, r2⟩ := r1.frz S1.toSimC
      obtain ⟨l, vs, rfl, h2, r⟩ := listOf_rep C2 e r2
      refine ⟨l, vs, rfl, .inl (.inl h2), fun p hp => ?_⟩
      obtain ⟨S', rx⟩ := lay_lst C2 hp r.reverse
      exact k _ _ h1 _ _ f1 _ (s1.trans s2) p1 (S1.up s2 (List.prefix_refl _) S') rx
    · exact h1.elim

/-! ### tests -/
def dTruth (da : DE) : DT := fun Ed env st Q => da Ed env st fun x st1 => opTru st1 (frz x) fun b => Q b st1
theorem lift_tru {K : PySem.W.Frag} (σ : L2.St) (H : Hp) (Q : Bool → Hp → Prop) (q : liftT K W (dTruth da) σ H Q) : liftE K W da σ H fun x H' => ∃ k, TruV K x H' k ∧ Q k H' := by
  obtain ⟨Ed, Pr, Fr, f, env, st, Q0, A, d, k⟩ := q
  refine lift1 (R := fun x st1 => opTru st1 x fun b => Q0 b st1) A d fun x st1 v Fr1 f1 H1 h1 s1 p1 S1 r1 => ?_
  obtain ⟨b, hb, h2⟩ := tru_rep S1.toSimC r1 h1
  exact ⟨b, hb, k _ _ h2 Fr1 f1 H1 s1 p1 S1⟩
/-- a name, a call, a subscript .. as a test -/
theorem dt_tru (ha : PE X a (liftE X.K W da)) (he : ∀ whole, isTrue a X.env whole = (do let v ← whole; standAt a.pos; holding [v] (truthy v)) := by intro _; rfl) : PT X a (liftT X.K W (dTruth da)) := PTimp (pt_truth ha he) lift_tru
def dBool (da : DE) : DT := fun Ed env st Q => da Ed env st fun x st1 => match x with
  | .bl b => Q b st1
  | _ => False
theorem lift_bool {K : PySem.W.Frag} (σ : L2.St) (H : Hp) (Q : Bool → Hp → Prop) (q : liftT K W (dBool da) σ H Q) : liftE K W da σ H fun x H' => ∃ k, x = .bl k ∧ Q k H' := by
  obtain ⟨Ed, Pr, Fr, f, env, st, Q0, A, d, k⟩ := q
  refine ⟨Ed, Pr, Fr, f, env, st, _, A, d, fun x st1 h1 v Fr1 f1 H1 s1 p1 S1 r1 => ?_⟩
  split at h1
  · cases (show v = _ from r1)
    exact ⟨_, rfl, k _ _ h1 Fr1 f1 H1 s1 p1 S1⟩
  · exact h1.elim
theorem dt_cmp {op : CmpOp} {r : R2} {f : Sto → D → D → (D → Prop) → Prop} (hr : OpR X (compareOp op) r) (ho : OpD X.K r f) (ha : PE X a (liftE X.K W da)) (hb : PE X b (liftE X.K W db)) (hm : behindInMarks op b = false) : PT X (.Compare a [op] [b] pos) (liftT X.K W (dBool (dOp f da db))) :=
  PTimp (pt_cmpR hr ha hb hm) fun σ H Q q => by
  obtain ⟨Ed, Pr, Fr, f, env, st, Q0, A, d, k⟩ := q
  refine lift_op ho σ H _ ⟨Ed, Pr, Fr, f, env, st, _, A, d, fun x st1 h1 v Fr1 f1 H1 s1 p1 S1 r1 => ?_⟩
  split at h1
  · cases (show v = _ from r1)
    exact ⟨_, rfl, k _ _ h1 Fr1 f1 H1 s1 p1 S1⟩
  · exact h1.elim
def dAnd (t u : DT) : DT := fun Ed env st Q => t Ed env st fun c st1 => if c = true then u Ed env st1 Q else Q false st1
def dOr (t u : DT) : DT := fun Ed env st Q => t Ed env st fun c st1 => if c = true then Q true st1 else u Ed env st1 Q
def dNot (t : DT) : DT := fun Ed env st Q => t Ed env st fun c st1 => Q (!c) st1
variable {t u : DT}
theorem dw_one (h : PW X e (liftT X.K W t)) : PT X e (liftT X.K W t) := h.pt
theorem dw_and1 (ha : PT X a (liftT X.K W t)) : PW X (.BoolOp .And [a] pos) (liftT X.K W t) := pw_and1 ha
theorem dw_or1 (ha : PT X a (liftT X.K W t)) : PW X (.BoolOp .Or [a] pos) (liftT X.K W t) := pw_or1 ha
theorem dw_and (ha : PT X a (liftT X.K W t)) (hb : PW X (.BoolOp .And (b :: rest) pos) (liftT X.K W u)) : PW X (.BoolOp .And (a :: b :: rest) pos) (liftT X.K W (dAnd t u)) := PWimp (pw_and ha hb) fun σ H Q q => by
  obtain ⟨Ed, Pr, Fr, f, env, st, Q0, A, d, k⟩ := q
  refine ⟨Ed, Pr, Fr, f, env, st, _, A, d, fun x st1 h1 Fr1 f1 H1 s1 p1 S1 => ?_⟩
  cases x with
  | true => exact ⟨Ed, Pr, Fr1, f1, env, st1, _, A.up s1 p1 S1, h1, fun y st2 h2 Fr2 f2 H2 s2 p2 S2 => k _ _ h2 Fr2 f2 H2 (s1.trans s2) (p1.trans p2) S2⟩
  | false => exact k _ _ h1 Fr1 f1 H1 s1 p1 S1
theorem dw_or (ha : PT X a (liftT X.K W t)) (hb : PW X (.BoolOp .Or (b :: rest) pos) (liftT X.K W u)) : PW X (.BoolOp .Or (a :: b :: rest) pos) (liftT X.K W (dOr t u)) := PWimp (pw_or ha hb) fun σ H Q q => by
  obtain ⟨Ed, Pr, Fr, f, env, st, Q0, A, d, k⟩ := q
  refine ⟨Ed, Pr, Fr, f, env, st, _, A, d, fun x st1 h1 Fr1 f1 H1 s1 p1 S1 => ?_⟩
  cases x with
  | true => exact k _ _ h1 Fr1 f1 H1 s1 p1 S1
  | false => exact ⟨Ed, Pr, Fr1, f1, env, st1, _, A.up s1 p1 S1, h1, fun y st2 h2 Fr2 f2 H2 s2 p2 S2 => k _ _ h2 Fr2 f2 H2 (s1.trans s2) (p1.trans p2) S2⟩
theorem dt_not (ha : PT X a (liftT X.K W t)) : PT X (.UnaryOp .Not a pos) (liftT X.K W (dNot t)) := PTimp (pt_not ha) fun σ H Q q => by
  obtain ⟨Ed, Pr, Fr, f, env, st, Q0, A, d, k⟩ := q
  exact ⟨Ed, Pr, Fr, f, env, st, _, A, d, fun x st1 h1 Fr1 f1 H1 s1 p1 S1 => k _ _ h1 Fr1 f1 H1 s1 p1 S1⟩
/-! as values -/
def dAndV (da db : DE) : DE := fun Ed env st Q => da Ed env st fun x st1 => opTru st1 (frz x) fun b => if b = true then db Ed env st1 Q else Q (frz x) st1
def dOrV (da db : DE) : DE := fun Ed env st Q => da Ed env st fun x st1 => opTru st1 (frz x) fun b => if b = true then Q (frz x) st1 else db Ed env st1 Q
def dNotV (t : DE) : DE := fun Ed env st Q => t Ed env st fun x st1 => opTru st1 (frz x) fun b => Q (.bl (!b)) st1
theorem de_one {op} (ha : PE X a (liftE X.K W da)) : PE X (.BoolOp op [a] pos) (liftE X.K W da) := pe_one ha
theorem de_and (ha : PE X a (liftE X.K W da)) (hb : PE X (.BoolOp .And (b :: rest) pos) (liftE X.K W db)) : PE X (.BoolOp .And (a :: b :: rest) pos) (liftE X.K W (dAndV da db)) := PEimp (pe_andT ha hb) fun σ H Q q => by
  obtain ⟨Ed, Pr, Fr, f, env, st, Q0, A, d, k⟩ := q
  refine lift1 (R := fun x st1 => opTru st1 x fun b => if b = true then db Ed env st1 Q0 else Q0 x st1) A d fun x st1 v Fr1 f1 H1 h1 s1 p1 S1 r1 => ?_
  obtain ⟨b, hb, h2⟩ := tru_rep S1.toSimC r1 h1
  refine ⟨b, hb, ?_⟩
  cases b with
  | true => exact ⟨Ed, Pr, Fr1, f1, env, st1, _, A.up s1 p1 S1, h2, fun y st2 h2 w Fr2 f2 H2 s2 p2 S2 r2 => k _ _ h2 w Fr2 f2 H2 (s1.trans s2) (p1.trans p2) S2 r2⟩
  | false => exact k _ _ h2 v Fr1 f1 H1 s1 p1 S1 (.of r1)
theorem de_or (ha : PE X a (liftE X.K W da)) (hb : PE X (.BoolOp .Or (b :: rest) pos) (liftE X.K W db)) : PE X (.BoolOp .Or (a :: b :: rest) pos) (liftE X.K W (dOrV da db)) := PEimp (pe_orT ha hb) fun σ H Q q => by
  obtain ⟨Ed, Pr, Fr, f, env, st, Q0, A, d, k⟩ := q
  refine lift1 (R := fun x st1 => opTru st1 x fun b => if b = true then Q0 x st1 else db Ed env st1 Q0) A d fun x st1 v Fr1 f1 H1 h1 s1 p1 S1 r1 => ?_
  obtain ⟨b, hb, h2⟩ := tru_rep S1.toSimC r1 h1
  refine ⟨b, hb, ?_⟩
  cases b with
  | true => exact k _ _ h2 v Fr1 f1 H1 s1 p1 S1 (.of r1)
  | false => exact ⟨Ed, Pr, Fr1, f1, env, st1, _, A.up s1 p1 S1, h2, fun y st2 h2 w Fr2 f2 H2 s2 p2 S2 r2 => k _ _ h2 w Fr2 f2 H2 (s1.trans s2) (p1.trans p2) S2 r2⟩
theorem de_not (ha : PE X a (liftE X.K W da)) : PE X (.UnaryOp .Not a pos) (liftE X.K W (dNotV da)) := PEimp (pe_notT ha) fun σ H Q q => by
  obtain ⟨Ed, Pr, Fr, f, env, st, Q0, A, d, k⟩ := q
  refine lift1 (R := fun x st1 => opTru st1 x fun b => Q0 (.bl (!b)) st1) A d fun x st1 v Fr1 f1 H1 h1 s1 p1 S1 r1 => ?_
  obtain ⟨b, hb, h2⟩ := tru_rep S1.toSimC r1 h1
  exact ⟨b, hb, k _ _ h2 _ Fr1 f1 H1 s1 p1 S1 rfl⟩
def dIf (t : DT) (da db : DE) : DE := fun Ed env st Q => t Ed env st fun c st1 => if c = true then da Ed env st1 Q else db Ed env st1 Q
theorem de_if {c : Expr} (hc : PT X c (liftT X.K W t)) (ha : PE X a (liftE X.K W da)) (hb : PE X b (liftE X.K W db)) : PE X (.IfExp c a b pos) (liftE X.K W (dIf t da db)) := PEimp (pe_ifExp hc ha hb) fun σ H Q q => by
  obtain ⟨Ed, Pr, Fr, f, env, st, Q0, A, d, k⟩ := q
  refine ⟨Ed, Pr, Fr, f, env, st, _, A, d, fun x st1 h1 Fr1 f1 H1 s1 p1 S1 => ?_⟩
  cases x with
  | true => exact ⟨Ed, Pr, Fr1, f1, env, st1, _, A.up s1 p1 S1, h1, fun y st2 h2 w Fr2 f2 H2 s2 p2 S2 r2 => k _ _ h2 w Fr2 f2 H2 (s1.trans s2) (p1.trans p2) S2 r2⟩
  | false => exact ⟨Ed, Pr, Fr1, f1, env, st1, _, A.up s1 p1 S1, h1, fun y st2 h2 w Fr2 f2 H2 s2 p2 S2 r2 => k _ _ h2 w Fr2 f2 H2 (s1.trans s2) (p1.trans p2) S2 r2⟩
end
end DW

/-! DW6: built-in functions and methods. -/
namespace DW
open PySem PySem.Spec PyProof.Rows L2

/-- a call of a built-in does what op does on data; the store stays -/
def CallD (K : PySem.W.Frag) (r : List V → Hp → VK → Prop) (op : Sto → List D → (D → Prop) → Prop) : Prop :=
  ∀ (Pr Fr : Hp) (f : List Addr) (st : Sto) (H : Hp) (xs : List D) (vs : List V) (k : D → Prop) (Q : VK), SimC K Pr Fr f st H → Reps K Fr f xs vs → op st xs k →
    (∀ z w Fr' H', k z → Same Fr Fr' → SimC K Pr Fr' f st H' → RepX K Pr Fr' f H' z w → Q w H') → r vs H Q
def dCB (op : Sto → List D → (D → Prop) → Prop) (ds : DA) : DE := fun Ed env st Q => ds Ed env st fun xs st1 => op st1 xs fun z => Q z st1
theorem lift_cb {K : PySem.W.Frag} {W : WX} {r : List V → Hp → VK → Prop} {op : Sto → List D → (D → Prop) → Prop} {ds : DA} (ho : CallD K r op) (σ : L2.St) (H : Hp) (Q : VK) (q : liftE K W (dCB op ds) σ H Q) : tCB r (liftA K W ds) σ H Q := by
  obtain ⟨Ed, Pr, Fr, f, env, st, Q0, A, d, k⟩ := q
  refine liftA1 A d fun xs st1 vs Fr1 f1 H1 h1 s1 p1 S1 r1 => ?_
  exact ho Pr Fr1 f1 st1 H1 xs vs _ Q S1.toSimC r1 h1 fun z w Fr2 H2 hz s2 C2 rz => k z st1 hz w Fr2 f1 H2 (s1.trans s2) p1 (S1.up s2 (List.prefix_refl _) C2) rz
section
variable {X : Cx} {W : WX} {e : Expr} {es : List Expr} {ds : DA} {x : Str} {p pos : Pos} {id T : String} {r : List V → Hp → VK → Prop} {op : Sto → List D → (D → Prop) → Prop}
theorem de_callB (hc : CallR X (.builtin id) r) (ho : CallD X.K r op) (hg : Gl X x) (hm : X.mg x = none) (hv : bootBuiltins x = some (.builtin id)) (ha : PA X (e :: es) (liftA X.K W ds)) (hn : x ≠ "__name__" := by decide) (hdb : (x == ("__debug__" : Str)) = false := by decide)
    (he : starEach (e :: es) X.env = (false, eval e X.env) :: starEach es X.env := by rfl) (hpl : (backTo pos (starEach es X.env)).any (·.1) = false := by rfl) : PE X (.Call (.Name x p) (e :: es) [] pos) (liftE X.K W (dCB op ds)) :=
  PEimp (pe_callB hc hg hm hv ha hn hdb he hpl) (lift_cb ho)
theorem de_callTy (hc : CallR X (.type T) r) (ho : CallD X.K r op) (hg : Gl X x) (hm : X.mg x = none) (hv : bootBuiltins x = some (.type T)) (ha : PA X (e :: es) (liftA X.K W ds)) (hn : x ≠ "__name__" := by decide) (hdb : (x == ("__debug__" : Str)) = false := by decide)
    (he : starEach (e :: es) X.env = (false, eval e X.env) :: starEach es X.env := by rfl) (hpl : (backTo pos (starEach es X.env)).any (·.1) = false := by rfl) : PE X (.Call (.Name x p) (e :: es) [] pos) (liftE X.K W (dCB op ds)) :=
  PEimp (pe_callTy hc hg hm hv ha hn hdb he hpl) (lift_cb ho)
end

/-! abs, max, min of two -/
def opAbs : Sto → List D → (D → Prop) → Prop := fun _ xs k => match xs with
  | [.int i] => k (.int (if i < 0 then -i else i))
  | _ => False
theorem cd_abs {K : PySem.W.Frag} : CallD K (fun xs H Q => ∃ i, xs = [.int i] ∧ Q (.int (if i < 0 then -i else i)) H) opAbs := by
  intro Pr Fr f st H xs vs k Q S r o q
  unfold opAbs at o
  split at o
  · obtain ⟨v, rfl, r1⟩ := r.one
    cases (show v = _ from r1)
    exact ⟨_, rfl, q _ _ Fr H o (Same.refl _) S rfl⟩
  · exact o.elim
def op2I (g : Int → Int → Int) : Sto → List D → (D → Prop) → Prop := fun _ xs k => match xs with
  | [.int i, .int j] => k (.int (g i j))
  | _ => False
theorem cd_2I {K : PySem.W.Frag} {g : Int → Int → Int} : CallD K (fun xs H Q => ∃ i j, xs = [.int i, .int j] ∧ Q (.int (g i j)) H) (op2I g) := by
  intro Pr Fr f st H xs vs k Q S r o q
  unfold op2I at o
  split at o
  · obtain ⟨v, u, rfl, r1, r2⟩ := r.two
    cases (show v = _ from r1); cases (show u = _ from r2)
    exact ⟨_, _, rfl, q _ _ Fr H o (Same.refl _) S rfl⟩
  · exact o.elim
abbrev opMax2 := op2I fun i j => if j > i then j else i
abbrev opMin2 := op2I fun i j => if j < i then j else i
/-! int, str, ord, chr, len -/
def rIntAny : List V → Hp → VK → Prop := fun xs H Q => ((∃ i, xs = [V.int i] ∧ Q (.int i) H) ∨ ∃ k, xs = [V.bl k] ∧ Q (.int (if k then 1 else 0)) H) ∨ ∃ a n, xs = [V.str a] ∧ PySem.intText? a = some n ∧ a.length ≤ 640 ∧ Q (.int n) H
theorem cr_int {X : Cx} : CallR X (.type "int") rIntAny := call_int1.or call_int_str
def opInt : Sto → List D → (D → Prop) → Prop := fun _ xs k => match xs with
  | [.int i] => k (.int i)
  | [.bl b] => k (.int (if b then 1 else 0))
  | [.str a] => a.length ≤ 640 ∧ (match PySem.intText? a with
    | some n => k (.int n)
    | none => False)
  | _ => False
theorem cd_int {K : PySem.W.Frag} : CallD K rIntAny opInt := by
  intro Pr Fr f st H xs vs k Q S r o q
  unfold opInt at o
  split at o
  · obtain ⟨v, rfl, r1⟩ := r.one; cases (show v = _ from r1)
    exact .inl (.inl ⟨_, rfl, q _ _ Fr H o (Same.refl _) S rfl⟩)
  · obtain ⟨v, rfl, r1⟩ := r.one; cases (show v = _ from r1)
    exact .inl (.inr ⟨_, rfl, q _ _ Fr H o (Same.refl _) S rfl⟩)
  · obtain ⟨v, rfl, r1⟩ := r.one; cases (show v = _ from r1)
    obtain ⟨o1, o⟩ := o
    split at o
    · rename_i n e
      exact .inr ⟨_, n, rfl, e, o1, q _ _ Fr H o (Same.refl _) S rfl⟩
    · exact o.elim
  · exact o.elim
def opStrI : Sto → List D → (D → Prop) → Prop := fun _ xs k => match xs with
  | [.int i] => i.natAbs.log2 < 1920 ∧ k (.str (toString i))
  | _ => False
theorem cd_strI {K : PySem.W.Frag} : CallD K (fun xs H Q => ∃ i, xs = [.int i] ∧ i.natAbs.log2 < 1920 ∧ Q (.str (toString i)) H) opStrI := by
  intro Pr Fr f st H xs vs k Q S r o q
  unfold opStrI at o
  split at o
  · obtain ⟨v, rfl, r1⟩ := r.one; cases (show v = _ from r1)
    exact ⟨_, rfl, o.1, q _ _ Fr H o.2 (Same.refl _) S rfl⟩
  · exact o.elim
def opOrd : Sto → List D → (D → Prop) → Prop := fun _ xs k => match xs with
  | [.str x] => x.length = 1 ∧ k (.int (x.cps.getD 0 0 : Nat))
  | _ => False
theorem cd_ord {K : PySem.W.Frag} : CallD K (fun xs H Q => ∃ x, xs = [.str x] ∧ x.length = 1 ∧ Q (.int (x.cps.getD 0 0 : Nat)) H) opOrd := by
  intro Pr Fr f st H xs vs k Q S r o q
  unfold opOrd at o
  split at o
  · obtain ⟨v, rfl, r1⟩ := r.one; cases (show v = _ from r1)
    exact ⟨_, rfl, o.1, q _ _ Fr H o.2 (Same.refl _) S rfl⟩
  · exact o.elim
def rLenAny (K : PySem.W.Frag) : List V → Hp → VK → Prop := fun xs H Q => (∃ p ys, xs = [V.ref p] ∧ (SqL K H p ys ∨ SqT K H p ys) ∧ Q (.int ys.length) H) ∨ (∃ z, xs = [V.str z] ∧ z.length ≤ sizeLine ∧ Q (.int z.length) H) ∨
  ∃ a kvs, xs = [V.ref a] ∧ Rd H a (.dK kvs) ∧ Q (.int kvs.length) H
theorem call_len_dic {X : Cx} : CallR X (.builtin "len") (fun xs H Q => ∃ a kvs, xs = [V.ref a] ∧ Rd H a (.dK kvs) ∧ Q (.int kvs.length) H) := by
  intro pins s σ H xs us Q I r h
  obtain ⟨a, kvs, rfl, e, q⟩ := h
  rw [Vals.ref1 r]
  exact d_len I e fun t s' I' => ⟨.int _, H, I', ⟨_, rfl⟩, q⟩
theorem cr_len {X : Cx} : CallR X (.builtin "len") (rLenAny X.K) := call_len_seq.or (call_len_str.or call_len_dic)
def opLen : Sto → List D → (D → Prop) → Prop := fun st xs k => match xs with
  | [.str z] => z.length ≤ sizeLine ∧ k (.int z.length)
  | [x] => (match seqOf st x with
    | some ds => k (.int ds.length)
    | none => match dicOf st x with
      | some kvs => k (.int kvs.length)
      | none => False)
  | _ => False
theorem cd_len {K : PySem.W.Frag} : CallD K (rLenAny K) opLen := by
  intro Pr Fr f st H xs vs k Q S r o q
  unfold opLen at o
  split at o
  · obtain ⟨v, rfl, r1⟩ := r.one; cases (show v = _ from r1)
    exact .inr (.inl ⟨_, rfl, o.1, q _ _ Fr H o.2 (Same.refl _) S rfl⟩)
  · obtain ⟨v, rfl, r1⟩ := r.one
    split at o
    · rename_i ds e
      obtain ⟨a, ys, rfl, h1, r⟩ := seqOf_rep S e r1
      exact .inl ⟨a, ys, rfl, h1, by rw [← r.length]; exact q _ _ Fr H o (Same.refl _) S rfl⟩
    · split at o
      · rename_i kvs e
        obtain ⟨a, us, rfl, h1, r⟩ := dicOf_rep S e r1
        exact .inr (.inr ⟨a, us, rfl, .inl h1, by rw [r.length]; exact q _ _ Fr H o (Same.refl _) S rfl⟩)
      · exact o.elim
  · exact o.elim
/-! divmod of a written or small divisor; the general one -/
def opDivmod : Sto → List D → (D → Prop) → Prop := fun _ xs k => match xs with
  | [.int i, .int j] => CDiv i j ∧ k (.tup [.int (i / j), .int (i % j)])
  | _ => False
theorem cd_divmod {K : PySem.W.Frag} : CallD K (fun xs H Q => ∃ i j, xs = [.int i, .int j] ∧ CDiv i j ∧ ∀ p, H p = none → Q (.ref p) (upd H p (.tup [.int (i / j), .int (i % j)]))) opDivmod := by
  intro Pr Fr f st H xs vs k Q S r o q
  unfold opDivmod at o
  split at o
  · obtain ⟨v, u, rfl, r1, r2⟩ := r.two
    cases (show v = _ from r1); cases (show u = _ from r2)
    rename_i i j
    refine ⟨_, _, rfl, o.1, fun p hp => ?_⟩
    obtain ⟨sm, S', rx⟩ := lay_tup (ds := [.int (i / j), .int (i % j)]) S hp (vs := [.int (i / j), .int (i % j)]) ⟨_, _, rfl, rfl, _, _, rfl, rfl, rfl⟩
    exact q _ _ _ _ o.2 sm S' rx
  · exact o.elim
/-! list, tuple -/
theorem cr_list {X : Cx} : CallR X (.type "list") (fun xs H Q => ∃ p ys, xs = [.ref p] ∧ (SqL X.K H p ys ∨ SqT X.K H p ys) ∧ ∀ l, H l = none → Q (.ref l) (upd H l (.lst ys))) := call_list_of
def opList : Sto → List D → (D → Prop) → Prop := fun st xs k => match xs with
  | [x] => (match seqOf st x with
    | some ds => k (.tl ds)
    | none => False)
  | _ => False
theorem cd_list {K : PySem.W.Frag} : CallD K (fun xs H Q => ∃ p ys, xs = [.ref p] ∧ (SqL K H p ys ∨ SqT K H p ys) ∧ ∀ l, H l = none → Q (.ref l) (upd H l (.lst ys))) opList := by
  intro Pr Fr f st H xs vs k Q S r o q
  unfold opList at o
  split at o
  · obtain ⟨v, rfl, r1⟩ := r.one
    split at o
    · rename_i ds e
      obtain ⟨a, ys, rfl, h1, r⟩ := seqOf_rep S e r1
      refine ⟨a, ys, rfl, h1, fun l hl => ?_⟩
      obtain ⟨S', rx⟩ := lay_lst S hl r
      exact q _ _ _ _ o (Same.refl _) S' rx
    · exact o.elim
  · exact o.elim
def opTuple : Sto → List D → (D → Prop) → Prop := fun st xs k => match xs with
  | [.tup ds] => k (.tup ds)
  | [.sl ds] => k (.tup ds)
  | [x] => (match lisOf st x with
    | some ds => k (.tup ds)
    | none => False)
  | _ => False
theorem cd_tuple {K : PySem.W.Frag} : CallD K (fun xs H Q => ∃ p ys, xs = [.ref p] ∧ ((SqL K H p ys ∧ ∀ l, H l = none → Q (.ref l) (upd H l (.tup ys))) ∨ (SqT K H p ys ∧ Q (.ref p) H))) opTuple := by
  intro Pr Fr f st H xs vs k Q S r o q
  unfold opTuple at o
  split at o
  · obtain ⟨v, rfl, a, ys, rfl, h1, r⟩ := r.one
    exact ⟨a, ys, rfl, .inr ⟨S.frT h1, q _ _ Fr H o (Same.refl _) S ⟨a, ys, rfl, h1, r⟩⟩⟩
  · obtain ⟨v, rfl, a, ys, rfl, h1, r⟩ := r.one
    refine ⟨a, ys, rfl, .inl ⟨S.frL h1, fun l hl => ?_⟩⟩
    obtain ⟨sm, S', rx⟩ := lay_tup S hl r
    exact q _ _ _ _ o sm S' rx
  · obtain ⟨v, rfl, r1⟩ := r.one
    split at o
    · rename_i ds e
      obtain ⟨a, ys, rfl, h1, r⟩ := listOf_rep S e r1
      refine ⟨a, ys, rfl, .inl ⟨.inl (.inl h1), fun l hl => ?_⟩⟩
      obtain ⟨sm, S', rx⟩ := lay_tup S hl r
      exact q _ _ _ _ o sm S' rx
    · exact o.elim
  · exact o.elim

/-! sum, any, all, sorted -/
def ints? : List D → Option (List Int)
  | [] => some []
  | .int i :: r => (ints? r).map (i :: ·)
  | _ :: _ => none
def bls? : List D → Option (List Bool)
  | [] => some []
  | .bl i :: r => (bls? r).map (i :: ·)
  | _ :: _ => none
def strs? : List D → Option (List Str)
  | [] => some []
  | .str i :: r => (strs? r).map (i :: ·)
  | _ :: _ => none
section
variable {K : PySem.W.Frag} {Fr : Hp} {f : List Addr}
theorem ints_rep : ∀ {ds : List D} {vs : List V} {ns : List Int}, ints? ds = some ns → Reps K Fr f ds vs → vs = ns.map V.int
  | [], vs, ns, e, r => by cases (show vs = [] from r); cases e; rfl
  | d :: ds, vs, ns, e, r => by
    obtain ⟨v, t, rfl, r1, r2⟩ := r
    cases d <;> first | (cases e; done) | skip
    rename_i i
    cases (show v = _ from r1)
    cases h : ints? ds with
    | none => simp [ints?, h] at e
    | some ms =>
      have e' : i :: ms = ns := by simpa [ints?, h] using e
      subst e'
      rw [ints_rep h r2]
      rfl
theorem bls_rep : ∀ {ds : List D} {vs : List V} {ns : List Bool}, bls? ds = some ns → Reps K Fr f ds vs → vs = ns.map V.bl
  | [], vs, ns, e, r => by cases (show vs = [] from r); cases e; rfl
  | d :: ds, vs, ns, e, r => by
    obtain ⟨v, t, rfl, r1, r2⟩ := r
    cases d <;> first | (cases e; done) | skip
    rename_i i
    cases (show v = _ from r1)
    cases h : bls? ds with
    | none => simp [bls?, h] at e
    | some ms =>
      have e' : i :: ms = ns := by simpa [bls?, h] using e
      subst e'
      rw [bls_rep h r2]
      rfl
theorem strs_rep : ∀ {ds : List D} {vs : List V} {ns : List Str}, strs? ds = some ns → Reps K Fr f ds vs → vs = ns.map V.str
  | [], vs, ns, e, r => by cases (show vs = [] from r); cases e; rfl
  | d :: ds, vs, ns, e, r => by
    obtain ⟨v, t, rfl, r1, r2⟩ := r
    cases d <;> first | (cases e; done) | skip
    rename_i i
    cases (show v = _ from r1)
    cases h : strs? ds with
    | none => simp [strs?, h] at e
    | some ms =>
      have e' : i :: ms = ns := by simpa [strs?, h] using e
      subst e'
      rw [strs_rep h r2]
      rfl
theorem reps_ints : ∀ ns : List Int, Reps K Fr f (ns.map D.int) (ns.map V.int)
  | [] => rfl
  | n :: ns => ⟨_, _, rfl, rfl, reps_ints ns⟩
theorem reps_strs : ∀ ns : List Str, Reps K Fr f (ns.map D.str) (ns.map V.str)
  | [] => rfl
  | n :: ns => ⟨_, _, rfl, rfl, reps_strs ns⟩
end
@[simp] theorem ints_map (ns : List Int) : ints? (ns.map D.int) = some ns := by
  induction ns with
  | nil => rfl
  | cons n ns ih => simp [ints?, ih]
@[simp] theorem bls_map (ns : List Bool) : bls? (ns.map D.bl) = some ns := by
  induction ns with
  | nil => rfl
  | cons n ns ih => simp [bls?, ih]
@[simp] theorem strs_map (ns : List Str) : strs? (ns.map D.str) = some ns := by
  induction ns with
  | nil => rfl
  | cons n ns ih => simp [strs?, ih]
def opSum : Sto → List D → (D → Prop) → Prop := fun st xs k => match xs with
  | [x] => (match (lisOf st x).bind ints? with
    | some ns => k (.int ns.sum)
    | none => False)
  | _ => False
theorem listOf_ints {K : PySem.W.Frag} {Fr : Hp} {f : List Addr} {st : Sto} {H : Hp} (S : SimC K Pr Fr f st H) {d : D} {v : V} {ns : List Int} (e : (lisOf st d).bind ints? = some ns) (r : Rep K Fr f d v) : ∃ a, v = .ref a ∧ H a = some (.lst (ns.map V.int)) := by
  cases h : lisOf st d with
  | none => rw [h] at e; cases e
  | some ds =>
    rw [h] at e
    obtain ⟨a, vs, rfl, h1, r⟩ := listOf_rep S h r
    rw [ints_rep (show ints? ds = some ns from e) r] at h1
    exact ⟨a, rfl, h1⟩
theorem cd_sum {K : PySem.W.Frag} : CallD K (L2.rSum K) opSum := by
  intro Pr Fr f st H xs vs k Q S r o q
  unfold opSum at o
  split at o
  · obtain ⟨v, rfl, r1⟩ := r.one
    split at o
    · rename_i ns e
      obtain ⟨a, rfl, h1⟩ := listOf_ints S e r1
      exact ⟨a, ns, rfl, .of h1, q _ _ Fr H o (Same.refl _) S rfl⟩
    · exact o.elim
  · exact o.elim
def opAnyAll (g : List Bool → Bool) : Sto → List D → (D → Prop) → Prop := fun st xs k => match xs with
  | [x] => (match (lisOf st x).bind bls? with
    | some ns => k (.bl (g ns))
    | none => False)
  | _ => False
theorem cd_anyAll {K : PySem.W.Frag} {g : List Bool → Bool} : CallD K (fun vs H Q => ∃ (a : Addr) (bs : List Bool), vs = [V.ref a] ∧ SqL K H a (bs.map V.bl) ∧ Q (.bl (g bs)) H) (opAnyAll g) := by
  intro Pr Fr f st H xs vs k Q S r o q
  unfold opAnyAll at o
  split at o
  · rename_i x
    obtain ⟨v, rfl, r1⟩ := r.one
    split at o
    · rename_i ns e
      cases h : lisOf st x with
      | none => rw [h] at e; cases e
      | some ds =>
        rw [h] at e
        obtain ⟨a, vs, rfl, h1, r⟩ := listOf_rep S h r1
        rw [bls_rep (show bls? ds = some ns from e) r] at h1
        exact ⟨a, ns, rfl, .of h1, q _ _ Fr H o (Same.refl _) S rfl⟩
    · exact o.elim
  · exact o.elim
abbrev opAny := opAnyAll fun bs => bs.any id
abbrev opAll := opAnyAll fun bs => bs.all id
/-- sorted of a list of ints or texts, of a dict with text keys -/
def rSortedAny (K : PySem.W.Frag) : List V → Hp → VK → Prop := fun xs H Q => rSortedI K xs H Q ∨ rSortedS K xs H Q ∨ ∃ (a : Addr) (kvs : List (Key × V)) (ks : List Str), xs = [V.ref a] ∧ Rd H a (.dK kvs) ∧ kvs.map (·.1) = ks.map Sum.inr ∧ ks.length < 64 ∧
    ∀ ys p, ys.Perm ks → sortedS ys = true → H p = none → Q (.ref p) (upd H p (.lst (ys.map V.str)))
theorem cr_sortedAny {X : Cx} (hc : X.calm = true) : CallR X (.builtin "sorted") (rSortedAny X.K) := cr_sortedI.or (cr_sortedS.or (call_sortedD hc))
def strKeys? : List Key → Option (List Str)
  | [] => some []
  | .inr x :: r => (strKeys? r).map (x :: ·)
  | .inl _ :: _ => none
theorem strKeys_eq : ∀ {ks : List Key} {xs : List Str}, strKeys? ks = some xs → ks = xs.map Sum.inr
  | [], xs, e => by cases e; rfl
  | .inl _ :: r, xs, e => by cases e
  | .inr x :: r, xs, e => by
    cases h : strKeys? r with
    | none => simp [strKeys?, h] at e
    | some ms =>
      have e' : x :: ms = xs := by simpa [strKeys?, h] using e
      subst e'
      rw [strKeys_eq h]
      rfl
@[simp] theorem strKeys_map (xs : List Str) : strKeys? (xs.map Sum.inr) = some xs := by
  induction xs with
  | nil => rfl
  | cons n ns ih => simp [strKeys?, ih]
def opSorted : Sto → List D → (D → Prop) → Prop := fun st xs k => match xs with
  | [x] => (match lisOf st x with
    | some ds => (match ints? ds with
      | some ns => ∀ ms : List Int, ms.Perm ns → ms.Pairwise (· ≤ ·) → k (.tl (ms.map D.int))
      | none => match strs? ds with
        | some zs => zs.length < 64 ∧ ∀ ys : List Str, ys.Perm zs → sortedS ys = true → k (.tl (ys.map D.str))
        | none => False)
    | none => match dicOf st x with
      | some kvs => (match strKeys? (kvs.map (·.1)) with
        | some zs => zs.length < 64 ∧ ∀ ys : List Str, ys.Perm zs → sortedS ys = true → k (.tl (ys.map D.str))
        | none => False)
      | none => False)
  | _ => False
theorem cd_sorted {K : PySem.W.Frag} : CallD K (rSortedAny K) opSorted := by
  intro Pr Fr f st H xs vs k Q S r o q
  unfold opSorted at o
  split at o
  · obtain ⟨v, rfl, r1⟩ := r.one
    split at o
    · rename_i ds e
      obtain ⟨a, us, rfl, h1, r⟩ := listOf_rep S e r1
      split at o
      · rename_i ns e1
        rw [ints_rep e1 r] at h1
        refine .inl ⟨a, ns, rfl, .of h1, fun ms p hp hs hn => ?_⟩
        obtain ⟨S', rx⟩ := lay_lst S hn (reps_ints ms)
        exact q _ _ _ _ (o ms hp hs) (Same.refl _) S' rx
      · split at o
        · rename_i zs e1
          rw [strs_rep e1 r] at h1
          refine .inr (.inl ⟨a, zs, rfl, .of h1, o.1, fun ms p hp hs hn => ?_⟩)
          obtain ⟨S', rx⟩ := lay_lst S hn (reps_strs ms)
          exact q _ _ _ _ (o.2 ms hp hs) (Same.refl _) S' rx
        · exact o.elim
    · split at o
      · rename_i kvs e
        obtain ⟨a, us, rfl, h1, r⟩ := dicOf_rep S e r1
        split at o
        · rename_i zs e1
          refine .inr (.inr ⟨a, us, zs, rfl, .inl h1, by rw [r.1]; exact strKeys_eq e1, o.1, fun ms p hp hs hn => ?_⟩)
          obtain ⟨S', rx⟩ := lay_lst S hn (reps_strs ms)
          exact q _ _ _ _ (o.2 ms hp hs) (Same.refl _) S' rx
        · exact o.elim
      · exact o.elim
  · exact o.elim

/-! isinstance of a built-in class -/
def typN (st : Sto) : D → Option String
  | .non => some "NoneType"
  | .bl _ => some "bool"
  | .int _ => some "int"
  | .str _ => some "str"
  | .tup _ => some "tuple"
  | .sl _ => some "list"
  | .fl _ => some "list"
  | .fd _ _ => some "dict"
  | .ref n => match st[n]? with
    | some (.lst _) => some "list"
    | some (.dic _) => some "dict"
    | _ => none
  | _ => none
def isiB (t c : String) : Bool := t == c || (t == "bool" && c == "int")
def opIsi : Sto → List D → (D → Prop) → Prop := fun st xs k => match xs with
  | [x, .ty c] => c ∈ ["int", "bool", "str", "tuple", "list"] ∧ (match typN st x with
    | some t => k (.bl (isiB t c))
    | none => False)
  | _ => False
theorem kit_all : ∀ t ∈ ["NoneType", "bool", "int", "str", "tuple", "list", "dict"], ∀ c ∈ ["int", "bool", "str", "tuple", "list"], kitB t c = some (isiB t c) := by decide +kernel
theorem tyx_L {K : PySem.W.Frag} {H : Hp} {a : Addr} {xs : List V} (h : SqL K H a xs) : TyX K H (.ref a) (.type "list") := by
  rcases h with (h | ⟨o, h⟩) | ⟨o, its, n, h1, h2, _⟩
  · exact .base (.lst h)
  · exact .base (.frz h)
  · exact .kList h1 h2
theorem tyx_T {K : PySem.W.Frag} {H : Hp} {a : Addr} {xs : List V} (h : SqT K H a xs) : TyX K H (.ref a) (.type "tuple") := by
  rcases h with (h | ⟨o, h⟩) | ⟨o, its, n, h1, h2, _⟩
  · exact .base (.tup h)
  · exact .fTuple h
  · exact .kTuple h1 h2
theorem typN_rep {K : PySem.W.Frag} {Fr : Hp} {f : List Addr} {st : Sto} {H : Hp} (S : SimC K Pr Fr f st H) {d : D} {v : V} {t : String} (e : typN st d = some t) (r : Rep K Fr f d v) : TyX K H v (.type t) ∧ t ∈ ["NoneType", "bool", "int", "str", "tuple", "list", "dict"] := by
  unfold typN at e
  split at e
  · cases e; cases (show v = _ from r); exact ⟨.base .non, by decide⟩
  · cases e; cases (show v = _ from r); exact ⟨.base (.bl _), by decide⟩
  · cases e; cases (show v = _ from r); exact ⟨.base (.int _), by decide⟩
  · cases e; cases (show v = _ from r); exact ⟨.base (.str _), by decide⟩
  · cases e; obtain ⟨a, vs, rfl, h, _⟩ := r; exact ⟨tyx_T (S.frT h), by decide⟩
  · cases e; obtain ⟨a, vs, rfl, h, _⟩ := r; exact ⟨tyx_L (S.frL h), by decide⟩
  · cases e; obtain ⟨a, vs, rfl, h, _⟩ := r; exact ⟨.base (.lst (S.fr _ _ h)), by decide⟩
  · cases e; obtain ⟨a, vs, rfl, h, _⟩ := r; exact ⟨.base (.dK (S.fr _ _ h)), by decide⟩
  · obtain ⟨a, h1, rfl⟩ := r
    split at e
    · rename_i h
      cases e
      obtain ⟨b, vs, h2, h3, _⟩ := S.lst h
      rw [h1] at h2; cases h2
      exact ⟨.base (.lst h3), by decide⟩
    · rename_i h
      cases e
      obtain ⟨b, vs, h2, h3, _⟩ := S.dic h
      rw [h1] at h2; cases h2
      exact ⟨.base (.dK h3), by decide⟩
    · cases e
  · cases e
theorem cd_isi {K : PySem.W.Frag} : CallD K (rIsi K) opIsi := by
  intro Pr Fr f st H xs vs k Q S r o q
  unfold opIsi at o
  split at o
  · obtain ⟨v, u, rfl, r1, r2⟩ := r.two
    cases (show u = _ from r2)
    obtain ⟨hc, o⟩ := o
    split at o
    · rename_i t e
      obtain ⟨ty, ht⟩ := typN_rep S e r1
      exact ⟨_, _, _, _, _, rfl, .ty _, ty, kit_ty (kit_all t ht _ hc), q _ _ Fr H o (Same.refl _) S rfl⟩
    · exact o.elim
  · exact o.elim
end DW

/-! DW7: methods of built-in types; calls of defs. -/
namespace DW
open PySem PySem.Spec PyProof.Rows L2

def tyOk (st : Sto) (T : String) (x : D) : Prop := match x with
  | .str _ => T = "str"
  | .int _ => T = "int"
  | x => (T = "list" ∧ (lisOf st x).isSome = true) ∨ (T = "dict" ∧ (dicOf st x).isSome = true)
theorem tyOk_rep {K : PySem.W.Frag} {Fr : Hp} {f : List Addr} {st : Sto} {H : Hp} (S : SimC K Pr Fr f st H) {d : D} {v : V} {T : String} (e : tyOk st T d) (r : Rep K Fr f d v) : tyV K T v H := by
  unfold tyOk at e
  split at e
  · cases (show v = _ from r); exact e
  · cases (show v = _ from r); exact e
  · rcases e with ⟨e1, e2⟩ | ⟨e1, e2⟩
    · obtain ⟨ds, h⟩ := Option.isSome_iff_exists.mp e2
      obtain ⟨a, vs, rfl, h1, _⟩ := listOf_rep S h r
      exact .inl ⟨e1, vs, .of h1⟩
    · obtain ⟨ds, h⟩ := Option.isSome_iff_exists.mp e2
      obtain ⟨a, vs, rfl, h1, _⟩ := dicOf_rep S h r
      exact .inr (.inr (.inl ⟨e1, .inl ⟨vs, h1⟩⟩))
/-- a method does what op does on data -/
def MethD (K : PySem.W.Frag) (r : V → List V → Hp → VK → Prop) (op : Sto → D → List D → (D → Sto → Prop) → Prop) : Prop :=
  ∀ (Pr Fr : Hp) (f : List Addr) (st : Sto) (H : Hp) (x : D) (v : V) (xs : List D) (vs : List V) (k : D → Sto → Prop) (Q : VK), SimC K Pr Fr f st H → Rep K Fr f x v → Reps K Fr f xs vs → op st x xs k →
    (∀ z st' w Fr' H', k z st' → Same Fr Fr' → SimC K Pr Fr' f st' H' → RepX K Pr Fr' f H' z w → Q w H') → r v vs H Q
def dBM (T : String) (op : Sto → D → List D → (D → Sto → Prop) → Prop) (dx : DE) (ds : DA) : DE := fun Ed env st Q => dx Ed env st fun x st1 => tyOk st1 T (frz x) ∧ ds Ed env st1 fun xs st2 => op st2 (frz x) xs Q
section
variable {X : Cx} {W : WX} {o e : Expr} {es : List Expr} {dx : DE} {ds : DA} {name : Str} {apos cpos : Pos} {T id : String} {r : V → List V → Hp → VK → Prop} {op : Sto → D → List D → (D → Sto → Prop) → Prop}
theorem lift_bm {K : PySem.W.Frag} (hm : MethD K r op) (σ : L2.St) (H : Hp) (Q : VK) (q : liftE K W (dBM T op dx ds) σ H Q) : tBM K T r (liftE K W dx) (liftA K W ds) σ H Q := by
  obtain ⟨Ed, Pr, Fr, f, env, st, Q0, A, d, k⟩ := q
  refine lift1 (R := fun x st1 => tyOk st1 T x ∧ ds Ed env st1 fun xs st2 => op st2 x xs Q0) A d fun x st1 v Fr1 f1 H1 h1 s1 p1 S1 r1 => ⟨tyOk_rep S1.toSimC h1.1 r1, ?_⟩
  refine liftA1 (A.up s1 p1 S1) h1.2 fun xs st2 vs Fr2 f2 H2 h2 s2 p2 S2 r2 => ?_
  exact hm Pr Fr2 f2 st2 H2 x v xs vs Q0 Q S2.toSimC (Rep.mono s2 p2 _ _ r1) r2 h2 fun z st3 w Fr3 H3 hz s3 C3 rz => k z st3 hz w Fr3 f2 H3 ((s1.trans s2).trans s3) (p1.trans p2) ⟨C3, RepS.mono s3 (List.prefix_refl _) S2.env⟩ rz
theorem de_bm (pa : PlainAttrs T) (slot : Slot T name id) (hty : typeOf (.builtin id) = pure (.type "method_descriptor")) (hr : MtR X id r) (hm : MethD X.K r op) (ho : PE X o (liftE X.K W dx)) (ha : PA X (e :: es) (liftA X.K W ds))
    (hbase : attributeBase o name X.env (eval o X.env) = eval o X.env := by rfl)
    (hfew : ((backTo cpos (starEach (e :: es) X.env)).all (fun x => !x.1) && (backToKw cpos (keywordEach [] X.env)).all (fun x => x.1.isSome)
      && decide ((e :: es).length + ([] : List Keyword).length + (if ([] : List Keyword).isEmpty then 0 else 1) < 30)) = true := by rfl)
    (hline : (apos.endLine == cpos.line) = true := by rfl) (hs : starEach (e :: es) X.env = (false, eval e X.env) :: starEach es X.env := by rfl) (hplain : (backTo cpos (starEach es X.env)).any (·.1) = false := by rfl) :
    PE X (.Call (.Attribute o name apos) (e :: es) [] cpos) (liftE X.K W (dBM T op dx ds)) := PEimp (pe_bm pa slot hty hr ho ha hbase hfew hline hs hplain) (lift_bm hm)
theorem de_bm0 (pa : PlainAttrs T) (slot : Slot T name id) (hty : typeOf (.builtin id) = pure (.type "method_descriptor")) (hr : MtR X id r) (hm : MethD X.K r op) (ho : PE X o (liftE X.K W dx))
    (hbase : attributeBase o name X.env (eval o X.env) = eval o X.env := by rfl) (hline : (apos.endLine == cpos.line) = true := by rfl) : PE X (.Call (.Attribute o name apos) [] [] cpos) (liftE X.K W (dBM T op dx dNil)) :=
  PEimp (pe_bm0 pa slot hty hr ho hbase hline) fun σ H Q q => by
  obtain ⟨Ed, Pr, Fr, f, env, st, Q0, A, d, k⟩ := q
  refine lift1 (R := fun x st1 => tyOk st1 T x ∧ op st1 x [] Q0) A d fun x st1 v Fr1 f1 H1 h1 s1 p1 S1 r1 => ⟨tyOk_rep S1.toSimC h1.1 r1, ?_⟩
  exact hm Pr Fr1 f1 st1 H1 x v [] [] Q0 Q S1.toSimC r1 rfl h1.2 fun z st3 w Fr3 H3 hz s3 C3 rz => k z st3 hz w Fr3 f1 H3 (s1.trans s3) p1 ⟨C3, RepS.mono s3 (List.prefix_refl _) S1.env⟩ rz
end

/-! ### lists -/
def onList (st : Sto) (x : D) (k : Nat → List D → Prop) : Prop := match x with
  | .ref n => (match st[n]? with
    | some (.lst ds) => k n ds
    | _ => False)
  | _ => False
theorem onList_rep {K : PySem.W.Frag} {Fr : Hp} {f : List Addr} {st : Sto} {H : Hp} (S : SimC K Pr Fr f st H) {x : D} {v : V} {k : Nat → List D → Prop} (o : onList st x k) (r : Rep K Fr f x v) :
    ∃ n ds a vs, v = .ref a ∧ st[n]? = some (.lst ds) ∧ f[n]? = some a ∧ H a = some (.lst vs) ∧ Reps K Fr f ds vs ∧ k n ds := by
  unfold onList at o
  split at o
  · rename_i n
    split at o
    · rename_i ds e
      obtain ⟨a, h1, rfl⟩ := r
      obtain ⟨b, vs, h2, h3, r⟩ := S.lst e
      rw [h1] at h2; cases h2
      exact ⟨n, ds, a, vs, rfl, e, h1, h3, r, o⟩
    · exact o.elim
  · exact o.elim
def opAppend : Sto → D → List D → (D → Sto → Prop) → Prop := fun st x xs k => onList st x fun n ds => match xs with
  | [y] => ds.length < sizeLine ∧ k .non (st.set n (.lst (ds ++ [y])))
  | _ => False
theorem md_append {K : PySem.W.Frag} : MethD K rAppend opAppend := by
  intro Pr Fr f st H x v xs vs k Q S r rs o q
  obtain ⟨n, ds, a, us, rfl, e, ef, h, r, o⟩ := onList_rep S o r
  split at o
  · obtain ⟨u, rfl, ru⟩ := rs.one
    exact ⟨a, us, u, rfl, rfl, h, by rw [← r.length]; exact o.1, q _ _ _ Fr _ o.2 (Same.refl _) (S.write ef ⟨_, rfl, r.append (.of1 ru)⟩) rfl⟩
  · exact o.elim
def opExtend : Sto → D → List D → (D → Sto → Prop) → Prop := fun st x xs k => onList st x fun n ds => match xs with
  | [y] => (match lisOf st y with
    | some es => ds.length + es.length ≤ sizeLine ∧ k .non (st.set n (.lst (ds ++ es)))
    | none => False)
  | _ => False
theorem md_extend {K : PySem.W.Frag} : MethD K rExtend opExtend := by
  intro Pr Fr f st H x v xs vs k Q S r rs o q
  obtain ⟨n, ds, a, us, rfl, e, ef, h, r, o⟩ := onList_rep S o r
  split at o
  · obtain ⟨u, rfl, ru⟩ := rs.one
    split at o
    · rename_i es e2
      obtain ⟨b, ws, rfl, h2, r2⟩ := listOf_rep S e2 ru
      exact ⟨a, b, us, ws, rfl, rfl, h, h2, by rw [← r.length, ← r2.length]; exact o.1, q _ _ _ Fr _ o.2 (Same.refl _) (S.write ef ⟨_, rfl, r.append r2⟩) rfl⟩
    · exact o.elim
  · exact o.elim
def rInsert : V → List V → Hp → VK → Prop := fun x vs H Q => ∃ (l : Addr) (xs : List V) (i : Int) (y : V), x = .ref l ∧ vs = [.int i, y] ∧ H l = some (.lst xs) ∧ xs.length < sizeLine ∧ 0 ≤ i ∧ i < 2 ^ 63 ∧
    Q .non (upd H l (.lst (xs.take i.toNat ++ [y] ++ xs.drop i.toNat)))
theorem mr_insert {X : Cx} : MtR X "list.insert" rInsert := mt_insert
def opInsert : Sto → D → List D → (D → Sto → Prop) → Prop := fun st x xs k => onList st x fun n ds => match xs with
  | [.int i, y] => ds.length < sizeLine ∧ 0 ≤ i ∧ i < 2 ^ 63 ∧ k .non (st.set n (.lst (ds.take i.toNat ++ [y] ++ ds.drop i.toNat)))
  | _ => False
theorem md_insert {K : PySem.W.Frag} : MethD K rInsert opInsert := by
  intro Pr Fr f st H x v xs vs k Q S r rs o q
  obtain ⟨n, ds, a, us, rfl, e, ef, h, r, o⟩ := onList_rep S o r
  split at o
  · obtain ⟨u1, u2, rfl, r1, r2⟩ := rs.two
    cases (show u1 = _ from r1)
    exact ⟨a, us, _, u2, rfl, rfl, h, by rw [← r.length]; exact o.1, o.2.1, o.2.2.1, q _ _ _ Fr _ o.2.2.2 (Same.refl _) (S.write ef ⟨_, rfl, ((r.take _).append (.of1 r2)).append (r.drop _)⟩) rfl⟩
  · exact o.elim
def opPop : Sto → D → List D → (D → Sto → Prop) → Prop := fun st x xs k => onList st x fun n ds => match xs with
  | [] => (match ds[ds.length - 1]? with
    | some y => k y (st.set n (.lst ds.dropLast))
    | none => False)
  | _ => False
theorem Reps.dropLast {K : PySem.W.Frag} {Fr : Hp} {f : List Addr} {ds : List D} {vs : List V} (r : Reps K Fr f ds vs) : Reps K Fr f ds.dropLast vs.dropLast := by
  rw [List.dropLast_eq_take, List.dropLast_eq_take, ← r.length]
  exact r.take _
theorem md_pop {K : PySem.W.Frag} : MethD K rPop opPop := by
  intro Pr Fr f st H x v xs vs k Q S r rs o q
  obtain ⟨n, ds, a, us, rfl, e, ef, h, r, o⟩ := onList_rep S o r
  split at o
  · cases (show vs = [] from rs)
    split at o
    · rename_i y ey
      obtain ⟨w, ew, rw'⟩ := r.get ey
      exact ⟨a, us, w, rfl, rfl, h, by rw [← r.length]; exact ew, q _ _ _ Fr _ o (Same.refl _) (S.write ef ⟨_, rfl, r.dropLast⟩) (.of rw')⟩
    · exact o.elim
  · exact o.elim

/-! ### texts -/
/-- a method of a text that gives plain data -/
def opS (g : Str → List D → (D → Prop) → Prop) : Sto → D → List D → (D → Sto → Prop) → Prop := fun st x xs k => match x with
  | .str a => g a xs fun z => k z st
  | _ => False
def gFind3 (a : Str) (xs : List D) (k : D → Prop) : Prop := match xs with
  | [.str b, .int i] => k (.int (Txt.find3 a b i))
  | _ => False
def rFind3 : V → List V → Hp → VK → Prop := fun x xs H Q => ∃ (a b : Str) (i : Int), x = .str a ∧ xs = [.str b, .int i] ∧ Q (.int (Txt.find3 a b i)) H
theorem mr_find3 {X : Cx} : MtR X "str.find" rFind3 := mt_find3
theorem md_find3 {K : PySem.W.Frag} : MethD K rFind3 (opS gFind3) := by
  intro Pr Fr f st H x v xs vs k Q S r rs o q
  unfold opS gFind3 at o
  split at o
  · cases (show v = _ from r)
    split at o
    · obtain ⟨u1, u2, rfl, r1, r2⟩ := rs.two
      cases (show u1 = _ from r1); cases (show u2 = _ from r2)
      exact ⟨_, _, _, rfl, rfl, q _ _ _ Fr H o (Same.refl _) S rfl⟩
    · exact o.elim
  · exact o.elim
def gZfill (a : Str) (xs : List D) (k : D → Prop) : Prop := match xs with
  | [.int i] => PadOk i = true ∧ k (.str (Txt.zfill a i))
  | _ => False
def rZfill : V → List V → Hp → VK → Prop := fun x xs H Q => ∃ (a : Str) (i : Int), x = .str a ∧ xs = [.int i] ∧ PadOk i = true ∧ Q (.str (Txt.zfill a i)) H
theorem mr_zfill {X : Cx} : MtR X "str.zfill" rZfill := mt_zfill
theorem md_zfill {K : PySem.W.Frag} : MethD K rZfill (opS gZfill) := by
  intro Pr Fr f st H x v xs vs k Q S r rs o q
  unfold opS gZfill at o
  split at o
  · cases (show v = _ from r)
    split at o
    · obtain ⟨u1, rfl, r1⟩ := rs.one
      cases (show u1 = _ from r1)
      exact ⟨_, _, rfl, rfl, o.1, q _ _ _ Fr H o.2 (Same.refl _) S rfl⟩
    · exact o.elim
  · exact o.elim
def rPart : V → List V → Hp → VK → Prop := fun x xs H Q => ∃ a b, x = .str a ∧ xs = [.str b] ∧ (b.length == 0) = false ∧ a.length ≤ sizeLine ∧
    ∀ p, H p = none → Q (.ref p) (upd H p (.tup [.str (Txt.partition a b).1, .str (Txt.partition a b).2.1, .str (Txt.partition a b).2.2]))
theorem mr_part {X : Cx} : MtR X "str.partition" rPart := mt_partition
def gPart (a : Str) (xs : List D) (k : D → Prop) : Prop := match xs with
  | [.str b] => (b.length == 0) = false ∧ a.length ≤ sizeLine ∧ k (.tup [.str (Txt.partition a b).1, .str (Txt.partition a b).2.1, .str (Txt.partition a b).2.2])
  | _ => False
theorem md_part {K : PySem.W.Frag} : MethD K rPart (opS gPart) := by
  intro Pr Fr f st H x v xs vs k Q S r rs o q
  unfold opS gPart at o
  split at o
  · cases (show v = _ from r)
    split at o
    · rename_i a _ b
      obtain ⟨u1, rfl, r1⟩ := rs.one
      cases (show u1 = _ from r1)
      refine ⟨a, b, rfl, rfl, o.1, o.2.1, fun p hp => ?_⟩
      obtain ⟨sm, S', rx⟩ := lay_tup (ds := [.str (Txt.partition a b).1, .str (Txt.partition a b).2.1, .str (Txt.partition a b).2.2]) (vs := [.str (Txt.partition a b).1, .str (Txt.partition a b).2.1, .str (Txt.partition a b).2.2]) S hp ⟨_, _, rfl, rfl, _, _, rfl, rfl, _, _, rfl, rfl, rfl⟩
      exact q _ _ _ _ _ o.2.2 sm S' rx
    · exact o.elim
  · exact o.elim
def rSplit : V → List V → Hp → VK → Prop := fun x xs H Q => ∃ a b, x = .str a ∧ xs = [.str b] ∧ (b.length == 0) = false ∧ a.length + 2 ≤ sizeLine ∧ rNewStrs (Txt.split a b) H Q
theorem mr_split {X : Cx} : MtR X "str.split" rSplit := mt_split
def gSplit (a : Str) (xs : List D) (k : D → Prop) : Prop := match xs with
  | [.str b] => (b.length == 0) = false ∧ a.length + 2 ≤ sizeLine ∧ k (.tl ((Txt.split a b).map D.str))
  | _ => False
theorem md_split {K : PySem.W.Frag} : MethD K rSplit (opS gSplit) := by
  intro Pr Fr f st H x v xs vs k Q S r rs o q
  unfold opS gSplit at o
  split at o
  · cases (show v = _ from r)
    split at o
    · rename_i a _ b
      obtain ⟨u1, rfl, r1⟩ := rs.one
      cases (show u1 = _ from r1)
      refine ⟨a, b, rfl, rfl, o.1, o.2.1, fun p hp => ?_⟩
      obtain ⟨S', rx⟩ := lay_lst S hp (reps_strs (Txt.split a b))
      exact q _ _ _ _ _ o.2.2 (Same.refl _) S' rx
    · exact o.elim
  · exact o.elim
def rJoin (K : PySem.W.Frag) : V → List V → Hp → VK → Prop := fun x xs H Q => ∃ a p, ∃ ys : List Str, x = .str a ∧ xs = [.ref p] ∧ (SqL K H p (ys.map V.str) ∨ SqT K H p (ys.map V.str)) ∧
    (ys.map (·.length)).sum + ys.length * a.length ≤ 16777216 ∧ Q (.str (Txt.join a ys)) H
theorem mr_join {X : Cx} : MtR X "str.join" (rJoin X.K) := mt_join
def opJoin : Sto → D → List D → (D → Sto → Prop) → Prop := fun st x xs k => match x, xs with
  | .str a, [y] => (match (seqOf st y).bind strs? with
    | some ys => (ys.map (·.length)).sum + ys.length * a.length ≤ 16777216 ∧ k (.str (Txt.join a ys)) st
    | none => False)
  | _, _ => False
theorem md_join {K : PySem.W.Frag} : MethD K (rJoin K) opJoin := by
  intro Pr Fr f st H x v xs vs k Q S r rs o q
  unfold opJoin at o
  split at o
  · rename_i a y
    cases (show v = _ from r)
    split at o
    · rename_i ys e
      obtain ⟨u1, rfl, r1⟩ := rs.one
      cases h : seqOf st y with
      | none => rw [h] at e; cases e
      | some ds =>
        rw [h] at e
        obtain ⟨p, vs, rfl, h1, r⟩ := seqOf_rep S h r1
        rw [strs_rep (show strs? ds = some ys from e) r] at h1
        exact ⟨a, p, ys, rfl, rfl, h1, o.1, q _ _ _ Fr H o.2 (Same.refl _) S rfl⟩
    · exact o.elim
  · exact o.elim

/-! ### d.get, d.pop -/
def dDGet2 (dd dk dx : DE) : DE := fun Ed env st Q => dd Ed env st fun x st1 => (dicOf st1 (frz x)).isSome = true ∧ dk Ed env st1 fun y st2 => dx Ed env st2 fun z st3 => match dicOf st3 (frz x), keyOf y with
  | some kvs, some q => Q ((valP kvs q).getD (frz z)) st3
  | _, _ => False
section
variable {X : Cx} {W : WX} {o e f : Expr} {dd dk dx : DE} {apos cpos : Pos}
theorem keyOf_frz {y : D} {k : Key} (e : keyOf y = some k) : frz y = y := by
  cases y <;> first | rfl | cases e
theorem de_dget2 (hu : X.A.units + 64 < cLine) (ho : PE X o (liftE X.K W dd)) (he : PE X e (liftE X.K W dk)) (hf : PE X f (liftE X.K W dx)) (m : M2 X o "get" apos e f cpos) : PE X (.Call (.Attribute o "get" apos) [e, f] [] cpos) (liftE X.K W (dDGet2 dd dk dx)) :=
  PEimp (pe_dget2 (by omega) ho he hf m) fun σ H Q q => by
  obtain ⟨Ed, Pr, Fr, f, env, st, Q0, A, d, k⟩ := q
  refine lift1 (R := fun x st1 => (dicOf st1 x).isSome = true ∧ dk Ed env st1 fun y st2 => dx Ed env st2 fun z st3 => match dicOf st3 x, keyOf y with
    | some kvs, some q => Q0 ((valP kvs q).getD (frz z)) st3
    | _, _ => False) A d fun x st1 v Fr1 f1 H1 h1 s1 p1 S1 r1 => ?_
  obtain ⟨hd, h1⟩ := h1
  obtain ⟨kvs, hk⟩ := Option.isSome_iff_exists.mp hd
  obtain ⟨a, us, rfl, ha, _⟩ := dicOf_rep S1.toSimC hk r1
  refine ⟨a, rfl, .inl ⟨us, .inl ha⟩, ?_⟩
  refine ⟨Ed, Pr, Fr1, f1, env, st1, _, A.up s1 p1 S1, h1, fun y st2 h2 u Fr2 f2 H2 s2 p2 S2 r2 => ?_⟩
  refine lift1 (R := fun z st3 => match dicOf st3 x, keyOf y with
    | some kvs, some q => Q0 ((valP kvs q).getD z) st3
    | _, _ => False) (A.up (s1.trans s2) (p1.trans p2) S2) h2 fun z st3 w Fr3 f3 H3 h3 s3 p3 S3 r3 => ?_
  split at h3
  · rename_i kvs2 kk e1 e2
    have r2' : Rep X.K Fr2 f2 y u := by cases y <;> first | exact r2 | exact nomatch e2
    obtain rfl := keyOf_rep e2 r2'
    obtain ⟨b, us2, hb, hb2, rk⟩ := dicOf_rep S3.toSimC e1 (Rep.mono (s2.trans s3) (p2.trans p3) _ _ r1)
    cases hb
    refine ⟨_, DGet.k hb2, k _ _ h3 _ Fr3 f3 H3 ((s1.trans s2).trans s3) ((p1.trans p2).trans p3) S3 (.of ?_)⟩
    have rv := RepK.val kk rk
    cases ev : valP kvs2 kk with
    | none => rw [rv.2 ev]; exact r3
    | some d =>
      obtain ⟨v', e3, r4⟩ := rv.1 d ev
      rw [e3]; exact r4
  · exact h3.elim
end

/-! ### calls of defs -/
/-- what a def promises of data: the arguments, the store, what is wished of exceptions and of the result -/
abbrev DSp := List D → Sto → (Addr → Sto → Prop) → (D → Sto → Prop) → Prop
def liftSp (K : PySem.W.Frag) (dsp : DSp) : Sp := fun vs H Q E => ∃ Pr Fr f st ds Ed Q0, SimC K Pr Fr f st H ∧ Reps K Fr f ds vs ∧ dsp ds st Ed Q0 ∧
  (∀ x st', Q0 x st' → ∀ v Fr' f' H', Same Fr Fr' → f <+: f' → SimC K Pr Fr' f' st' H' → RepX K Pr Fr' f' H' x v → Q v H') ∧
  (∀ C st', Ed C st' → ∀ Fr' f' H', Same Fr Fr' → f <+: f' → SimC K Pr Fr' f' st' H' → E (.ref C) none H')
def dCall (dsp : DSp) (ds : DA) : DE := fun Ed env st Q => ds Ed env st fun xs st1 => dsp xs st1 (fun C st' => Ed C env st') Q
section
variable {X : Cx} {W : WX} {e : Expr} {es : List Expr} {ds : DA} {x : Str} {p pos : Pos} {k : Nat} {f : Addr} {fd : FuncData} {ps : List Str} {dsp : DSp}
theorem lift_call {K : PySem.W.Frag} (σ : L2.St) (H : Hp) (Q : VK) (q : liftE K W (dCall dsp ds) σ H Q) : tCallS (liftSp K dsp) (WE W) (liftA K W ds) σ H Q := by
  obtain ⟨Ed, Pr, Fr, f, env, st, Q0, A, d, k⟩ := q
  refine liftA1 A d fun xs st1 vs Fr1 f1 H1 h1 s1 p1 S1 r1 => ?_
  refine ⟨Pr, Fr1, f1, st1, xs, _, _, S1.toSimC, r1, h1, fun z st2 hz w Fr2 f2 H2 s2 p2 C2 rz => k _ _ hz w Fr2 f2 H2 (s1.trans s2) (p1.trans p2) (S1.up s2 p2 C2) rz, fun C st2 hC Fr2 f2 H2 s2 p2 C2 => ?_⟩
  exact A.exn C env st2 Fr2 f2 σ H2 (s1.trans s2) (p1.trans p2) (S1.up s2 p2 C2) hC
theorem de_call (F : FnOk X.prog X.w X.K X.mg X.base (L2.CX X.prog X.w) k f fd ps (liftSp X.K dsp)) (hr : Room k X.A) (hg : Gl X x) (hm : X.mg x = some (.ref f)) (hk : PySem.W.keepIn X.K (.ref f) = true) (hb : Binds X.K fd ps []) (tk : Takes X W)
    (ha : PA X (e :: es) (liftA X.K W ds)) (hdb : (x == ("__debug__" : Str)) = false := by decide) (he : starEach (e :: es) X.env = (false, eval e X.env) :: starEach es X.env := by rfl) (hpl : (backTo pos (starEach es X.env)).any (·.1) = false := by rfl) :
    PE X (.Call (.Name x p) (e :: es) [] pos) (liftE X.K W (dCall dsp ds)) := PEimp (pe_callS F hr hg hm hk hb (fun σ => passAt tk σ) ha hdb he hpl) lift_call
end
end DW

/-! DW8: statements, loops, comprehensions. -/
namespace DW
open PySem PySem.Spec PyProof.Rows L2

structure DEnds where
  nx : Slots → Sto → Prop
  rt : D → Sto → Prop
  bk : Slots → Sto → Prop := fun _ _ => False
  ct : Slots → Sto → Prop := fun _ _ => False
abbrev DS := EdT → DEnds → Slots → Sto → Prop

structure EndsOk (K : PySem.W.Frag) (Pr Fr : Hp) (f : List Addr) (Dd : DEnds) (De : Ends) : Prop where
  nx : ∀ env st, Dd.nx env st → ∀ Fr' f' σ H, Same Fr Fr' → f <+: f' → Sim K Pr Fr' f' env st σ H → De.nx σ H
  bk : ∀ env st, Dd.bk env st → ∀ Fr' f' σ H, Same Fr Fr' → f <+: f' → Sim K Pr Fr' f' env st σ H → De.bk σ H
  ct : ∀ env st, Dd.ct env st → ∀ Fr' f' σ H, Same Fr Fr' → f <+: f' → Sim K Pr Fr' f' env st σ H → De.ct σ H
  rt : ∀ x st, Dd.rt x st → ∀ v Fr' f' H, Same Fr Fr' → f <+: f' → SimC K Pr Fr' f' st H → RepX K Pr Fr' f' H x v → De.rt v H
theorem EndsOk.up {K : PySem.W.Frag} {Fr Fr' : Hp} {f f' : List Addr} {Dd : DEnds} {De : Ends} (E : EndsOk K Pr Fr f Dd De) (s : Same Fr Fr') (p : f <+: f') : EndsOk K Pr Fr' f' Dd De :=
  ⟨fun e st h Fr2 f2 σ H s2 p2 => E.nx e st h Fr2 f2 σ H (s.trans s2) (p.trans p2), fun e st h Fr2 f2 σ H s2 p2 => E.bk e st h Fr2 f2 σ H (s.trans s2) (p.trans p2),
   fun e st h Fr2 f2 σ H s2 p2 => E.ct e st h Fr2 f2 σ H (s.trans s2) (p.trans p2), fun x st h v Fr2 f2 H s2 p2 => E.rt x st h v Fr2 f2 H (s.trans s2) (p.trans p2)⟩
def liftS (K : PySem.W.Frag) (W : WX) (d : DS) : TS := fun De σ H => ∃ Ed Pr Fr f env st Dd, At K W Ed Pr Fr f env st σ H ∧ d Ed Dd env st ∧ EndsOk K Pr Fr f Dd De

section
variable {X : Cx} {W : WX} {st : Stmt} {rest body : List Stmt} {e : Expr} {d1 d2 : DS} {de : DE} {dt : DT} {pos : Pos}

/-! ### blocks -/
def sNext : DS := fun _ D env st => D.nx env st
def sSeq (t u : DS) : DS := fun Ed D env st => t Ed { D with nx := u Ed D } env st
theorem dss_nil : PSs X [] (liftS X.K W sNext) := PSsimp pss_nil fun De σ H q => by
  obtain ⟨Ed, Pr, Fr, f, env, st, Dd, A, d, E⟩ := q
  exact E.nx _ _ d Fr f σ H (Same.refl _) (List.prefix_refl _) A.toSim
theorem dss_cons (h1 : PS X st (liftS X.K W d1)) (h2 : PSs X rest (liftS X.K W d2)) : PSs X (st :: rest) (liftS X.K W (sSeq d1 d2)) := PSsimp (pss_cons h1 h2) fun De σ H q => by
  obtain ⟨Ed, Pr, Fr, f, env, st, Dd, A, d, E⟩ := q
  exact ⟨Ed, Pr, Fr, f, env, st, _, A, d, ⟨fun e s h Fr' f' σ' H' s1 p1 S => ⟨Ed, Pr, Fr', f', e, s, Dd, A.up s1 p1 S, h, E.up s1 p1⟩, E.bk, E.ct, E.rt⟩⟩
theorem dss_one (h1 : PS X st (liftS X.K W d1)) : PSs X [st] (liftS X.K W d1) := pss_one h1
theorem ds_pass : PS X (.Pass pos) (liftS X.K W sNext) := PSimp ps_pass fun De σ H q => by
  obtain ⟨Ed, Pr, Fr, f, env, st, Dd, A, d, E⟩ := q
  exact E.nx _ _ d Fr f σ H (Same.refl _) (List.prefix_refl _) A.toSim
def sBreak : DS := fun _ D env st => D.bk env st
def sCont : DS := fun _ D env st => D.ct env st
theorem ds_break : PS X (.Break pos) (liftS X.K W sBreak) := PSimp ps_break fun De σ H q => by
  obtain ⟨Ed, Pr, Fr, f, env, st, Dd, A, d, E⟩ := q
  exact E.bk _ _ d Fr f σ H (Same.refl _) (List.prefix_refl _) A.toSim
theorem ds_continue : PS X (.Continue pos) (liftS X.K W sCont) := PSimp ps_continue fun De σ H q => by
  obtain ⟨Ed, Pr, Fr, f, env, st, Dd, A, d, E⟩ := q
  exact E.ct _ _ d Fr f σ H (Same.refl _) (List.prefix_refl _) A.toSim
def sExpr (de : DE) : DS := fun Ed D env st => de Ed env st fun _ st1 => D.nx env st1
theorem ds_expr (he : PE X e (liftE X.K W de)) (hs : swapsWith e none pos.line X.env = pure false := by rfl) : PS X (.Expr e pos) (liftS X.K W (sExpr de)) := PSimp (ps_expr he hs) fun De σ H q => by
  obtain ⟨Ed, Pr, Fr, f, env, st, Dd, A, d, E⟩ := q
  exact ⟨Ed, Pr, Fr, f, env, st, _, A, d, fun x st1 h v Fr' f' H' s p S _ => E.nx _ _ h Fr' f' σ H' s p S⟩
def sRet (de : DE) : DS := fun Ed D env st => de Ed env st D.rt
theorem ds_ret (he : PE X e (liftE X.K W de)) : PS X (.Return (some e) pos) (liftS X.K W (sRet de)) := PSimp (ps_ret he) fun De σ H q => by
  obtain ⟨Ed, Pr, Fr, f, env, st, Dd, A, d, E⟩ := q
  exact ⟨Ed, Pr, Fr, f, env, st, _, A, d, fun x st1 h v Fr' f' H' s p S r => E.rt _ _ h v Fr' f' H' s p S.toSimC r⟩
def sRetN : DS := fun _ D _ st => D.rt .non st
theorem ds_retN : PS X (.Return none pos) (liftS X.K W sRetN) := PSimp ps_retN fun De σ H q => by
  obtain ⟨Ed, Pr, Fr, f, env, st, Dd, A, d, E⟩ := q
  exact E.rt _ _ d _ Fr f H (Same.refl _) (List.prefix_refl _) A.toSimC rfl
def sIf (t : DT) (a b : DS) : DS := fun Ed D env st => t Ed env st fun c st1 => if c = true then a Ed D env st1 else b Ed D env st1
theorem ds_if {c : Expr} {a b : List Stmt} (hc : PT X c (liftT X.K W dt)) (ha : PSs X a (liftS X.K W d1)) (hb : PSs X b (liftS X.K W d2)) : PS X (.If c a b pos) (liftS X.K W (sIf dt d1 d2)) := PSimp (ps_if hc ha hb) fun De σ H q => by
  obtain ⟨Ed, Pr, Fr, f, env, st, Dd, A, d, E⟩ := q
  refine ⟨Ed, Pr, Fr, f, env, st, _, A, d, fun x st1 h Fr' f' H' s p S => ?_⟩
  cases x with
  | true => exact ⟨Ed, Pr, Fr', f', env, st1, Dd, A.up s p S, h, E.up s p⟩
  | false => exact ⟨Ed, Pr, Fr', f', env, st1, Dd, A.up s p S, h, E.up s p⟩
def sNever : DS := fun _ _ _ _ => False
theorem ds_never : PS X st (liftS X.K W sNever) := PSimp ps_never fun De σ H q => by
  obtain ⟨Ed, Pr, Fr, f, env, st, Dd, A, d, E⟩ := q
  exact d.elim

/-! ### targets -/
inductive Tg where
  | nm (i : Nat) | tp (ts : List Tg)
mutual
def tgSlots : Tg → List Nat
  | .nm i => [i]
  | .tp ts => tgsSlots ts
def tgsSlots : List Tg → List Nat
  | [] => []
  | t :: ts => tgSlots t ++ tgsSlots ts
end
mutual
def tgSet (st : Sto) : Tg → D → Slots → Option Slots
  | .nm i, x, env => some (env.set i (some x))
  | .tp ts, x, env => match seqOf st x with
    | some ds => tgsSet st ts ds env
    | none => none
def tgsSet (st : Sto) : List Tg → List D → Slots → Option Slots
  | [], [], env => some env
  | t :: ts, d :: ds, env => match tgSet st t d env with
    | some env' => tgsSet st ts ds env'
    | none => none
  | _, _, _ => none
end
def AgreeOff (js : List Nat) (σ σ' : L2.St) : Prop := σ'.length = σ.length ∧ ∀ i, i ∉ js → σ'[i]? = σ[i]?
theorem AgreeOff.refl (js : List Nat) (σ : L2.St) : AgreeOff js σ σ := ⟨rfl, fun _ _ => rfl⟩
theorem AgreeOff.trans {js ks : List Nat} {σ σ' σ'' : L2.St} (a : AgreeOff js σ σ') (b : AgreeOff ks σ' σ'') : AgreeOff (js ++ ks) σ σ'' :=
  ⟨b.1.trans a.1, fun i hi => (b.2 i fun h => hi (List.mem_append_right _ h)).trans (a.2 i fun h => hi (List.mem_append_left _ h))⟩
theorem AgreeOff.wipe {js vs : List Nat} {σ σ' : L2.St} (a : AgreeOff js σ σ') (h : ∀ j ∈ js, j ∈ vs) : L2.wipe σ' vs = L2.wipe σ vs := by
  have wl : ∀ (σ : L2.St) (vs : List Nat) (i : Nat), (L2.wipe σ vs)[i]? = if i ∈ vs then (if i < σ.length then some none else none) else σ[i]? := by
    intro σ vs i
    induction vs with
    | nil => simp [L2.wipe]
    | cons v vs ih =>
      unfold L2.wipe
      by_cases e : v = i
      · subst e
        by_cases hl : v < σ.length
        · rw [List.getElem?_set_self (by rw [L2.wipe_length]; exact hl)]; simp [hl]
        · rw [List.getElem?_eq_none (by rw [List.length_set, L2.wipe_length]; omega)]; simp [hl]
      · rw [List.getElem?_set_ne e, ih]
        simp [Ne.symm e]
  refine List.ext_getElem? fun i => ?_
  rw [wl, wl, a.1]
  by_cases hi : i ∈ vs
  · simp [hi]
  · simp only [if_neg hi]
    exact a.2 i fun hj => hi (h i hj)
/-- a target's reading -/
def gD (K : PySem.W.Frag) (tg : Tg) : TG := fun v σ H Q => ∃ Pr Fr f env st x env', Sim K Pr Fr f env st σ H ∧ Rep K Fr f x v ∧ tgSet st tg x env = some env' ∧ ∀ σ', AgreeOff (tgSlots tg) σ σ' → RepS K Fr f env' σ' → Q σ' H
def gDs (K : PySem.W.Frag) (tgs : List Tg) : TGs := fun vs σ H Q => ∃ Pr Fr f env st xs env', Sim K Pr Fr f env st σ H ∧ Reps K Fr f xs vs ∧ tgsSet st tgs xs env = some env' ∧ ∀ σ', AgreeOff (tgsSlots tgs) σ σ' → RepS K Fr f env' σ' → Q σ' H
theorem PGimp {tg : Expr} {t t' : TG} (h : PG X tg t) (i : ∀ v σ H Q, t' v σ H Q → t v σ H Q) : PG X tg t' := ⟨fun pins s σ H v u Q I r q => h.run pins s σ H v u Q I r (i v σ H Q q)⟩
theorem PGor {tg : Expr} {t t' : TG} (h : PG X tg t) (h' : PG X tg t') : PG X tg (fun v σ H Q => t v σ H Q ∨ t' v σ H Q) := ⟨fun pins s σ H v u Q I r q => q.elim (h.run pins s σ H v u Q I r) (h'.run pins s σ H v u Q I r)⟩
theorem dg_name {i : Nat} {x : Str} (hN : X.N.Nodup) (hi : X.N[i]? = some x) (hx : Loc X.env.scope x) (hf : X.fn x = true ∨ X.env.scope.names.lookup x = some .local := by first | exact .inl rfl | exact .inr rfl | assumption) : PG X (.Name x pos) (gD X.K (.nm i)) :=
  PGimp (pg_name hN hi hx hf) fun v σ H Q q => by
  obtain ⟨Pr, Fr, f, env, st, x, env', S, r, e, k⟩ := q
  cases e
  exact k _ ⟨List.length_set .., fun j hj => List.getElem?_set_ne (by simpa [tgSlots, eq_comm] using hj)⟩ (RepS.set i r S.env)
theorem dgs_nil : PGs X [] (gDs X.K []) := ⟨fun pins s σ H vs us Q I r q => pgs_nil.run pins s σ H vs us Q I r (by
  obtain ⟨Pr, Fr, f, env, st, xs, env', S, rs, e, k⟩ := q
  cases xs with
  | nil => cases e; exact ⟨rs, k σ (.refl _ _) S.env⟩
  | cons _ _ => cases e)⟩
theorem dgs_cons {t : Expr} {ts : List Expr} {tg : Tg} {tgs : List Tg} (h1 : PG X t (gD X.K tg)) (h2 : PGs X ts (gDs X.K tgs))
    (hs : (assignEach (t :: ts) X.env).map (·.2) = assign t X.env :: (assignEach ts X.env).map (·.2) := by rfl) : PGs X (t :: ts) (gDs X.K (tg :: tgs)) := ⟨fun pins s σ H vs us Q I r q => (pgs_cons h1 h2 hs).run pins s σ H vs us Q I r (by
  obtain ⟨Pr, Fr, f, env, st, xs, env', S, rs, e, k⟩ := q
  cases xs with
  | nil => cases e
  | cons x xs =>
    obtain ⟨v, vr, rfl, r1, r2⟩ := rs
    unfold tgsSet at e
    cases e1 : tgSet st tg x env with
    | none => rw [e1] at e; cases e
    | some env1 =>
      rw [e1] at e
      refine ⟨v, vr, rfl, Pr, Fr, f, env, st, x, env1, S, r1, e1, fun σ1 a1 R1 => ?_⟩
      exact ⟨Pr, Fr, f, env1, st, xs, env', ⟨S.toSimC, R1⟩, r2, e, fun σ2 a2 R2 => k σ2 (a1.trans a2) R2⟩)⟩
theorem dg_tup {ts : List Expr} {k : Nat} {tgs : List Tg} {n : Nat} (hc : X.calm = true) (h : PGs X ts (gDs X.K tgs)) (hl : tgs.length = n)
    (hn : (assignEach ts X.env).length = n := by rfl) (hst : (assignEach ts X.env).findIdx? (·.1) = none := by rfl) : PG X (.Tuple ts k pos) (gD X.K (.tp tgs)) :=
  PGimp (PGor (pg_tup hc h hn hst) (pg_lst hc h hn hst)) fun v σ H Q q => by
  obtain ⟨Pr, Fr, f, env, st, x, env', S, r, e, k⟩ := q
  unfold tgSet at e
  have len : ∀ (ts : List Tg) (ds : List D) (env : Slots) {env'}, tgsSet st ts ds env = some env' → ts.length = ds.length := by
    intro ts
    induction ts with
    | nil => intro ds env env' h; cases ds with
      | nil => rfl
      | cons _ _ => cases h
    | cons t ts ih => intro ds env env' h; cases ds with
      | nil => cases h
      | cons d ds =>
        unfold tgsSet at h
        cases e1 : tgSet st t d env with
        | none => rw [e1] at h; cases h
        | some env1 => rw [e1] at h; simp [ih ds env1 h]
  split at e
  · rename_i ds e1
    obtain ⟨a, vs, rfl, h1, r⟩ := seqOf_rep S.toSimC e1 r
    have l1 := len _ _ _ e
    have l2 := r.length
    rcases h1 with h1 | h1
    · exact .inr ⟨a, vs, rfl, h1, by omega, Pr, Fr, f, env, st, ds, env', S, r, e, k⟩
    · exact .inl ⟨a, vs, rfl, h1, by omega, Pr, Fr, f, env, st, ds, env', S, r, e, k⟩
  · cases e

/-! ### assignments -/
/-- x = e -/
def sAsg (bx : Bool) (i : Nat) (de : DE) : DS := fun Ed D env st => de Ed env st fun x st1 => D.nx (env.set i (some (keep bx st1 x).1)) (keep bx st1 x).2
theorem lift_asg {K : PySem.W.Frag} (bx : Bool) {i : Nat} (De : Ends) (σ : L2.St) (H : Hp) (q : liftS K W (sAsg bx i de) De σ H) : tAsg (liftE K W de) (gName i) De σ H := by
  obtain ⟨Ed, Pr, Fr, f, env, st, Dd, A, d, E⟩ := q
  refine ⟨Ed, Pr, Fr, f, env, st, _, A, d, fun x st1 h v Fr1 f1 H1 s1 p1 S1 r1 => ?_⟩
  obtain ⟨Fr2, f2, s2, p2, C2, r2⟩ := r1.keep bx S1.toSimC
  exact E.nx _ _ h Fr2 f2 _ H1 (s1.trans s2) (p1.trans p2) ⟨C2, RepS.set i r2 (RepS.mono s2 p2 S1.env)⟩
theorem ds_set (bx : Bool) {i : Nat} {x : Str} {pos' : Pos} (hN : X.N.Nodup) (hi : X.N[i]? = some x) (hx : Loc X.env.scope x) (he : PE X e (liftE X.K W de)) (hs : swapsWith e (some (.Name x pos')) pos.line X.env = pure false := by rfl) (hf : X.fn x = true ∨ X.env.scope.names.lookup x = some .local := by first | exact .inl rfl | exact .inr rfl | assumption) :
    PS X (.Assign [.Name x pos'] e pos) (liftS X.K W (sAsg bx i de)) := PSimp (ps_set hN hi hx he hs hf) (lift_asg bx)
/-- a, b = e -/
def sAsgT (tg : Tg) (de : DE) : DS := fun Ed D env st => de Ed env st fun x st1 => match tgSet st1 tg (frz x) env with
  | some env' => D.nx env' st1
  | none => False
theorem ds_asgT {t : Expr} {tg : Tg} (he : PE X e (liftE X.K W de)) (hg : PG X t (gD X.K tg)) (hs : swapsWithSole [t] e pos.line X.env = pure false := by rfl) (hw : swappedStores [t] e X.env = pure none := by rfl)
    (h1 : (assignEach [t] X.env).map (·.2) = [assign t X.env] := by rfl) : PS X (.Assign [t] e pos) (liftS X.K W (sAsgT tg de)) := PSimp (ps_asg he hg hs hw h1) fun De σ H q => by
  obtain ⟨Ed, Pr, Fr, f, env, st, Dd, A, d, E⟩ := q
  refine ⟨Ed, Pr, Fr, f, env, st, _, A, d, fun x st1 h v Fr1 f1 H1 s1 p1 S1 r1 => ?_⟩
  obtain ⟨Fr2, C2, s2, r2⟩ := r1.frz S1.toSimC
  split at h
  · rename_i env' e1
    exact ⟨Pr, Fr2, f1, env, st1, _, env', ⟨C2, RepS.mono s2 (List.prefix_refl _) S1.env⟩, r2, e1, fun σ' _ R => E.nx _ _ h Fr2 f1 σ' H1 (s1.trans s2) p1 ⟨C2, R⟩⟩
  · exact h.elim
/-- x op= e -/
def IpD (K : PySem.W.Frag) (t : TIp) (op : Sto → D → D → (D → Prop) → Prop) : Prop := OpD K t op
def sAug (bx : Bool) (op : Sto → D → D → (D → Prop) → Prop) (i : Nat) (de : DE) : DS := fun Ed D env st => match env[i]? with
  | some (some x) => de Ed env st fun y st1 => op st1 x (frz y) fun z => D.nx (env.set i (some (keep bx st1 z).1)) (keep bx st1 z).2
  | _ => False
theorem ds_aug (bx : Bool) {i : Nat} {x : Str} {op : Operator} {ti : TIp} {pos' : Pos} {o : Sto → D → D → (D → Prop) → Prop} (hN : X.N.Nodup) (hi : X.N[i]? = some x) (hx : Loc X.env.scope x) (hop : PIp X op ti) (ho : OpD X.K ti o) (he : PE X e (liftE X.K W de)) (hf : X.fn x = true ∨ X.env.scope.names.lookup x = some .local := by first | exact .inl rfl | exact .inr rfl | assumption) :
    PS X (.AugAssign (.Name x pos') op e pos) (liftS X.K W (sAug bx o i de)) := PSimp (ps_aug hN hi hx he hop hf) fun De σ H q => by
  obtain ⟨Ed, Pr, Fr, f, env, st, Dd, A, d, E⟩ := q
  unfold sAug at d
  split at d
  · rename_i x e1
    obtain ⟨v, ev, rv⟩ := RepS.get A.env e1
    refine ⟨v, ev, ?_⟩
    refine lift1 (R := fun y st1 => o st1 x y fun z => Dd.nx (env.set i (some (keep bx st1 z).1)) (keep bx st1 z).2) A d fun y st1 u Fr1 f1 H1 h1 s1 p1 S1 r1 => ?_
    refine ho Pr Fr1 f1 st1 H1 x y v u _ _ S1.toSimC (Rep.mono s1 p1 _ _ rv) r1 h1 fun z w Fr2 H2 hz s2 C2 rz => ?_
    obtain ⟨Fr3, f3, s3, p3, C3, r3⟩ := rz.keep bx C2
    exact E.nx _ _ hz Fr3 f3 _ H2 ((s1.trans s2).trans s3) (p1.trans p3) ⟨C3, RepS.set i r3 (RepS.mono (s2.trans s3) p3 S1.env)⟩
  · exact d.elim
theorem keyOf_repX {K : PySem.W.Frag} {Fr : Hp} {f : List Addr} {H : Hp} {d : D} {v : V} {k : Key} (e : keyOf d = some k) (r : RepX K Pr Fr f H d v) : v = kV k := by
  cases d <;> first | (cases e; exact r) | exact nomatch e
/-- o[i] = e -/
def opSet : Sto → D → D → D → (Sto → Prop) → Prop := fun st x y z k => match x with
  | .ref n => (match st[n]?, y with
    | some (.lst ds), .int i => (match ixN ds.length i with
      | some j => k (st.set n (.lst (ds.set j z)))
      | none => False)
    | some (.dic kvs), y => (match keyOf y with
      | some q => kvs.length < sizeLine ∧ k (st.set n (.dic (putP kvs q z)))
      | none => False)
    | _, _ => False)
  | _ => False
def rSetD : V → V → V → Hp → (Hp → Prop) → Prop := fun o i v H Q => ∃ a H', o = .ref a ∧ DPut H a i v H' ∧ Q H'
theorem set_dic (hu : X.A.units + 1 < cLine) : PSet X rSetD := by
  intro pins s σ H o i v ov iv u Q I ro ri rv h
  obtain ⟨a, H', rfl, g, q⟩ := h
  cases ro
  exact d_setItem hu I g ri rv fun s' I' => ⟨H', I', q⟩
theorem PSet.or {t t' : TSet} (h : PSet X t) (h' : PSet X t') : PSet X (fun o i v H Q => t o i v H Q ∨ t' o i v H Q) := by
  intro pins s σ H o i v ov iv u Q I ro ri rv q
  rcases q with q | q
  · exact h pins s σ H o i v ov iv u Q I ro ri rv q
  · exact h' pins s σ H o i v ov iv u Q I ro ri rv q
def sSet (bx : Bool) (dv dx dy : DE) : DS := fun Ed D env st => dv Ed env st fun z st1 => dx Ed env (keep bx st1 z).2 fun x st2 => dy Ed env st2 fun y st3 => opSet st3 x y (keep bx st1 z).1 fun st4 => D.nx env st4
theorem ds_setItem (bx : Bool) {o i : Expr} {dx dy : DE} {ipos : Pos} (hu : X.A.units + 64 < cLine) (he : PE X e (liftE X.K W de)) (ho : PE X o (liftE X.K W dx)) (hi : PE X i (liftE X.K W dy))
    (ha : ∀ v, assign (.Subscript o i ipos) X.env v = (do
      let ov ← holding [v] (eval o X.env)
      let iv ← holding [v, ov] (eval i X.env)
      standAt ipos
      holding [v, ov, iv] (setItem ov iv v)
      release [v, ov, iv] []) := by intro _; rfl) (hs : swapsWithSole [.Subscript o i ipos] e pos.line X.env = pure false := by rfl) (hw : swappedStores [.Subscript o i ipos] e X.env = pure none := by rfl)
    (h1 : (assignEach [.Subscript o i ipos] X.env).map (·.2) = [assign (.Subscript o i ipos) X.env] := by rfl) : PS X (.Assign [.Subscript o i ipos] e pos) (liftS X.K W (sSet bx de dx dy)) :=
  PSimp (ps_asg he (pg_sub ho hi (PSet.or set_list (set_dic (by omega))) ha) hs hw h1) fun De σ H q => by
  obtain ⟨Ed, Pr, Fr, f, env, st, Dd, A, d, E⟩ := q
  refine ⟨Ed, Pr, Fr, f, env, st, _, A, d, fun z st1 h v Fr1 f1 H1 s1 p1 S1 r1 => ?_⟩
  obtain ⟨Fr2, f2, s2, p2, C2, r2⟩ := r1.keep bx S1.toSimC
  have A2 := A.up (s1.trans s2) (p1.trans p2) (S1.up s2 p2 C2)
  generalize (keep bx st1 z).2 = st1' at *
  generalize (keep bx st1 z).1 = z' at *
  refine ⟨Ed, Pr, Fr2, f2, env, st1', _, A2, h, fun x st2 h2 ov Fr3 f3 H3 s3 p3 S3 r3 => ?_⟩
  refine ⟨Ed, Pr, Fr3, f3, env, st2, _, A2.up s3 p3 S3, h2, fun y st3 h3 iv Fr4 f4 H4 s4 p4 S4 r4 => ?_⟩
  have rz : Rep X.K Fr4 f4 z' v := Rep.mono (s3.trans s4) (p3.trans p4) _ _ r2
  unfold opSet at h3
  split at h3
  · rename_i n
    obtain ⟨a, ea, rfl⟩ := (show Rep X.K Fr4 f4 (.ref n) ov from Rep.mono s4 p4 _ _ (show Rep X.K Fr3 f3 (.ref n) ov from r3))
    split at h3
    · rename_i ds i e1
      cases (show iv = _ from r4)
      obtain ⟨b, vs, h5, h6, rl⟩ := S4.lst e1
      rw [ea] at h5; cases h5
      split at h3
      · rename_i j ej
        refine .inl ⟨a, vs, _, j, rfl, rfl, h6, by rw [← rl.length]; exact ej, ?_⟩
        exact E.nx _ _ h3 Fr4 f4 σ _ (((s1.trans s2).trans s3).trans s4) (((p1.trans p2).trans p3).trans p4) ⟨S4.toSimC.write ea ⟨_, rfl, rl.set j rz⟩, S4.env⟩
      · exact h3.elim
    · rename_i kvs e1
      obtain ⟨b, us, h5, h6, rk⟩ := S4.dic e1
      rw [ea] at h5; cases h5
      split at h3
      · rename_i q eq
        obtain rfl := keyOf_repX eq r4
        refine .inr ⟨a, _, rfl, DPut.k h6 (by rw [RepK.length (K := X.K) (Fr := Fr4) (f := f4) rk]; exact h3.1), ?_⟩
        exact E.nx _ _ h3.2 Fr4 f4 σ _ (((s1.trans s2).trans s3).trans s4) (((p1.trans p2).trans p3).trans p4) ⟨S4.toSimC.write ea (m := .dic (putP kvs q z')) ⟨_, rfl, RepK.put rz rk⟩, S4.env⟩
      · exact h3.elim
    · exact h3.elim
  · exact h3.elim

/-! ### while -/
def whileN (t : DT) (b : DS) (Ed : EdT) (D : DEnds) : Nat → Slots → Sto → Prop
  | 0 => fun _ _ => False
  | n + 1 => fun env st => t Ed env st fun c st1 => if c = true then b Ed { nx := whileN t b Ed D n, ct := whileN t b Ed D n, bk := D.nx, rt := D.rt } env st1 else D.nx env st1
def sWhile (t : DT) (b : DS) : DS := fun Ed D env st => ∃ n, whileN t b Ed D n env st
theorem ds_while {c : Expr} (hp : PassesOwn (model X.prog X.w) X.A X.env X.xe) (hc : PT X c (liftT X.K W dt)) (hb : PSs X body (liftS X.K W d1)) : PS X (.While c body [] pos) (liftS X.K W (sWhile dt d1)) := PSimp (ps_while hp hc hb) fun De σ H q => by
  obtain ⟨Ed, Pr, Fr, f, env, st, Dd, A, ⟨n, d⟩, E⟩ := q
  refine ⟨fun m σ H => ∃ Fr' f' env st, Same Fr Fr' ∧ f <+: f' ∧ Sim X.K Pr Fr' f' env st σ H ∧ whileN dt d1 Ed Dd m env st, ⟨n, Fr, f, env, st, Same.refl _, List.prefix_refl _, A.toSim, d⟩, ?_⟩
  rintro m σ' H' ⟨Fr1, f1, env1, st1, s1, p1, S1, h1⟩
  cases m with
  | zero => exact h1.elim
  | succ m =>
    have A1 := A.up s1 p1 S1
    refine ⟨Ed, Pr, Fr1, f1, env1, st1, _, A1, h1, fun b st2 h2 Fr2 f2 H2 s2 p2 S2 => ?_⟩
    cases b with
    | true =>
      refine ⟨fun σ H => ∃ Fr' f' env st, Same Fr Fr' ∧ f <+: f' ∧ Sim X.K Pr Fr' f' env st σ H ∧ whileN dt d1 Ed Dd m env st, fun σ3 H3 w => ⟨m, Nat.lt_succ_self _, w⟩, ?_⟩
      refine ⟨Ed, Pr, Fr2, f2, env1, st2, _, A1.up s2 p2 S2, h2, ⟨?_, ?_, ?_, ?_⟩⟩
      · exact fun e s h Fr3 f3 σ3 H3 s3 p3 S3 => ⟨Fr3, f3, e, s, (s1.trans s2).trans s3, (p1.trans p2).trans p3, S3, h⟩
      · exact fun e s h Fr3 f3 σ3 H3 s3 p3 S3 => E.nx _ _ h Fr3 f3 σ3 H3 ((s1.trans s2).trans s3) ((p1.trans p2).trans p3) S3
      · exact fun e s h Fr3 f3 σ3 H3 s3 p3 S3 => ⟨Fr3, f3, e, s, (s1.trans s2).trans s3, (p1.trans p2).trans p3, S3, h⟩
      · exact fun x s h v Fr3 f3 H3 s3 p3 S3 r => E.rt _ _ h v Fr3 f3 H3 ((s1.trans s2).trans s3) ((p1.trans p2).trans p3) S3 r
    | false => exact E.nx _ _ h2 Fr2 f2 σ' H2 (s1.trans s2) (p1.trans p2) S2

/-! ### what is walked -/
abbrev DI := EdT → Slots → Sto → (List D → (Sto → Prop) → Sto → Prop) → Prop
/-- the iterator J yields the items, while ok -/
def ItSim (K : PySem.W.Frag) (J : It) (its : List D) (ok : Sto → Prop) (Fr : Hp) (f : List Addr) : Prop :=
  ∀ i Pr Fr' f' st H, Same Fr Fr' → f <+: f' → SimC K Pr Fr' f' st H → ok st →
    (∀ x, its[i]? = some x → J.go i H ∧ ∀ v H2, J.yld i H v H2 → ∃ Fr2, Same Fr' Fr2 ∧ SimC K Pr Fr2 f' st H2 ∧ Rep K Fr2 f' x v) ∧ (its.length ≤ i → J.stop i H)
theorem ItSim.up {K : PySem.W.Frag} {J : It} {its : List D} {ok : Sto → Prop} {Fr Fr' : Hp} {f f' : List Addr} (h : ItSim K J its ok Fr f) (s : Same Fr Fr') (p : f <+: f') : ItSim K J its ok Fr' f' :=
  fun i Pr Fr2 f2 st H s2 p2 => h i Pr Fr2 f2 st H (s.trans s2) (p.trans p2)
def liftI (K : PySem.W.Frag) (W : WX) (d : DI) : TI := fun σ H R => ∃ Ed Pr Fr f env st Q0, At K W Ed Pr Fr f env st σ H ∧ d Ed env st Q0 ∧
  ∀ its ok st', Q0 its ok st' → ∀ J Fr' f' H', Same Fr Fr' → f <+: f' → Sim K Pr Fr' f' env st' σ H' → ItSim K J its ok Fr' f' → R J H'
theorem PIimp {tg iter : Expr} {t t' : TI} (h : PI X tg iter t) (i : ∀ σ H R, t' σ H R → t σ H R) : PI X tg iter t' := ⟨fun pins s σ H R I q => h.run pins s σ H R I (i σ H R q)⟩
/-- a list, a tuple, a text -/
def iDyn (K : PySem.W.Frag) (tl : TE) : TI := fun σ H R => tl σ H fun x H1 => (∃ a, x = .ref a ∧ (∃ xs, SqL K H1 a xs) ∧ R (Itl K a) H1) ∨ (∃ a, x = .ref a ∧ (∃ xs, SqT K H1 a xs) ∧ R (Itt K a) H1) ∨ ∃ z, x = .str z ∧ R (Its z) H1
theorem pi_dyn {tg l : Expr} {tl : TE} (hl : PE X l tl) : PI X tg l (iDyn X.K tl) := by
  refine ⟨fun pins s σ H R I h => ?_⟩
  refine thn (hl.run pins s σ H _ I h) fun v s1 ⟨x, H1, I1, r1, q1⟩ => ?_
  rcases q1 with ⟨a, e, ⟨xs, hq⟩, q⟩ | ⟨a, e, ⟨xs, hq⟩, q⟩ | ⟨z, ex, q⟩
  · subst e
    cases r1
    obtain ⟨its, rv, p, hz⟩ := I1.list hq
    refine wpAny_pyIter_list p.isList ?_
    refine ⟨s1.heap.objs.size, [s1.heap.objs.size], _, _, H1, rfl, I1.kept (t' := s1.toks) fun b o e => Heap.get?_push_of_some _ e, turn_list a _, ⟨_, Heap.get?_push_size _ rfl, rfl, rfl⟩, fun b hb => ?_, q⟩
    have e : b = s1.heap.objs.size := by simpa using hb
    subst e
    exact I1.fpOk (Nat.le_refl _) (I1.hok.fresh (Nat.le_refl _))
  · subst e
    cases r1
    obtain ⟨its, rv, p, hz⟩ := I1.tuple hq
    refine wpAny_pyIter_tuple (show s1.heap.IsTuple a its.toArray from p) ?_
    refine ⟨s1.heap.objs.size, [s1.heap.objs.size], _, _, H1, rfl, I1.kept (t' := s1.toks) fun b o e => Heap.get?_push_of_some _ e, turn_tuple a _, ⟨_, Heap.get?_push_size _ rfl, rfl, rfl⟩, fun b hb => ?_, q⟩
    have e : b = s1.heap.objs.size := by simpa using hb
    subst e
    exact I1.fpOk (Nat.le_refl _) (I1.hok.fresh (Nat.le_refl _))
  · subst ex
    obtain ⟨t, rfl⟩ := r1
    cases ha : z.cps.all (· < 128)
    · exact wpAny_pyIter_wide ha (pi_one (tk := s1.toks) I1 _ (turn_str _ z t "str_iterator" (.inr rfl)) ⟨_, Heap.get?_push_size _ rfl, rfl, rfl⟩ q)
    · exact wpAny_pyIter_ascii ha (pi_one (tk := s1.toks) I1 _ (turn_str _ z t "str_ascii_iterator" (.inl rfl)) ⟨_, Heap.get?_push_size _ rfl, rfl, rfl⟩ q)
/-- how a value is walked: its items, and what must stay -/
def itemsOf (st : Sto) : D → Option (List D)
  | .str z => some (z.cps.toList.map fun c => .str ⟨#[c]⟩)
  | d => seqOf st d
def stays (st : Sto) : D → Sto → Prop
  | .ref n => fun st' => st'[n]? = st[n]?
  | _ => fun _ => True
def iSeq (de : DE) : DI := fun Ed env st R => de Ed env st fun x st1 => match itemsOf st1 (frz x) with
  | some its => R its (stays st1 (frz x)) st1
  | none => False
theorem itl_sim {K : PySem.W.Frag} {Fr : Hp} {f : List Addr} {a : Addr} {ds : List D} {vs : List V} (h : SqL K Fr a vs) (r : Reps K Fr f ds vs) : ItSim K (Itl K a) ds (fun _ => True) Fr f := by
  intro i Pr Fr' f' st H s p S _
  have h' : SqL K H a vs := (s.trans S.fr).seq h
  refine ⟨fun x e => ?_, fun hi => ⟨vs, h', by rw [← r.length]; exact hi⟩⟩
  obtain ⟨v, ev, rv⟩ := r.get e
  refine ⟨⟨vs, v, h', ev⟩, fun w H2 y => ?_⟩
  obtain ⟨e2, y⟩ := y
  subst e2
  have := (y vs h').symm.trans ev
  cases this
  exact ⟨Fr', Same.refl _, S, Rep.mono s p _ _ rv⟩
theorem itt_sim {K : PySem.W.Frag} {Fr : Hp} {f : List Addr} {a : Addr} {ds : List D} {vs : List V} (h : SqT K Fr a vs) (r : Reps K Fr f ds vs) : ItSim K (Itt K a) ds (fun _ => True) Fr f := by
  intro i Pr Fr' f' st H s p S _
  have h' : SqT K H a vs := Same.seqT (s.trans S.fr) h
  refine ⟨fun x e => ?_, fun hi => ⟨vs, h', by rw [← r.length]; exact hi⟩⟩
  obtain ⟨v, ev, rv⟩ := r.get e
  refine ⟨⟨vs, v, h', ev⟩, fun w H2 y => ?_⟩
  obtain ⟨e2, y⟩ := y
  subst e2
  have := (y vs h').symm.trans ev
  cases this
  exact ⟨Fr', Same.refl _, S, Rep.mono s p _ _ rv⟩
theorem itc_sim {K : PySem.W.Frag} {Fr : Hp} {f : List Addr} {a : Addr} {n : Nat} {ds : List D} (ef : f[n]? = some a) : ItSim K (Itl K a) ds (fun st => st[n]? = some (.lst ds)) Fr f := by
  intro i Pr Fr' f' st H s p S e
  obtain ⟨b, vs, h1, h2, r⟩ := S.lst e
  rw [pre_get p ef] at h1; cases h1
  have h' : SqL K H a vs := .of h2
  refine ⟨fun x e => ?_, fun hi => ⟨vs, h', by rw [← r.length]; exact hi⟩⟩
  obtain ⟨v, ev, rv⟩ := r.get e
  refine ⟨⟨vs, v, h', ev⟩, fun w H2 y => ?_⟩
  obtain ⟨e2, y⟩ := y
  subst e2
  have := (y vs h').symm.trans ev
  cases this
  exact ⟨Fr', Same.refl _, S, rv⟩
theorem its_sim {K : PySem.W.Frag} {Fr : Hp} {f : List Addr} (z : Str) : ItSim K (Its z) (z.cps.toList.map fun c => .str ⟨#[c]⟩) (fun _ => True) Fr f := by
  intro i Pr Fr' f' st H s p S _
  refine ⟨fun x e => ?_, fun hi => by show z.cps.size ≤ i; simpa using hi⟩
  rw [List.getElem?_map] at e
  cases h : z.cps.toList[i]? with
  | none => rw [h] at e; cases e
  | some c =>
    rw [h] at e
    cases e
    have hi : i < z.cps.size := by simpa using (List.getElem?_eq_some_iff.mp h).1
    refine ⟨hi, fun v H2 y => ?_⟩
    obtain ⟨rfl, c', ec, rfl⟩ := y
    have : c = c' := by
      have h' : z.cps[i]? = some c := by simpa using h
      rw [h'] at ec
      exact Option.some.inj ec
    subst this
    exact ⟨Fr', Same.refl _, S, rfl⟩
theorem di_seq {tg l : Expr} (hl : PE X l (liftE X.K W de)) : PI X tg l (liftI X.K W (iSeq de)) := PIimp (pi_dyn hl) fun σ H R q => by
  obtain ⟨Ed, Pr, Fr, f, env, st, Q0, A, d, k⟩ := q
  refine lift1 (R := fun x st1 => match itemsOf st1 x with
    | some its => Q0 its (stays st1 x) st1
    | none => False) A d fun x st1 v Fr1 f1 H1 h1 s1 p1 S1 r1 => ?_
  cases x with
  | str z =>
    cases (show v = _ from r1)
    exact .inr (.inr ⟨z, rfl, k _ _ _ h1 _ Fr1 f1 H1 s1 p1 S1 (its_sim z)⟩)
  | tup ds =>
    obtain ⟨a, vs, rfl, h, r⟩ := r1
    exact .inr (.inl ⟨a, rfl, ⟨vs, S1.frT h⟩, k _ _ _ h1 _ Fr1 f1 H1 s1 p1 S1 (itt_sim h r)⟩)
  | sl ds =>
    obtain ⟨a, vs, rfl, h, r⟩ := r1
    exact .inl ⟨a, rfl, ⟨vs, S1.frL h⟩, k _ _ _ h1 _ Fr1 f1 H1 s1 p1 S1 (itl_sim h r)⟩
  | fl ds =>
    obtain ⟨a, vs, rfl, h, r⟩ := r1
    exact .inl ⟨a, rfl, ⟨vs, .inl (.inl (S1.fr _ _ h))⟩, k _ _ _ h1 _ Fr1 f1 H1 s1 p1 S1 (itl_sim (.inl (.inl h)) r)⟩
  | ref n =>
    obtain ⟨a, ef, rfl⟩ := r1
    have h1' : (match lisOf st1 (.ref n) with
      | some its => Q0 its (fun st' => st'[n]? = st1[n]?) st1
      | none => False) := h1
    cases hl : lisOf st1 (.ref n) with
    | none => rw [hl] at h1'; exact h1'.elim
    | some ds =>
      rw [hl] at h1'
      have e1 : st1[n]? = some (.lst ds) := by
        unfold lisOf at hl
        simp only at hl
        split at hl
        · rename_i e; cases hl; exact e
        · cases hl
      obtain ⟨b, vs, h2, h3, r⟩ := S1.lst e1
      rw [ef] at h2; cases h2
      rw [e1] at h1'
      exact .inl ⟨a, rfl, ⟨vs, .of h3⟩, k _ _ _ h1' _ Fr1 f1 H1 s1 p1 S1 (itc_sim ef)⟩
  | non => exact h1.elim
  | bl _ => exact h1.elim
  | int _ => exact h1.elim
  | con _ => exact h1.elim
  | ty _ => exact h1.elim
  | fd _ _ => exact h1.elim
  | tl _ => exact (show False from r1).elim
  | td _ _ => exact (show False from r1).elim
/-- range -/
def rangeD (lo : Int) (n : Nat) : List D := (List.range n).map fun i => .int (lo + (i : Nat))
def iRng1 (da : DA) : DI := fun Ed env st R => da Ed env st fun xs st1 => match xs with
  | [.int j] => -(2 ^ 62) ≤ j ∧ j < 2 ^ 62 ∧ R (rangeD 0 j.toNat) (fun _ => True) st1
  | _ => False
def iRng2 (da : DA) : DI := fun Ed env st R => da Ed env st fun xs st1 => match xs with
  | [.int i, .int j] => -(2 ^ 62) ≤ i ∧ i < 2 ^ 62 ∧ -(2 ^ 62) ≤ j ∧ j < 2 ^ 62 ∧ R (rangeD i (j - i).toNat) (fun _ => True) st1
  | _ => False
theorem itr_sim {K : PySem.W.Frag} {Fr : Hp} {f : List Addr} (lo : Int) (n : Nat) : ItSim K (Itr lo n) (rangeD lo n) (fun _ => True) Fr f := by
  intro i Pr Fr' f' st H s p S _
  refine ⟨fun x e => ?_, fun hi => by show n ≤ i; simpa [rangeD] using hi⟩
  unfold rangeD at e
  rw [List.getElem?_map] at e
  cases h : (List.range n)[i]? with
  | none => rw [h] at e; cases e
  | some c =>
    rw [h] at e
    cases e
    obtain ⟨hi, rfl⟩ := List.getElem?_eq_some_iff.mp h
    refine ⟨by show i < n; simpa using hi, fun v H2 y => ?_⟩
    obtain ⟨rfl, rfl⟩ := y
    exact ⟨Fr', Same.refl _, S, by simp [Rep]⟩
theorem di_range1 {tg a : Expr} {da : DA} {p : Pos} (hg : Gl X "range") (hm : X.mg "range" = none) (ha : PA X [a] (liftA X.K W da)) (hs : starEach [a] X.env = [(false, eval a X.env)] := by rfl) : PI X tg (.Call (.Name "range" p) [a] [] pos) (liftI X.K W (iRng1 da)) :=
  PIimp (pi_range1 hg hm ha hs) fun σ H R q => by
  obtain ⟨Ed, Pr, Fr, f, env, st, Q0, A, d, k⟩ := q
  refine liftA1 A d fun xs st1 vs Fr1 f1 H1 h1 s1 p1 S1 r1 => ?_
  split at h1
  · obtain ⟨v, rfl, r⟩ := r1.one
    cases (show v = _ from r)
    exact ⟨_, rfl, h1.1, h1.2.1, k _ _ _ h1.2.2 _ Fr1 f1 H1 s1 p1 S1 (itr_sim _ _)⟩
  · exact h1.elim
theorem di_range2 {tg a b : Expr} {da : DA} {p : Pos} (hg : Gl X "range") (hm : X.mg "range" = none) (ha : PA X [a, b] (liftA X.K W da)) (hs : starEach [a, b] X.env = [(false, eval a X.env), (false, eval b X.env)] := by rfl) (hs2 : starEach [b] X.env = [(false, eval b X.env)] := by rfl) : PI X tg (.Call (.Name "range" p) [a, b] [] pos) (liftI X.K W (iRng2 da)) :=
  PIimp (pi_range2 hg hm ha hs hs2) fun σ H R q => by
  obtain ⟨Ed, Pr, Fr, f, env, st, Q0, A, d, k⟩ := q
  refine liftA1 A d fun xs st1 vs Fr1 f1 H1 h1 s1 p1 S1 r1 => ?_
  split at h1
  · obtain ⟨v, u, rfl, r, r'⟩ := r1.two
    cases (show v = _ from r); cases (show u = _ from r')
    exact ⟨_, _, rfl, ⟨h1.1, h1.2.1, h1.2.2.1, h1.2.2.2.1⟩, k _ _ _ h1.2.2.2.2 _ Fr1 f1 H1 s1 p1 S1 (itr_sim _ _)⟩
  · exact h1.elim

/-! ### for -/
def forN (ok : Sto → Prop) (tg : Tg) (b : DS) (Ed : EdT) (De : DEnds) : List D → Slots → Sto → Prop
  | [] => fun env st => ok st ∧ De.nx env st
  | x :: xs => fun env st => ok st ∧ match tgSet st tg x env with
    | some env' => b Ed { nx := forN ok tg b Ed De xs, ct := forN ok tg b Ed De xs, bk := De.nx, rt := De.rt } env' st
    | none => False
def sFor (tg : Tg) (di : DI) (b : DS) : DS := fun Ed D env st => di Ed env st fun its ok st1 => forN ok tg b Ed D its env st1
theorem ds_for {tgE iter : Expr} {tg : Tg} {di : DI} (hp : PassesOwn (model X.prog X.w) X.A X.env X.xe) (hc : X.calm = true) (hi : PI X tgE iter (liftI X.K W di)) (hg : PG X tgE (gD X.K tg)) (hb : PSs X body (liftS X.K W d1))
    (hs : ∀ x, foldedSetIterable iter X.env x = pure x := by intro _; rfl) : PS X (.For tgE iter body [] pos) (liftS X.K W (sFor tg di d1)) := PSimp (ps_for hp hc hi hg hb hs) fun De σ H q => by
  obtain ⟨Ed, Pr, Fr, f, env, st, Dd, A, d, E⟩ := q
  refine ⟨Ed, Pr, Fr, f, env, st, _, A, d, fun its ok st1 h J Fr1 f1 H1 s1 p1 S1 J1 => ?_⟩
  refine ⟨fun i m σ H => m = its.length - i ∧ i ≤ its.length ∧ ∃ Fr' f' env st, Same Fr1 Fr' ∧ f1 <+: f' ∧ Sim X.K Pr Fr' f' env st σ H ∧ forN ok tg d1 Ed Dd (its.drop i) env st, ⟨its.length, rfl, Nat.zero_le _, Fr1, f1, env, st1, Same.refl _, List.prefix_refl _, S1, h⟩, ?_⟩
  rintro i m σ' H' ⟨rfl, hi, Fr2, f2, env2, st2, s2, p2, S2, h2⟩
  by_cases hlt : i < its.length
  · rw [List.drop_eq_getElem_cons hlt] at h2
    obtain ⟨hok, h2⟩ := h2
    obtain ⟨h3, h4⟩ := (J1 i Pr Fr2 f2 st2 H' s2 p2 S2.toSimC hok).1 _ (List.getElem?_eq_getElem hlt)
    refine .inr ⟨h3, fun σ H => ∃ Fr' f' env st, Same Fr1 Fr' ∧ f1 <+: f' ∧ Sim X.K Pr Fr' f' env st σ H ∧ forN ok tg d1 Ed Dd (its.drop (i + 1)) env st, fun σ3 H3 w => ⟨its.length - (i + 1), by omega, rfl, hlt, w⟩, fun v H3 y => ?_⟩
    obtain ⟨Fr3, s3, C3, r3⟩ := h4 v H3 y
    have S3 : Sim X.K Pr Fr3 f2 env2 st2 σ' H3 := S2.up s3 (List.prefix_refl _) C3
    split at h2
    · rename_i env3 e3
      refine ⟨Pr, Fr3, f2, env2, st2, _, env3, S3, r3, e3, fun σ4 _ R4 => ?_⟩
      have A4 := A.up ((s1.trans s2).trans s3) (p1.trans p2) (env' := env3) (st' := st2) (σ' := σ4) (H' := H3) ⟨C3, R4⟩
      refine ⟨Ed, Pr, Fr3, f2, env3, st2, _, A4, h2, ⟨?_, ?_, ?_, ?_⟩⟩
      · exact fun e s h Fr5 f5 σ5 H5 s5 p5 S5 => ⟨Fr5, f5, e, s, (s2.trans s3).trans s5, p2.trans p5, S5, h⟩
      · exact fun e s h Fr5 f5 σ5 H5 s5 p5 S5 => E.nx _ _ h Fr5 f5 σ5 H5 (((s1.trans s2).trans s3).trans s5) ((p1.trans p2).trans p5) S5
      · exact fun e s h Fr5 f5 σ5 H5 s5 p5 S5 => ⟨Fr5, f5, e, s, (s2.trans s3).trans s5, p2.trans p5, S5, h⟩
      · exact fun x s h v Fr5 f5 H5 s5 p5 S5 r => E.rt _ _ h v Fr5 f5 H5 (((s1.trans s2).trans s3).trans s5) ((p1.trans p2).trans p5) S5 r
    · exact h2.elim
  · have e : i = its.length := by omega
    subst e
    rw [List.drop_length] at h2
    exact .inl ⟨(J1 _ Pr Fr2 f2 st2 H' s2 p2 S2.toSimC h2.1).2 (Nat.le_refl _), E.nx _ _ h2.2 Fr2 f2 σ' H' (s1.trans s2) (p1.trans p2) S2⟩

/-! ### list comprehensions -/
def wipeD (env : Slots) : List Nat → Slots
  | [] => env
  | v :: vs => (wipeD env vs).set v none
theorem wipe_rep {K : PySem.W.Frag} {Fr : Hp} {f : List Addr} {env : Slots} {σ : L2.St} (r : RepS K Fr f env σ) : ∀ vs : List Nat, RepS K Fr f (wipeD env vs) (L2.wipe σ vs)
  | [] => r
  | v :: vs => RepS.unset v (wipe_rep r vs)
def lcN (ok : Sto → Prop) (vs : List Nat) (tg : Tg) (dt : DT) (bx : Bool) (de : DE) (env : Slots) (Q : D → Sto → Prop) : List D → List D → Sto → Prop
  | [], acc => fun st => ok st ∧ Q (.tl acc) st
  | x :: xs, acc => fun st => ok st ∧ match tgSet st tg x (wipeD env vs) with
    | some env' => dt noEd env' st fun b st1 => if b = true then de noEd env' st1 fun y st2 => acc.length < sizeLine ∧ lcN ok vs tg dt bx de env Q xs (acc ++ [(keep bx st2 y).1]) (keep bx st2 y).2 else lcN ok vs tg dt bx de env Q xs acc st1
    | none => False
def dLc (vs : List Nat) (tg : Tg) (di : DI) (dt : DT) (bx : Bool) (de : DE) : DE := fun Ed env st Q => di Ed env st fun its ok st1 => lcN ok vs tg dt bx de env Q its [] st1
def dYes : DT := fun _ _ st Q => Q true st
theorem dts_nil {X : Cx} : PTs X [] (liftT X.K noW dYes) := ⟨fun pins s σ H Q I q => pts_nil.run pins s σ H Q I (by
  obtain ⟨Ed, Pr, Fr, f, env, st, Q0, A, d, k⟩ := q
  exact k _ _ d Fr f H (Same.refl _) (List.prefix_refl _) A.toSim)⟩
theorem dts_one {X : Cx} {c : Expr} (h : PT X c (liftT X.K noW dt)) : PTs X [c] (liftT X.K noW dt) := pts_one h
theorem lift_lc {K : PySem.W.Frag} {W : WX} {vs : List Nat} {tg : Tg} {di : DI} {dt : DT} {bx : Bool} {de : DE} (hvs : ∀ j ∈ tgSlots tg, j ∈ vs) (σ : L2.St) (H : Hp) (Q : VK) (q : liftE K W (dLc vs tg di dt bx de) σ H Q) :
    tLc (liftI K W di) (gD K tg) (liftT K noW dt) (liftE K noW de) vs σ H Q := by
  obtain ⟨Ed, Pr, Fr, f, env, st, Q0, A, d, k⟩ := q
  refine ⟨Ed, Pr, Fr, f, env, st, _, A, d, fun its ok st1 h J Fr1 f1 H1 s1 p1 S1 J1 D hD => ?_⟩
  have hDF : Fr1 D = none := S1.fr.free hD
  have hDP : Pr D = none := S1.pr.free hD
  have hDf : D ∉ f1 := S1.toSimC.notCell hD
  -- the new list stands at D, neither frozen nor a cell
  have start : SimC K (upd Pr D (.lst [])) Fr1 f1 st1 (upd H1 D (.lst [])) := by
    have C := S1.toSimC.other (o := .lst []) hDF hDP hDf
    refine ⟨C.fr, fun b u e => ?_, fun b u e => ?_, fun b u e => ?_, C.nd, C.len, C.nf, C.cell⟩
    · by_cases hb : b = D
      · subst hb; rw [upd_same] at e ⊢; exact e
      · rw [upd_ne hb] at e; exact C.pr b u e
    · by_cases hb : b = D
      · subst hb; exact hDF
      · rw [upd_ne hb] at e; exact C.pF b u e
    · by_cases hb : b = D
      · subst hb; exact hDf
      · rw [upd_ne hb] at e; exact C.pf b u e
  refine ⟨fun i m H => m = its.length - i ∧ i ≤ its.length ∧ ∃ Fr' f' st acc us, Same Fr1 Fr' ∧ f1 <+: f' ∧ SimC K (upd Pr D (.lst us)) Fr' f' st H ∧ Reps K Fr' f' acc us ∧ lcN ok vs tg dt bx de env Q0 (its.drop i) acc st,
    ⟨its.length, rfl, Nat.zero_le _, Fr1, f1, st1, [], [], Same.refl _, List.prefix_refl _, start, rfl, h⟩, ?_⟩
  rintro i m H' ⟨rfl, hi, Fr2, f2, st2, acc, us, s2, p2, C2, r2, h2⟩
  have uD : ∀ {us : List V}, (upd Pr D (.lst us)) D = some (.lst us) := upd_same
  -- back to the old protection
  have back : ∀ {Fr' f' st H us}, SimC K (upd Pr D (.lst us)) Fr' f' st H → SimC K Pr Fr' f' st H := fun {Fr' f' st H us} C =>
    ⟨C.fr, fun b u e => C.pr b u (by rw [upd_ne (ne_of_none e hDP)]; exact e), fun b u e => C.pF b u (by rw [upd_ne (ne_of_none e hDP)]; exact e), fun b u e => C.pf b u (by rw [upd_ne (ne_of_none e hDP)]; exact e), C.nd, C.len, C.nf, C.cell⟩
  by_cases hlt : i < its.length
  · rw [List.drop_eq_getElem_cons hlt] at h2
    obtain ⟨hok, h2⟩ := h2
    obtain ⟨h3, h4⟩ := (J1 i _ Fr2 f2 st2 H' s2 p2 C2 hok).1 _ (List.getElem?_eq_getElem hlt)
    refine .inr ⟨h3, fun H => i + 1 ≤ its.length ∧ ∃ Fr' f' st acc us, Same Fr1 Fr' ∧ f1 <+: f' ∧ SimC K (upd Pr D (.lst us)) Fr' f' st H ∧ Reps K Fr' f' acc us ∧ lcN ok vs tg dt bx de env Q0 (its.drop (i + 1)) acc st, fun H3 w => ⟨its.length - (i + 1), by omega, rfl, w⟩, fun v H3 y => ?_⟩
    obtain ⟨Fr3, s3, C3, r3⟩ := h4 v H3 y
    have R0 : RepS K Fr3 f2 (wipeD env vs) (L2.wipe σ vs) := wipe_rep (RepS.mono ((s1.trans s2).trans s3) (p1.trans p2) A.env) vs
    split at h2
    · rename_i env3 e3
      refine ⟨_, Fr3, f2, wipeD env vs, st2, _, env3, ⟨C3, R0⟩, r3, e3, fun σ4 a4 R4 => ⟨?_, ?_⟩⟩
      · have := a4.wipe hvs
        rw [this]
        exact AgreeOff.wipe (js := vs) ⟨L2.wipe_length .., fun j hj => wipe_out hj⟩ fun _ h => h
      · refine ⟨noEd, _, Fr3, f2, env3, st2, _, ⟨⟨C3, R4⟩, fun _ _ _ _ _ _ _ _ _ _ z => z.elim⟩, h2, fun b st5 h5 Fr5 f5 H5 s5 p5 S5 => ?_⟩
        cases b with
        | true =>
          refine ⟨noEd, _, Fr5, f5, env3, st5, _, ⟨S5, fun _ _ _ _ _ _ _ _ _ _ z => z.elim⟩, h5, fun y st6 h6 w Fr6 f6 H6 s6 p6 S6 r6 => ?_⟩
          obtain ⟨Fr7, f7, s7, p7, C7, r7⟩ := r6.keep bx S6.toSimC
          have s27 := (((s3.trans s5).trans s6).trans s7)
          have p27 := ((p5.trans p6).trans p7)
          have eD : H6 D = some (.lst us) := C7.pr D _ uD
          refine ⟨us, eD, by rw [← r2.length]; exact h6.1, hlt, Fr7, f7, _, _, us ++ [w], s2.trans s27, p2.trans p27, ?_, (Reps.mono s27 p27 _ _ r2).append (.of1 r7), h6.2⟩
          have C8 := back C7
          have dF : Fr7 D = none := C7.pF D _ uD
          have df : D ∉ f7 := C7.pf D _ uD
          have C9 := C8.other (o := .lst (us ++ [w])) dF hDP df
          refine ⟨C9.fr, fun b u e => ?_, fun b u e => ?_, fun b u e => ?_, C9.nd, C9.len, C9.nf, C9.cell⟩
          · by_cases hb : b = D
            · subst hb; rw [upd_same] at e ⊢; exact e
            · rw [upd_ne hb] at e; exact C9.pr b u e
          · by_cases hb : b = D
            · subst hb; exact dF
            · rw [upd_ne hb] at e; exact C9.pF b u e
          · by_cases hb : b = D
            · subst hb; exact df
            · rw [upd_ne hb] at e; exact C9.pf b u e
        | false => exact ⟨hlt, Fr5, f5, st5, acc, us, (s2.trans s3).trans s5, p2.trans p5, S5.toSimC, Reps.mono (s3.trans s5) p5 _ _ r2, h5⟩
    · exact h2.elim
  · have e : i = its.length := by omega
    subst e
    rw [List.drop_length] at h2
    have S2 : Sim K Pr Fr2 f2 env st2 σ H' := ⟨back C2, RepS.mono (s1.trans s2) (p1.trans p2) A.env⟩
    exact .inl ⟨(J1 _ _ Fr2 f2 st2 H' s2 p2 C2 h2.1).2 (Nat.le_refl _), k _ _ h2.2 _ Fr2 f2 H' (s1.trans s2) (p1.trans p2) S2 ⟨D, us, rfl, C2.pr D _ uD, C2.pF D _ uD, hDP, C2.pf D _ uD, r2⟩⟩
theorem de_lc {elt tgE iter : Expr} {ifs : List Expr} {scope : Scope} {own : List (Str × Nat)} {tg : Tg} {di : DI} {dt : DT} (bx : Bool) (hc : X.calm = true) (hN : X.N.Nodup) (hi : PI X tgE iter (liftI X.K W di)) (ok : BlkOk X.N X.env.scope scope own)
    (hg : ∀ (s : Shared) (H : Hp) (C : Addr) (cl : List (Str × Addr)) (fp : List Addr), PG (X.blk s H scope (compEnvC scope cl C X.env) fp) tgE (gD X.K tg)) (ht : ∀ (s : Shared) (H : Hp) (C : Addr) (cl : List (Str × Addr)) (fp : List Addr), PTs (X.blk s H scope (compEnvC scope cl C X.env) fp) ifs (liftT X.K noW dt))
    (he : ∀ (s : Shared) (H : Hp) (C : Addr) (cl : List (Str × Addr)) (fp : List Addr), PE (X.blk s H scope (compEnvC scope cl C X.env) fp) elt (liftE X.K noW de)) (hvs : ∀ j ∈ tgSlots tg, j ∈ own.map (·.2)) (hs : ∀ x, foldedSetIterable iter X.env x = pure x := by intro _; rfl) :
    PE X (.ListComp elt [⟨tgE, iter, ifs, 0⟩] scope pos) (liftE X.K W (dLc (own.map (·.2)) tg di dt bx de)) := PEimp (pe_lc hc hN hi ok hg ht he hs) (lift_lc hvs)
theorem ds_setLc {i : Nat} {y : Str} {py : Pos} {elt tgE iter : Expr} {ifs : List Expr} {scope : Scope} {own : List (Str × Nat)} {spos : Pos} {tg : Tg} {di : DI} {dt : DT} (bx bx' : Bool) (hc : X.calm = true) (hN : X.N.Nodup) (hy : X.N[i]? = some y) (hyl : X.env.scope.names.lookup y = some .local)
    (hsw : swapsWith (.ListComp elt [⟨tgE, iter, ifs, 0⟩] scope pos) (some (.Name y py)) spos.line X.env = pure true) (hi : PI X tgE iter (liftI X.K W di)) (ok : BlkOk X.N X.env.scope scope own)
    (hg : ∀ (s : Shared) (H : Hp) (C : Addr) (cl : List (Str × Addr)) (fp : List Addr), PG (X.blk s H scope (compEnvC scope cl C X.env) fp) tgE (gD X.K tg)) (ht : ∀ (s : Shared) (H : Hp) (C : Addr) (cl : List (Str × Addr)) (fp : List Addr), PTs (X.blk s H scope (compEnvC scope cl C X.env) fp) ifs (liftT X.K noW dt))
    (he : ∀ (s : Shared) (H : Hp) (C : Addr) (cl : List (Str × Addr)) (fp : List Addr), PE (X.blk s H scope (compEnvC scope cl C X.env) fp) elt (liftE X.K noW de)) (hvs : ∀ j ∈ tgSlots tg, j ∈ own.map (·.2)) (hs : ∀ x, foldedSetIterable iter X.env x = pure x := by intro _; rfl) :
    PS X (.Assign [.Name y py] (.ListComp elt [⟨tgE, iter, ifs, 0⟩] scope pos) spos) (liftS X.K W (sAsg bx' i (dLc (own.map (·.2)) tg di dt bx de))) := PSimp (ps_setLc hc hN hy hyl hsw hi ok hg ht he hs) fun De σ H q => by
  have q' := lift_asg bx' De σ H q
  exact lift_lc hvs σ H _ q'
end
end DW

/-! DW9: dict displays and comprehensions, raise, try, the def's rule. -/
namespace DW
open PySem PySem.Spec PyProof.Rows L2

section
variable {X : Cx} {W : WX} {pos : Pos}

/-! ### {k: v, ..} written -/
def dPairs : List (DE × DE) → EdT → Slots → Sto → (List (D × D) → Sto → Prop) → Prop
  | [], _, _, st, Q => Q [] st
  | (dk, dv) :: r, Ed, env, st, Q => dk Ed env st fun x st1 => dv Ed env st1 fun y st2 => dPairs r Ed env st2 fun ps st3 => Q ((frz x, frz y) :: ps) st3
def keys? : List (D × D) → Option (List (Key × D))
  | [] => some []
  | (x, y) :: r => match keyOf x, keys? r with
    | some k, some s => some ((k, y) :: s)
    | _, _ => none
def mergeP (kvs more : List (Key × D)) : List (Key × D) := more.foldl (fun acc kv => putP acc kv.1 kv.2) kvs
def dDisp (ps : List (DE × DE)) : DE := fun Ed env st Q => dPairs ps Ed env st fun qs st1 => match keys? qs with
  | some kvs => kvs.length ≤ 15 ∧ Q (.td ((mergeP [] kvs).map (·.1)) ((mergeP [] kvs).map (·.2))) st1
  | none => False
theorem RepK.merge {K : PySem.W.Frag} {Fr : Hp} {f : List Addr} : ∀ {more : List (Key × D)} {us : List (Key × V)} {kvs : List (Key × D)} {ws : List (Key × V)}, RepK K Fr f more us → RepK K Fr f kvs ws → RepK K Fr f (mergeP kvs more) (mergeK ws us)
  | [], us, kvs, ws, h, h' => by cases h.inv0; exact h'
  | p :: more, us, kvs, ws, h, h' => by
    obtain ⟨v, r, rfl, h1, h2⟩ := h.inv
    have q := RepK.merge (more := more) (us := r) (kvs := putP kvs p.1 p.2) (ws := putK ws p.1 v) h2 (h'.put h1)
    exact q
/-- a list of pairs of values -/
def RepP (K : PySem.W.Frag) (Fr : Hp) (f : List Addr) : List (D × D) → List (V × V) → Prop
  | [], vs => vs = []
  | p :: ps, vs => ∃ v r, vs = v :: r ∧ Rep K Fr f p.1 v.1 ∧ Rep K Fr f p.2 v.2 ∧ RepP K Fr f ps r
theorem RepP.mono {K : PySem.W.Frag} {Fr Fr' : Hp} {f f' : List Addr} (s : Same Fr Fr') (p : f <+: f') : ∀ {ps : List (D × D)} {vs : List (V × V)}, RepP K Fr f ps vs → RepP K Fr' f' ps vs
  | [], _, h => h
  | q :: ps, _, h => by
    obtain ⟨v, r, e, h1, h2, h3⟩ := h
    exact ⟨v, r, e, Rep.mono s p _ _ h1, Rep.mono s p _ _ h2, RepP.mono s p h3⟩
theorem RepP.keys {K : PySem.W.Frag} {Fr : Hp} {f : List Addr} : ∀ {ps : List (D × D)} {vs : List (V × V)} {kvs : List (Key × D)}, RepP K Fr f ps vs → keys? ps = some kvs → ∃ us : List (Key × V), vs = us.map (fun kv => (kV kv.1, kv.2)) ∧ RepK K Fr f kvs us
  | [], vs, kvs, h, e => by
    cases (show vs = [] from h); cases e
    exact ⟨[], rfl, .nil⟩
  | q :: ps, vs, kvs, h, e => by
    obtain ⟨v, r, rfl, h1, h2, h3⟩ := h
    unfold keys? at e
    cases e1 : keyOf q.1 with
    | none => simp [e1] at e
    | some k =>
      cases e2 : keys? ps with
      | none => simp [e2] at e
      | some s =>
        simp only [e1, e2, Option.some.injEq] at e
        subst e
        obtain ⟨us, rfl, hu⟩ := RepP.keys h3 e2
        refine ⟨(k, v.2) :: us, ?_, RepK.cons (p := (k, q.2)) h2 hu⟩
        rw [List.map_cons, ← keyOf_rep e1 h1]
theorem lift_pairs {K : PySem.W.Frag} {W : WX} : ∀ (ps : List (DE × DE)) {σ : L2.St} {H : Hp} {Ed : EdT} {Pr Fr : Hp} {f : List Addr} {env : Slots} {st : Sto} {R : List (D × D) → Sto → Prop} {Q : List (V × V) → Hp → Prop}, At K W Ed Pr Fr f env st σ H → dPairs ps Ed env st R →
    (∀ qs st1 vs Fr' f' H', R qs st1 → Same Fr Fr' → f <+: f' → Sim K Pr Fr' f' env st1 σ H' → RepP K Fr' f' qs vs → Q vs H') → tPairs (ps.map fun p => (liftE K W p.1, liftE K W p.2)) σ H Q
  | [], σ, H, Ed, Pr, Fr, f, env, st, R, Q, A, d, k => k _ _ _ Fr f H d (Same.refl _) (List.prefix_refl _) A.toSim rfl
  | p :: ps, σ, H, Ed, Pr, Fr, f, env, st, R, Q, A, d, k => by
    refine lift2 (R := fun x y st2 => dPairs ps Ed env st2 fun qs st3 => R ((x, y) :: qs) st3) A d fun x y st2 v u Fr1 f1 H1 h1 s1 p1 S1 r1 r2 => ?_
    refine lift_pairs ps (A.up s1 p1 S1) h1 fun qs st3 vs Fr2 f2 H2 h2 s2 p2 S2 r3 => ?_
    exact k _ _ _ Fr2 f2 H2 h2 (s1.trans s2) (p1.trans p2) S2 ⟨(v, u), vs, rfl, Rep.mono s2 p2 _ _ r1, Rep.mono s2 p2 _ _ r2, r3⟩
theorem de_disp {keys : List (Option Expr)} {values : List Expr} {ps : List (DE × DE)} (h : PPs X pos keys values (ps.map fun p => (liftE X.K W p.1, liftE X.K W p.2))) (hall : keys.all (·.isSome) = true) (hl : keys.length = values.length) (h0 : keys ≠ [])
    (h15 : keys.length ≤ 15) : PE X (.Dict keys values pos) (liftE X.K W (dDisp ps)) := PEimp (pe_disp h hall hl h0 h15) fun σ H Q q => by
  obtain ⟨Ed, Pr, Fr, f, env, st, Q0, A, d, k⟩ := q
  intro D hD
  have hDF : Fr D = none := A.fr.free hD
  have hDP : Pr D = none := A.pr.free hD
  have hDf : D ∉ f := A.toSimC.notCell hD
  have C := A.toSimC.other (o := .dK []) hDF hDP hDf
  have C1 : SimC X.K (upd Pr D (.dK [])) Fr f st (upd H D (.dK [])) := by
    refine ⟨C.fr, fun b u e => ?_, fun b u e => ?_, fun b u e => ?_, C.nd, C.len, C.nf, C.cell⟩
    · by_cases hb : b = D
      · subst hb; rw [upd_same] at e ⊢; exact e
      · rw [upd_ne hb] at e; exact C.pr b u e
    · by_cases hb : b = D
      · subst hb; exact hDF
      · rw [upd_ne hb] at e; exact C.pF b u e
    · by_cases hb : b = D
      · subst hb; exact hDf
      · rw [upd_ne hb] at e; exact C.pf b u e
  have A1 : At X.K noW noEd (upd Pr D (.dK [])) Fr f env st σ (upd H D (.dK [])) := ⟨⟨C1, A.env⟩, fun _ _ _ _ _ _ _ _ _ _ z => z.elim⟩
  -- the parts may let an exception out: they are asked at the old protection's state
  have A2 : At X.K W Ed (upd Pr D (.dK [])) Fr f env st σ (upd H D (.dK [])) := ⟨⟨C1, A.env⟩, fun C0 e s Fr' f' σ' H' s1 p1 S1 hE => by
    refine A.exn C0 e s Fr' f' σ' H' s1 p1 ⟨⟨S1.fr, fun b u e => S1.pr b u ?_, fun b u e => S1.pF b u ?_, fun b u e => S1.pf b u ?_, S1.nd, S1.len, S1.nf, S1.cell⟩, S1.env⟩ hE
    all_goals (rw [upd_ne (ne_of_none e hDP)]; exact e)⟩
  refine lift_pairs ps A2 d fun qs st1 vs Fr1 f1 H1 h1 s1 p1 S1 r1 => ⟨S1.pr D _ upd_same, ?_⟩
  split at h1
  · rename_i kvs ek
    obtain ⟨us, rfl, hu⟩ := r1.keys ek
    refine ⟨us, rfl, by rw [hu.length]; exact h1.1, ?_⟩
    have hm := RepK.merge hu (RepK.nil (K := X.K) (Fr := Fr1) (f := f1))
    have dF : Fr1 D = none := S1.pF D _ upd_same
    have df : D ∉ f1 := S1.pf D _ upd_same
    have C2 : SimC X.K Pr Fr1 f1 st1 H1 := by
      refine ⟨S1.fr, fun b u e => S1.pr b u ?_, fun b u e => S1.pF b u ?_, fun b u e => S1.pf b u ?_, S1.nd, S1.len, S1.nf, S1.cell⟩
      all_goals (rw [upd_ne (ne_of_none e hDP)]; exact e)
    exact k _ _ h1.2 _ Fr1 f1 _ s1 p1 ⟨C2.other dF hDP df, S1.env⟩ ⟨D, _, rfl, upd_same, dF, hDP, df, hm.1, hm.2⟩
  · exact h1.elim

/-! ### raise, in a def or a try -/
def sRaise (C : Addr) : DS := fun Ed _ env st => Ed C env st
theorem ds_raise {x m : Str} {j : Nat} {p p2 p3 : Pos} {C : Addr} {bmB : List Value} {B newId initId : String} (hc : X.calm = true) (tk : Takes X W) (F : ExcBaseFacts B newId initId bmB) (q : PySem.W.excIn X.K C bmB newId = true) (gC : X.mg x = some (.ref C)) (kC : PySem.W.keepIn X.K (.ref C) = true) (r : Raises X (.ref C)) (hg : Gl X x)
    (hdb : (x == ("__debug__" : Str)) = false := by decide) : PS X (.Raise (some (.Call (.Name x p) [.Constant (.str m) j p2] [] p3)) none pos) (liftS X.K W (sRaise C)) := PSimp (ps_raise hc tk (pmk_own F q gC kC r hg hdb)) fun De σ H q => by
  obtain ⟨Ed, Pr, Fr, f, env, st, Dd, A, d, E⟩ := q
  exact A.exn C env st Fr f σ H (Same.refl _) (List.prefix_refl _) A.toSim d
/-! ### try: body, except C as n: suite -/
def sTryAs (cl : List (Addr × Bool)) (i : Nat) (db : DS) (dsu : Addr → Addr → DS) : DS := fun Ed D env st =>
  db (fun C env' st' => ∃ b, (C, b) ∈ cl ∧ (b = true → ∀ a, dsu C a noEd { nx := fun e s => D.nx (e.set i none) s, rt := D.rt, bk := fun e s => D.bk (e.set i none) s, ct := fun e s => D.ct (e.set i none) s } (env'.set i (some (.con a))) st') ∧ (b = false → Ed C env' st')) D env st
theorem RepS.unset' {K : PySem.W.Frag} {Fr : Hp} {f : List Addr} {env : Slots} {σ : L2.St} (i : Nat) (h : RepS K Fr f env σ) : RepS K Fr f (env.set i none) (σ.set i none) := RepS.unset i h
theorem ds_try_as {x n : Str} {c : Value} {i : Nat} {body suite : List Stmt} {b₀ : Stmt} {np pos' : Pos} {db : DS} {dsu : Addr → Addr → DS} {cl : List (Addr × Bool)} (hs : X.stack = X.env :: X.outer) (hf : X.env.frame = some X.env.locals) (hN : X.N.Nodup) (hi : X.N[i]? = some n) (hln : X.env.kindOf n = some .local) (hc : Names X x c) (tk : Takes X W)
    (hb : ∀ (W' : WX) (pn : List (Addr × Obj)) (xe : Value → Shared → Prop), Takes (X.tr pn xe) W' → PassesOwn (model X.prog X.w) X.A X.env xe → PSs (X.tr pn xe) body (liftS X.K W' db))
    (hsu : ∀ (a : Addr) (oe : Obj) (C : Addr) (pn : List (Addr × Obj)), Zc (.ref C) none oe → (∃ vs, oe.data = .fields vs) → PSs (X.suite a ((a, oe) :: pn)) (b₀ :: suite) (liftS X.K noW (dsu C a)))
    (hcl : ∀ p ∈ cl, PySem.W.exmOne X.K (.ref p.1) c = some p.2) :
    PS X (.Try body [.ExceptHandler (some (.Name x np)) (some n) (b₀ :: suite) pos'] [] [] pos) (liftS X.K W (sTryAs cl i db dsu)) := by
  refine PSimp (ps_try_as (tb := fun W' => liftS X.K W' db) (ts := fun a cls d => fun De σ H => ∃ C, cls = .ref C ∧ d = none ∧ liftS X.K noW (dsu C a) De σ H) hs hf hN hi hln hc tk hb
    (fun a oe cls d pn hz hfd => ⟨fun pins s σ H D I q => ?_⟩)) fun De σ H q => ?_
  · obtain ⟨C, rfl, rfl, q⟩ := q
    exact (hsu a oe C pn hz hfd).run pins s σ H D I q
  · obtain ⟨Ed, Pr, Fr, f, env, st, Dd, A, d, E⟩ := q
    refine ⟨_, Pr, Fr, f, env, st, Dd, ⟨A.toSim, fun C env' st' Fr1 f1 σ1 H1 s1 p1 S1 hE => ?_⟩, d, E⟩
    obtain ⟨b, hm, ht, hn⟩ := hE
    refine ⟨b, hcl _ hm, fun e a ha => ?_, fun e => A.exn C env' st' Fr1 f1 σ1 H1 s1 p1 S1 (hn e)⟩
    refine ⟨C, rfl, rfl, noEd, Pr, Fr1, f1, _, st', _, ⟨⟨S1.toSimC, RepS.set i (x := .con a) rfl S1.env⟩, fun _ _ _ _ _ _ _ _ _ _ z => z.elim⟩, ht e a, ⟨?_, ?_, ?_, ?_⟩⟩
    · exact fun e s h Fr2 f2 σ2 H2 s2 p2 S2 => E.nx _ _ h Fr2 f2 _ H2 (s1.trans s2) (p1.trans p2) ⟨S2.toSimC, RepS.unset i S2.env⟩
    · exact fun e s h Fr2 f2 σ2 H2 s2 p2 S2 => E.bk _ _ h Fr2 f2 _ H2 (s1.trans s2) (p1.trans p2) ⟨S2.toSimC, RepS.unset i S2.env⟩
    · exact fun e s h Fr2 f2 σ2 H2 s2 p2 S2 => E.ct _ _ h Fr2 f2 _ H2 (s1.trans s2) (p1.trans p2) ⟨S2.toSimC, RepS.unset i S2.env⟩
    · exact fun x s h v Fr2 f2 H2 s2 p2 S2 r => E.rt _ _ h v Fr2 f2 H2 (s1.trans s2) (p1.trans p2) S2 r
/-- isinstance of the error that is handled -/
def opIsE (a C : Addr) (b : Bool) : Sto → List D → (D → Prop) → Prop := fun _ xs k => match xs with
  | [.con a', .con C'] => a' = a ∧ C' = C ∧ k (.bl b)
  | _ => False
theorem cd_isE {K : PySem.W.Frag} {D0 a C : Addr} {b : Bool} (h : PySem.W.kitOne K (.ref D0) (.ref C) = some b) : CallD K (rIsE K D0 a) (opIsE a C b) := by
  intro Pr Fr f st H xs vs k Q S r o q
  unfold opIsE at o
  split at o
  · obtain ⟨v, u, rfl, r1, r2⟩ := r.two
    obtain ⟨rfl, rfl, o⟩ := o
    cases (show v = _ from r1); cases (show u = _ from r2)
    exact ⟨_, .ref _, b, rfl, fun u hu => hu, h, q _ _ Fr H o (Same.refl _) S rfl⟩
  · exact o.elim

/-! ### the def's rule -/
mutual
def cl (m : Nat) : D → Bool
  | .ref n => decide (n < m)
  | .tup ds => cls m ds
  | .fl ds => cls m ds
  | .sl ds => cls m ds
  | .tl ds => cls m ds
  | .fd _ ds => cls m ds
  | .td _ ds => cls m ds
  | _ => true
def cls (m : Nat) : List D → Bool
  | [] => true
  | d :: ds => cl m d && cls m ds
end
def clM (m : Nat) : MO → Bool
  | .lst ds => cls m ds
  | .dic kvs => cls m (kvs.map (·.2))
  | .obj _ fs => cls m (fs.map (·.2))
section
variable {K : PySem.W.Frag} {Fr : Hp} {f f' : List Addr} {m : Nat}
mutual
theorem Rep.shr (hf : f <+: f') (hm : f.length = m) : ∀ (d : D) (v : V), cl m d = true → Rep K Fr f' d v → Rep K Fr f d v
  | .non, _, _, h => h
  | .bl _, _, _, h => h
  | .int _, _, _, h => h
  | .str _, _, _, h => h
  | .tup ds, _, c, h => by
    obtain ⟨a, vs, e, s, r⟩ := h
    exact ⟨a, vs, e, s, Reps.shr hf hm ds vs c r⟩
  | .ref n, _, c, h => by
    obtain ⟨a, e, q⟩ := h
    refine ⟨a, ?_, q⟩
    have hn : n < m := of_decide_eq_true (show decide (n < m) = true from c)
    obtain ⟨t, rfl⟩ := hf
    rw [List.getElem?_append_left (by omega)] at e
    exact e
  | .fl ds, _, c, h => by
    obtain ⟨a, vs, e, s, r⟩ := h
    exact ⟨a, vs, e, s, Reps.shr hf hm ds vs c r⟩
  | .sl ds, _, c, h => by
    obtain ⟨a, vs, e, s, r⟩ := h
    exact ⟨a, vs, e, s, Reps.shr hf hm ds vs c r⟩
  | .fd ks ds, _, c, h => by
    obtain ⟨a, kvs, e, s, k, r⟩ := h
    exact ⟨a, kvs, e, s, k, Reps.shr hf hm ds _ c r⟩
  | .con _, _, _, h => h
  | .ty _, _, _, h => h
  | .tl _, _, _, h => h
  | .td _ _, _, _, h => h
theorem Reps.shr (hf : f <+: f') (hm : f.length = m) : ∀ (ds : List D) (vs : List V), cls m ds = true → Reps K Fr f' ds vs → Reps K Fr f ds vs
  | [], _, _, h => h
  | d :: ds, _, c, h => by
    obtain ⟨v, r, e, h1, h2⟩ := h
    have c' := Bool.and_eq_true_iff.mp (show (cl m d && cls m ds) = true from c)
    exact ⟨v, r, e, Rep.shr hf hm d v c'.1 h1, Reps.shr hf hm ds r c'.2 h2⟩
end
theorem RepO.cut (hf : f <+: f') (hm : f.length = m) {a : Addr} {mo : MO} {o : HO} (c : clM m mo = true) (h : RepO K Fr f' a mo o) : RepO K Fr f a mo o := by
  cases mo with
  | lst ds => obtain ⟨vs, e, r⟩ := h; exact ⟨vs, e, Reps.shr hf hm _ _ c r⟩
  | dic kvs => obtain ⟨ks, e, k, r⟩ := h; exact ⟨ks, e, k, Reps.shr hf hm _ _ c r⟩
  | obj C fs => obtain ⟨dx, gs, e, p, k, r⟩ := h; exact ⟨dx, gs, e, p, k, Reps.shr hf hm _ _ c r⟩
/-- the cells behind the first m are forgotten -/
theorem SimC.cut {Pr : Hp} {st : Sto} {H : Hp} (S : SimC K Pr Fr f' st H) (hf : f <+: f') (hm : f.length = m) (hl : m ≤ st.length) (c : (st.take m).all (clM m) = true) : SimC K Pr Fr f (st.take m) H where
  fr := S.fr
  pr := S.pr
  pF := S.pF
  pf := fun a o e h => S.pf a o e (hf.subset h)
  nd := S.nd.sublist hf.sublist
  len := by rw [List.length_take]; omega
  nf := fun a ha => S.nf a (hf.subset ha)
  cell := fun n mo a e1 e2 => by
    have hn : n < m := by
      have := (List.getElem?_eq_some_iff.mp e1).1
      rw [List.length_take] at this
      omega
    have e1' : st[n]? = some mo := by rw [List.getElem?_take_of_lt hn] at e1; exact e1
    obtain ⟨o, h1, h2⟩ := S.cell n mo a e1' (pre_get hf e2)
    exact ⟨o, h1, h2.cut hf hm (List.all_eq_true.mp c mo (List.mem_of_getElem? e1))⟩
end
section
variable {K : PySem.W.Frag} {Fr : Hp} {f : List Addr}
mutual
theorem Rep.cl : ∀ (d : D) (v : V), Rep K Fr f d v → cl f.length d = true
  | .non, _, _ => rfl
  | .bl _, _, _ => rfl
  | .int _, _, _ => rfl
  | .str _, _, _ => rfl
  | .tup ds, _, h => by
    obtain ⟨a, vs, e, s, r⟩ := h
    exact Reps.cl ds vs r
  | .ref n, _, h => by
    obtain ⟨a, e, q⟩ := h
    exact decide_eq_true (List.getElem?_eq_some_iff.mp e).1
  | .fl ds, _, h => by
    obtain ⟨a, vs, e, s, r⟩ := h
    exact Reps.cl ds vs r
  | .sl ds, _, h => by
    obtain ⟨a, vs, e, s, r⟩ := h
    exact Reps.cl ds vs r
  | .fd ks ds, _, h => by
    obtain ⟨a, kvs, e, s, k, r⟩ := h
    exact Reps.cl ds _ r
  | .con _, _, _ => rfl
  | .ty _, _, _ => rfl
  | .tl _, _, h => h.elim
  | .td _ _, _, h => h.elim
theorem Reps.cl : ∀ (ds : List D) (vs : List V), Reps K Fr f ds vs → cls f.length ds = true
  | [], _, _ => rfl
  | d :: ds, _, h => by
    obtain ⟨v, r, e, h1, h2⟩ := h
    exact Bool.and_eq_true_iff.mpr ⟨Rep.cl d v h1, Reps.cl ds r h2⟩
end
/-- a store that stands speaks of its own cells alone -/
theorem SimC.closed {Pr : Hp} {st : Sto} {H : Hp} (S : SimC K Pr Fr f st H) {n : Nat} {mo : MO} (e : st[n]? = some mo) : clM st.length mo = true := by
  obtain ⟨a, o, _, _, r⟩ := S.at e
  rw [← S.len]
  cases mo with
  | lst ds => obtain ⟨vs, _, r⟩ := r; exact Reps.cl _ _ r
  | dic kvs => obtain ⟨vs, _, _, r⟩ := r; exact Reps.cl _ _ r
  | obj C fs => obtain ⟨dx, gs, _, _, _, r⟩ := r; exact Reps.cl _ _ r
end
/-- the cells of the caller are as they were, or speak of the caller's cells alone -/
def CutOk (st0 st' : Sto) : Prop := st0.length ≤ st'.length ∧ ∀ n mo, n < st0.length → st'[n]? = some mo → st0[n]? = some mo ∨ clM st0.length mo = true
theorem CutOk.all {K : PySem.W.Frag} {Fr : Hp} {f : List Addr} {Pr : Hp} {st0 st' : Sto} {H : Hp} (S : SimC K Pr Fr f st0 H) (h : CutOk st0 st') : (st'.take st0.length).all (clM st0.length) = true := by
  rw [List.all_eq_true]
  intro mo hm
  obtain ⟨n, hn, e⟩ := List.getElem_of_mem hm
  have hn' : n < st0.length := by rw [List.length_take] at hn; omega
  have e1 : st'[n]? = some mo := by
    rw [← e, List.getElem_take]
    exact List.getElem?_eq_getElem _
  rcases h.2 n mo hn' e1 with q | q
  · exact S.closed q
  · exact q
/-- how a def's end is handed to its caller, who had the cells st0: as it is; the new cells forgotten; the new container that is handed back becomes nobody's -/
def Leave (st0 : Sto) (x : D) (st : Sto) (Q : D → Sto → Prop) : Prop :=
  Q x st ∨ (CutOk st0 st ∧ cl st0.length x = true ∧ Q x (st.take st0.length)) ∨
  ∃ n, x = .ref n ∧ st0.length ≤ n ∧ CutOk st0 st ∧ match st[n]? with
    | some (.lst ds) => cls st0.length ds = true ∧ Q (.tl ds) (st.take st0.length)
    | some (.dic kvs) => cls st0.length (kvs.map (·.2)) = true ∧ Q (.td (kvs.map (·.1)) (kvs.map (·.2))) (st.take st0.length)
    | _ => False
def LeaveE (st0 : Sto) (st : Sto) (Q : Sto → Prop) : Prop := Q st ∨ (CutOk st0 st ∧ Q (st.take st0.length))
theorem leave_rep {K : PySem.W.Frag} {Pr Fr Fr' : Hp} {f f' : List Addr} {x : D} {st0 st : Sto} {H0 H : Hp} {v : V} {Q0 : D → Sto → Prop} {Q : VK} (S0 : SimC K Pr Fr f st0 H0) (hf : f <+: f') (S : SimC K Pr Fr' f' st H) (r : RepX K Pr Fr' f' H x v) (h : Leave st0 x st Q0)
    (q : ∀ x st', Q0 x st' → ∀ v f'' H', f <+: f'' → SimC K Pr Fr' f'' st' H' → RepX K Pr Fr' f'' H' x v → Q v H') : Q v H := by
  have hm : f.length = st0.length := S0.len
  generalize hmm : st0.length = m at hm
  rcases h with h | ⟨h1, h2, h⟩ | ⟨n, rfl, h1, h3, h⟩
  · exact q _ _ h v f' H hf S r
  · have C := S.cut hf hm (by rw [← hmm]; exact h1.1) (by rw [← hmm]; exact h1.all S0)
    rw [hmm] at h2 h
    refine q _ _ h v f H (List.prefix_refl _) C ?_
    have sub : ∀ a, a ∉ f' → a ∉ f := fun a ha hb => ha (hf.subset hb)
    cases x with
    | tl ds =>
      obtain ⟨a, vs, rfl, e1, e2, e3, e4, r⟩ := r
      exact ⟨a, vs, rfl, e1, e2, e3, sub a e4, Reps.shr hf hm _ _ h2 r⟩
    | td ks ds =>
      obtain ⟨a, vs, rfl, e1, e2, e3, e4, e5, r⟩ := r
      exact ⟨a, vs, rfl, e1, e2, e3, sub a e4, e5, Reps.shr hf hm _ _ h2 r⟩
    | _ => exact Rep.shr hf hm _ _ h2 r
  · have C := S.cut hf hm (by rw [← hmm]; exact h3.1) (by rw [← hmm]; exact h3.all S0)
    rw [hmm] at h1 h
    obtain ⟨a, ea, rfl⟩ := (show Rep K Fr' f' (.ref n) v from r)
    have ha : a ∉ f := fun hb => by
      obtain ⟨j, hj, e⟩ := List.getElem_of_mem hb
      have e' : f'[j]? = some a := pre_get hf (by rw [List.getElem?_eq_getElem hj, e])
      have := get_inj S.nd e' ea
      omega
    have nf : Fr' a = none := S.nf a (List.mem_of_getElem? ea)
    have np : Pr a = none := by
      cases e : Pr a with
      | none => rfl
      | some o => exact (S.pf a o e (List.mem_of_getElem? ea)).elim
    split at h
    · rename_i ds e
      obtain ⟨b, vs, e1, e2, r⟩ := S.lst e
      rw [ea] at e1; cases e1
      exact q _ _ h.2 _ f H (List.prefix_refl _) C ⟨a, vs, rfl, e2, nf, np, ha, Reps.shr hf hm _ _ h.1 r⟩
    · rename_i kvs e
      obtain ⟨b, us, e1, e2, e3, r⟩ := S.dic e
      rw [ea] at e1; cases e1
      exact q _ _ h.2 _ f H (List.prefix_refl _) C ⟨a, us, rfl, e2, nf, np, ha, e3, Reps.shr hf hm _ _ h.1 r⟩
    · exact h.elim
end
section
variable {P : Program} {w : World} {K : PySem.W.Frag} {mg : Str → Option Value} {base : Heap}
/-- what is to be shown of a def's body on data -/
def BodyOk (N ps : List Str) (dsp : DSp) (body : DS) : Prop := ∀ (ds : List D) (st : Sto) (Ed : Addr → Sto → Prop) (Q : D → Sto → Prop), dsp ds st Ed Q → ds.length = ps.length ∧
  body (fun C _ st' => LeaveE st st' (Ed C)) { nx := fun _ st' => Leave st .non st' Q, rt := fun x st' => Leave st x st' Q } (ds.map some ++ List.replicate (N.length - ds.length) none) st
theorem start_rep {K : PySem.W.Frag} {Fr : Hp} {f : List Addr} : ∀ {ds : List D} {vs : List V} (n : Nat), Reps K Fr f ds vs → RepS K Fr f (ds.map some ++ List.replicate n none) (vs.map some ++ List.replicate n none)
  | [], vs, n, h => by
    cases (show vs = [] from h)
    simp only [List.map_nil, List.nil_append]
    induction n with
    | zero => rfl
    | succ n ih => exact ⟨none, _, rfl, (fun x e => by cases e), ih⟩
  | d :: ds, vs, n, h => by
    obtain ⟨v, r, rfl, h1, h2⟩ := h
    exact ⟨some v, _, rfl, (fun x e => by cases e; exact ⟨v, rfl, h1⟩), start_rep n h2⟩
/-- THE RULE for a def: its body walked (hb), and what that does to data (hw) -/
theorem fnD {x qual : Str} {st : Stmt} {f : Addr} {fd : FuncData} {N ps : List Str} {k : Nat} {dsp : DSp} {body : DS} (F : Fun K x qual st f fd) (S : FnScope N ps (defScope st)) (hw : BodyOk N ps dsp body)
    (hb : ∀ (cdv : Value) (A : Around) (outer : List Env) (s : Shared) (H : Hp) (E : XK), Room k (A.deeper (envOfC qual (defScope st) s.heap.objs.size f cdv)) → PSs (cxOf (L2.CX P w) P w K mg base N qual (defScope st) f cdv A outer s H E) (defBody st) (liftS K (fun cls d _ H => E cls d H) body)) :
    FnOk P w K mg base (L2.CX P w) (k + 1) f fd ps (liftSp K dsp) := by
  refine F.okX S (fun vs H Q E h => ?_) (fun cdv A outer s H vs Q E hr h => ?_)
  · obtain ⟨Pr, Fr, f, st, ds, Ed, Q0, C, r, d, _⟩ := h
    rw [← r.length]
    exact (hw _ _ _ _ d).1
  · obtain ⟨Pr, Fr, f, st0, ds, Ed, Q0, C, r, d, q, e⟩ := h
    refine ⟨_, hb cdv A outer s H E hr, ?_⟩
    have hl := (hw _ _ _ _ d).1
    refine ⟨_, Pr, Fr, f, _, st0, _, ⟨⟨C, ?_⟩, fun C0 env' st' Fr' f' σ' H' s1 p1 S1 hE => ?_⟩, (hw _ _ _ _ d).2, ⟨?_, ?_, ?_, ?_⟩⟩
    · unfold L2.start
      rw [← r.length]
      exact start_rep _ r
    · rcases hE with hE | ⟨h1, hE⟩
      · exact e _ _ hE Fr' f' H' s1 p1 S1.toSimC
      · exact e _ _ hE Fr' f H' s1 (List.prefix_refl _) (S1.toSimC.cut p1 C.len h1.1 (h1.all C))
    · exact fun env' st' h Fr' f' σ' H' s1 p1 S1 => leave_rep C p1 S1.toSimC (x := .non) (v := .non) rfl h fun x st2 hq v f2 H2 p2 C2 r2 => q _ _ hq v Fr' f2 H2 s1 p2 C2 r2
    · exact fun _ _ h => h.elim
    · exact fun _ _ h => h.elim
    · exact fun x st' h v Fr' f' H' s1 p1 S1 rx => leave_rep C p1 S1 rx h fun x st2 hq v f2 H2 p2 C2 r2 => q _ _ hq v Fr' f2 H2 s1 p2 C2 r2
theorem fnOk_no {f : Addr} {fd : FuncData} {ps : List Str} {k : Nat} {dsp : DSp} (no : ∀ ds st Ed Q, ¬ dsp ds st Ed Q) : FnOk P w K mg base (L2.CX P w) k f fd ps (liftSp K dsp) := by
  have no' : ∀ vs H Q E, ¬ liftSp K dsp vs H Q E := fun vs H Q E h => by
    obtain ⟨Pr, Fr, f, st, ds, Ed, Q0, _, _, h, _⟩ := h
    exact no _ _ _ _ h
  exact ⟨fun vs H Q E h => absurd h (no' vs H Q E), fun A outer s H args us vs Q E _ _ _ _ h => absurd h (no' vs H Q E)⟩
end
end DW

/-! DW10: dict comprehensions. -/
namespace DW
open PySem PySem.Spec PyProof.Rows L2

section
variable {X : Cx} {W : WX} {pos : Pos}
def dcN (ok : Sto → Prop) (vs : List Nat) (tg : Tg) (dt : DT) (bx : Bool) (dk de : DE) (env : Slots) (Q : D → Sto → Prop) : List D → List (Key × D) → Sto → Prop
  | [], acc => fun st => ok st ∧ Q (.td (acc.map (·.1)) (acc.map (·.2))) st
  | x :: xs, acc => fun st => ok st ∧ match tgSet st tg x (wipeD env vs) with
    | some env' => dt noEd env' st fun b st1 => if b = true then dk noEd env' st1 fun q st2 => de noEd env' st2 fun y st3 => match keyOf q with
        | some kk => acc.length < sizeLine ∧ dcN ok vs tg dt bx dk de env Q xs (putP acc kk (keep bx st3 y).1) (keep bx st3 y).2
        | none => False
      else dcN ok vs tg dt bx dk de env Q xs acc st1
    | none => False
def dDc (vs : List Nat) (tg : Tg) (di : DI) (dt : DT) (bx : Bool) (dk de : DE) : DE := fun Ed env st Q => di Ed env st fun its ok st1 => dcN ok vs tg dt bx dk de env Q its [] st1
theorem SimC.unpr {K : PySem.W.Frag} {Pr Fr : Hp} {f : List Addr} {st : Sto} {H : Hp} {D0 : Addr} {o : HO} (C : SimC K (upd Pr D0 o) Fr f st H) (hP : Pr D0 = none) : SimC K Pr Fr f st H :=
  ⟨C.fr, fun b u e => C.pr b u (by rw [upd_ne (ne_of_none e hP)]; exact e), fun b u e => C.pF b u (by rw [upd_ne (ne_of_none e hP)]; exact e), fun b u e => C.pf b u (by rw [upd_ne (ne_of_none e hP)]; exact e), C.nd, C.len, C.nf, C.cell⟩
/-- a thing that nobody holds is laid or changed, and is kept from now on -/
theorem SimC.intoPr {K : PySem.W.Frag} {Pr Fr : Hp} {f : List Addr} {st : Sto} {H : Hp} {D0 : Addr} {o : HO} (C : SimC K Pr Fr f st H) (hF : Fr D0 = none) (hP : Pr D0 = none) (hf : D0 ∉ f) : SimC K (upd Pr D0 o) Fr f st (upd H D0 o) := by
  have C := C.other (o := o) hF hP hf
  refine ⟨C.fr, fun b u e => ?_, fun b u e => ?_, fun b u e => ?_, C.nd, C.len, C.nf, C.cell⟩
  · by_cases hb : b = D0
    · subst hb; rw [upd_same] at e ⊢; exact e
    · rw [upd_ne hb] at e; exact C.pr b u e
  · by_cases hb : b = D0
    · subst hb; exact hF
    · rw [upd_ne hb] at e; exact C.pF b u e
  · by_cases hb : b = D0
    · subst hb; exact hf
    · rw [upd_ne hb] at e; exact C.pf b u e
theorem lift_dc {K : PySem.W.Frag} {W : WX} {vs : List Nat} {tg : Tg} {di : DI} {dt : DT} {bx : Bool} {dk de : DE} (hvs : ∀ j ∈ tgSlots tg, j ∈ vs) (σ : L2.St) (H : Hp) (Q : VK) (q : liftE K W (dDc vs tg di dt bx dk de) σ H Q) :
    tDc (liftI K W di) (gD K tg) (liftT K noW dt) (liftE K noW dk) (liftE K noW de) vs σ H Q := by
  obtain ⟨Ed, Pr, Fr, f, env, st, Q0, A, d, k⟩ := q
  refine ⟨Ed, Pr, Fr, f, env, st, _, A, d, fun its ok st1 h J Fr1 f1 H1 s1 p1 S1 J1 D hD => ?_⟩
  have hDF : Fr1 D = none := S1.fr.free hD
  have hDP : Pr D = none := S1.pr.free hD
  have hDf : D ∉ f1 := S1.toSimC.notCell hD
  refine ⟨fun i m H => m = its.length - i ∧ i ≤ its.length ∧ ∃ Fr' f' st acc us, Same Fr1 Fr' ∧ f1 <+: f' ∧ SimC K (upd Pr D (.dK us)) Fr' f' st H ∧ RepK K Fr' f' acc us ∧ dcN ok vs tg dt bx dk de env Q0 (its.drop i) acc st,
    ⟨its.length, rfl, Nat.zero_le _, Fr1, f1, st1, [], [], Same.refl _, List.prefix_refl _, S1.toSimC.intoPr hDF hDP hDf, .nil, h⟩, ?_⟩
  rintro i m H' ⟨rfl, hi, Fr2, f2, st2, acc, us, s2, p2, C2, r2, h2⟩
  by_cases hlt : i < its.length
  · rw [List.drop_eq_getElem_cons hlt] at h2
    obtain ⟨hok, h2⟩ := h2
    obtain ⟨h3, h4⟩ := (J1 i _ Fr2 f2 st2 H' s2 p2 C2 hok).1 _ (List.getElem?_eq_getElem hlt)
    refine .inr ⟨h3, fun H => i + 1 ≤ its.length ∧ ∃ Fr' f' st acc us, Same Fr1 Fr' ∧ f1 <+: f' ∧ SimC K (upd Pr D (.dK us)) Fr' f' st H ∧ RepK K Fr' f' acc us ∧ dcN ok vs tg dt bx dk de env Q0 (its.drop (i + 1)) acc st, fun H3 w => ⟨its.length - (i + 1), by omega, rfl, w⟩, fun v H3 y => ?_⟩
    obtain ⟨Fr3, s3, C3, r3⟩ := h4 v H3 y
    have R0 : RepS K Fr3 f2 (wipeD env vs) (L2.wipe σ vs) := wipe_rep (RepS.mono ((s1.trans s2).trans s3) (p1.trans p2) A.env) vs
    split at h2
    · rename_i env3 e3
      refine ⟨_, Fr3, f2, wipeD env vs, st2, _, env3, ⟨C3, R0⟩, r3, e3, fun σ4 a4 R4 => ⟨?_, ?_⟩⟩
      · have := a4.wipe hvs
        rw [this]
        exact AgreeOff.wipe (js := vs) ⟨L2.wipe_length .., fun j hj => wipe_out hj⟩ fun _ h => h
      · refine ⟨noEd, _, Fr3, f2, env3, st2, _, ⟨⟨C3, R4⟩, fun _ _ _ _ _ _ _ _ _ _ z => z.elim⟩, h2, fun b st5 h5 Fr5 f5 H5 s5 p5 S5 => ?_⟩
        cases b with
        | true =>
          have A5 : At K noW noEd (upd Pr D (.dK us)) Fr5 f5 env3 st5 σ4 H5 := ⟨S5, fun _ _ _ _ _ _ _ _ _ _ z => z.elim⟩
          refine ⟨noEd, _, Fr5, f5, env3, st5, _, A5, h5, fun q st6 h6 w Fr6 f6 H6 s6 p6 S6 r6 => ?_⟩
          refine ⟨noEd, _, Fr6, f6, env3, st6, _, A5.up s6 p6 S6, h6, fun z st7 h7 w7 Fr7 f7 H7 s7 p7 S7 r7 => ?_⟩
          obtain ⟨Fr8, f8, s8, p8, C8, r8⟩ := r7.keep bx S7.toSimC
          have s28 := ((((s3.trans s5).trans s6).trans s7).trans s8)
          have p28 := (((p5.trans p6).trans p7).trans p8)
          split at h7
          · rename_i kk ek
            obtain rfl := keyOf_repX ek r6
            have dF : Fr8 D = none := C8.pF D _ upd_same
            have df : D ∉ f8 := C8.pf D _ upd_same
            refine ⟨us, kk, rfl, C8.pr D _ upd_same, by rw [r2.length]; exact h7.1, hlt, Fr8, f8, _, _, putK us kk w7, s2.trans s28, p2.trans p28, (C8.unpr hDP).intoPr dF hDP df, (r2.mono s28 p28).put r8, h7.2⟩
          · exact h7.elim
        | false => exact ⟨hlt, Fr5, f5, st5, acc, us, (s2.trans s3).trans s5, p2.trans p5, S5.toSimC, r2.mono (s3.trans s5) p5, h5⟩
    · exact h2.elim
  · have e : i = its.length := by omega
    subst e
    rw [List.drop_length] at h2
    have S2 : Sim K Pr Fr2 f2 env st2 σ H' := ⟨C2.unpr hDP, RepS.mono (s1.trans s2) (p1.trans p2) A.env⟩
    exact .inl ⟨(J1 _ _ Fr2 f2 st2 H' s2 p2 C2 h2.1).2 (Nat.le_refl _), k _ _ h2.2 _ Fr2 f2 H' (s1.trans s2) (p1.trans p2) S2 ⟨D, us, rfl, C2.pr D _ upd_same, C2.pF D _ upd_same, hDP, C2.pf D _ upd_same, r2.1, r2.2⟩⟩
theorem de_dc {kx vx tgE iter : Expr} {ifs : List Expr} {scope : Scope} {own : List (Str × Nat)} {tg : Tg} {di : DI} {dt : DT} {dk de : DE} (bx : Bool) (hc : X.calm = true) (hN : X.N.Nodup) (hi : PI X tgE iter (liftI X.K W di)) (ok : BlkOk X.N X.env.scope scope own)
    (hg : ∀ (s : Shared) (H : Hp) (C : Addr) (cl : List (Str × Addr)) (fp : List Addr), PG (X.blk s H scope (compEnvC scope cl C X.env) fp) tgE (gD X.K tg)) (ht : ∀ (s : Shared) (H : Hp) (C : Addr) (cl : List (Str × Addr)) (fp : List Addr), PTs (X.blk s H scope (compEnvC scope cl C X.env) fp) ifs (liftT X.K noW dt))
    (hk : ∀ (s : Shared) (H : Hp) (C : Addr) (cl : List (Str × Addr)) (fp : List Addr), PE (X.blk s H scope (compEnvC scope cl C X.env) fp) kx (liftE X.K noW dk))
    (he : ∀ (s : Shared) (H : Hp) (C : Addr) (cl : List (Str × Addr)) (fp : List Addr), PE (X.blk s H scope (compEnvC scope cl C X.env) fp) vx (liftE X.K noW de)) (hvs : ∀ j ∈ tgSlots tg, j ∈ own.map (·.2)) (hs : ∀ x, foldedSetIterable iter X.env x = pure x := by intro _; rfl) :
    PE X (.DictComp kx vx [⟨tgE, iter, ifs, 0⟩] scope pos) (liftE X.K W (dDc (own.map (·.2)) tg di dt bx dk de)) := PEimp (pe_dc hc hN hi ok hg ht hk he hs) (lift_dc hvs)
/-- name = {..} on one line, the name a local -/
theorem ds_setDc {i : Nat} {y : Str} {py : Pos} {kx vx tgE iter : Expr} {ifs : List Expr} {scope : Scope} {own : List (Str × Nat)} {spos : Pos} {tg : Tg} {di : DI} {dt : DT} {dk de : DE} (bx bx' : Bool) (hc : X.calm = true) (hN : X.N.Nodup) (hy : X.N[i]? = some y) (hyl : X.env.scope.names.lookup y = some .local)
    (hsw : swapsWith (.DictComp kx vx [⟨tgE, iter, ifs, 0⟩] scope pos) (some (.Name y py)) spos.line X.env = pure true) (hi : PI X tgE iter (liftI X.K W di)) (ok : BlkOk X.N X.env.scope scope own)
    (hg : ∀ (s : Shared) (H : Hp) (C : Addr) (cl : List (Str × Addr)) (fp : List Addr), PG (X.blk s H scope (compEnvC scope cl C X.env) fp) tgE (gD X.K tg)) (ht : ∀ (s : Shared) (H : Hp) (C : Addr) (cl : List (Str × Addr)) (fp : List Addr), PTs (X.blk s H scope (compEnvC scope cl C X.env) fp) ifs (liftT X.K noW dt))
    (hk : ∀ (s : Shared) (H : Hp) (C : Addr) (cl : List (Str × Addr)) (fp : List Addr), PE (X.blk s H scope (compEnvC scope cl C X.env) fp) kx (liftE X.K noW dk))
    (he : ∀ (s : Shared) (H : Hp) (C : Addr) (cl : List (Str × Addr)) (fp : List Addr), PE (X.blk s H scope (compEnvC scope cl C X.env) fp) vx (liftE X.K noW de)) (hvs : ∀ j ∈ tgSlots tg, j ∈ own.map (·.2)) (hs : ∀ x, foldedSetIterable iter X.env x = pure x := by intro _; rfl) :
    PS X (.Assign [.Name y py] (.DictComp kx vx [⟨tgE, iter, ifs, 0⟩] scope pos) spos) (liftS X.K W (sAsg bx' i (dDc (own.map (·.2)) tg di dt bx dk de))) := by
  refine ⟨fun pins s σ H De I q => ?_⟩
  have h0 := lift_dc hvs σ H _ (lift_asg bx' De σ H q)
  rw [exec_Assign_Name_used _ _ _ _ hsw]
  refine wpAny_bind (wpAny_standAt (wpAny_bind ?_))
  show wpAny _ X.A (do let _ ← comprehension (.DictComp kx vx [⟨tgE, iter, ifs, 0⟩] scope pos) scope X.env (firstIterPos [⟨tgE, iter, ifs, 0⟩] pos) newDict false (eval iter X.env) (some (assign (.Name y py) X.env))) _ _ s
  refine wpAny_bind (thn (dc_core (Qf := fun _ s' => SP X pins De .next s') hc hN I hi ok hg ht hk he hs h0 fun L C s' m H' I' q hn f => ?_) fun _ s' hq => wpAny_pure (wpAny_pure hq))
  show wpAny _ _ (assign (.Name y py) X.env (.ref L)) _ _ _
  refine wpAny_assign_Name (store_ok2 (v := V.ref L) I' hN hy (.inl hyl) rfl (fun s2 I2 ⟨a, sb, ha⟩ => ?_) (.inr hyl))
  obtain ⟨f0, f1, f2, f3, f4, f5⟩ := f
  have haC : C ≠ a := by
    rcases ha with z | z
    · rw [z]; exact f1
    · exact fun e => f4 y a z e.symm
  refine ⟨m, hn.sameBut sb haC, fun h3 sb3 => ?_⟩
  exact ⟨_, H', I2.turned (t' := s2.toks) (fun b o hb e => (sb3.2 b hb).trans e) f0 f1 f3 f4 f5, q⟩
end
end DW

/-! DW11: constants of the module, own error classes, op=. -/
namespace DW
open PySem PySem.Spec PyProof.Rows L2

/-- a constant of the module is data -/
def ConstOf (K : PySem.W.Frag) (mg : Str → Option Value) (x : Str) (d : D) : Prop := ∃ u v, mg x = some u ∧ RelV v u ∧ ∀ Fr f, Rep K Fr f d v
theorem ConstOf.int {K : PySem.W.Frag} {mg : Str → Option Value} {x : Str} {i : Int} {t : Tok} (h : mg x = some (.int i t)) : ConstOf K mg x (.int i) := ⟨_, .int i, h, ⟨t, rfl⟩, fun _ _ => rfl⟩
theorem ConstOf.str {K : PySem.W.Frag} {mg : Str → Option Value} {x : Str} {i : Str} {t : Tok} (h : mg x = some (.str i t)) : ConstOf K mg x (.str i) := ⟨_, .str i, h, ⟨t, rfl⟩, fun _ _ => rfl⟩
theorem rep_ktup {K : PySem.W.Frag} {a : Addr} {od : Option Addr} {its : Array Value} {n : Nat} {sl : Array (Option Value)} {ds : List D} {vs : List V} (h : K.lookup a = some ⟨.type "tuple", od, .seq its n, sl⟩) (hz : its.size ≤ sizeLine) (r : Vals vs its.toList) (q : ∀ Fr f, Reps K Fr f ds vs) : ∀ Fr f, Rep K Fr f (.tup ds) (.ref a) :=
  fun Fr f => ⟨a, vs, rfl, .inr ⟨_, its, n, h, rfl, rfl, hz, r⟩, q Fr f⟩
theorem ConstOf.ref {K : PySem.W.Frag} {mg : Str → Option Value} {x : Str} {d : D} {a : Addr} (h : mg x = some (.ref a)) (r : ∀ Fr f, Rep K Fr f d (.ref a)) : ConstOf K mg x d := ⟨_, .ref a, h, rfl, r⟩

section
variable {X : Cx} {W : WX} {pos : Pos}
theorem de_glob {x : Str} {d : D} (hg : Gl X x) (c : ConstOf X.K X.mg x d) (hd : (x == ("__debug__" : Str)) = false := by decide) : PE X (.Name x pos) (liftE X.K W (dC d)) := by
  obtain ⟨u, v, hm, r, q⟩ := c
  refine PEimp (pe_glob hg hm r hd) fun σ H Q h => ?_
  obtain ⟨Ed, Pr, Fr, f, env, st, Q0, A, d, k⟩ := h
  exact k _ _ d v Fr f H (Same.refl _) (List.prefix_refl _) A.toSim (.of (q Fr f))
theorem sw_trueD {kx vx : Expr} {gs : List Comprehension} {scope : Scope} {pos py : Pos} {y : Str} {l : Nat} {env : Env} (hk : env.scope.kind = .function) (hy : env.scope.names.lookup y = some .local) (hl : (py.line == pos.line) = true)
    (ha : (scope.names.any fun (n, k) => n == y && (k == .local || k == .cell)) = false) : swapsWith (.DictComp kx vx gs scope pos) (some (.Name y py)) l env = pure true := by
  have ky : env.kindOf y = some .local := hy
  have hb : env.blockKind = .function := by unfold Env.blockKind; rw [hk]; rfl
  unfold swapsWith
  simp only [hb, ky, ha, Expr.pos, hl]
  rfl
end

/-! ### op= -/
def riAdd : TIp := fun x y H Q => rI0 (fun i j => .int (i + j)) x y H Q ∨ (fun x y H Q => ∃ i j, x = V.str i ∧ y = V.str j ∧ i.length + j.length ≤ sizeLine ∧ Q (.str (i ++ j)) H) x y H Q
theorem ir_add {X : Cx} : PIp X .Add riAdd := by
  intro pins s σ H x y v u Q I r1 r2 h
  rcases h with h | h
  · exact L2.iop_add pins s σ H x y v u Q I r1 r2 h
  · exact iop_add_str pins s σ H x y v u Q I r1 r2 h
def iop_add : Sto → D → D → (D → Prop) → Prop := fun _ x y k => match x, y with
  | .int i, .int j => k (.int (i + j))
  | .str a, .str b => a.length + b.length ≤ sizeLine ∧ k (.str (a ++ b))
  | _, _ => False
theorem id_add {K : PySem.W.Frag} : OpD K riAdd iop_add := by
  intro Pr Fr f st H x y v u k Q S r1 r2 o q
  unfold iop_add at o
  split at o
  · cases (show v = _ from r1); cases (show u = _ from r2)
    exact .inl ⟨_, _, rfl, rfl, q _ _ Fr H o (Same.refl _) S rfl⟩
  · cases (show v = _ from r1); cases (show u = _ from r2)
    exact .inr ⟨_, _, rfl, rfl, o.1, q _ _ Fr H o.2 (Same.refl _) S rfl⟩
  · exact o.elim
theorem ir_mul {X : Cx} : PIp X .Mult (rI IntMulOk fun i j => .int (i * j)) := by
  intro pins s σ H x y v u Q I r1 r2 h
  obtain ⟨i, j, rfl, rfl, hc, q⟩ := h
  obtain ⟨t, rfl⟩ := r1
  obtain ⟨t', rfl⟩ := r2
  exact imul_int ⟨.int _, H, I.tok _, ⟨_, rfl⟩, q⟩ hc
abbrev iop_mul : Sto → D → D → (D → Prop) → Prop := opJ IntMulOk fun i j => .int (i * j)
theorem id_mul {K : PySem.W.Frag} : OpD K (rI IntMulOk fun i j => .int (i * j)) iop_mul := od_I fun _ _ => rfl

/-- an own error class over ValueError -/
structure XCls (K : PySem.W.Frag) (C : Addr) : Prop where
  q : PySem.W.excIn K C [.type "ValueError", .type "Exception", .type "BaseException", .type "object"] "ValueError.__new__" = true
  k : PySem.W.keepIn K (.ref C) = true
  s : PySem.W.subIn K (.ref C) (.type "BaseException") = some true
  t : PySem.W.typeIn K (.ref C) = some (.type "type")
theorem XCls.r {X : Cx} {C : Addr} (x : XCls X.K C) : Raises X (.ref C) := raises_own x.s x.t
end DW

/-! DW12: how the data side is reckoned: one rule a combinator, tried from above. -/
namespace DW
open PySem L2

theorem lisOf_ref {st : Sto} {n : Nat} {ds : List D} (h : st[n]? = some (.lst ds)) : lisOf st (.ref n) = some ds := by simp [lisOf, h]
theorem seqOf_ref {st : Sto} {n : Nat} {ds : List D} (h : st[n]? = some (.lst ds)) : seqOf st (.ref n) = some ds := by simp [seqOf, lisOf, h]
theorem dicOf_ref {st : Sto} {n : Nat} {ds : List (Key × D)} (h : st[n]? = some (.dic ds)) : dicOf st (.ref n) = some ds := by simp [dicOf, h]
theorem leave_stay {st0 : Sto} {x : D} {st : Sto} {Q : D → Sto → Prop} (h : Q x st) : Leave st0 x st Q := .inl h
theorem CutOk.pre {st0 more : Sto} : CutOk st0 (st0 ++ more) := ⟨by simp, fun n mo hn e => .inl (by rw [List.getElem?_append_left hn] at e; exact e)⟩
theorem CutOk.head {a a' : MO} {rest more : Sto} (h : clM (rest.length + 1) a' = true) : CutOk (a :: rest) (a' :: (rest ++ more)) := ⟨by simp, fun n mo hn e => by
  cases n with
  | zero => cases e; exact .inr h
  | succ n =>
    have hn' : n < rest.length := by simpa using hn
    simp only [List.getElem?_cons_succ] at e ⊢
    rw [List.getElem?_append_left hn'] at e
    exact .inl e⟩
theorem leave_drop {st0 more : Sto} {x : D} {Q : D → Sto → Prop} (h2 : cl st0.length x = true) (h : Q x st0) : Leave st0 x (st0 ++ more) Q := .inr (.inl ⟨.pre, h2, by simpa using h⟩)
theorem leave_head {a a' : MO} {rest more : Sto} {x : D} {Q : D → Sto → Prop} (h1 : clM (rest.length + 1) a' = true) (h2 : cl (rest.length + 1) x = true) (h : Q x (a' :: rest)) : Leave (a :: rest) x (a' :: (rest ++ more)) Q := .inr (.inl ⟨.head h1, h2, by simpa using h⟩)
theorem leave_list {st0 more : Sto} {n : Nat} {ds : List D} {Q : D → Sto → Prop} (h1 : st0.length ≤ n) (e : (st0 ++ more)[n]? = some (.lst ds)) (h2 : cls st0.length ds = true) (h : Q (.tl ds) st0) : Leave st0 (.ref n) (st0 ++ more) Q :=
  .inr (.inr ⟨n, rfl, h1, .pre, by simp only [e]; exact ⟨h2, by simpa using h⟩⟩)
theorem leave_listH {a a' : MO} {rest more : Sto} {n : Nat} {ds : List D} {Q : D → Sto → Prop} (h0 : clM (rest.length + 1) a' = true) (h1 : rest.length + 1 ≤ n) (e : (a' :: (rest ++ more))[n]? = some (.lst ds)) (h2 : cls (rest.length + 1) ds = true) (h : Q (.tl ds) (a' :: rest)) : Leave (a :: rest) (.ref n) (a' :: (rest ++ more)) Q :=
  .inr (.inr ⟨n, rfl, h1, .head h0, by simp only [e]; exact ⟨h2, by simpa using h⟩⟩)
/-- a new container becomes a cell, and goes on -/
def boxK (st : Sto) (x : D) (k : D → Sto → Prop) : Prop := k (box st x).1 (box st x).2
@[simp ↓] theorem boxK_tl {st : Sto} {ds : List D} {k : D → Sto → Prop} : boxK st (.tl ds) k = k (.ref st.length) (st ++ [.lst ds]) := rfl
@[simp ↓] theorem boxK_td {st : Sto} {ks : List Key} {ds : List D} {k : D → Sto → Prop} : boxK st (.td ks ds) k = k (.ref st.length) (st ++ [.dic (ks.zip ds)]) := rfl
@[simp ↓] theorem boxK_i {st : Sto} {i : Int} {k : D → Sto → Prop} : boxK st (.int i) k = k (.int i) st := rfl
@[simp ↓] theorem boxK_s {st : Sto} {i : Str} {k : D → Sto → Prop} : boxK st (.str i) k = k (.str i) st := rfl
@[simp ↓] theorem boxK_t {st : Sto} {i : List D} {k : D → Sto → Prop} : boxK st (.tup i) k = k (.tup i) st := rfl
@[simp ↓] theorem boxK_r {st : Sto} {i : Nat} {k : D → Sto → Prop} : boxK st (.ref i) k = k (.ref i) st := rfl
/-! ### statements, one at a time -/
theorem seq_i {t u : DS} {Ed : EdT} {De : DEnds} {env : Slots} {st : Sto} (h : ∀ nx : Slots → Sto → Prop, (∀ e s, u Ed De e s → nx e s) → t Ed { De with nx := nx } env st) : sSeq t u Ed De env st := h _ fun _ _ q => q
section
variable {t u : DS} {Ed : EdT} {De : DEnds} {env : Slots} {st : Sto} {Q : D → Sto → Prop} {da db de dx : DE} {dt dt' : DT} {ds : DA} {i j : Int} {n : Nat} {x y : D} {xs : List D} {k : D → Prop}
@[simp ↓] theorem sNext_e : sNext Ed De env st = De.nx env st := rfl
@[simp ↓] theorem sBreak_e : sBreak Ed De env st = De.bk env st := rfl
@[simp ↓] theorem sCont_e : sCont Ed De env st = De.ct env st := rfl
@[simp ↓] theorem sExpr_e : sExpr de Ed De env st = de Ed env st fun _ st1 => De.nx env st1 := rfl
@[simp ↓] theorem sRet_e : sRet de Ed De env st = de Ed env st De.rt := rfl
@[simp ↓] theorem sRetN_e : sRetN Ed De env st = De.rt .non st := rfl
@[simp ↓] theorem sRaise_e {C : Addr} : sRaise C Ed De env st = Ed C env st := rfl
@[simp ↓] theorem sIf_e : sIf dt t u Ed De env st = dt Ed env st fun c st1 => if c = true then t Ed De env st1 else u Ed De env st1 := rfl
@[simp ↓] theorem sAsg_f : sAsg false n de Ed De env st = de Ed env st fun x st1 => De.nx (env.set n (some (frz x))) st1 := rfl
@[simp ↓] theorem sAsg_t : sAsg true n de Ed De env st = de Ed env st fun x st1 => boxK st1 x fun y st2 => De.nx (env.set n (some y)) st2 := rfl
@[simp ↓] theorem sAsgT_e {tg : Tg} : sAsgT tg de Ed De env st = de Ed env st fun x st1 => match tgSet st1 tg (frz x) env with
  | some env' => De.nx env' st1
  | none => False := rfl
@[simp ↓] theorem sSet_f : sSet false de da db Ed De env st = de Ed env st fun z st1 => da Ed env st1 fun x st2 => db Ed env st2 fun y st3 => opSet st3 x y (frz z) fun st4 => De.nx env st4 := rfl
@[simp ↓] theorem sSet_t : sSet true de da db Ed De env st = de Ed env st fun z st1 => boxK st1 z fun z' st1' => da Ed env st1' fun x st2 => db Ed env st2 fun y st3 => opSet st3 x y z' fun st4 => De.nx env st4 := rfl
@[simp ↓] theorem sAug_f {op : Sto → D → D → (D → Prop) → Prop} (h : env[n]? = some (some x)) : sAug false op n de Ed De env st = de Ed env st fun y st1 => op st1 x (frz y) fun z => De.nx (env.set n (some (frz z))) st1 := by
  unfold sAug; rw [h]; rfl
@[simp ↓] theorem sFor_e {tg : Tg} {di : DI} : sFor tg di t Ed De env st = di Ed env st fun its ok st1 => forN ok tg t Ed De its env st1 := rfl
/-! ### expressions -/
@[simp ↓] theorem dVar_e (h : env[n]? = some (some x)) : dVar n Ed env st Q = Q x st := by unfold dVar; rw [h]
@[simp ↓] theorem dC_e : dC x Ed env st Q = Q x st := rfl
@[simp ↓] theorem dOp_e {op : Sto → D → D → (D → Prop) → Prop} : dOp op da db Ed env st Q = da Ed env st fun x st1 => db Ed env st1 fun y st2 => op st2 (frz x) (frz y) fun z => Q z st2 := rfl
@[simp ↓] theorem dNeg_e : dNeg da Ed env st Q = da Ed env st fun x st1 => match x with
  | .int i => Q (.int (-i)) st1
  | _ => False := rfl
@[simp ↓] theorem dNil_e {R : List D → Sto → Prop} : dNil Ed env st R = R [] st := rfl
@[simp ↓] theorem dCons_f {R : List D → Sto → Prop} : dCons false da ds Ed env st R = da Ed env st fun x st1 => ds Ed env st1 fun xs st2 => R (frz x :: xs) st2 := rfl
@[simp ↓] theorem dCons_t {R : List D → Sto → Prop} : dCons true da ds Ed env st R = da Ed env st fun x st1 => boxK st1 x fun y st1' => ds Ed env st1' fun xs st2 => R (y :: xs) st2 := rfl
@[simp ↓] theorem dTup_e : dTup ds Ed env st Q = ds Ed env st fun xs st1 => xs.length ≤ sizeLine ∧ Q (.tup xs) st1 := rfl
@[simp ↓] theorem dLst_e : dLst ds Ed env st Q = ds Ed env st fun xs st1 => xs.length ≤ sizeLine ∧ Q (.tl xs) st1 := rfl
@[simp ↓] theorem dDic0_e : dDic0 Ed env st Q = Q (.td [] []) st := rfl
@[simp ↓] theorem oNone_e {R : Option Int → Sto → Prop} : oNone Ed env st R = R none st := rfl
@[simp ↓] theorem oSome_e {R : Option Int → Sto → Prop} : oSome de Ed env st R = de Ed env st fun x st1 => match x with
  | .int i => R (some i) st1
  | _ => False := rfl
@[simp ↓] theorem dSl_e {lo hi : DO} : dSl de lo hi Ed env st Q = de Ed env st fun x st1 => lo Ed env st1 fun l st2 => hi Ed env st2 fun h st3 => opSl st3 (frz x) l h fun z => Q z st3 := rfl
@[simp ↓] theorem dTruth_e {R : Bool → Sto → Prop} : dTruth da Ed env st R = da Ed env st fun x st1 => opTru st1 (frz x) fun b => R b st1 := rfl
@[simp ↓] theorem dBool_e {R : Bool → Sto → Prop} : dBool da Ed env st R = da Ed env st fun x st1 => match x with
  | .bl b => R b st1
  | _ => False := rfl
@[simp ↓] theorem dAnd_e {R : Bool → Sto → Prop} : dAnd dt dt' Ed env st R = dt Ed env st fun c st1 => if c = true then dt' Ed env st1 R else R false st1 := rfl
@[simp ↓] theorem dOr_e {R : Bool → Sto → Prop} : dOr dt dt' Ed env st R = dt Ed env st fun c st1 => if c = true then R true st1 else dt' Ed env st1 R := rfl
@[simp ↓] theorem dNot_e {R : Bool → Sto → Prop} : dNot dt Ed env st R = dt Ed env st fun c st1 => R (!c) st1 := rfl
@[simp ↓] theorem dYes_e {R : Bool → Sto → Prop} : dYes Ed env st R = R true st := rfl
@[simp ↓] theorem dAndV_e : dAndV da db Ed env st Q = da Ed env st fun x st1 => opTru st1 (frz x) fun b => if b = true then db Ed env st1 Q else Q (frz x) st1 := rfl
@[simp ↓] theorem dOrV_e : dOrV da db Ed env st Q = da Ed env st fun x st1 => opTru st1 (frz x) fun b => if b = true then Q (frz x) st1 else db Ed env st1 Q := rfl
@[simp ↓] theorem dNotV_e : dNotV de Ed env st Q = de Ed env st fun x st1 => opTru st1 (frz x) fun b => Q (.bl (!b)) st1 := rfl
@[simp ↓] theorem dIf_e : dIf dt da db Ed env st Q = dt Ed env st fun c st1 => if c = true then da Ed env st1 Q else db Ed env st1 Q := rfl
@[simp ↓] theorem dCB_e {op : Sto → List D → (D → Prop) → Prop} : dCB op ds Ed env st Q = ds Ed env st fun xs st1 => op st1 xs fun z => Q z st1 := rfl
@[simp ↓] theorem dBM_e {T : String} {op : Sto → D → List D → (D → Sto → Prop) → Prop} : dBM T op dx ds Ed env st Q = dx Ed env st fun x st1 => tyOk st1 T (frz x) ∧ ds Ed env st1 fun xs st2 => op st2 (frz x) xs Q := rfl
@[simp ↓] theorem dCall_e {sp : DSp} : dCall sp ds Ed env st Q = ds Ed env st fun xs st1 => sp xs st1 (fun C st' => Ed C env st') Q := rfl
@[simp ↓] theorem iSeq_e {R : List D → (Sto → Prop) → Sto → Prop} : iSeq de Ed env st R = de Ed env st fun x st1 => match itemsOf st1 (frz x) with
  | some its => R its (stays st1 (frz x)) st1
  | none => False := rfl
@[simp ↓] theorem iRng1_e {R : List D → (Sto → Prop) → Sto → Prop} : iRng1 ds Ed env st R = ds Ed env st fun xs st1 => match xs with
  | [.int j] => -(2 ^ 62) ≤ j ∧ j < 2 ^ 62 ∧ R (rangeD 0 j.toNat) (fun _ => True) st1
  | _ => False := rfl
@[simp ↓] theorem dLc_e {vs : List Nat} {tg : Tg} {di : DI} {bx : Bool} : dLc vs tg di dt bx de Ed env st Q = di Ed env st fun its ok st1 => lcN ok vs tg dt bx de env Q its [] st1 := rfl
@[simp ↓] theorem dDc_e {vs : List Nat} {tg : Tg} {di : DI} {bx : Bool} : dDc vs tg di dt bx da de Ed env st Q = di Ed env st fun its ok st1 => dcN ok vs tg dt bx da de env Q its [] st1 := rfl
/-! ### operations -/
variable {a b : Str} {ds1 ds2 : List D} {C : Int → Int → Prop} {g : Int → Int → D}
@[simp ↓] theorem opAdd_ii : opAdd st (.int i) (.int j) k = k (.int (i + j)) := rfl
@[simp ↓] theorem opAdd_ss : opAdd st (.str a) (.str b) k = (a.length + b.length ≤ sizeLine ∧ k (.str (a ++ b))) := rfl
@[simp ↓] theorem opAdd_tt : opAdd st (.tup ds1) (.tup ds2) k = (ds1.length + ds2.length ≤ sizeLine ∧ k (.tup (ds1 ++ ds2))) := rfl
theorem opAdd_ll (h1 : lisOf st x = some ds1) (h2 : lisOf st y = some ds2) : opAdd st x y k = (ds1.length + ds2.length ≤ sizeLine ∧ k (.tl (ds1 ++ ds2))) := by
  unfold opAdd
  cases x <;> first | (cases h1; done) | (cases y <;> first | (cases h2; done) | simp only [h1, h2])
@[simp ↓] theorem opJ_e : opJ C g st (.int i) (.int j) k = (C i j ∧ k (g i j)) := rfl
@[simp ↓] theorem opJ0_e : opJ0 g st (.int i) (.int j) k = k (g i j) := rfl
@[simp ↓] theorem opMul_ii : opMul st (.int i) (.int j) k = (IntMulOk i j ∧ k (.int (i * j))) := rfl
theorem opMul_li (h : lisOf st x = some ds1) : opMul st x (.int j) k = (-(2 ^ 63) ≤ j ∧ j < 2 ^ 63 ∧ ds1.length * j.toNat ≤ sizeLine ∧ k (.tl (List.replicate j.toNat ds1).flatten)) := by
  unfold opMul
  cases x <;> first | (cases h; done) | simp only [h]
@[simp ↓] theorem opCmp_ii {p : Int → Int → Bool} {q : List Nat → List Nat → Bool} : opCmp p q st (.int i) (.int j) k = k (.bl (p i j)) := rfl
@[simp ↓] theorem opCmp_ss {p : Int → Int → Bool} {q : List Nat → List Nat → Bool} : opCmp p q st (.str a) (.str b) k = k (.bl (q a.cps.toList b.cps.toList)) := rfl
@[simp ↓] theorem opEqW_ii {neg : Bool} : opEqW neg st (.int i) (.int j) k = k (.bl (neg ^^ (i == j))) := rfl
@[simp ↓] theorem opEqW_ss {neg : Bool} : opEqW neg st (.str a) (.str b) k = k (.bl (neg ^^ (a == b))) := rfl
@[simp ↓] theorem opIsW_bb {neg : Bool} {p q : Bool} : opIsW neg st (.bl p) (.bl q) k = k (.bl (neg ^^ (p == q))) := rfl
theorem opIx_seq (h : seqOf st x = some ds1) (e : atI ds1 i = some y) : opIx st x (.int i) k = k y := by
  unfold opIx
  cases x <;> first | (cases h; done) | simp only [h, e]
@[simp ↓] theorem opIx_tup (e : atI ds1 i = some y) : opIx st (.tup ds1) (.int i) k = k y := opIx_seq rfl e
@[simp ↓] theorem opIx_fl (e : atI ds1 i = some y) : opIx st (.fl ds1) (.int i) k = k y := opIx_seq rfl e
@[simp ↓] theorem opIx_ref (h : st[n]? = some (.lst ds1)) (e : atI ds1 i = some y) : opIx st (.ref n) (.int i) k = k y := opIx_seq (seqOf_ref h) e
theorem opIx_dic {kvs : List (Key × D)} {q : Key} (h : dicOf st x = some kvs) (hq : keyOf y = some q) (e : valP kvs q = some dv) : opIx st x y k = k dv := by
  have hd : opIxDic st x y k = k dv := by unfold opIxDic; rw [h, hq]; simp only [e]
  have hs : seqOf st x = none := by
    cases x <;> first | rfl | (cases h; done) | skip
    unfold dicOf at h
    unfold seqOf lisOf
    simp only at h ⊢
    split at h
    · rename_i e1; rw [e1]
    · cases h
  unfold opIx
  cases y <;> first | (cases hq; done) | exact hd | skip
  cases x <;> first | (cases h; done) | (simp only [hs]; exact hd)
@[simp ↓] theorem opSet_lst {kk : Sto → Prop} {m : Nat} (h : st[n]? = some (.lst ds1)) (e : ixN ds1.length i = some m) : opSet st (.ref n) (.int i) y kk = kk (st.set n (.lst (ds1.set m y))) := by
  unfold opSet; simp only [h, e]
theorem opSet_dic {kk : Sto → Prop} {kvs : List (Key × D)} {q : Key} (h : st[n]? = some (.dic kvs)) (e : keyOf x = some q) : opSet st (.ref n) x y kk = (kvs.length < sizeLine ∧ kk (st.set n (.dic (putP kvs q y)))) := by
  unfold opSet; simp only [h, e]
@[simp ↓] theorem opTru_b {p : Bool} {kk : Bool → Prop} : opTru st (.bl p) kk = kk p := rfl
@[simp ↓] theorem opTru_i {kk : Bool → Prop} : opTru st (.int i) kk = kk (i != 0) := rfl
@[simp ↓] theorem opTru_n {kk : Bool → Prop} : opTru st .non kk = kk false := rfl
@[simp ↓] theorem opTru_s {kk : Bool → Prop} : opTru st (.str a) kk = (a.length ≤ sizeLine ∧ kk ((a.length : Int) != 0)) := rfl
@[simp ↓] theorem opTru_t {kk : Bool → Prop} : opTru st (.tup ds1) kk = kk (!ds1.isEmpty) := rfl
@[simp ↓] theorem opTru_f {kk : Bool → Prop} : opTru st (.fl ds1) kk = kk (!ds1.isEmpty) := rfl
@[simp ↓] theorem opSl_s {lo hi : Option Int} : opSl st (.str a) lo hi k = (a.length ≤ sizeLine ∧ k (.str (cutS a lo hi))) := rfl
@[simp ↓] theorem opSl_t {lo hi : Option Int} : opSl st (.tup ds1) lo hi k = k (.tup (cutD ds1 lo hi)) := rfl
@[simp ↓] theorem opSl_f {lo hi : Option Int} : opSl st (.fl ds1) lo hi k = k (.tl (cutD ds1 lo hi)) := rfl
/-! ### built-ins -/
@[simp ↓] theorem opAbs_e : opAbs st [.int i] k = k (.int (if i < 0 then -i else i)) := rfl
@[simp ↓] theorem op2I_e {g : Int → Int → Int} : op2I g st [.int i, .int j] k = k (.int (g i j)) := rfl
@[simp ↓] theorem opInt_i : opInt st [.int i] k = k (.int i) := rfl
@[simp ↓] theorem opInt_b {p : Bool} : opInt st [.bl p] k = k (.int (if p then 1 else 0)) := rfl
@[simp ↓] theorem opStrI_e : opStrI st [.int i] k = (i.natAbs.log2 < 1920 ∧ k (.str (toString i))) := rfl
@[simp ↓] theorem opLen_s : opLen st [.str a] k = (a.length ≤ sizeLine ∧ k (.int a.length)) := rfl
theorem opLen_seq (h : seqOf st x = some ds1) : opLen st [x] k = k (.int ds1.length) := by
  unfold opLen
  cases x <;> first | (cases h; done) | simp only [h]
@[simp ↓] theorem opLen_t : opLen st [.tup ds1] k = k (.int ds1.length) := rfl
@[simp ↓] theorem opLen_f : opLen st [.fl ds1] k = k (.int ds1.length) := rfl
@[simp ↓] theorem opLen_r (h : st[n]? = some (.lst ds1)) : opLen st [.ref n] k = k (.int ds1.length) := opLen_seq (seqOf_ref h)
theorem opTuple_l (h : lisOf st x = some ds1) : opTuple st [x] k = k (.tup ds1) := by
  unfold opTuple
  cases x <;> first | (cases h; done) | simp only [h]
@[simp ↓] theorem opTuple_t : opTuple st [.tup ds1] k = k (.tup ds1) := rfl
@[simp ↓] theorem opTuple_f : opTuple st [.fl ds1] k = k (.tup ds1) := rfl
@[simp ↓] theorem opTuple_r (h : st[n]? = some (.lst ds1)) : opTuple st [.ref n] k = k (.tup ds1) := opTuple_l (lisOf_ref h)
theorem opList_l (h : seqOf st x = some ds1) : opList st [x] k = k (.tl ds1) := by
  unfold opList
  simp only [h]
@[simp ↓] theorem opList_t : opList st [.tup ds1] k = k (.tl ds1) := rfl
@[simp ↓] theorem opList_f : opList st [.fl ds1] k = k (.tl ds1) := rfl
@[simp ↓] theorem opList_s : opList st [.sl ds1] k = k (.tl ds1) := rfl
theorem opSum_e {ns : List Int} (h : lisOf st x = some (ns.map .int)) : opSum st [x] k = k (.int ns.sum) := by
  unfold opSum
  simp only [h, Option.bind_some, ints_map]
theorem opAnyAll_e {g : List Bool → Bool} {ns : List Bool} (h : lisOf st x = some (ns.map .bl)) : opAnyAll g st [x] k = k (.bl (g ns)) := by
  unfold opAnyAll
  simp only [h, Option.bind_some, bls_map]
/-! ### methods -/
variable {kk : D → Sto → Prop}
@[simp] theorem tyOk_str : tyOk st "str" (.str a) = True := by simp [tyOk]
theorem tyOk_list (h : st[n]? = some (.lst ds1)) : tyOk st "list" (.ref n) := .inl ⟨rfl, by rw [lisOf_ref h]; rfl⟩
@[simp ↓] theorem opAppend_e (h : st[n]? = some (.lst ds1)) : opAppend st (.ref n) [x] kk = (ds1.length < sizeLine ∧ kk .non (st.set n (.lst (ds1 ++ [x])))) := by
  unfold opAppend onList; simp only [h]
theorem opExtend_e (h : st[n]? = some (.lst ds1)) (h2 : lisOf st x = some ds2) : opExtend st (.ref n) [x] kk = (ds1.length + ds2.length ≤ sizeLine ∧ kk .non (st.set n (.lst (ds1 ++ ds2)))) := by
  unfold opExtend onList; simp only [h, h2]
@[simp ↓] theorem opInsert_e (h : st[n]? = some (.lst ds1)) : opInsert st (.ref n) [.int i, x] kk = (ds1.length < sizeLine ∧ 0 ≤ i ∧ i < 2 ^ 63 ∧ kk .non (st.set n (.lst (ds1.take i.toNat ++ [x] ++ ds1.drop i.toNat)))) := by
  unfold opInsert onList; simp only [h]
@[simp ↓] theorem opS_e {g : Str → List D → (D → Prop) → Prop} : opS g st (.str a) xs kk = g a xs fun z => kk z st := rfl
/-! ### places -/
@[simp] theorem atI_0 : atI xs (0 : Int) = xs[0]? := by unfold atI ixN; cases xs <;> simp
end
theorem atI_lit {α : Type} (xs : List α) (n : Nat) : atI xs (n : Int) = xs[n]? := by
  unfold atI ixN
  by_cases h : n < xs.length
  · simp [h]
  · simp [h, List.getElem?_eq_none (Nat.le_of_not_lt h)]
@[simp] theorem atI_1 {α : Type} {xs : List α} : atI xs (1 : Int) = xs[1]? := atI_lit xs 1
@[simp] theorem atI_2 {α : Type} {xs : List α} : atI xs (2 : Int) = xs[2]? := atI_lit xs 2
@[simp] theorem atI_3 {α : Type} {xs : List α} : atI xs (3 : Int) = xs[3]? := atI_lit xs 3
@[simp] theorem atI_4 {α : Type} {xs : List α} : atI xs (4 : Int) = xs[4]? := atI_lit xs 4
@[simp] theorem atI_5 {α : Type} {xs : List α} : atI xs (5 : Int) = xs[5]? := atI_lit xs 5
theorem ixN_lit (m n : Nat) (h : n < m) : ixN m (n : Int) = some n := by unfold ixN; simp [h]
@[simp] theorem ixN_0 {m : Nat} (h : 0 < m) : ixN m (0 : Int) = some 0 := ixN_lit m 0 h
@[simp] theorem ixN_1 {m : Nat} (h : 1 < m) : ixN m (1 : Int) = some 1 := ixN_lit m 1 h
@[simp] theorem ixN_2 {m : Nat} (h : 2 < m) : ixN m (2 : Int) = some 2 := ixN_lit m 2 h
@[simp] theorem ixN_3 {m : Nat} (h : 3 < m) : ixN m (3 : Int) = some 3 := ixN_lit m 3 h
theorem small_len {n : Nat} (h : n ≤ 1000000) : n ≤ sizeLine := Nat.le_trans h (by decide)
end DW
namespace DW
open PySem L2
/-! ### loops over known items -/
section
variable {ok : Sto → Prop} {vs : List Nat} {tg : Tg} {dt : DT} {bx : Bool} {de dk : DE} {env : Slots} {Q : D → Sto → Prop} {st : Sto} {α : Type}
/-- a comprehension whose turns leave the store as it is: p tells what a turn gives -/
theorem lcN_fm (e : α → D) (p : α → Option D) (hok : ok st) : ∀ (items : List α) (acc : List D), acc.length + items.length ≤ sizeLine →
    (∀ a ∈ items, ∀ (kt : D → Sto → Prop) (kf : Sto → Prop), (match p a with | some y => kt y st | none => kf st) → match tgSet st tg (e a) (wipeD env vs) with
      | some env' => dt noEd env' st fun b st1 => if b = true then de noEd env' st1 fun y st2 => kt (keep bx st2 y).1 (keep bx st2 y).2 else kf st1
      | none => False) →
    Q (.tl (acc ++ items.filterMap p)) st → lcN ok vs tg dt bx de env Q (items.map e) acc st
  | [], acc, _, _, h => ⟨hok, by simpa using h⟩
  | a :: items, acc, hl, hs, h => by
    rw [List.length_cons] at hl
    refine ⟨hok, hs a List.mem_cons_self (fun y' st' => acc.length < sizeLine ∧ lcN ok vs tg dt bx de env Q (items.map e) (acc ++ [y']) st') (fun st' => lcN ok vs tg dt bx de env Q (items.map e) acc st') ?_⟩
    rw [List.filterMap_cons] at h
    cases hp : p a with
    | none =>
      rw [hp] at h
      exact lcN_fm e p hok items acc (by omega) (fun b hb => hs b (List.mem_cons_of_mem _ hb)) h
    | some y =>
      rw [hp] at h
      refine ⟨by omega, lcN_fm e p hok items (acc ++ [y]) (by simp; omega) (fun b hb => hs b (List.mem_cons_of_mem _ hb)) ?_⟩
      rw [List.append_assoc]
      exact h
/-- .. without a test -/
theorem lcN_map (e : α → D) (p : α → D) (hok : ok st) (items : List α) (hl : items.length ≤ sizeLine)
    (hs : ∀ a ∈ items, ∀ (kt : D → Sto → Prop), kt (p a) st → match tgSet st tg (e a) (wipeD env vs) with
      | some env' => de noEd env' st fun y st2 => kt (keep bx st2 y).1 (keep bx st2 y).2
      | none => False) (h : Q (.tl (items.map p)) st) : lcN ok vs tg dYes bx de env Q (items.map e) [] st := by
  refine lcN_fm e (fun a => some (p a)) hok items [] (by simpa using hl) (fun a ha kt kf hk => ?_) (by simpa [List.filterMap_eq_map] using h)
  have := hs a ha kt hk
  revert this
  cases tgSet st tg (e a) (wipeD env vs) with
  | none => exact fun z => z.elim
  | some env' => exact fun z => z
end
theorem stays_app {st : Sto} {x : D} {ds : List D} (h : seqOf st x = some ds) (a b : Sto) : stays (st ++ a) x (st ++ b) := by
  cases x <;> first | trivial | skip
  rename_i n
  unfold seqOf lisOf at h
  simp only at h
  show (st ++ b)[n]? = (st ++ a)[n]?
  have hn : n < st.length := by
    split at h
    · rename_i e; exact (List.getElem?_eq_some_iff.mp e).1
    · cases h
  rw [List.getElem?_append_left hn, List.getElem?_append_left hn]
theorem seqOf_app {st : Sto} {x : D} {ds : List D} (h : seqOf st x = some ds) (a : Sto) : seqOf (st ++ a) x = some ds := by
  cases x <;> first | exact h | skip
  rename_i n
  unfold seqOf lisOf at h ⊢
  simp only at h ⊢
  have hn : n < st.length := by
    split at h
    · rename_i e; exact (List.getElem?_eq_some_iff.mp e).1
    · cases h
  rw [List.getElem?_append_left hn]
  exact h
theorem items_seq {st : Sto} {x : D} {ds : List D} (h : seqOf st x = some ds) : itemsOf st x = some ds := by
  cases x <;> first | exact h | cases h
theorem opSorted_dic {st : Sto} {x : D} {kvs : List (Key × D)} {zs : List Str} {k : D → Prop} (h : dicOf st x = some kvs) (e : strKeys? (kvs.map (·.1)) = some zs) :
    opSorted st [x] k = (zs.length < 64 ∧ ∀ ys : List Str, ys.Perm zs → PyProof.Rows.sortedS ys = true → k (.tl (ys.map D.str))) := by
  have hl : lisOf st x = none := by
    cases x <;> first | rfl | (cases h; done) | skip
    unfold dicOf at h
    unfold lisOf
    simp only at h ⊢
    split at h
    · rename_i e1; rw [e1]
    · cases h
  unfold opSorted
  simp only [hl, h, e]
end DW

/-! DW13: loops with an invariant, more rules of reckoning. -/
namespace DW
open PySem L2
section
variable {α : Type} {ok : Sto → Prop} {vs : List Nat} {tg : Tg} {b : DS} {dt : DT} {bx : Bool} {dk de : DE} {env : Slots} {Q : D → Sto → Prop} {st : Sto} {Ed : EdT} {De : DEnds}
/-- a for loop with an invariant: what is done, what is left -/
theorem forN_inv' (e : α → D) (I : List α → Slots → Sto → Prop) (items : List α) (hok : ∀ done env st, I done env st → ok st)
    (hs : ∀ done a rest, items = done ++ a :: rest → ∀ env st, I done env st → ∃ env', tgSet st tg (e a) env = some env' ∧ ∀ nx : Slots → Sto → Prop, (∀ e s, I (done ++ [a]) e s → nx e s) → b Ed { nx := nx, ct := nx, bk := De.nx, rt := De.rt } env' st)
    (he : ∀ env st, I items env st → De.nx env st) : ∀ (done rest : List α), items = done ++ rest → ∀ env st, I done env st → forN ok tg b Ed De (rest.map e) env st
  | done, [], hi, env, st, h => ⟨hok _ _ _ h, he _ _ (by rw [hi, List.append_nil]; exact h)⟩
  | done, a :: rest, hi, env, st, h => by
    refine ⟨hok _ _ _ h, ?_⟩
    obtain ⟨env', e1, h1⟩ := hs done a rest hi env st h
    rw [e1]
    exact h1 _ fun e2 s2 h2 => forN_inv' e I items hok hs he (done ++ [a]) rest (by rw [hi, List.append_assoc]; rfl) e2 s2 h2
theorem forN_inv (e : α → D) (I : List α → Slots → Sto → Prop) (items : List α) (h0 : I [] env st) (hok : ∀ done env st, I done env st → ok st)
    (hs : ∀ done a rest, items = done ++ a :: rest → ∀ env st, I done env st → ∃ env', tgSet st tg (e a) env = some env' ∧ ∀ nx : Slots → Sto → Prop, (∀ e s, I (done ++ [a]) e s → nx e s) → b Ed { nx := nx, ct := nx, bk := De.nx, rt := De.rt } env' st)
    (he : ∀ env st, I items env st → De.nx env st) : forN ok tg b Ed De (items.map e) env st := forN_inv' e I items hok hs he [] items rfl env st h0
/-- a comprehension with an invariant on the store and on what it has gathered -/
theorem lcN_inv' (e : α → D) (I : List α → List D → Sto → Prop) (items : List α) (hl : items.length ≤ sizeLine) (hok : ∀ done acc st, I done acc st → ok st)
    (hs : ∀ done a rest, items = done ++ a :: rest → ∀ acc st, I done acc st → ∃ env', tgSet st tg (e a) (wipeD env vs) = some env' ∧ ∀ kt : D → Sto → Prop, (∀ y s, I (done ++ [a]) (acc ++ [y]) s → kt y s) → de noEd env' st fun y st2 => kt (keep bx st2 y).1 (keep bx st2 y).2)
    (he : ∀ acc st, I items acc st → Q (.tl acc) st) : ∀ (done rest : List α), items = done ++ rest → ∀ acc st, acc.length = done.length → I done acc st → lcN ok vs tg dYes bx de env Q (rest.map e) acc st
  | done, [], hi, acc, st, _, h => ⟨hok _ _ _ h, he _ _ (by rw [hi, List.append_nil]; exact h)⟩
  | done, a :: rest, hi, acc, st, hlen, h => by
    refine ⟨hok _ _ _ h, ?_⟩
    obtain ⟨env', e1, h1⟩ := hs done a rest hi acc st h
    rw [e1]
    show de noEd env' st _
    refine h1 (fun y' st' => acc.length < sizeLine ∧ lcN ok vs tg dYes bx de env Q (rest.map e) (acc ++ [y']) st') fun y2 s2 h2 => ⟨?_, lcN_inv' e I items hl hok hs he (done ++ [a]) rest (by rw [hi, List.append_assoc]; rfl) (acc ++ [y2]) s2 (by simp [hlen]) h2⟩
    rw [hi, List.length_append, List.length_cons] at hl
    omega
theorem lcN_inv (e : α → D) (I : List α → List D → Sto → Prop) (items : List α) (hl : items.length ≤ sizeLine) (h0 : I [] [] st) (hok : ∀ done acc st, I done acc st → ok st)
    (hs : ∀ done a rest, items = done ++ a :: rest → ∀ acc st, I done acc st → ∃ env', tgSet st tg (e a) (wipeD env vs) = some env' ∧ ∀ kt : D → Sto → Prop, (∀ y s, I (done ++ [a]) (acc ++ [y]) s → kt y s) → de noEd env' st fun y st2 => kt (keep bx st2 y).1 (keep bx st2 y).2)
    (he : ∀ acc st, I items acc st → Q (.tl acc) st) : lcN ok vs tg dYes bx de env Q (items.map e) [] st := lcN_inv' e I items hl hok hs he [] items rfl [] st rfl h0
theorem putP_len {β γ : Type} [DecidableEq β] (kvs : List (β × γ)) (k : β) (y : γ) : (putP kvs k y).length ≤ kvs.length + 1 := by
  unfold putP
  split <;> simp
/-- a dict comprehension with an invariant -/
theorem dcN_inv' (e : α → D) (I : List α → List (Key × D) → Sto → Prop) (items : List α) (hl : items.length ≤ sizeLine) (hok : ∀ done acc st, I done acc st → ok st)
    (hs : ∀ done a rest, items = done ++ a :: rest → ∀ acc st, I done acc st → ∃ env', tgSet st tg (e a) (wipeD env vs) = some env' ∧ ∀ kt : D → D → Sto → Prop, (∀ q kk y s, keyOf q = some kk → I (done ++ [a]) (putP acc kk y) s → kt q y s) → dk noEd env' st fun q st2 => de noEd env' st2 fun y st3 => kt q (keep bx st3 y).1 (keep bx st3 y).2)
    (he : ∀ acc st, I items acc st → Q (.td (acc.map (·.1)) (acc.map (·.2))) st) : ∀ (done rest : List α), items = done ++ rest → ∀ acc st, acc.length ≤ done.length → I done acc st → dcN ok vs tg dYes bx dk de env Q (rest.map e) acc st
  | done, [], hi, acc, st, _, h => ⟨hok _ _ _ h, he _ _ (by rw [hi, List.append_nil]; exact h)⟩
  | done, a :: rest, hi, acc, st, hlen, h => by
    refine ⟨hok _ _ _ h, ?_⟩
    obtain ⟨env', e1, h1⟩ := hs done a rest hi acc st h
    rw [e1]
    show dk noEd env' st _
    refine h1 (fun q y' st' => match keyOf q with
      | some kk => acc.length < sizeLine ∧ dcN ok vs tg dYes bx dk de env Q (rest.map e) (putP acc kk y') st'
      | none => False) fun q kk y2 s2 hq h2 => ?_
    simp only [hq]
    refine ⟨?_, dcN_inv' e I items hl hok hs he (done ++ [a]) rest (by rw [hi, List.append_assoc]; rfl) _ s2 ?_ h2⟩
    · rw [hi, List.length_append, List.length_cons] at hl
      omega
    · have := putP_len acc kk y2
      simp
      omega
theorem dcN_inv (e : α → D) (I : List α → List (Key × D) → Sto → Prop) (items : List α) (hl : items.length ≤ sizeLine) (h0 : I [] [] st) (hok : ∀ done acc st, I done acc st → ok st)
    (hs : ∀ done a rest, items = done ++ a :: rest → ∀ acc st, I done acc st → ∃ env', tgSet st tg (e a) (wipeD env vs) = some env' ∧ ∀ kt : D → D → Sto → Prop, (∀ q kk y s, keyOf q = some kk → I (done ++ [a]) (putP acc kk y) s → kt q y s) → dk noEd env' st fun q st2 => de noEd env' st2 fun y st3 => kt q (keep bx st3 y).1 (keep bx st3 y).2)
    (he : ∀ acc st, I items acc st → Q (.td (acc.map (·.1)) (acc.map (·.2))) st) : dcN ok vs tg dYes bx dk de env Q (items.map e) [] st := dcN_inv' e I items hl hok hs he [] items rfl [] st (Nat.le_refl _) h0
end
/-! ### more rules -/
section
variable {t u : DS} {Ed : EdT} {De : DEnds} {env : Slots} {st : Sto} {Q : D → Sto → Prop} {da db de dx dd dk : DE} {dt dt' : DT} {ds : DA} {i j : Int} {n : Nat} {x y : D} {xs : List D} {k : D → Prop}
@[simp ↓] theorem dDGet2_e : dDGet2 dd dk dx Ed env st Q = dd Ed env st fun x st1 => (dicOf st1 (frz x)).isSome = true ∧ dk Ed env st1 fun y st2 => dx Ed env st2 fun z st3 => match dicOf st3 (frz x), keyOf y with
  | some kvs, some q => Q ((valP kvs q).getD (frz z)) st3
  | _, _ => False := rfl
@[simp] theorem dicOf_refS (h : st[n]? = some (.dic kvs)) : dicOf st (.ref n) = some kvs := dicOf_ref h
@[simp] theorem keyOf_s {a : Str} : keyOf (.str a) = some (.inr a) := rfl
@[simp] theorem keyOf_i {i : Int} : keyOf (.int i) = some (.inl i) := rfl
theorem frz_seq {ds : List D} (h : seqOf st x = some ds) : frz x = x := by cases x <;> first | rfl | cases h
@[simp] theorem tgSet_nm : tgSet st (.nm n) x env = some (env.set n (some x)) := rfl
@[simp] theorem tgSet_tp {ts : List Tg} {ds : List D} : tgSet st (.tp ts) (.tup ds) env = tgsSet st ts ds env := rfl
@[simp] theorem tgsSet_nil : tgsSet st [] [] env = some env := rfl
@[simp] theorem tgsSet_cons {t : Tg} {ts : List Tg} {d : D} {ds : List D} : tgsSet st (t :: ts) (d :: ds) env = match tgSet st t d env with
  | some env' => tgsSet st ts ds env'
  | none => none := rfl
theorem last_get (st : Sto) (a : MO) : (st ++ [a])[st.length]? = some a := by simp
theorem last_set (st : Sto) (a b : MO) : (st ++ [a]).set st.length b = st ++ [b] := by simp
@[simp] theorem dic_last {kvs : List (Key × D)} : dicOf (st ++ [.dic kvs]) (.ref st.length) = some kvs := dicOf_ref (last_get _ _)
@[simp] theorem lis_last {ds : List D} : lisOf (st ++ [.lst ds]) (.ref st.length) = some ds := lisOf_ref (last_get _ _)
@[simp] theorem seq_last {ds : List D} : seqOf (st ++ [.lst ds]) (.ref st.length) = some ds := seqOf_ref (last_get _ _)
@[simp ↓] theorem opSet_dicS {kk : Sto → Prop} {kvs : List (Key × D)} {a : Str} (h : st[n]? = some (.dic kvs)) : opSet st (.ref n) (.str a) y kk = (kvs.length < sizeLine ∧ kk (st.set n (.dic (putP kvs (.inr a) y)))) := opSet_dic h rfl
@[simp ↓] theorem opIx_refS {kvs : List (Key × D)} {a : Str} {dv : D} (h : st[n]? = some (.dic kvs)) (e : valP kvs (.inr a) = some dv) : opIx st (.ref n) (.str a) k = k dv := opIx_dic (dicOf_ref h) rfl e
end
theorem len_size {n : Nat} (h : n ≤ 1000000) : n ≤ sizeLine := Nat.le_trans h (by decide)
theorem len_lt {n : Nat} (h : n ≤ 1000000) : n < sizeLine := Nat.lt_of_le_of_lt h (by decide)
theorem cls_iff {m : Nat} : ∀ {ds : List D}, cls m ds = true ↔ ∀ d ∈ ds, cl m d = true
  | [] => by simp [cls]
  | d :: ds => by simp [cls, cls_iff (ds := ds)]
mutual
theorem cl_mono {m m' : Nat} (h : m ≤ m') : ∀ d : D, cl m d = true → cl m' d = true
  | .non, _ => rfl
  | .bl _, _ => rfl
  | .int _, _ => rfl
  | .str _, _ => rfl
  | .con _, _ => rfl
  | .ty _, _ => rfl
  | .ref n, e => by simp only [cl, decide_eq_true_eq] at e ⊢; omega
  | .tup ds, e => cls_mono h ds e
  | .fl ds, e => cls_mono h ds e
  | .sl ds, e => cls_mono h ds e
  | .tl ds, e => cls_mono h ds e
  | .fd _ ds, e => cls_mono h ds e
  | .td _ ds, e => cls_mono h ds e
theorem cls_mono {m m' : Nat} (h : m ≤ m') : ∀ ds : List D, cls m ds = true → cls m' ds = true
  | [], _ => rfl
  | d :: ds, e => by
    simp only [cls, Bool.and_eq_true] at e ⊢
    exact ⟨cl_mono h d e.1, cls_mono h ds e.2⟩
end
theorem opIsi_e {st : Sto} {x : D} {t c : String} {k : D → Prop} (h : typN st x = some t) (hc : c ∈ ["int", "bool", "str", "tuple", "list"]) : opIsi st [x, .ty c] k = k (.bl (isiB t c)) := by
  unfold opIsi
  simp only [h, hc, true_and]
theorem typN_frz {st : Sto} {x : D} {t : String} (h : typN st x = some t) : typN st (frz x) = some t := by
  cases x <;> first | exact h | (cases h; done)
theorem lg_small {m : Int} (h : 0 < m) (h2 : m < 2 ^ 64) : m.natAbs.log2 < 9000 := by
  have h3 : m.natAbs ≠ 0 := by omega
  have : m.natAbs.log2 < 64 := (Nat.log2_lt h3).mpr (by omega)
  omega
end DW

/-! DW14: the head's end. -/
namespace DW
open PySem PySem.Spec PyProof.Rows L2
/-- the def st stands at the top under x -/
def DefOk (K : PySem.W.Frag) (mg : Str → Option Value) (x : Str) (st : Stmt) : Prop := ∃ f fd, Fun K x x st f fd ∧ mg x = some (.ref f)
theorem def_mk {K : PySem.W.Frag} {h : Heap} {mg : Str → Option Value} (X : K.In h) (G : h.Ns mainGlobals mg) {x : Str} {st : Stmt} {f : Addr} {oc : Value} {od an : Option Addr} {osl : Array (Option Value)} {kV doc pm cdv ct : Value}
    (a : PySem.W.nsIn K mainGlobals x = some (some (.ref f))) (l : K.lookup f = some ⟨oc, od, .func (PySem.W.fnOf x x (defArgs st) (defBody st) (defScope st) .none kV doc pm an cdv ct), osl⟩)
    (c : PySem.W.codeIn K cdv x = true) (k : PySem.W.keepIn K (.ref f) = true) : DefOk K mg x st := ⟨f, _, fun_mk l c k, PySem.W.mg_of X G a⟩
theorem binds_one {K : PySem.W.Frag} {x : Str} {st : Stmt} {f : Addr} {fd : FuncData} {p : Str} (F : Fun K x x st f fd)
    (h : ∀ (kV doc pm : Value) (an : Option Addr) (cdv ct u : Value), bindArgs (PySem.W.fnOf x x (defArgs st) (defBody st) (defScope st) .none kV doc pm an cdv ct) ⟨[u], []⟩ = pure [(p, u)]) : ∀ (s : Shared) (u : Value), BindsTo s fd ⟨[u], []⟩ [(p, u)] := by
  obtain ⟨oc, od, kV, doc, pm, an, cdv, ct, osl, rfl, lk, hcd⟩ := F.ex
  exact fun s u => .of_eq (h ..)
theorem ints_reps {K : PySem.W.Frag} {Fr : Hp} {f : List Addr} : ∀ ns : List Int, Reps K Fr f (ns.map .int) (ns.map V.int)
  | [] => rfl
  | n :: ns => ⟨_, _, rfl, rfl, ints_reps ns⟩
/-- the script, as the judge hands it -/
theorem head_sp {K : PySem.W.Frag} {dsp : DSp} {H : Hp} {a : Addr} {ns : List Int} (hS : SqL K H a (ns.map V.int)) (h : dsp [.sl (ns.map .int)] [] (fun _ _ => False) fun x _ => x = .bl true) :
    liftSp K dsp [.ref a] H (fun v _ => v = .bl true) fun _ _ _ => False := by
  refine ⟨fun _ => none, H, [], [], [.sl (ns.map .int)], fun _ _ => False, fun x _ => x = .bl true, ⟨fun _ _ h => h, (fun _ _ h => by cases h), (fun _ _ h => by cases h), (fun _ _ h => by cases h), List.nodup_nil, rfl, (fun _ h => by cases h), (fun n m a h => by simp at h)⟩, ⟨_, _, rfl, ⟨a, _, rfl, hS, ints_reps ns⟩, rfl⟩, h, fun x st' e v Fr' f' H' _ _ _ r => ?_, fun _ _ h => h.elim⟩
  subst e
  exact r
theorem cx_no {P : Program} {w : World} {H : Hp} {s : Shared} {e : Value} {s' : Shared} (h : L2.CX P w [] H s (fun _ _ _ => False) e s') : False := by
  obtain ⟨_, _, _, _, _, _, _, _, _, _, _, _, hE⟩ := h
  exact hE
theorem const_int {K : PySem.W.Frag} {h : Heap} {mg : Str → Option Value} (X : K.In h) (G : h.Ns mainGlobals mg) {x : Str} {i : Int} {t : Tok} (a : PySem.W.nsIn K mainGlobals x = some (some (.int i t))) : ConstOf K mg x (.int i) := .int (PySem.W.mg_of X G a)
theorem const_str {K : PySem.W.Frag} {h : Heap} {mg : Str → Option Value} (X : K.In h) (G : h.Ns mainGlobals mg) {x : Str} {i : Str} {t : Tok} (a : PySem.W.nsIn K mainGlobals x = some (some (.str i t))) : ConstOf K mg x (.str i) := .str (PySem.W.mg_of X G a)
theorem const_ref {K : PySem.W.Frag} {h : Heap} {mg : Str → Option Value} (X : K.In h) (G : h.Ns mainGlobals mg) {x : Str} {d : D} {b : Addr} (a : PySem.W.nsIn K mainGlobals x = some (some (.ref b))) (r : ∀ Fr f, Rep K Fr f d (.ref b)) : ConstOf K mg x d := .ref (PySem.W.mg_of X G a) r
end DW

/-! DW15: a def in a slot, range by steps, a text many times. -/
namespace DW
open PySem PySem.Spec PyProof.Rows L2
section
variable {X : Cx} {W : WX} {e : Expr} {es : List Expr} {ds da : DA} {x : Str} {p pos : Pos} {k i : Nat} {f f' : Addr} {fd : FuncData} {ps : List Str} {dsp dsp' : DSp}
/-! ### calling what a slot holds -/
theorem pe_callLS (E : L2.St → XK) (F : FnOk X.prog X.w X.K X.mg X.base (L2.CX X.prog X.w) k f fd ps sp) (hr : Room k X.A) (hN : X.N[i]? = some x) (hv : Vis X.env.scope x) (hk : PySem.W.keepIn X.K (.ref f) = true) (hb : Binds X.K fd ps []) (hx : ∀ σ, PassesAt (L2.CX X.prog X.w) X σ (E σ)) (ha : PA X (e :: es) t)
    (hdb : (x == ("__debug__" : Str)) = false := by decide) (hcd : (x == ("__classdict__" : Str)) = false := by decide)
    (he : starEach (e :: es) X.env = (false, eval e X.env) :: starEach es X.env := by rfl) (hpl : (backTo pos (starEach es X.env)).any (·.1) = false := by rfl) : PE X (.Call (.Name x p) (e :: es) [] pos) (fun σ H Q => σ[i]? = some (some (.ref f)) ∧ tCallS sp E t σ H Q) := by
  refine ⟨fun pins s σ H Q I h => ?_⟩
  obtain ⟨hs, ht⟩ := h
  refine wpAny_Call_Name_kw (thn ((pe_var (pos := p) hN hv hdb hcd).run pins s σ H (fun v H1 => v = .ref f ∧ H1 = H) I ⟨.ref f, hs, rfl, rfl⟩) fun u s1 ⟨v, H1, I1, r1, q1⟩ => ?_)
  obtain ⟨rfl, rfl⟩ := q1
  cases r1
  refine PySem.W.callWith_K (h₀ := X.base) I.ok.mod.kin hk (thn (ha.run pos pins s1 σ _ _ I1 ht) fun us s2 ⟨vs, H2, I2, r, q⟩ => ⟨I2.kIn, ?_⟩) he hpl
  exact run_fnS F hr hb (hx σ) I2 r q
/-- one of two defs -/
def dCall2 (i : Nat) (f f' : Addr) (dsp dsp' : DSp) (ds : DA) : DE := fun Ed env st Q => (env[i]? = some (some (.con f)) ∧ dCall dsp ds Ed env st Q) ∨ (env[i]? = some (some (.con f')) ∧ dCall dsp' ds Ed env st Q)
theorem con_slot {K : PySem.W.Frag} {Pr Fr : Hp} {ff : List Addr} {env : Slots} {st : Sto} {σ : L2.St} {H : Hp} (S : Sim K Pr Fr ff env st σ H) (h : env[i]? = some (some (.con f))) : σ[i]? = some (some (.ref f)) := by
  obtain ⟨v, h1, h2⟩ := RepS.get S.env h
  cases (show v = _ from h2)
  exact h1
theorem de_call2 (F : FnOk X.prog X.w X.K X.mg X.base (L2.CX X.prog X.w) k f fd ps (liftSp X.K dsp)) (hk : PySem.W.keepIn X.K (.ref f) = true) (hb : Binds X.K fd ps []) {k' : Nat} {fd' : FuncData} {ps' : List Str} (F' : FnOk X.prog X.w X.K X.mg X.base (L2.CX X.prog X.w) k' f' fd' ps' (liftSp X.K dsp')) (hk' : PySem.W.keepIn X.K (.ref f') = true) (hb' : Binds X.K fd' ps' [])
    (hr : Room k X.A) (hr' : Room k' X.A) (hN : X.N[i]? = some x) (hv : Vis X.env.scope x) (tk : Takes X W)
    (ha : PA X (e :: es) (liftA X.K W ds)) (hdb : (x == ("__debug__" : Str)) = false := by decide) (hcd : (x == ("__classdict__" : Str)) = false := by decide) (he : starEach (e :: es) X.env = (false, eval e X.env) :: starEach es X.env := by rfl) (hpl : (backTo pos (starEach es X.env)).any (·.1) = false := by rfl) :
    PE X (.Call (.Name x p) (e :: es) [] pos) (liftE X.K W (dCall2 i f f' dsp dsp' ds)) := by
  have P1 := pe_callLS (i := i) (p := p) (pos := pos) (WE W) F hr hN hv hk hb (fun σ => passAt tk σ) ha hdb hcd he hpl
  have P2 := pe_callLS (i := i) (p := p) (pos := pos) (WE W) F' hr' hN hv hk' hb' (fun σ => passAt tk σ) ha hdb hcd he hpl
  refine ⟨fun pins s σ H Q I h => ?_⟩
  obtain ⟨Ed, Pr, Fr, ff, env, st, Q0, A, d, kk⟩ := h
  rcases d with ⟨d1, d⟩ | ⟨d1, d⟩
  · exact P1.run pins s σ H Q I ⟨con_slot A.toSim d1, lift_call σ H Q ⟨Ed, Pr, Fr, ff, env, st, Q0, A, d, kk⟩⟩
  · exact P2.run pins s σ H Q I ⟨con_slot A.toSim d1, lift_call σ H Q ⟨Ed, Pr, Fr, ff, env, st, Q0, A, d, kk⟩⟩
/-! ### range(i, j, c) -/
def stepD (lo c : Int) (n : Nat) : List D := (List.range n).map fun i => .int (lo + (i : Nat) * c)
def dRng3 (da : DA) : DI := fun Ed env st R => da Ed env st fun xs st1 => match xs with
  | [.int i, .int j, .int c] => ∃ n, RgC i j c n ∧ R (stepD i c n) (fun _ => True) st1
  | _ => False
theorem its3_sim {K : PySem.W.Frag} {Fr : Hp} {f : List Addr} (lo c : Int) (n : Nat) : ItSim K (Itc lo c n) (stepD lo c n) (fun _ => True) Fr f := by
  intro i Pr Fr' f' st H s p S _
  refine ⟨fun x e => ?_, fun hi => by show n ≤ i; simpa [stepD] using hi⟩
  unfold stepD at e
  rw [List.getElem?_map] at e
  cases h : (List.range n)[i]? with
  | none => rw [h] at e; cases e
  | some c =>
    rw [h] at e
    cases e
    obtain ⟨hi, rfl⟩ := List.getElem?_eq_some_iff.mp h
    refine ⟨by show i < n; simpa using hi, fun v H2 y => ?_⟩
    obtain ⟨rfl, rfl⟩ := y
    exact ⟨Fr', Same.refl _, S, by simp [Rep]⟩
theorem di_range3 {tg a b c : Expr} {p : Pos} (hg : Gl X "range") (hm : X.mg "range" = none) (ha : PA X [a, b, c] (liftA X.K W da)) (hs : starEach [a, b, c] X.env = (false, eval a X.env) :: starEach [b, c] X.env := by rfl) (hpl : (backTo pos (starEach [b, c] X.env)).any (·.1) = false := by rfl) : PI X tg (.Call (.Name "range" p) [a, b, c] [] pos) (liftI X.K W (dRng3 da)) :=
  PIimp (pi_range3 hg hm ha hs hpl) fun σ H R q => by
  obtain ⟨Ed, Pr, Fr, f, env, st, Q0, A, d, k⟩ := q
  refine liftA1 A d fun xs st1 vs Fr1 f1 H1 h1 s1 p1 S1 r1 => ?_
  split at h1
  · obtain ⟨v, r, rfl, r, r2⟩ := r1
    obtain ⟨u, r3, rfl, r', r2⟩ := r2
    obtain ⟨w, r4, rfl, r'', r2⟩ := r2
    cases (show v = _ from r); cases (show u = _ from r'); cases (show w = _ from r''); cases (show r4 = _ from r2)
    obtain ⟨n, h2, h3⟩ := h1
    exact ⟨_, _, _, n, rfl, h2, k _ _ _ h3 _ Fr1 f1 H1 s1 p1 S1 (its3_sim _ _ _)⟩
  · exact h1.elim
end
/-! ### a text many times -/
def repS (a : Str) (n : Nat) : Str := ⟨(List.replicate n a.cps).foldl (· ++ ·) #[]⟩
theorem repS_fold (c : Array Nat) : ∀ (n : Nat) (acc : Array Nat), ((List.replicate n c).foldl (· ++ ·) acc).toList = acc.toList ++ (List.replicate n c.toList).flatten
  | 0, acc => by simp
  | n + 1, acc => by
    rw [List.replicate_succ, List.foldl_cons, repS_fold c n, List.replicate_succ, List.flatten_cons]
    simp
theorem repS_cps (a : Str) (n : Nat) : (repS a n).cps.toList = (List.replicate n a.cps.toList).flatten := by
  unfold repS
  rw [repS_fold]
  simp
theorem repS_len (a : Str) (n : Nat) : (repS a n).length = n * a.length := by
  show (repS a n).cps.size = n * a.cps.size
  rw [← Array.length_toList, repS_cps]
  simp
def rMulS : R2 := fun x y H Q => ∃ (a : Str) (n : Int), x = .str a ∧ y = .int n ∧ 1 ≤ n ∧ n < 1000000 ∧ a.length * n.toNat ≤ 1000000 ∧ a.length ≠ 0 ∧ Q (.str (repS a n.toNat)) H
theorem op_mulS {X : Cx} : OpR X (binaryOp .Mult) rMulS := by
  intro pins s σ H x y v u Q I rx ry h
  obtain ⟨a, n, rfl, rfl, h1, h2, h3, h0, q⟩ := h
  obtain ⟨t, rfl⟩ := rx
  obtain ⟨t', rfl⟩ := ry
  have e1 : decide (n < -(2 ^ 63 : Int)) = false := decide_eq_false (by omega)
  have e2 : decide (n ≥ (2 ^ 63 : Int)) = false := decide_eq_false (by omega)
  refine P.mul_str (by rw [e1, e2]; rfl) (fun _ _ => ?_) (fun _ _ => ?_) ?_
  · have hn : ((n.toNat : Nat) : Int) = n := Int.toNat_of_nonneg (by omega)
    have : (a.length : Int) ≤ (2 ^ 63 - 1) / n := by
      refine Int.le_ediv_of_mul_le (by omega) ?_
      rw [← hn, ← Int.natCast_mul]
      omega
    omega
  · unfold Builtin.Str.tooLong
    exact decide_eq_false (by have : (sizeLine : Nat) = 16777216 := rfl; omega)
  · rw [if_neg (by omega)]
    split
    · rename_i e
      have en : n = 1 := by
        rw [Bool.or_eq_true] at e
        rcases e with e | e
        · exact eq_of_beq e
        · exact absurd (eq_of_beq e) h0
      subst en
      refine ⟨.str a, H, I, ⟨t, rfl⟩, ?_⟩
      have : repS a (1 : Int).toNat = a := by
        unfold repS
        show Str.mk (#[] ++ a.cps) = a
        simp
      rw [this] at q
      exact q
    · refine ⟨?_, .str (repS a n.toNat), H, I.tok _, ⟨_, rfl⟩, q⟩
      show (repS a n.toNat).length ≤ sizeLine
      rw [repS_len]
      exact len_size (by rw [Nat.mul_comm]; omega)
/-- * of ints, lists, texts -/
def rMul2 : R2 := fun x y H Q => rMulAny x y H Q ∨ rMulS x y H Q
theorem or_mul2 {X : Cx} : OpR X (binaryOp .Mult) rMul2 := or_mul.or op_mulS
def opMul2 : Sto → D → D → (D → Prop) → Prop := fun st x y k => match x, y with
  | .str a, .int n => 1 ≤ n ∧ n < 1000000 ∧ a.length * n.toNat ≤ 1000000 ∧ a.length ≠ 0 ∧ k (.str (repS a n.toNat))
  | x, y => opMul st x y k
theorem od_mul2 {K : PySem.W.Frag} : OpD K rMul2 opMul2 := by
  intro Pr Fr f st H x y v u k Q S r1 r2 o q
  unfold opMul2 at o
  split at o
  · cases (show v = _ from r1); cases (show u = _ from r2)
    obtain ⟨o1, o2, o3, o4, o5⟩ := o
    exact .inr ⟨_, _, rfl, rfl, o1, o2, o3, o4, q _ _ Fr H o5 (Same.refl _) S rfl⟩
  · exact .inl (od_mul Pr Fr f st H x y v u k Q S r1 r2 o q)
@[simp ↓] theorem opMul2_ii {st : Sto} {i j : Int} {k : D → Prop} : opMul2 st (.int i) (.int j) k = (IntMulOk i j ∧ k (.int (i * j))) := rfl
@[simp ↓] theorem opMul2_si {st : Sto} {a : Str} {n : Int} {k : D → Prop} : opMul2 st (.str a) (.int n) k = (1 ≤ n ∧ n < 1000000 ∧ a.length * n.toNat ≤ 1000000 ∧ a.length ≠ 0 ∧ k (.str (repS a n.toNat))) := rfl
/-- only where p holds -/
def sOnly (p : Prop) (d : DS) : DS := fun Ed De env st => p ∧ d Ed De env st
theorem pss_only {X : Cx} {W : WX} {b : List Stmt} {p : Prop} {d : DS} (h : p → PSs X b (liftS X.K W d)) : PSs X b (liftS X.K W (sOnly p d)) := by
  refine ⟨fun pins s σ H D I q => ?_⟩
  obtain ⟨Ed, Pr, Fr, f, env, st, Dd, A, ⟨hp, d⟩, E⟩ := q
  exact (h hp).run pins s σ H D I ⟨Ed, Pr, Fr, f, env, st, Dd, A, d, E⟩
theorem exm_own {K : PySem.W.Frag} {S : Addr} (x : XCls K S) (h2 : PySem.W.isClsIn K S = true) (h4 : PySem.W.subIn K (.ref S) (.ref S) = some true) :
    PySem.W.exmOne K (.ref S) (.ref S) = some true := by
  unfold PySem.W.exmOne PySem.W.kitCls
  have h2' : (PySem.W.clsIn K S).isSome = true := h2
  simp [x.s, x.t, h2', h4]
@[simp ↓] theorem sOnly_e {p : Prop} {d : DS} {Ed : EdT} {De : DEnds} {env : Slots} {st : Sto} : sOnly p d Ed De env st = (p ∧ d Ed De env st) := rfl
end DW

/-! DW16: divmod of any size; texts by their codes; the data of texts. -/
namespace DW
open PySem PySem.Spec PyProof.Rows L2
def opDivmodW : Sto → List D → (D → Prop) → Prop := fun _ xs k => match xs with
  | [.int i, .int j] => CDivP i j ∧ k (.tup [.int (i / j), .int (i % j)])
  | _ => False
theorem cd_divmodW {K : PySem.W.Frag} : CallD K (fun xs H Q => ∃ i j, xs = [.int i, .int j] ∧ CDivP i j ∧ ∀ p, H p = none → Q (.ref p) (upd H p (.tup [.int (i / j), .int (i % j)]))) opDivmodW := by
  intro Pr Fr f st H xs vs k Q S r o q
  unfold opDivmodW at o
  split at o
  · obtain ⟨v, u, rfl, r1, r2⟩ := r.two
    cases (show v = _ from r1); cases (show u = _ from r2)
    rename_i i j
    refine ⟨_, _, rfl, o.1, fun p hp => ?_⟩
    obtain ⟨sm, S', rx⟩ := lay_tup (ds := [.int (i / j), .int (i % j)]) S hp (vs := [.int (i / j), .int (i % j)]) ⟨_, _, rfl, rfl, _, _, rfl, rfl, rfl⟩
    exact q _ _ _ _ o.2 sm S' rx
  · exact o.elim
@[simp ↓] theorem opDivmodW_e {st : Sto} {i j : Int} {k : D → Prop} : opDivmodW st [.int i, .int j] k = (CDivP i j ∧ k (.tup [.int (i / j), .int (i % j)])) := rfl
theorem divp_lg {i j : Int} (h : 0 < j) (h2 : j.natAbs.log2 < 9000) : CDivP i j := ⟨h, PyProof.noPylong_of_log2 h2⟩
end DW
/-! ### texts by their codes -/
namespace TX
open PySem SX
/-- the codes of an int's text -/
def decL (i : Int) : List Nat := if i < 0 then 45 :: TL.numL i.natAbs else TL.numL i.natAbs
def valI : List Nat → Int
  | [] => 0
  | c :: r => if c = 45 then -(NumText.digitsVal r : Int) else (NumText.digitsVal (c :: r) : Int)
theorem numL_head0 {n : Nat} (h : 0 < n) : (TL.numL n).head? ≠ some 48 := by
  induction n using Nat.strongRecOn with
  | _ n ih =>
    by_cases h1 : n < 10
    · rw [TL.numL_lt h1]; simp; omega
    · rw [TL.numL_step (by omega)]
      have := ih (n / 10) (by omega) (by omega)
      cases e : TL.numL (n / 10) with
      | nil => exact absurd e (TL.numL_ne _)
      | cons c r => rw [e] at this; simpa using this
theorem numL_cons (n : Nat) : ∃ c r, TL.numL n = c :: r ∧ 48 ≤ c ∧ c ≤ 57 := by
  cases e : TL.numL n with
  | nil => exact absurd e (TL.numL_ne n)
  | cons c r =>
    have := TL.numL_digits n c (by rw [e]; simp)
    exact ⟨c, r, rfl, this.1, this.2⟩
theorem valI_dec (i : Int) : valI (decL i) = i := by
  unfold decL
  split
  · rename_i h
    simp only [valI, if_pos, TL.numL_val]
    omega
  · rename_i h
    obtain ⟨c, r, e, h1, h2⟩ := numL_cons i.natAbs
    rw [e]
    simp only [valI, if_neg (show ¬ c = 45 by omega)]
    rw [← e, TL.numL_val]
    omega
theorem decL_inj {i j : Int} (h : decL i = decL j) : i = j := by rw [← valI_dec i, h, valI_dec]
theorem decL_ne (i : Int) : decL i ≠ [] := by
  unfold decL
  split
  · simp
  · exact TL.numL_ne _
/-- reading -/
def readI (l : List Nat) : Option Int := if decL (valI l) = l then some (valI l) else none
theorem readI_dec (i : Int) : readI (decL i) = some i := by unfold readI; rw [valI_dec, if_pos rfl]
theorem readI_some {l : List Nat} {i : Int} (h : readI l = some i) : l = decL i := by
  unfold readI at h
  split at h
  · rename_i e; cases h; exact e.symm
  · cases h
theorem readI_none {l : List Nat} (h : readI l = none) (i : Int) : l ≠ decL i := fun e => by
  subst e
  rw [readI_dec] at h
  cases h
theorem readI_no {l : List Nat} (h : ∀ i, l ≠ decL i) : readI l = none := by
  cases e : readI l with
  | none => rfl
  | some i => exact absurd (readI_some e) (h i)
theorem digitsVal_app (a b : List Nat) : NumText.digitsVal (a ++ b) = NumText.digitsVal a * 10 ^ b.length + NumText.digitsVal b := by
  have key : ∀ (b : List Nat) (x y : Nat), b.foldl (fun acc c => acc * 10 + (c - 48)) (x + y) = x * 10 ^ b.length + b.foldl (fun acc c => acc * 10 + (c - 48)) y := by
    intro b
    induction b with
    | nil => intro x y; simp
    | cons c b ih =>
      intro x y
      rw [List.foldl_cons, List.foldl_cons, show (x + y) * 10 + (c - 48) = x * 10 + (y * 10 + (c - 48)) by omega, ih, List.length_cons, Nat.pow_succ, Nat.mul_assoc, Nat.mul_comm 10]
  unfold NumText.digitsVal
  rw [List.foldl_append]
  have := key b (a.foldl (fun acc c => acc * 10 + (c - 48)) 0) 0
  simpa using this
theorem digitsVal_cons (c : Nat) (l : List Nat) : NumText.digitsVal (c :: l) = (c - 48) * 10 ^ l.length + NumText.digitsVal l := by
  have := digitsVal_app [c] l
  simpa [NumText.digitsVal] using this
theorem digitsVal_lt : ∀ {l : List Nat}, NumText.AllDigits l → NumText.digitsVal l < 10 ^ l.length
  | [], _ => by simp [NumText.digitsVal]
  | c :: l, h => by
    have h1 := digitsVal_lt (l := l) fun d hd => h d (List.mem_cons_of_mem _ hd)
    have hc := h c List.mem_cons_self
    rw [digitsVal_cons, List.length_cons, Nat.pow_succ]
    have : (c - 48) * 10 ^ l.length ≤ 9 * 10 ^ l.length := Nat.mul_le_mul_right _ (by omega)
    omega
theorem numL_inv : ∀ (n : Nat) {l : List Nat}, l.length = n → NumText.AllDigits l → l ≠ [] → (l = [48] ∨ l.head? ≠ some 48) → TL.numL (NumText.digitsVal l) = l := by
  intro n
  induction n with
  | zero => intro l hl _ hn _; exact absurd (List.eq_nil_of_length_eq_zero hl) hn
  | succ n ih =>
    intro l hl hd hn hh
    have e := List.dropLast_concat_getLast hn
    generalize l.dropLast = a at e
    generalize l.getLast hn = c at e
    subst e
    have hc := hd c (by simp)
    have ha : NumText.AllDigits a := fun d h => hd d (by simp [h])
    have hv : NumText.digitsVal [c] = c - 48 := by simp [NumText.digitsVal]
    rw [digitsVal_app, hv, List.length_singleton, Nat.pow_one]
    cases a with
    | nil =>
      simp only [NumText.digitsVal, List.foldl_nil, Nat.zero_mul, Nat.zero_add, List.nil_append]
      rw [TL.numL_lt (by omega)]
      congr 1
      omega
    | cons d r =>
      have hd0 := ha d List.mem_cons_self
      have hne : d ≠ 48 := by
        rcases hh with hh | hh
        · simp at hh
        · simpa using hh
      have hpos : 1 ≤ NumText.digitsVal (d :: r) := by
        rw [digitsVal_cons]
        have : 1 * 1 ≤ (d - 48) * 10 ^ r.length := Nat.mul_le_mul (by omega) (Nat.one_le_pow _ _ (by decide))
        omega
      rw [TL.numL_step (by omega)]
      have h1 := ih (l := d :: r) (by simpa using hl) ha (by simp) (.inr (by simpa using hne))
      rw [show (NumText.digitsVal (d :: r) * 10 + (c - 48)) / 10 = NumText.digitsVal (d :: r) by omega, h1, show (NumText.digitsVal (d :: r) * 10 + (c - 48)) % 10 = c - 48 by omega, show 48 + (c - 48) = c by omega]
/-- what the reading looks at -/
theorem readI_pos {l : List Nat} (hd : NumText.AllDigits l) (hn : l ≠ []) (hh : l = [48] ∨ l.head? ≠ some 48) : readI l = some (NumText.digitsVal l : Int) := by
  have e : valI l = (NumText.digitsVal l : Int) := by
    cases l with
    | nil => exact absurd rfl hn
    | cons c r =>
      have := hd c List.mem_cons_self
      simp only [valI, if_neg (show ¬ c = 45 by omega)]
  unfold readI
  rw [e]
  have : decL (NumText.digitsVal l : Int) = l := by
    unfold decL
    rw [if_neg (by omega), Int.natAbs_natCast]
    exact numL_inv _ rfl hd hn hh
  rw [if_pos this]
theorem readI_neg {r : List Nat} (hd : NumText.AllDigits r) (hn : r ≠ []) (hh : r.head? ≠ some 48) : readI (45 :: r) = some (-(NumText.digitsVal r : Int)) := by
  have e : valI (45 :: r) = -(NumText.digitsVal r : Int) := by simp [valI]
  have hpos : 1 ≤ NumText.digitsVal r := by
    cases r with
    | nil => exact absurd rfl hn
    | cons d r =>
      have hd0 := hd d List.mem_cons_self
      have hne : d ≠ 48 := by simpa using hh
      rw [digitsVal_cons]
      have : 1 * 1 ≤ (d - 48) * 10 ^ r.length := Nat.mul_le_mul (by omega) (Nat.one_le_pow _ _ (by decide))
      omega
  unfold readI
  rw [e]
  have : decL (-(NumText.digitsVal r : Int)) = 45 :: r := by
    unfold decL
    rw [if_pos (by omega), Int.natAbs_neg, Int.natAbs_natCast]
    rw [numL_inv _ rfl hd hn (.inr hh)]
  rw [if_pos this]
theorem decL_cases (i : Int) : (∃ r, decL i = 45 :: r ∧ NumText.AllDigits r ∧ r ≠ [] ∧ r.head? ≠ some 48) ∨ (NumText.AllDigits (decL i) ∧ decL i ≠ [] ∧ (decL i = [48] ∨ (decL i).head? ≠ some 48)) := by
  unfold decL
  split
  · exact .inl ⟨_, rfl, TL.numL_digits _, TL.numL_ne _, numL_head0 (by omega)⟩
  · refine .inr ⟨TL.numL_digits _, TL.numL_ne _, ?_⟩
    by_cases h : i.natAbs = 0
    · rw [h]; exact .inl (TL.numL_lt (by decide))
    · exact .inr (numL_head0 (by omega))
theorem readI_noneNeg {r : List Nat} (h : ¬ (NumText.AllDigits r ∧ r ≠ [] ∧ r.head? ≠ some 48)) : readI (45 :: r) = none := readI_no fun i e => by
  rcases decL_cases i with ⟨r', e1, h1⟩ | ⟨h1, _⟩
  · rw [← e] at e1; cases e1; exact h h1
  · rw [← e] at h1
    have := h1 45 List.mem_cons_self
    omega
theorem readI_nonePos {l : List Nat} (h0 : l.head? ≠ some 45) (h : ¬ (NumText.AllDigits l ∧ l ≠ [] ∧ (l = [48] ∨ l.head? ≠ some 48))) : readI l = none := readI_no fun i e => by
  rcases decL_cases i with ⟨r', e1, h1⟩ | h1
  · rw [← e] at e1; subst e1; simp at h0
  · rw [← e] at h1; exact h h1
end TX

/-! DW17: texts by their codes on the data side; calls without arguments. -/
namespace DW
open PySem PySem.Spec PyProof.Rows L2
section
variable {X : Cx} {k : Nat} {f : Addr} {fd : FuncData} {ps : List Str} {x : Str} {p pos : Pos}
theorem pe_callS0 {sp : Sp} {E : L2.St → XK} (F : FnOk X.prog X.w X.K X.mg X.base (L2.CX X.prog X.w) k f fd ps sp) (hr : Room k X.A) (hg : Gl X x) (hm : X.mg x = some (.ref f)) (hk : PySem.W.keepIn X.K (.ref f) = true) (hb : Binds X.K fd ps []) (hx : ∀ σ, PassesAt (L2.CX X.prog X.w) X σ (E σ))
    (hdb : (x == ("__debug__" : Str)) = false := by decide) : PE X (.Call (.Name x p) [] [] pos) (tCallS sp E tNil) := by
  refine ⟨fun pins s σ H Q I h => ?_⟩
  refine wpAny_Call_Name_kw (ld_glob I hg hm ?_ hdb)
  exact PySem.W.callWith_K0 I.kIn hk (run_fnS (us := []) F hr hb (hx σ) I .nil h)
theorem de_call0 {W : WX} {dsp : DSp} (F : FnOk X.prog X.w X.K X.mg X.base (L2.CX X.prog X.w) k f fd ps (liftSp X.K dsp)) (hr : Room k X.A) (hg : Gl X x) (hm : X.mg x = some (.ref f)) (hk : PySem.W.keepIn X.K (.ref f) = true) (hb : Binds X.K fd ps []) (tk : Takes X W)
    (hdb : (x == ("__debug__" : Str)) = false := by decide) : PE X (.Call (.Name x p) [] [] pos) (liftE X.K W (dCall dsp dNil)) :=
  PEimp (pe_callS0 F hr hg hm hk hb (fun σ => passAt tk σ) hdb) fun σ H Q q => by
  obtain ⟨Ed, Pr, Fr, f, env, st, Q0, A, d, k⟩ := q
  refine ⟨Pr, Fr, f, st, [], _, _, A.toSimC, rfl, d, fun z st2 hz w Fr2 f2 H2 s2 p2 C2 rz => k _ _ hz w Fr2 f2 H2 s2 p2 (A.toSim.up s2 p2 C2) rz, fun C st2 hC Fr2 f2 H2 s2 p2 C2 => ?_⟩
  exact A.exn C env st2 Fr2 f2 σ H2 s2 p2 (A.toSim.up s2 p2 C2) hC
end
/-- the text of these codes -/
def tx (l : List Nat) : D := .str ⟨l.toArray⟩
theorem tx_str (x : Str) : D.str x = tx x.cps.toList := by unfold tx; exact congrArg D.str (SX.S_tl x).symm
theorem tx_lit (s : String) (l : List Nat) (h : (Str.ofString s).cps.toList = l) : D.str (Str.ofString s) = tx l := by rw [tx_str, h]
theorem tx_inj {a b : List Nat} (h : tx a = tx b) : a = b := by
  unfold tx at h
  injection h with h
  exact SX.S_inj h
@[simp] theorem frz_tx (l : List Nat) : frz (tx l) = tx l := rfl
@[simp ↓] theorem boxK_tx {st : Sto} {l : List Nat} {k : D → Sto → Prop} : boxK st (tx l) k = k (tx l) st := rfl
@[simp] theorem cl_tx (m : Nat) (l : List Nat) : cl m (tx l) = true := rfl
@[simp] theorem isDat_tx (l : List Nat) : isDat (tx l) = true := rfl
@[simp] theorem flatD_tx (l : List Nat) : flatD (tx l) = true := rfl
@[simp] theorem seqOf_tx (st : Sto) (l : List Nat) : seqOf st (tx l) = none := rfl
@[simp] theorem dicOf_tx (st : Sto) (l : List Nat) : dicOf st (tx l) = none := rfl
@[simp] theorem lisOf_tx (st : Sto) (l : List Nat) : lisOf st (tx l) = none := rfl
@[simp] theorem typN_tx (st : Sto) (l : List Nat) : typN st (tx l) = some "str" := rfl
@[simp] theorem tyOk_tx (st : Sto) (l : List Nat) : tyOk st "str" (tx l) = True := by unfold tx; simp
@[simp] theorem itemsOf_tx (st : Sto) (l : List Nat) : itemsOf st (tx l) = some (l.map fun c => tx [c]) := rfl
@[simp] theorem stays_tx (st st' : Sto) (l : List Nat) : stays st (tx l) st' = True := rfl
section
variable {st : Sto} {a b : List Nat} {k : D → Prop} {i : Int} {x : D}
theorem len_tx (a : List Nat) : (⟨a.toArray⟩ : Str).length = a.length := SX.S_len a
@[simp ↓] theorem opAdd_tx : opAdd st (tx a) (tx b) k = (a.length + b.length ≤ sizeLine ∧ k (tx (a ++ b))) := by
  unfold tx
  rw [opAdd_ss, len_tx, len_tx, show (⟨a.toArray⟩ : Str) ++ ⟨b.toArray⟩ = ⟨(a ++ b).toArray⟩ from SX.S_cat a b]
@[simp ↓] theorem iop_add_tx : DW.iop_add st (tx a) (tx b) k = (a.length + b.length ≤ sizeLine ∧ k (tx (a ++ b))) := by
  unfold tx
  show ((⟨a.toArray⟩ : Str).length + (⟨b.toArray⟩ : Str).length ≤ sizeLine ∧ k (.str (⟨a.toArray⟩ ++ ⟨b.toArray⟩))) = _
  rw [len_tx, len_tx, show (⟨a.toArray⟩ : Str) ++ ⟨b.toArray⟩ = ⟨(a ++ b).toArray⟩ from SX.S_cat a b]
@[simp ↓] theorem opEqW_tx {neg : Bool} : opEqW neg st (tx a) (tx b) k = k (.bl (neg ^^ decide (a = b))) := by
  unfold tx
  rw [opEqW_ss, show ((⟨a.toArray⟩ : Str) == ⟨b.toArray⟩) = decide (a = b) from SX.S_beq_eq]
@[simp ↓] theorem opCmp_tx {p : Int → Int → Bool} {q : List Nat → List Nat → Bool} : opCmp p q st (tx a) (tx b) k = k (.bl (q a b)) := rfl
@[simp ↓] theorem opInW_tx {neg : Bool} {c : Nat} : opInW neg st (tx [c]) (tx b) k = k (.bl (neg ^^ decide (c ∈ b))) := by
  unfold tx opInW
  refine propext ⟨fun ⟨c', e, h⟩ => ?_, fun h => ⟨c, rfl, h⟩⟩
  have : c = c' := by
    have := congrArg (fun z : Str => z.cps.toList) e
    simpa using this
  subst this
  exact h
theorem opIx_tx {c : Nat} (hl : a.length ≤ sizeLine) (e : atI a i = some c) : opIx st (tx a) (.int i) k = k (tx [c]) := by
  show ((⟨a.toArray⟩ : Str).length ≤ sizeLine ∧ (match atI a i with
      | some c => k (.str ⟨#[c]⟩)
      | none => False)) = _
  rw [len_tx, e]
  simp only [hl, true_and]
  rfl
@[simp ↓] theorem opSl_tx {lo hi : Option Int} : opSl st (tx a) lo hi k = (a.length ≤ sizeLine ∧ k (tx (cutD a lo hi))) := by
  unfold tx
  rw [opSl_s, len_tx]
  have : cutS (⟨a.toArray⟩ : Str) lo hi = ⟨(cutD a lo hi).toArray⟩ := by
    unfold cutS cutD
    rw [len_tx]
  rw [this]
@[simp ↓] theorem opLen_tx : opLen st [tx a] k = (a.length ≤ sizeLine ∧ k (.int a.length)) := by
  unfold tx
  rw [opLen_s, len_tx]
@[simp ↓] theorem opTru_tx {kk : Bool → Prop} : opTru st (tx a) kk = (a.length ≤ sizeLine ∧ kk ((a.length : Int) != 0)) := by
  unfold tx
  rw [opTru_s, len_tx]
@[simp ↓] theorem opOrd_tx {c : Nat} : opOrd st [tx [c]] k = k (.int c) := by
  show ((⟨[c].toArray⟩ : Str).length = 1 ∧ _) = _
  rw [len_tx]
  simp
@[simp ↓ high] theorem opStrI_tx {n : Nat} : opStrI st [.int n] k = (n.log2 < 1920 ∧ k (tx (TL.numL n))) := by
  rw [opStrI_e, Int.natAbs_natCast]
  unfold tx
  rw [show (((toString (n : Int) : String)) : Str) = ⟨(TL.numL n).toArray⟩ from SX.num_S n]
theorem opInt_tx {n : Int} (h : PySem.intText? (⟨a.toArray⟩ : Str) = some n) : opInt st [tx a] k = (a.length ≤ 640 ∧ k (.int n)) := by
  unfold tx opInt
  simp only [h]
  rw [len_tx]
theorem opInt_dig (h : NumText.AllDigits a) (h1 : a ≠ []) (h2 : a.length ≤ 640) : opInt st [tx a] k = k (.int (NumText.digitsVal a : Nat)) := by
  rw [opInt_tx (intText_digits (x := ⟨a.toArray⟩) h h1 (by rw [len_tx]; omega))]
  simp only [h2, true_and]
@[simp ↓] theorem opJoin_tx {kk : D → Sto → Prop} {ys : List (List Nat)} (h : seqOf st x = some (ys.map tx)) : opJoin st (tx a) [x] kk = ((ys.map List.length).sum + ys.length * a.length ≤ 16777216 ∧ kk (tx (TL.joinL a ys)) st) := by
  unfold tx at h ⊢
  unfold opJoin
  have e : ys.map (fun l => D.str ⟨l.toArray⟩) = (ys.map SX.S).map D.str := by rw [List.map_map]; rfl
  simp only [h, Option.bind_some]
  rw [e, strs_map]
  simp only
  rw [SX.lens, List.length_map, len_tx, show (List.map (fun x : List Nat => x.length) ys) = List.map List.length ys from rfl]
  rw [show Txt.join (⟨a.toArray⟩ : Str) (ys.map SX.S) = ⟨(TL.joinL a ys).toArray⟩ from SX.join_S a ys]
@[simp ↓] theorem opZfill_tx {kk : D → Sto → Prop} (h : ∀ c, a.head? = some c → c ≠ 43 ∧ c ≠ 45) : opS gZfill st (tx a) [.int i] kk = (PadOk i = true ∧ kk (tx (List.replicate (i.toNat - a.length) 48 ++ a)) st) := by
  unfold tx
  show (PadOk i = true ∧ kk (.str (Txt.zfill ⟨a.toArray⟩ i)) st) = _
  have : Txt.zfill (⟨a.toArray⟩ : Str) i = ⟨(List.replicate (i.toNat - a.length) 48 ++ a).toArray⟩ := by
    unfold Txt.zfill
    rw [len_tx]
    split
    · rw [show i.toNat - a.length = 0 by omega]
      rfl
    · have hz : zfilled (⟨a.toArray⟩ : Str) (i.toNat - a.length) = Builtin.Str.padded ⟨a.toArray⟩ (i.toNat - a.length) 0 48 := by
        unfold zfilled
        cases a with
        | nil => rfl
        | cons c r =>
          have := h c rfl
          show (match (some c : Option Nat) with | some 43 | some 45 => _ | _ => _) = _
          split
          · rename_i e; cases e; exact absurd rfl this.1
          · rename_i e; cases e; exact absurd rfl this.2
          · rfl
      rw [hz]
      unfold Builtin.Str.padded
      simp
  rw [this]
end
/-! find of one sign -/
theorem occ_stay (s sub : Str) (hi : Nat) : ∀ (l : List Nat) (st : Array Nat × Nat), st.1.size = 1 → (forIn l st (StrLaws.occBody s sub hi 1)).run.1 = st.1
  | [], st, h => rfl
  | a :: l, st, h => by
    rw [List.forIn_cons]
    unfold StrLaws.occBody
    rw [if_neg (by rw [h]; omega)]
    exact occ_stay s sub hi l _ h
theorem occ_one (a : List Nat) (c : Nat) : ∀ (m lo free : Nat), free ≤ lo → lo + m = a.length + 1 →
    (forIn (List.range' lo m) ((#[] : Array Nat), free) (StrLaws.occBody (⟨a.toArray⟩ : Str) ⟨#[c]⟩ a.length 1)).run.1.toList = if c ∈ a.drop lo then [lo + ((a.drop lo).takeWhile (· != c)).length] else []
  | 0, lo, free, _, h => by
    rw [List.drop_of_length_le (by omega)]
    simp
  | m + 1, lo, free, hf, h => by
    rw [List.range'_succ, List.forIn_cons]
    have hs := StrLaws.subAt_one (⟨a.toArray⟩ : Str) c lo
    rw [len_tx] at hs
    have hs : (lo + (⟨#[c]⟩ : Str).length ≤ a.length ∧ Builtin.Str.subAt ⟨a.toArray⟩ ⟨#[c]⟩ lo = true) ↔ a[lo]? = some c := hs
    unfold StrLaws.occBody
    by_cases e : a[lo]? = some c
    · have h2 := hs.mpr e
      rw [if_pos ⟨⟨⟨by simp, hf⟩, h2.1⟩, h2.2⟩]
      have hlt := (List.getElem?_eq_some_iff.mp e)
      obtain ⟨hl, ec⟩ := hlt
      have ed : a.drop lo = c :: a.drop (lo + 1) := by rw [List.drop_eq_getElem_cons hl, ec]
      rw [ed]
      have := occ_stay (⟨a.toArray⟩ : Str) ⟨#[c]⟩ a.length (List.range' (lo + 1) m) (#[lo], lo + (⟨#[c]⟩ : Str).length) rfl
      show (forIn (List.range' (lo + 1) m) ((#[] : Array Nat).push lo, lo + (⟨#[c]⟩ : Str).length) (StrLaws.occBody (⟨a.toArray⟩ : Str) ⟨#[c]⟩ a.length 1)).run.1.toList = _
      rw [show (#[] : Array Nat).push lo = #[lo] from rfl, this]
      simp
    · rw [if_neg (fun z => e (hs.mp ⟨z.1.2, z.2⟩))]
      have ih := occ_one a c m (lo + 1) free (by omega) (by omega)
      show (forIn (List.range' (lo + 1) m) ((#[] : Array Nat), free) (StrLaws.occBody (⟨a.toArray⟩ : Str) ⟨#[c]⟩ a.length 1)).run.1.toList = _
      rw [ih]
      by_cases hl : lo < a.length
      · have ed := List.drop_eq_getElem_cons hl
        have hne : a[lo] ≠ c := fun z => e (by rw [List.getElem?_eq_getElem hl, z])
        rw [ed]
        have hne2 : ¬ c = a[lo] := fun z => hne z.symm
        simp only [List.mem_cons, hne2, false_or, List.takeWhile_cons, bne_iff_ne, ne_eq, hne, not_false_iff, if_true, List.length_cons]
        split
        · rw [show lo + 1 + (List.takeWhile (· != c) (List.drop (lo + 1) a)).length = lo + ((List.takeWhile (· != c) (List.drop (lo + 1) a)).length + 1) by omega]
        · rfl
      · rw [List.drop_of_length_le (by omega), List.drop_of_length_le (by omega)]
        simp
@[simp ↓] theorem opFind_tx {st : Sto} {a : List Nat} {c i : Nat} {kk : D → Sto → Prop} (hi : i ≤ a.length) : opS gFind3 st (tx a) [tx [c], .int i] kk = kk (.int (if c ∈ a.drop i then ((i + ((a.drop i).takeWhile (· != c)).length : Nat) : Int) else -1)) st := by
  show kk (.int (Txt.find3 ⟨a.toArray⟩ ⟨#[c]⟩ i)) st = _
  have : Txt.find3 (⟨a.toArray⟩ : Str) ⟨#[c]⟩ i = if c ∈ a.drop i then ((i + ((a.drop i).takeWhile (· != c)).length : Nat) : Int) else -1 := by
    unfold Txt.find3
    rw [len_tx, show fromIndex a.length (i : Int) = i by unfold fromIndex; rw [if_neg (by omega)]; omega]
    rw [StrLaws.occ_eq, occ_one a c (a.length + 1 - i) i i (Nat.le_refl _) (by omega)]
    split
    · rename_i e
      split at e
      · rename_i h
        cases e
        rw [if_pos h]
      · cases e
    · rename_i e
      split at e
      · cases e
      · rename_i h
        rw [if_neg h]
  rw [this]
/-! slices -/
theorem cutD_from {α : Type} (l : List α) (i : Nat) : cutD l (some (i : Int)) none = l.drop i := by
  unfold cutD
  rw [HT.sIx_nat, HT.sIx_none]
  by_cases h : i ≤ l.length
  · rw [Nat.min_eq_left h, List.take_of_length_le (by simp)]
  · rw [Nat.min_eq_right (by omega), List.drop_of_length_le (Nat.le_refl _), List.drop_of_length_le (by omega)]
    simp
theorem cutD_to {α : Type} (l : List α) (i : Nat) : cutD l none (some (i : Int)) = l.take i := by
  unfold cutD
  rw [HT.sIx_nat, HT.sIx_none, List.drop_zero, Nat.sub_zero]
  by_cases h : i ≤ l.length
  · rw [Nat.min_eq_left h]
  · rw [Nat.min_eq_right (by omega), List.take_of_length_le (Nat.le_refl _), List.take_of_length_le (by omega)]
theorem cutD_mid {α : Type} (l : List α) (i j : Nat) : cutD l (some (i : Int)) (some (j : Int)) = (l.drop i).take (j - i) := by
  unfold cutD
  rw [HT.sIx_nat, HT.sIx_nat]
  by_cases h : i ≤ l.length
  · rw [Nat.min_eq_left h]
    by_cases h2 : j ≤ l.length
    · rw [Nat.min_eq_left h2]
    · rw [Nat.min_eq_right (show l.length ≤ j by omega), List.take_of_length_le (by simp), List.take_of_length_le (by simp; omega)]
  · rw [Nat.min_eq_right (show l.length ≤ i by omega), List.drop_of_length_le (Nat.le_refl _), List.drop_of_length_le (show l.length ≤ i by omega)]
    simp
theorem cutD_all {α : Type} (l : List α) : cutD l none none = l := by
  unfold cutD
  rw [HT.sIx_none, HT.sIx_none, List.drop_zero, Nat.sub_zero, List.take_of_length_le (Nat.le_refl _)]
/-! many times -/
@[simp ↓] theorem opMul2_tx {st : Sto} {a : List Nat} {n : Int} {k : D → Prop} : opMul2 st (tx a) (.int n) k = (1 ≤ n ∧ n < 1000000 ∧ a.length * n.toNat ≤ 1000000 ∧ a.length ≠ 0 ∧ k (tx (List.replicate n.toNat a).flatten)) := by
  unfold tx
  rw [opMul2_si, len_tx]
  have : repS (⟨a.toArray⟩ : Str) n.toNat = ⟨(List.replicate n.toNat a).flatten.toArray⟩ := TL.ext_tl (by
    show (repS _ _).cps.toList = _
    rw [repS_cps])
  rw [this]
theorem one_lt (a b : Nat) : decide ([a] < [b]) = decide (a < b) := by
  have : ([a] < [b]) ↔ a < b := by
    rw [List.cons_lt_cons_iff]
    simp
  simp only [this]
@[simp ↓] theorem dRng3_e {da : DA} {Ed : EdT} {env : Slots} {st : Sto} {R : List D → (Sto → Prop) → Sto → Prop} : dRng3 da Ed env st R = da Ed env st fun xs st1 => match xs with
  | [.int i, .int j, .int c] => ∃ n, RgC i j c n ∧ R (stepD i c n) (fun _ => True) st1
  | _ => False := rfl
@[simp ↓] theorem iRng2_e {ds : DA} {Ed : EdT} {env : Slots} {st : Sto} {R : List D → (Sto → Prop) → Sto → Prop} : iRng2 ds Ed env st R = ds Ed env st fun xs st1 => match xs with
  | [.int i, .int j] => -(2 ^ 62) ≤ i ∧ i < 2 ^ 62 ∧ -(2 ^ 62) ≤ j ∧ j < 2 ^ 62 ∧ R (rangeD i (j - i).toNat) (fun _ => True) st1
  | _ => False := rfl
theorem rgc_pos {a b c : Nat} (hc : 0 < c) (hc2 : c < 1000000) (ha : a < 2 ^ 40) (hb : b < 2 ^ 40) : RgC a b c (if a < b then (b - a - 1) / c + 1 else 0) := by
  have e : Builtin.Range.rangeSize a b c = ((if a < b then (b - a - 1) / c + 1 else 0 : Nat) : Int) := by
    unfold Builtin.Range.rangeSize
    rw [if_pos (show (c : Int) > 0 by omega)]
    by_cases h : a < b
    · rw [if_pos h, if_pos (by omega)]
      rw [show (b : Int) - a - 1 = ((b - a - 1 : Nat) : Int) by omega]
      rfl
    · rw [if_neg h, if_neg (by omega)]
      rfl
  refine ⟨by omega, by omega, ?_, e⟩
  have hn : (if a < b then (b - a - 1) / c + 1 else 0) < 2 ^ 41 := by
    split
    · have : (b - a - 1) / c ≤ b - a - 1 := Nat.div_le_self _ _
      omega
    · decide
  unfold Builtin.Range.small
  rw [e]
  generalize (if a < b then (b - a - 1) / c + 1 else 0) = n at hn
  simp only [Builtin.Range.rangeFitsLong, Bool.and_eq_true, Bool.or_eq_true, decide_eq_true_eq, beq_iff_eq, show (c : Int) > 0 by omega, if_true]
  omega
theorem range_mid {n a : Nat} {done rest : List Nat} (h : List.range n = done ++ a :: rest) : a = done.length ∧ done.length < n := by
  have h1 := congrArg List.length h
  simp at h1
  have hl : done.length < n := by omega
  have h2 : (List.range n)[done.length]? = some a := by rw [h]; simp
  rw [List.getElem?_range hl] at h2
  cases h2
  exact ⟨rfl, hl⟩
/-! while, by a bound -/
theorem while_by {t : DT} {b : DS} {Ed : EdT} {De : DEnds} {env : Slots} {st : Sto} (I : Nat → Slots → Sto → Prop) (n : Nat) (h0 : I n env st)
    (hs : ∀ n env st, I n env st → ∀ nx : Slots → Sto → Prop, (∀ m e s, m + 1 = n → I m e s → nx e s) → t Ed env st fun c st1 => if c = true then b Ed { nx := nx, ct := nx, bk := De.nx, rt := De.rt } env st1 else De.nx env st1) : sWhile t b Ed De env st := by
  have key : ∀ n env st, I n env st → whileN t b Ed De (n + 1) env st := by
    intro n
    induction n with
    | zero =>
      intro env st h
      exact hs 0 env st h (whileN t b Ed De 0) fun m e s hm => by omega
    | succ n ih =>
      intro env st h
      refine hs (n + 1) env st h (whileN t b Ed De (n + 1)) fun m e s hm hi => ?_
      have e1 : m = n := by omega
      subst e1
      exact ih e s hi
  exact ⟨n + 1, key n env st h0⟩
theorem joinL_nil : ∀ ys : List (List Nat), TL.joinL [] ys = ys.flatten
  | [] => rfl
  | [p] => by simp [TL.joinL]
  | p :: q :: r => by
    show p ++ ([] ++ TL.joinL [] (q :: r)) = _
    rw [joinL_nil (q :: r)]
    simp
@[simp ↓] theorem dRev_e {da : DE} {Ed : EdT} {env : Slots} {st : Sto} {Q : D → Sto → Prop} : dRev da Ed env st Q = da Ed env st fun x st1 => match x with
  | .sl ds => Q (.tl ds.reverse) st1
  | x => match lisOf st1 (frz x) with
    | some ds => Q (.tl ds.reverse) st1
    | none => False := rfl
theorem log_small {n k : Nat} (h : n < 2 ^ k) (hk : k ≤ 1919) : n.log2 < 1920 := by
  by_cases h0 : n = 0
  · subst h0; decide
  · have := (Nat.log2_lt h0).mpr h
    omega
end DW
namespace TX
open PySem
theorem digitsVal_zeros (l : List Nat) : ∀ z : Nat, NumText.digitsVal (List.replicate z 48 ++ l) = NumText.digitsVal l
  | 0 => by simp
  | z + 1 => by
    rw [List.replicate_succ, List.cons_append, digitsVal_cons, digitsVal_zeros l z]
    simp
theorem numL_big {n k : Nat} (hk : 0 < k) (h : 10 ^ k ≤ n) : TL.numL n = TL.numL (n / 10 ^ k) ++ (List.replicate (k - (TL.numL (n % 10 ^ k)).length) 48 ++ TL.numL (n % 10 ^ k)) := by
  have hP : 0 < 10 ^ k := Nat.pow_pos (by decide)
  have hl : (TL.numL (n % 10 ^ k)).length ≤ k := TL.numL_len hk (Nat.mod_lt _ hP)
  have hq : 0 < n / 10 ^ k := Nat.div_pos h hP
  have hv : NumText.digitsVal (TL.numL (n / 10 ^ k) ++ (List.replicate (k - (TL.numL (n % 10 ^ k)).length) 48 ++ TL.numL (n % 10 ^ k))) = n := by
    rw [digitsVal_app, digitsVal_zeros, TL.numL_val, TL.numL_val, List.length_append, List.length_replicate, show k - (TL.numL (n % 10 ^ k)).length + (TL.numL (n % 10 ^ k)).length = k by omega, Nat.mul_comm]
    exact Nat.div_add_mod n (10 ^ k)
  have hd : NumText.AllDigits (TL.numL (n / 10 ^ k) ++ (List.replicate (k - (TL.numL (n % 10 ^ k)).length) 48 ++ TL.numL (n % 10 ^ k))) := by
    intro c hc
    rcases List.mem_append.mp hc with hc | hc
    · exact TL.numL_digits _ c hc
    rcases List.mem_append.mp hc with hc | hc
    · rw [(List.mem_replicate.mp hc).2]; decide
    · exact TL.numL_digits _ c hc
  have := numL_inv _ rfl hd (by simp [TL.numL_ne]) (.inr (by
    have := numL_head0 hq
    cases e : TL.numL (n / 10 ^ k) with
    | nil => exact absurd e (TL.numL_ne _)
    | cons c r => rw [e] at this; simpa using this))
  rw [hv] at this
  exact this
end TX

/-! DW18: == of pure data. -/
namespace DW
open PySem PySem.Spec PyProof.Rows L2
mutual
/-- ints, texts, tuples, at most k deep -/
def ps : Nat → D → Prop
  | _, .int _ => True
  | _, .str x => PyData.strOk x = true
  | k + 1, .tup ds => pss k ds
  | _, _ => False
def pss : Nat → List D → Prop
  | _, [] => True
  | k, d :: r => ps k d ∧ pss k r
end
mutual
theorem ps_dat {k : Nat} : ∀ {d : D}, ps k d → isDat d = true
  | .int _, _ => rfl
  | .str _, _ => rfl
  | .tup ds, h => by
    cases k with
    | zero => exact h.elim
    | succ k => unfold ps at h; exact pss_dat h
  | .non, h => by cases k <;> exact h.elim
  | .bl _, h => by cases k <;> exact h.elim
  | .ref _, h => by cases k <;> exact h.elim
  | .fl _, h => by cases k <;> exact h.elim
  | .sl _, h => by cases k <;> exact h.elim
  | .tl _, h => by cases k <;> exact h.elim
  | .fd _ _, h => by cases k <;> exact h.elim
  | .td _ _, h => by cases k <;> exact h.elim
  | .con _, h => by cases k <;> exact h.elim
  | .ty _, h => by cases k <;> exact h.elim
theorem pss_dat {k : Nat} : ∀ {ds : List D}, pss k ds → areDat ds = true
  | [], _ => rfl
  | d :: r, h => by
    unfold pss at h
    simp only [areDat, Bool.and_eq_true]
    exact ⟨ps_dat h.1, pss_dat h.2⟩
end
mutual
theorem ps_lay {k : Nat} : ∀ {d : D}, ps k d → (toPy d).canLay0 = true ∧ (toPy d).depth ≤ k
  | .int _, _ => ⟨rfl, Nat.zero_le _⟩
  | .str _, h => by unfold ps at h; exact ⟨h, Nat.zero_le _⟩
  | .tup ds, h => by
    cases k with
    | zero => exact h.elim
    | succ k =>
      unfold ps at h
      have := pss_lay h
      unfold toPy
      refine ⟨by unfold PyData.canLay0; exact this.1, ?_⟩
      unfold PyData.depth
      omega
  | .non, h => by cases k <;> exact h.elim
  | .bl _, h => by cases k <;> exact h.elim
  | .ref _, h => by cases k <;> exact h.elim
  | .fl _, h => by cases k <;> exact h.elim
  | .sl _, h => by cases k <;> exact h.elim
  | .tl _, h => by cases k <;> exact h.elim
  | .fd _ _, h => by cases k <;> exact h.elim
  | .td _ _, h => by cases k <;> exact h.elim
  | .con _, h => by cases k <;> exact h.elim
  | .ty _, h => by cases k <;> exact h.elim
theorem pss_lay {k : Nat} : ∀ {ds : List D}, pss k ds → PyData.canLayAll0 (toPys ds) = true ∧ PyData.depthAll (toPys ds) ≤ k
  | [], _ => ⟨rfl, Nat.zero_le _⟩
  | d :: r, h => by
    unfold pss at h
    have h1 := ps_lay h.1
    have h2 := pss_lay h.2
    unfold toPys
    refine ⟨by unfold PyData.canLayAll0; rw [h1.1, h2.1]; rfl, ?_⟩
    unfold PyData.depthAll
    omega
end
theorem ps_shaped {k : Nat} {d : D} (h : ps k d) (hk : k ≤ 64) : SeqAt.shaped (toPy d) = true := by
  have := ps_lay h
  unfold SeqAt.shaped
  rw [this.1, decide_eq_true (show (toPy d).depth ≤ 64 by omega)]
  rfl
mutual
theorem ps_eqv {k m : Nat} : ∀ {x y : D}, ps k x → ps m y → (PyData.eqv (toPy x) (toPy y) = true ↔ x = y)
  | .int i, .int j, _, _ => by simp [toPy, PyData.eqv]
  | .str a, .str b, _, _ => by simp [toPy, PyData.eqv]
  | .int i, .str b, _, _ => by simp [toPy, PyData.eqv]
  | .str a, .int j, _, _ => by simp [toPy, PyData.eqv]
  | .tup xs, .int j, _, _ => by simp [toPy, PyData.eqv]
  | .tup xs, .str j, _, _ => by simp [toPy, PyData.eqv]
  | .int i, .tup ys, _, _ => by simp [toPy, PyData.eqv]
  | .str i, .tup ys, _, _ => by simp [toPy, PyData.eqv]
  | .tup xs, .tup ys, h, h' => by
    cases k with
    | zero => exact h.elim
    | succ k =>
      cases m with
      | zero => exact h'.elim
      | succ m =>
        unfold ps at h h'
        have := pss_eqv h h'
        simp only [toPy, PyData.eqv, D.tup.injEq]
        exact this
  | .non, _, h, _ => by cases k <;> exact h.elim
  | .bl _, _, h, _ => by cases k <;> exact h.elim
  | .ref _, _, h, _ => by cases k <;> exact h.elim
  | .fl _, _, h, _ => by cases k <;> exact h.elim
  | .sl _, _, h, _ => by cases k <;> exact h.elim
  | .tl _, _, h, _ => by cases k <;> exact h.elim
  | .fd _ _, _, h, _ => by cases k <;> exact h.elim
  | .td _ _, _, h, _ => by cases k <;> exact h.elim
  | .con _, _, h, _ => by cases k <;> exact h.elim
  | .ty _, _, h, _ => by cases k <;> exact h.elim
  | _, .non, _, h => by cases m <;> exact h.elim
  | _, .bl _, _, h => by cases m <;> exact h.elim
  | _, .ref _, _, h => by cases m <;> exact h.elim
  | _, .fl _, _, h => by cases m <;> exact h.elim
  | _, .sl _, _, h => by cases m <;> exact h.elim
  | _, .tl _, _, h => by cases m <;> exact h.elim
  | _, .fd _ _, _, h => by cases m <;> exact h.elim
  | _, .td _ _, _, h => by cases m <;> exact h.elim
  | _, .con _, _, h => by cases m <;> exact h.elim
  | _, .ty _, _, h => by cases m <;> exact h.elim
theorem pss_eqv {k m : Nat} : ∀ {xs ys : List D}, pss k xs → pss m ys → (PyData.eqvAll (toPys xs) (toPys ys) = true ↔ xs = ys)
  | [], [], _, _ => by simp [toPys, PyData.eqvAll]
  | [], _ :: _, _, _ => by simp [toPys, PyData.eqvAll]
  | _ :: _, [], _, _ => by simp [toPys, PyData.eqvAll]
  | x :: xs, y :: ys, h, h' => by
    unfold pss at h h'
    have h1 := ps_eqv h.1 h'.1
    have h2 := pss_eqv h.2 h'.2
    simp only [toPys, PyData.eqvAll, Bool.and_eq_true, List.cons.injEq]
    rw [h1, h2]
end
theorem opEqW_ps {neg : Bool} {st : Sto} {x y : D} {k : D → Prop} {n m : Nat} (hx : ps n x) (hy : ps m y) (hn : n ≤ 64) (hm : m ≤ 64) {b : Bool} (hb : b = true ↔ x = y) : opEqW neg st x y k = k (.bl (neg ^^ b)) := by
  have e := ps_eqv hx hy
  have hbe : PyData.eqv (toPy x) (toPy y) = b := by
    rw [Bool.eq_iff_iff, e, hb]
  have gen : (isDat x = true ∧ isDat y = true ∧ SeqAt.shaped (toPy x) = true ∧ SeqAt.shaped (toPy y) = true ∧ k (.bl (neg ^^ PyData.eqv (toPy x) (toPy y)))) = k (.bl (neg ^^ b)) := by
    rw [hbe]
    simp only [ps_dat hx, ps_dat hy, ps_shaped hx hn, ps_shaped hy hm, true_and]
  cases x with
  | int i =>
    cases y with
    | int j => rw [opEqW_ii]; rw [show (i == j) = b from hbe]
    | _ => exact gen
  | str i =>
    cases y with
    | str j => rw [opEqW_ss]; rw [show (i == j) = b from hbe]
    | _ => exact gen
  | _ => cases y <;> exact gen
theorem ps_mono {k : Nat} : ∀ {d : D}, ps k d → frz d = d := by
  intro d h
  cases d <;> first | rfl | (cases k <;> exact h.elim)
@[simp ↓] theorem opEqW_bb {neg : Bool} {st : Sto} {a b : Bool} {k : D → Prop} : opEqW neg st (.bl a) (.bl b) k = k (.bl (neg ^^ (a == b))) := by
  show (isDat (.bl a) = true ∧ isDat (.bl b) = true ∧ SeqAt.shaped (toPy (.bl a)) = true ∧ SeqAt.shaped (toPy (.bl b)) = true ∧ k (.bl (neg ^^ PyData.eqv (toPy (.bl a)) (toPy (.bl b))))) = _
  have h : ∀ c, SeqAt.shaped (toPy (.bl c)) = true := by decide
  simp only [h, isDat, true_and]
  rfl
theorem kit_own {K : PySem.W.Frag} {S S2 : Addr} (h1 : PySem.W.isClsIn K S2 = true) (h2 : PySem.W.typeIn K (.ref S2) = some (.type "type")) (h3 : PySem.W.subIn K (.ref S) (.ref S2) = some true) : PySem.W.kitOne K (.ref S) (.ref S2) = some true := by
  unfold PySem.W.kitOne PySem.W.kitCls
  split
  · rfl
  · have h1' : (PySem.W.clsIn K S2).isSome = true := h1
    simp [h1', h2, h3]
end DW

/-! DW19: set(texts), sorted of it, its length. -/
namespace DW
open PySem PySem.Spec PyProof.Rows L2
/-- the text of a member -/
def kTx (v : Value) : Str := match v with | .str x _ => x | _ => Str.empty
def mem1 (w : World) (m : Int × Value) : Prop := ∃ x tk, m.2 = Value.str x tk ∧ m.1 = hashStr w x
theorem mem1_is {P : Program} {w : World} {m : Int × Value} (g : mem1 w m) (x : Str) : (strKind P w).is x m.2 = true ↔ kTx m.2 = x := by
  obtain ⟨y, tk, e, _⟩ := g
  rw [e]
  show Value.isStrOf x (.str y tk) = true ↔ y = x
  unfold Value.isStrOf
  simp
theorem mems_elems {P : Program} {w : World} {l : List (Int × Value)} (g : ∀ m ∈ l, mem1 w m) : ElemsOf (strKind P w) l := by
  intro m hm
  obtain ⟨x, tk, e1, e2⟩ := g m hm
  refine ⟨⟨x, ?_, e2⟩, ?_⟩
  · rw [e1]; exact strKind_is P w x tk
  · rw [e1]; rfl
theorem mems_mem {P : Program} {w : World} {l : List (Int × Value)} (g : ∀ m ∈ l, mem1 w m) (x : Str) : x ∈ l.map (fun m => kTx m.2) ↔ ∃ m ∈ l, (strKind P w).is x m.2 = true := by
  constructor
  · intro h
    obtain ⟨m, hm, e⟩ := List.mem_map.mp h
    exact ⟨m, hm, (mem1_is (g m hm) x).mpr e⟩
  · rintro ⟨m, hm, e⟩
    exact List.mem_map.mpr ⟨m, hm, (mem1_is (g m hm) x).mp e⟩
/-- the object at a is a set of just the texts xs -/
structure TSetD (w : World) (h : Heap) (a : Addr) (o : Obj) (es : Array (Int × Value)) (ep : Nat) (t : SetTable) (xs : List Str) : Prop where
  ob : h.get? a = some o
  ex : o.ExactSet
  dt : o.data = .set es ep t
  gd : ∀ m ∈ es.toList, mem1 w m
  pm : (es.toList.map fun m => kTx m.2).Perm xs
  nd : xs.Nodup
  bd : es.size < scanBound
  ft : t.fits es.size = true
  rs : Ris t.place.toList
  ld : w.params.followText "set-order" = true ∨ t.led = true
def TSet (w : World) (h : Heap) (a : Addr) (xs : List Str) : Prop := ∃ o es ep t, TSetD w h a o es ep t xs
section
variable {P : Program} {w : World} {A : Around} {E : Value → Shared → Prop} {s : Shared} {a : Addr} {xs : List Str}
theorem TSet.to {h h' : Heap} (T : TSet w h a xs) (k : ∀ o, h.get? a = some o → h'.get? a = some o) : TSet w h' a xs := by
  obtain ⟨o, es, ep, t, D⟩ := T
  exact ⟨o, es, ep, t, { D with ob := k o D.ob }⟩
/-- behind the laying of a new member: the table may be laid anew -/
theorem tset_store {say : Bool → Sem Unit} (hs : ∀ (b : Bool) (s₁ : Shared) (Q' : Unit → Shared → Prop), Q' () s₁ → wpAny (model P w) A (say b) Q' E s₁)
    {o : Obj} {es : Array (Int × Value)} {ep : Nat} {t : SetTable} (ho : s.heap.get? a = some o) (hx : o.ExactSet) (hd : o.data = .set es ep t) {fs : Array (Int × Value)} {u : SetTable} {ys : List Str}
    (gd : ∀ m ∈ fs.toList, mem1 w m) (pm : (fs.toList.map fun m => kTx m.2).Perm ys) (nd : ys.Nodup) (bd : fs.size < scanBound) (ft : u.fits fs.size = true) (rs : Ris u.place.toList) (ld : w.params.followText "set-order" = true ∨ u.led = true) {dum : Bool} {R : Option Bool → Shared → Prop}
    (hR : ∀ h', Heap.SameBut a s.heap h' → TSet w h' a ys → R (some true) { s with heap := h' }) :
    wpAny (model P w) A (do storeSet a fs u; if (!dum && u.tooFull) = true then do { say (relayAll u fs (SetTable.grown fs.size)).2.2; storeSet a (relayAll u fs (SetTable.grown fs.size)).1 (relayAll u fs (SetTable.grown fs.size)).2.1; pure (some true) } else pure (some true)) R E s := by
  have big := fits_of_scanBound bd
  refine wpAny_bind (wpAny_storeSet_of ho hd ?_ big)
  have o1 := store_at (es' := fs) (t' := u) ho hd
  have same1 := Heap.SameBut.update s.heap a (Obj.putSet fs u)
  by_cases full : (!dum && u.tooFull) = true
  · rw [if_pos full]
    obtain ⟨Z, hZ⟩ : ∃ Z, Z = relayAll u fs (SetTable.grown fs.size) := ⟨_, rfl⟩
    have q1 : Z.1.toList.Perm fs.toList := by rw [hZ]; exact relayAll_perm u fs _
    have q2 : Z.2.1.fits Z.1.size = true := by rw [hZ]; exact relayAll_fits u fs _
    have q3 : Ris Z.2.1.place.toList := by rw [hZ]; exact relayAll_ris u fs _
    have q4 : Z.2.1.led = u.led := by rw [hZ]; exact relayAll_led u fs _
    rw [← hZ]
    clear hZ
    have sz : Z.1.size = fs.size := by rw [← Array.length_toList, ← Array.length_toList]; exact q1.length_eq
    have bd2 : Z.1.size < scanBound := by omega
    refine wpAny_bind (hs _ _ _ (wpAny_bind (wpAny_storeSet_of o1 rfl ?_ (fits_of_scanBound bd2))))
    have o2 := store_at (es' := Z.1) (t' := Z.2.1) o1 rfl
    refine wpAny_pure (hR _ (same1.trans (Heap.SameBut.update _ a _)) ⟨_, Z.1, _, Z.2.1, o2, hx, rfl, fun m hm => gd m (q1.mem_iff.mp hm), (q1.map _).trans pm, nd, bd2, q2, q3, ?_⟩)
    rcases ld with z | z
    · exact .inl z
    · exact .inr (q4.trans z)
  · rw [if_neg full]
    exact wpAny_pure (hR _ same1 ⟨_, fs, _, u, o1, hx, rfl, gd, pm, nd, bd, ft, rs, ld⟩)
theorem perm_snoc {α : Type} (l : List α) (x : α) : (l ++ [x]).Perm (x :: l) := List.perm_append_singleton x l
/-- one more text -/
theorem tset_add {x : Str} {tk : Tok} {Q : Bool → Shared → Prop} (T : TSet w s.heap a xs) (room : xs.length + 1 < scanBound)
    (hQ : ∀ h', Heap.SameBut a s.heap h' → TSet w h' a (if x ∈ xs then xs else xs ++ [x]) → Q (!decide (x ∈ xs)) { s with heap := h' }) : wpAny (model P w) A (setAddHashed a (.str x tk) ((strKind P w).hash x)) Q E s := by
  obtain ⟨o, es, ep, t, D⟩ := T
  have isx : (strKind P w).is x (.str x tk) = true := strKind_is P w x tk
  have scn : (Value.str x tk).scannable = true := rfl
  have els : ElemsOf (strKind P w) es.toList := mems_elems D.gd
  have sz : es.size = xs.length := by rw [← Array.length_toList, ← D.pm.length_eq, List.length_map]
  have inx : x ∈ xs ↔ ∃ m ∈ es.toList, (strKind P w).is x m.2 = true := by rw [← D.pm.mem_iff]; exact mems_mem D.gd x
  unfold setAddHashed setAddHashedIn
  refine wpAny_holding (wpAny_bind (wpAny_setState_of D.ob D.dt D.ft ?_))
  dsimp only
  rw [byScan_of scn D.bd els, if_pos rfl]
  unfold setAddByScan
  refine wpAny_bind (wpAny_bind (wpAny_rule (wpAny_bind (wpAny_setScan_of isx D.ob D.dt D.ft els ?_))))
  cases hf : List.findIdx? (fun m => (strKind P w).is x m.2) es.toList with
  | some j =>
    obtain ⟨jl, jp, _⟩ := List.findIdx?_eq_some_iff_getElem.mp hf
    have hin : x ∈ xs := inx.mpr ⟨_, List.getElem_mem jl, jp⟩
    have q := hQ s.heap (Heap.SameBut.refl a s.heap) (by rw [if_pos hin]; exact ⟨o, es, ep, t, D⟩)
    rw [decide_eq_true hin] at q
    dsimp only
    exact wpAny_pure (wpAny_pure q)
  | none =>
    have hout : x ∉ xs := fun z => by
      obtain ⟨m, hm, e⟩ := inx.mp z
      have c := List.findIdx?_eq_none_iff.mp hf m hm
      rw [e] at c
      cases c
    have q : ∀ h', Heap.SameBut a s.heap h' → TSet w h' a (xs ++ [x]) → Q true { s with heap := h' } := fun h' sb T' => by
      have q := hQ h' sb (by rw [if_neg hout]; exact T')
      rw [decide_eq_false hout] at q
      exact q
    have say1 : ∀ (b : Bool) {s₁ : Shared} {Q' : Unit → Shared → Prop}, Q' () s₁ → wpAny (model P w) A (match b with | true => rule "set.scan.the-table-gave-way" | false => pure ()) Q' E s₁ := by
      intro b s₁ Q' q
      cases b with
      | true => exact wpAny_rule q
      | false => exact wpAny_pure q
    dsimp only
    have l1 := layNew_perm t es ((strKind P w).hash x) (.str x tk)
    have l2 := layNew_fits t es ((strKind P w).hash x) (.str x tk)
    have l3 := layNew_ris t es ((strKind P w).hash x) (.str x tk) D.rs
    have l4 := layNew_led t es ((strKind P w).hash x) (.str x tk)
    generalize layNew t es ((strKind P w).hash x) (.str x tk) = Z at l1 l2 l3 l4 ⊢
    obtain ⟨fs, u, dum, gave⟩ := Z
    dsimp only at l1 l2 l3 l4 ⊢
    rw [Array.toList_push] at l1
    have gd' : ∀ m ∈ fs.toList, mem1 w m := fun m hm => by
      rcases List.mem_append.mp (l1.mem_iff.mp hm) with z | z
      · exact D.gd m z
      · rw [List.mem_singleton.mp z]; exact ⟨x, tk, rfl, rfl⟩
    have pm' : (fs.toList.map fun m => kTx m.2).Perm (xs ++ [x]) := by
      refine (l1.map _).trans ?_
      rw [List.map_append]
      exact D.pm.append_right _
    have nd' : (xs ++ [x]).Nodup := (perm_snoc xs x).nodup_iff.mpr (List.nodup_cons.mpr ⟨hout, D.nd⟩)
    have sz' : fs.size = xs.length + 1 := by rw [← Array.length_toList, l1.length_eq, List.length_append, Array.length_toList, sz]; rfl
    have bd' : fs.size < scanBound := by omega
    have ld' : w.params.followText "set-order" = true ∨ u.led = true := by
      rcases D.ld with z | z
      · exact .inl z
      · exact .inr (l4.trans z)
    refine wpAny_bind (say1 _ ?_)
    have fin : ∀ {u' : SetTable}, u'.fits fs.size = true → Ris u'.place.toList → (w.params.followText "set-order" = true ∨ u'.led = true) → wpAny (model P w) A (do storeSet a fs u'; if (!dum && u'.tooFull) = true then do { (match (relayAll u' fs (SetTable.grown fs.size)).2.2 with | true => rule "set.scan.the-table-gave-way" | false => pure ()); storeSet a (relayAll u' fs (SetTable.grown fs.size)).1 (relayAll u' fs (SetTable.grown fs.size)).2.1; pure (some true) } else pure (some true)) (fun r s' => ∀ b, r = some b → Q b s') E s := by
      intro u' f1 f2 f3
      refine tset_store (say := fun b => match b with | true => rule "set.scan.the-table-gave-way" | false => pure ()) (fun b s₁ Q' q => say1 b q) D.ob D.ex D.dt gd' pm' nd' bd' f1 f2 f3 fun h' sb T' b e => ?_
      cases e
      exact q h' sb T'
    split
    · refine wpAny_bind ?_
      rw [hashByValue_scannable 8 scn]
      refine wpAny_pure ?_
      refine tset_store (fun b s₁ Q' q => ?_) D.ob D.ex D.dt gd' pm' nd' bd' ?_ ?_ ?_ fun h' sb T' => ?_
      · cases b <;> first | exact wpAny_pure q | exact wpAny_rule q
      · split <;> first | exact l2 | exact SetTable.fits_plain_off l2
      · split <;> exact l3
      · split <;> exact ld'
      · dsimp only
        exact wpAny_pure (q h' sb T')
    · refine wpAny_bind (wpAny_pure ?_)
      simp only [↓reduceIte]
      refine tset_store (fun b s₁ Q' q => ?_) D.ob D.ex D.dt gd' pm' nd' bd' l2 l3 ld' fun h' sb T' => ?_
      · cases b <;> first | exact wpAny_pure q | exact wpAny_rule q
      · dsimp only
        exact wpAny_pure (q h' sb T')

/-- the walk that adds all texts -/
def dedup (zs : List Str) : List Str := zs.foldl (fun acc x => if x ∈ acc then acc else acc ++ [x]) []
theorem dedup_snoc (zs : List Str) (x : Str) : dedup (zs ++ [x]) = if x ∈ dedup zs then dedup zs else dedup zs ++ [x] := by
  unfold dedup
  rw [List.foldl_append]
  rfl
theorem snoc_ind {α : Type} {p : List α → Prop} (h0 : p []) (h1 : ∀ l x, p l → p (l ++ [x])) : ∀ l, p l := by
  intro l
  have : ∀ (m : List α), p m.reverse := by
    intro m
    induction m with
    | nil => exact h0
    | cons x m ih => rw [List.reverse_cons]; exact h1 _ _ ih
  have := this l.reverse
  rwa [List.reverse_reverse] at this
theorem dedup_len (zs : List Str) : (dedup zs).length ≤ zs.length := by
  refine snoc_ind (p := fun zs => (dedup zs).length ≤ zs.length) (Nat.le_refl _) (fun l x ih => ?_) zs
  rw [dedup_snoc, List.length_append]
  split <;> simp <;> omega
theorem dedup_mem (zs : List Str) (x : Str) : x ∈ dedup zs ↔ x ∈ zs := by
  refine snoc_ind (p := fun zs => x ∈ dedup zs ↔ x ∈ zs) (Iff.rfl) (fun l y ih => ?_) zs
  rw [dedup_snoc, List.mem_append, List.mem_singleton]
  split
  · rename_i hy
    rw [ih]
    constructor
    · exact .inl
    · rintro (h | h)
      · exact h
      · subst h; exact ih.mp hy
  · rw [List.mem_append, List.mem_singleton, ih]
theorem dedup_nodup (zs : List Str) : (dedup zs).Nodup := by
  refine snoc_ind (p := fun zs => (dedup zs).Nodup) List.nodup_nil (fun l y ih => ?_) zs
  rw [dedup_snoc]
  split
  · exact ih
  · rename_i hy
    exact (perm_snoc _ _).nodup_iff.mpr (List.nodup_cons.mpr ⟨hy, ih⟩)
theorem texts_at : ∀ {us : List Value} {zs : List Str}, StrsAre us zs → ∀ {i : Nat} {v : Value}, us[i]? = some v → ∃ x t, zs[i]? = some x ∧ v = .str x t
  | _, _, .nil, i, v, h => by simp at h
  | _, _, .cons x t r, 0, v, h => by
    simp at h
    exact ⟨x, t, rfl, h.symm⟩
  | _, _, .cons x t r, i + 1, v, h => by
    obtain ⟨y, u, e1, e2⟩ := texts_at r (i := i) (by simpa using h)
    exact ⟨y, u, by simpa using e1, e2⟩
theorem set_update_texts {I : Addr} {fp wr : List Addr} {G : Array GenState → Array GenState → Prop} {n : Nat} {Pv : Nat → Value → Prop} {St : Nat → Shared → Prop} {R : Result → Shared → Prop} (W : WalksS P w A.in1 I fp wr G n Pv St) (S : Addr) (hS : S ∉ fp) (zs : List Str) (hn : n = zs.length) (few : zs.length + 1 < scanBound)
    (val : ∀ i v, Pv i v → ∃ x t, zs[i]? = some x ∧ v = .str x t) : ∀ (k i : Nat) (s : Shared), n - i = k → i ≤ n → St i s → TSet w s.heap S (dedup (zs.take i)) →
      (∀ s', Moved (S :: wr) G s s' → TSet w s'.heap S (dedup zs) → R (.ok (.ret .none)) s') → codeAny (model P w) A (.builtin "set.update.loop" ⟨[.ref S, .ref I], []⟩) R s
  | 0, i, s, hk, hi, st, T, hR => by
    have hin : i = n := by omega
    subst hin
    refine codeAny_builtin F.entry_set_update_loop ?_
    rw [Around.under_plainId F.plain_set_update_loop _]
    show wpAny _ A.in1 (pyNext (.ref I) >>= _) _ _ s
    refine wpAny_bind (W.done s _ _ st fun s' mv => ?_)
    show wpAny _ A.in1 (ret Value.none) _ _ s'
    rw [List.take_of_length_le (show zs.length ≤ i by omega)] at T
    exact wpAny_pure (hR s' (mv.mono fun b hb => List.mem_cons_of_mem _ hb) (T.to fun o e => mv.heap S o (fun z => hS (W.sub _ z)) e))
  | k + 1, i, s, hk, hi, st, T, hR => by
    have lt : i < n := by omega
    refine codeAny_builtin F.entry_set_update_loop ?_
    rw [Around.under_plainId F.plain_set_update_loop _]
    show wpAny _ A.in1 (pyNext (.ref I) >>= _) _ _ s
    refine wpAny_bind (W.item i s _ _ lt st fun v s' hP st' mv => ?_)
    obtain ⟨x, t, hx, rfl⟩ := val i v hP
    have T' : TSet w s'.heap S (dedup (zs.take i)) := T.to fun o e => mv.heap S o (fun z => hS (W.sub _ z)) e
    show wpAny _ A.in1 (holding [Value.str x t] (setAdd S (.str x t)) >>= _) _ _ s'
    refine wpAny_bind (wpAny_holding ?_)
    unfold setAdd
    refine wpAny_holding (wpAny_bind ((strKind P w).pyHash (k := x) (strKind_is _ _ _ _) ?_))
    have room : (dedup (zs.take i)).length + 1 < scanBound := by
      have := dedup_len (zs.take i)
      rw [List.length_take] at this
      omega
    refine tset_add (s := { s' with toks := s'.toks + 1 }) T' room fun h' sb T2 => ?_
    have T3 : TSet w h' S (dedup (zs.take (i + 1))) := by
      rw [List.take_add_one, hx]
      show TSet w h' S (dedup (zs.take i ++ [x]))
      rw [dedup_snoc]
      exact T2
    refine wpAny_pure ⟨plainId_quiet F.plain_set_update_loop _, set_update_texts W S hS zs hn few val k (i + 1) _ (by omega) lt (W.frame _ s' _ _ st' (Nat.le_succ _) fun b hb o e => ?_) T3 fun s'' mv2 T4 => ?_⟩
    · exact (sb.2 b fun z => hS (z ▸ hb)).trans e
    · refine hR s'' (Moved.trans W.gtrans ((mv.mono fun b hb => List.mem_cons_of_mem _ hb).then_heap (Nat.le_succ _) fun b o hb e => ?_) mv2) T4
      exact (sb.2 b fun z => hb (z ▸ List.mem_cons_self)).trans e
/-- a new empty set -/
abbrev nS (w : World) : Obj := { cls := .type "set", dict := none, data := .set #[] 0 (.fresh 0 0 (!w.params.followText "set-order")) }
theorem fresh_at (h : Heap) (w : World) : (h.push (nS w)).get? h.objs.size = some (nS w) := Heap.get?_push_size _ rfl
theorem tset_new {h : Heap} {a : Addr} (ho : h.get? a = some (nS w)) : TSet w h a (dedup []) := by
  refine ⟨_, #[], 0, _, ho, ⟨rfl, rfl, rfl⟩, rfl, (fun m hm => by simp at hm), .nil, List.nodup_nil, by decide, rfl, List.Pairwise.nil, ?_⟩
  show _ ∨ (!w.params.followText "set-order") = true
  cases w.params.followText "set-order" with
  | true => exact .inl rfl
  | false => exact .inr rfl

set_option maxHeartbeats 3200000 in
/-- set(xs), xs a list of texts -/
theorem call_set_list {l : Addr} {its : Array Value} (zs : List Str) {Q : Value → Shared → Prop} (hh : A.handled = none) (hl : s.heap.IsList l its) (hz : StrsAre its.toList zs) (few : zs.length + 1 < scanBound)
    (h : ∀ (h' : Heap) (tk : Nat), TSet w h' s.heap.objs.size (dedup zs) → (∀ b o, s.heap.get? b = some o → h'.get? b = some o) → Q (.ref s.heap.objs.size) { s with heap := h', toks := tk }) : wpAny (model P w) A (call (.type "set") [.ref l]) Q E s := by
  have cs := PySem.F.called_set
  obtain ⟨c, tl, hmro⟩ := cs.mro
  have hmade := cs.made
  have hsub := cs.sub
  refine wpAny_call (codeAny_of_tree ?_)
  show wpAny _ _ (callAny (.type "set") ⟨[.ref l], []⟩) _ _ _
  refine wpAny_pure ⟨Code.quiet_builtin _ (by decide +kernel), codeAny_builtin PySem.F.entry_type_call ?_⟩
  rw [Around.under_plain (weight_type_call_type "set" [.ref l] []) rfl]
  have k1 := cs.notType
  have k2 := cs.canCreate
  have k3 := PySem.F.typeCall_set_1 (.ref l)
  repeat (any_goals (first | assumption | wp_step))
  have hnew := fresh_at s.heap w
  refine codeAny_mono (code_set_led1 (P := P) (w := w) (.ref l) (E := E) (Q₁ := fun ob t => ob = .ref s.heap.objs.size ∧ t = { s with heap := s.heap.push (nS w) }) ⟨rfl, rfl⟩) fun r s₁ hr => ?_
  rcases r with e | fl
  · exact hr
  cases fl
  case ret ob =>
    obtain ⟨rfl, rfl⟩ := hr
    have ty : Shared.TypeIs { s with heap := s.heap.push (nS w) } (.ref s.heap.objs.size) "set" := ⟨_, hnew, rfl⟩
    have k4 := cs.init.lookup
    have k5 := cs.init.bind (.ref s.heap.objs.size)
    repeat (any_goals (first | assumption | wp_step))
    refine codeAny_mono (codeAny_call_builtin (R := wants (fun r t => r = .none ∧ ∃ h' tk, t = { s with heap := h', toks := tk } ∧ TSet w h' s.heap.objs.size (dedup zs) ∧ ∀ b o, s.heap.get? b = some o → h'.get? b = some o) E) cs.init.plain PySem.F.entry_set_init (check_set_init_1 ty ?_)) fun r₂ s₂ hr₂ => ?_
    · obtain ⟨⟨oc, od, oda, osl⟩, ho, hoc, nl, hod⟩ := hl
      simp only at hoc hod
      subst hoc
      subst hod
      have ho' := Heap.get?_push_of_some (nS w) ho
      have k6 := PySem.F.sub_list_set
      have k7 := PySem.F.sub_list_frozenset
      have k8 : (Value.type "list" == Value.type "dict") = false := by decide
      have hl1 : (s.heap.push (nS w)).IsList l its := ⟨_, ho', rfl, nl, rfl⟩
      unfold Builtin.«set.__init__» noKeywords Builtin.Frozenset.updateFrom
      generalize hPI : pyIter = PI
      wp_walk
      subst hPI
      refine wpAny_pyIter_list hl1 (wpAny_bind (wpAny_runValue ?_))
      have sz1 : (s.heap.push (nS w)).objs.size = s.heap.objs.size + 1 := Heap.size_push ..
      have l1 := Heap.lt_size ho
      have A3 : A.in1.in1.in1.handled = none := by simp [hh]
      have n1 : l ≠ (s.heap.push (nS w)).objs.size := by rw [Heap.size_push]; exact Nat.ne_of_lt (Nat.lt_succ_of_lt l1)
      have n2 : s.heap.objs.size ∉ [(s.heap.push (nS w)).objs.size, l] := by
        intro z
        rcases List.mem_cons.mp z with z | z
        · rw [Heap.size_push] at z
          exact absurd z (Nat.ne_of_lt (Nat.lt_succ_self _))
        · exact absurd (List.mem_singleton.mp z) (Nat.ne_of_gt l1)
      have len : its.size = zs.length := by rw [← StrsAre.len_eq hz, Array.length_toList]
      refine set_update_texts ((Walks.list A3 _ l n1 its).toS) s.heap.objs.size n2 zs len few (fun i v hv => texts_at hz (by rw [Array.getElem?_toList]; exact hv)) (its.size - 0) 0 _ (by omega) (Nat.zero_le _) ⟨⟨_, Heap.get?_push_size _ rfl, rfl, rfl⟩, (hl1.push _)⟩ ?_ fun s' hm T' => ?_
      · exact tset_new (Heap.get?_push_of_some _ hnew)
      · obtain ⟨h', g2, d', tk', os'⟩ := s'
        cases (show g2 = s.gens from hm.gens)
        cases (show d' = s.drawn from hm.drawn)
        cases (show os' = s.os from hm.os)
        show wpAny _ _ _ _ _ _
        refine wpAny_pure ?_
        show wpAny _ _ (ret Value.none) _ _ _
        refine wpAny_pure ⟨rfl, h', tk', rfl, T', fun b o e => ?_⟩
        have b0 := Heap.lt_size e
        refine hm.heap b o ?_ (Heap.get?_push_of_some _ (Heap.get?_push_of_some _ e))
        intro z
        rcases List.mem_cons.mp z with z | z
        · exact absurd z (Nat.ne_of_lt b0)
        · have z := List.mem_singleton.mp z
          rw [Heap.size_push] at z
          exact absurd z (Nat.ne_of_lt (Nat.lt_succ_of_lt b0))
    · rcases r₂ with e | fl₂
      · exact hr₂
      cases fl₂
      case ret r =>
        obtain ⟨rfl, h', tk, rfl, T', k'⟩ := hr₂
        repeat (any_goals (first | assumption | wp_step))
        exact h _ _ T' k'
      all_goals exact hr₂.elim
  all_goals exact hr.elim


set_option maxHeartbeats 3200000 in
/-- set(xs), xs a tuple of texts -/
theorem call_set_tuple {l : Addr} {its : Array Value} (zs : List Str) {Q : Value → Shared → Prop} (hh : A.handled = none) (hl : s.heap.IsTuple l its) (hz : StrsAre its.toList zs) (few : zs.length + 1 < scanBound)
    (h : ∀ (h' : Heap) (tk : Nat), TSet w h' s.heap.objs.size (dedup zs) → (∀ b o, s.heap.get? b = some o → h'.get? b = some o) → Q (.ref s.heap.objs.size) { s with heap := h', toks := tk }) : wpAny (model P w) A (call (.type "set") [.ref l]) Q E s := by
  have cs := PySem.F.called_set
  obtain ⟨c, tl, hmro⟩ := cs.mro
  have hmade := cs.made
  have hsub := cs.sub
  refine wpAny_call (codeAny_of_tree ?_)
  show wpAny _ _ (callAny (.type "set") ⟨[.ref l], []⟩) _ _ _
  refine wpAny_pure ⟨Code.quiet_builtin _ (by decide +kernel), codeAny_builtin PySem.F.entry_type_call ?_⟩
  rw [Around.under_plain (weight_type_call_type "set" [.ref l] []) rfl]
  have k1 := cs.notType
  have k2 := cs.canCreate
  have k3 := PySem.F.typeCall_set_1 (.ref l)
  repeat (any_goals (first | assumption | wp_step))
  have hnew := fresh_at s.heap w
  refine codeAny_mono (code_set_led1 (P := P) (w := w) (.ref l) (E := E) (Q₁ := fun ob t => ob = .ref s.heap.objs.size ∧ t = { s with heap := s.heap.push (nS w) }) ⟨rfl, rfl⟩) fun r s₁ hr => ?_
  rcases r with e | fl
  · exact hr
  cases fl
  case ret ob =>
    obtain ⟨rfl, rfl⟩ := hr
    have ty : Shared.TypeIs { s with heap := s.heap.push (nS w) } (.ref s.heap.objs.size) "set" := ⟨_, hnew, rfl⟩
    have k4 := cs.init.lookup
    have k5 := cs.init.bind (.ref s.heap.objs.size)
    repeat (any_goals (first | assumption | wp_step))
    refine codeAny_mono (codeAny_call_builtin (R := wants (fun r t => r = .none ∧ ∃ h' tk, t = { s with heap := h', toks := tk } ∧ TSet w h' s.heap.objs.size (dedup zs) ∧ ∀ b o, s.heap.get? b = some o → h'.get? b = some o) E) cs.init.plain PySem.F.entry_set_init (check_set_init_1 ty ?_)) fun r₂ s₂ hr₂ => ?_
    · obtain ⟨⟨oc, od, oda, osl⟩, ho, hoc, nl, hod⟩ := hl
      simp only at hoc hod
      subst hoc
      subst hod
      have ho' := Heap.get?_push_of_some (nS w) ho
      have k6 := PySem.F.sub_tuple_set
      have k7 := PySem.F.sub_tuple_frozenset
      have k8 : (Value.type "tuple" == Value.type "dict") = false := by decide
      have hl1 : (s.heap.push (nS w)).IsTuple l its := ⟨_, ho', rfl, nl, rfl⟩
      unfold Builtin.«set.__init__» noKeywords Builtin.Frozenset.updateFrom
      generalize hPI : pyIter = PI
      wp_walk
      subst hPI
      refine wpAny_pyIter_tuple hl1 (wpAny_bind (wpAny_runValue ?_))
      have sz1 : (s.heap.push (nS w)).objs.size = s.heap.objs.size + 1 := Heap.size_push ..
      have l1 := Heap.lt_size ho
      have A3 : A.in1.in1.in1.handled = none := by simp [hh]
      have n1 : l ≠ (s.heap.push (nS w)).objs.size := by rw [Heap.size_push]; exact Nat.ne_of_lt (Nat.lt_succ_of_lt l1)
      have n2 : s.heap.objs.size ∉ [(s.heap.push (nS w)).objs.size, l] := by
        intro z
        rcases List.mem_cons.mp z with z | z
        · rw [Heap.size_push] at z
          exact absurd z (Nat.ne_of_lt (Nat.lt_succ_self _))
        · exact absurd (List.mem_singleton.mp z) (Nat.ne_of_gt l1)
      have len : its.size = zs.length := by rw [← StrsAre.len_eq hz, Array.length_toList]
      refine set_update_texts ((Walks.tuple A3 _ l n1 its).toS) s.heap.objs.size n2 zs len few (fun i v hv => texts_at hz (by rw [Array.getElem?_toList]; exact hv)) (its.size - 0) 0 _ (by omega) (Nat.zero_le _) ⟨⟨_, Heap.get?_push_size _ rfl, rfl, rfl⟩, (hl1.push _)⟩ ?_ fun s' hm T' => ?_
      · exact tset_new (Heap.get?_push_of_some _ hnew)
      · obtain ⟨h', g2, d', tk', os'⟩ := s'
        cases (show g2 = s.gens from hm.gens)
        cases (show d' = s.drawn from hm.drawn)
        cases (show os' = s.os from hm.os)
        show wpAny _ _ _ _ _ _
        refine wpAny_pure ?_
        show wpAny _ _ (ret Value.none) _ _ _
        refine wpAny_pure ⟨rfl, h', tk', rfl, T', fun b o e => ?_⟩
        have b0 := Heap.lt_size e
        refine hm.heap b o ?_ (Heap.get?_push_of_some _ (Heap.get?_push_of_some _ e))
        intro z
        rcases List.mem_cons.mp z with z | z
        · exact absurd z (Nat.ne_of_lt b0)
        · have z := List.mem_singleton.mp z
          rw [Heap.size_push] at z
          exact absurd z (Nat.ne_of_lt (Nat.lt_succ_of_lt b0))
    · rcases r₂ with e | fl₂
      · exact hr₂
      cases fl₂
      case ret r =>
        obtain ⟨rfl, h', tk, rfl, T', k'⟩ := hr₂
        repeat (any_goals (first | assumption | wp_step))
        exact h _ _ T' k'
      all_goals exact hr₂.elim
  all_goals exact hr.elim

end
end DW

/-! DW20: sorted(set(texts)), len(set(texts)). -/
namespace DW
open PySem PySem.Spec PyProof.Rows L2
def TSetO (w : World) (a : Addr) (xs : List Str) : HO := .ext fun h => TSet w h a xs
theorem tset_ok {P : Program} {w : World} {H : Hp} {h : Heap} {a : Addr} {xs : List Str} (T : TSet w h a xs) : ObjOk P w H h a (TSetO w a xs) := by
  have ⟨o, _, _, _, D⟩ := T
  exact ⟨T, ⟨o, D.ob⟩, fun h1 h2 p k => p.to k⟩
theorem tset_get {X : Cx} {pins : List (Addr × Obj)} {σ : L2.St} {H : Hp} {s : Shared} {a : Addr} {xs : List Str} (I : Inv X pins σ H s) (ha : H a = some (TSetO X.w a xs)) : TSet X.w s.heap a xs := (I.hok a _ ha).1
/-- set(xs) of texts -/
def rSetT (K : PySem.W.Frag) (w : World) : List V → Hp → VK → Prop := fun vs H Q => ∃ (p : Addr) (zs : List Str), vs = [V.ref p] ∧ (SqL K H p (zs.map V.str) ∨ SqT K H p (zs.map V.str)) ∧ zs.length + 1 < scanBound ∧ ∀ q, H q = none → Q (.ref q) (upd H q (TSetO w q (dedup zs)))
section
variable {X : Cx}
theorem cr_setT (hc : X.calm = true) : CallR X (.type "set") (rSetT X.K X.w) := by
  intro pins s σ H vs us Q I r h
  obtain ⟨p, zs, rfl, hs, few, q⟩ := h
  rw [Vals.ref1 r]
  have fin : ∀ (h' : Heap) (tk : Nat), TSet X.w h' s.heap.objs.size (dedup zs) → (∀ b o, s.heap.get? b = some o → h'.get? b = some o) → EP X pins σ Q (.ref s.heap.objs.size) { s with heap := h', toks := tk } := fun h' tk T k =>
    ⟨.ref _, upd H s.heap.objs.size (TSetO X.w s.heap.objs.size (dedup zs)), I.laid (t' := tk) (fun b u e => k b u e) (Nat.le_refl _) (tset_ok T), rfl, q _ (I.hok.fresh (Nat.le_refl _))⟩
  rcases hs with hs | hs
  · obtain ⟨its, rv, hl, _⟩ := I.list hs
    exact call_set_list zs (I.ok.hd hc) hl.isList rv.strs few fin
  · obtain ⟨its, rv, hl, _⟩ := I.tuple hs
    exact call_set_tuple zs (I.ok.hd hc) hl rv.strs few fin
/-- sorted of a set of texts -/
def rSortedT2 (w : World) : List V → Hp → VK → Prop := fun vs H Q => ∃ (a : Addr) (xs : List Str), vs = [V.ref a] ∧ H a = some (TSetO w a xs) ∧ xs.length < 64 ∧ ∀ (ys : List Str) (p : Addr), ys.Perm xs → sortedS ys = true → H p = none → Q (.ref p) (upd H p (.lst (ys.map V.str)))
theorem strs_all {w : World} : ∀ (l : List Value), (∀ v ∈ l, ∃ x tk, v = Value.str x tk) → StrsAre l (l.map kTx)
  | [], _ => .nil
  | v :: l, h => by
    obtain ⟨x, tk, rfl⟩ := h v List.mem_cons_self
    exact .cons x tk (strs_all (w := w) l fun u hu => h u (List.mem_cons_of_mem _ hu))
theorem cr_sortedT2 (hc : X.calm = true) : CallR X (.builtin "sorted") (rSortedT2 X.w) := by
  intro pins s σ H vs us Q I r h
  obtain ⟨a, xs, rfl, ha, h64, q⟩ := h
  obtain ⟨o, es, ep, t, D⟩ := tset_get I ha
  rw [Vals.ref1 r]
  refine Calls.call_function_entry kind_sorted plain_sorted entry_sorted (args_sorted1 _) ?_
  unfold Builtin.«sorted»
  refine wpAny_bind (m := checkCount "sorted" 1 1 _) (wpAny_pure ?_)
  refine wpAny_bind (collect_set (A := X.A.in1) (I.ok.hd hc) ⟨o, D.ob, D.ex.1, D.dt⟩ D.ft D.bd D.rs D.ld fun s1 ws k1 hz g1 o1 pm => ?_)
  have hS : StrsAre ws (ws.map kTx) := strs_all (w := X.w) ws fun v hv => by
    obtain ⟨m, hm, e⟩ := List.mem_map.mp (pm.mem_iff.mp hv)
    obtain ⟨x, tk, e1, _⟩ := D.gd m hm
    exact ⟨x, tk, by rw [← e]; exact e1⟩
  have pk : (ws.map kTx).Perm xs := by
    have z := pm.map kTx
    rw [List.map_map] at z
    exact z.trans D.pm
  have hwl : ws.length < 64 := by have := pk.length_eq; rw [List.length_map] at this; omega
  refine wpAny_bind (wpAny_newList ?_ (by rw [sizeLine_eq]; omega))
  have hoL : (s1.heap.push (seqObj "list" ws.toArray 0)).get? s1.heap.objs.size = some (seqObj "list" ws.toArray 0) := Heap.get?_push_size _ rfl
  refine wpAny_bind (wpAny_holding (wpAny_call_entry slot_list_sort ⟨_, hoL, rfl⟩ entry_list_sort (list_sort_treeK strKind_oneLt hoL hS.keysOf (fun v₁ v₂ rest e => keyKind_strs (by rw [← e]; exact hS)) hwl fun st' hp hs => ?_) (args_list_sort _)))
  obtain ⟨ys, q1, q2, q3⟩ := sorted_out_str hS hp hs
  obtain ⟨cc, he'⟩ := sortedHeap_at (vs := ws) (out := (arrOf st').map (·.2)) hoL
  have ysl : ys.length = xs.length := (q2.trans pk).length_eq
  have hlen : (ys.map V.str).length ≤ sizeLine := by
    rw [List.length_map, ysl]
    exact Nat.le_trans (Nat.le_of_lt h64) (by decide)
  have hn : H s1.heap.objs.size = none := I.hok.fresh hz
  obtain ⟨h2, eh2⟩ : ∃ h2, h2 = sortedHeap (s1.heap.push (seqObj "list" ws.toArray 0)) s1.heap.objs.size ws ((arrOf st').map (·.2)) := ⟨_, rfl⟩
  have keep : ∀ b o, s.heap.get? b = some o → h2.get? b = some o := fun b u e => by
    have z := k1 b u e
    have lt := Heap.lt_size z
    rw [eh2, sortedHeap_old (Nat.ne_of_lt lt) (by rw [Heap.size_push]; exact Nat.lt_succ_of_lt lt)]
    exact Heap.get?_push_of_some _ z
  have J : Inv X pins σ (upd H s1.heap.objs.size (.lst (ys.map V.str))) { s with heap := h2, gens := s1.gens, drawn := s1.drawn, toks := s1.toks } :=
    I.call (ch := []) (Un.laid keep hz hn) (I.hok.laid keep hz ⟨hlen, ((arrOf st').map (·.2)).toList, cc, vals_of_strs q1, by rw [eh2, Array.toArray_toList]; exact he'⟩) (by rw [g1]; exact I.bare) (fun _ z => nomatch z)
  refine ⟨_, rfl, wpAny_pure ⟨_, rfl, .ref s1.heap.objs.size, _, ?_, rfl, q ys _ (q2.trans pk) q3 hn⟩⟩
  rw [eh2] at J
  cases s1
  cases s
  cases o1
  exact J
/-- its length -/
def rLenT (w : World) : List V → Hp → VK → Prop := fun vs H Q => ∃ (a : Addr) (xs : List Str), vs = [V.ref a] ∧ H a = some (TSetO w a xs) ∧ Q (.int xs.length) H
theorem cr_lenT : CallR X (.builtin "len") (rLenT X.w) := by
  intro pins s σ H vs us Q I r h
  obtain ⟨a, xs, rfl, ha, q⟩ := h
  obtain ⟨o, es, ep, t, D⟩ := tset_get I ha
  rw [Vals.ref1 r]
  have sz : es.size = xs.length := by
    have z := D.pm.length_eq
    rwa [List.length_map, Array.length_toList] at z
  have b1 : (es.size : Int) < 2 ^ 63 := by have := D.bd; have e : scanBound ≤ 2 ^ 62 := (by decide); omega
  refine call_len_set D.ob D.ex D.dt D.ft b1 ?_
  rw [sz]
  exact ⟨.int xs.length, H, I.tok _, ⟨_, rfl⟩, q⟩
/-! ### the data side -/
theorem scan64 {n : Nat} (h : n ≤ 1000) : n + 1 < scanBound := Nat.lt_of_le_of_lt (Nat.add_le_add_right h 1) (by decide)
def dSortSet (de : DE) : DE := fun Ed env st Q => de Ed env st fun x st1 => match (seqOf st1 (frz x)).bind strs? with
  | some zs => zs.length ≤ 1000 ∧ (dedup zs).length < 64 ∧ ∀ ys : List Str, ys.Perm (dedup zs) → sortedS ys = true → Q (.tl (ys.map D.str)) st1
  | none => False
def dLenSet (de : DE) : DE := fun Ed env st Q => de Ed env st fun x st1 => match (seqOf st1 (frz x)).bind strs? with
  | some zs => zs.length ≤ 1000 ∧ Q (.int (dedup zs).length) st1
  | none => False
theorem seq_strs {K : PySem.W.Frag} {Pr Fr : Hp} {f : List Addr} {st : Sto} {H : Hp} (S : SimC K Pr Fr f st H) {d : D} {v : V} {zs : List Str} (e : (seqOf st d).bind strs? = some zs) (r : Rep K Fr f d v) : ∃ a, v = .ref a ∧ (SqL K H a (zs.map V.str) ∨ SqT K H a (zs.map V.str)) := by
  cases h : seqOf st d with
  | none => rw [h] at e; cases e
  | some ds =>
    rw [h] at e
    obtain ⟨a, vs, rfl, h1, r⟩ := seqOf_rep S h r
    rw [strs_rep (show strs? ds = some zs from e) r] at h1
    exact ⟨a, rfl, h1⟩
variable {W : WX} {e : Expr} {de : DE} {p1 p2 p3 p4 : Pos}
theorem de_sortSet (hc : X.calm = true) (hg : Gl X "sorted") (hm : X.mg "sorted" = none) (hg2 : Gl X "set") (hm2 : X.mg "set" = none) (he : PE X e (liftE X.K W de))
    (h1 : starEach [.Call (.Name "set" p1) [e] [] p2] X.env = [(false, eval (.Call (.Name "set" p1) [e] [] p2) X.env)] := by rfl) (h2 : starEach [e] X.env = [(false, eval e X.env)] := by rfl) : PE X (.Call (.Name "sorted" p3) [.Call (.Name "set" p1) [e] [] p2] [] p4) (liftE X.K W (dSortSet de)) := by
  have P1 : PE X (.Call (.Name "set" p1) [e] [] p2) (tCB (rSetT X.K X.w) (tCons (liftE X.K W de) tNil)) := pe_callTy (cr_setT hc) hg2 hm2 (by decide +kernel) (pa_cons he pa_nil h2) (he := h2) (hpl := by rfl)
  refine PEimp (pe_callB (cr_sortedT2 hc) hg hm (by decide +kernel) (pa_cons P1 pa_nil h1) (he := h1) (hpl := by rfl)) fun σ H Q q => ?_
  obtain ⟨Ed, Pr, Fr, f, env, st, Q0, A, d, k⟩ := q
  refine lift1 (R := fun x st1 => match (seqOf st1 x).bind strs? with
    | some zs => zs.length ≤ 1000 ∧ (dedup zs).length < 64 ∧ ∀ ys : List Str, ys.Perm (dedup zs) → sortedS ys = true → Q0 (.tl (ys.map D.str)) st1
    | none => False) A d fun x st1 v Fr1 f1 H1 h1 s1 p1 S1 r1 => ?_
  split at h1
  · rename_i zs ez
    obtain ⟨a, rfl, hs⟩ := seq_strs S1.toSimC ez r1
    refine ⟨a, zs, rfl, hs, scan64 h1.1, fun q hq => ?_⟩
    have C2 := S1.toSimC.other (o := TSetO X.w q (dedup zs)) (S1.fr.free hq) (S1.pr.free hq) (S1.toSimC.notCell hq)
    refine ⟨q, dedup zs, rfl, upd_same, h1.2.1, fun ys p hp hs2 hp0 => ?_⟩
    obtain ⟨S', rx⟩ := lay_lst C2 hp0 (reps_strs ys)
    exact k _ _ (h1.2.2 ys hp hs2) _ _ f1 _ s1 p1 (S1.up (Same.refl _) (List.prefix_refl _) S') rx
  · exact h1.elim
theorem de_lenSet (hc : X.calm = true) (hg : Gl X "len") (hm : X.mg "len" = none) (hg2 : Gl X "set") (hm2 : X.mg "set" = none) (he : PE X e (liftE X.K W de))
    (h1 : starEach [.Call (.Name "set" p1) [e] [] p2] X.env = [(false, eval (.Call (.Name "set" p1) [e] [] p2) X.env)] := by rfl) (h2 : starEach [e] X.env = [(false, eval e X.env)] := by rfl) : PE X (.Call (.Name "len" p3) [.Call (.Name "set" p1) [e] [] p2] [] p4) (liftE X.K W (dLenSet de)) := by
  have P1 : PE X (.Call (.Name "set" p1) [e] [] p2) (tCB (rSetT X.K X.w) (tCons (liftE X.K W de) tNil)) := pe_callTy (cr_setT hc) hg2 hm2 (by decide +kernel) (pa_cons he pa_nil h2) (he := h2) (hpl := by rfl)
  refine PEimp (pe_callB cr_lenT hg hm (by decide +kernel) (pa_cons P1 pa_nil h1) (he := h1) (hpl := by rfl)) fun σ H Q q => ?_
  obtain ⟨Ed, Pr, Fr, f, env, st, Q0, A, d, k⟩ := q
  refine lift1 (R := fun x st1 => match (seqOf st1 x).bind strs? with
    | some zs => zs.length ≤ 1000 ∧ Q0 (.int (dedup zs).length) st1
    | none => False) A d fun x st1 v Fr1 f1 H1 h1 s1 p1 S1 r1 => ?_
  split at h1
  · rename_i zs ez
    obtain ⟨a, rfl, hs⟩ := seq_strs S1.toSimC ez r1
    refine ⟨a, zs, rfl, hs, scan64 h1.1, fun q hq => ?_⟩
    have C2 := S1.toSimC.other (o := TSetO X.w q (dedup zs)) (S1.fr.free hq) (S1.pr.free hq) (S1.toSimC.notCell hq)
    exact ⟨q, dedup zs, rfl, upd_same, k _ _ h1.2 _ _ f1 _ s1 p1 (S1.up (Same.refl _) (List.prefix_refl _) C2) rfl⟩
  · exact h1.elim
@[simp ↓] theorem dSortSet_e {Ed : EdT} {env : Slots} {st : Sto} {Q : D → Sto → Prop} : dSortSet de Ed env st Q = de Ed env st fun x st1 => match (seqOf st1 (frz x)).bind strs? with
  | some zs => zs.length ≤ 1000 ∧ (dedup zs).length < 64 ∧ ∀ ys : List Str, ys.Perm (dedup zs) → sortedS ys = true → Q (.tl (ys.map D.str)) st1
  | none => False := rfl
@[simp ↓] theorem dLenSet_e {Ed : EdT} {env : Slots} {st : Sto} {Q : D → Sto → Prop} : dLenSet de Ed env st Q = de Ed env st fun x st1 => match (seqOf st1 (frz x)).bind strs? with
  | some zs => zs.length ≤ 1000 ∧ Q (.int (dedup zs).length) st1
  | none => False := rfl
end
end DW

/-! DW21: lists compared, also lists in cells. -/
namespace DW
open PySem PySem.Spec PyProof.Rows L2
def opEqL (neg : Bool) : Sto → D → D → (D → Prop) → Prop := fun st x y k => match lisOf st x, lisOf st y with
  | some ds, some es => areDat ds = true ∧ areDat es = true ∧ SeqAt.shaped (.list (toPys ds)) = true ∧ SeqAt.shaped (.list (toPys es)) = true ∧ k (.bl (neg ^^ PyData.eqv (.list (toPys ds)) (.list (toPys es))))
  | _, _ => opEqW neg st x y k
theorem dp_lis {K : PySem.W.Frag} {Pr Fr : Hp} {f : List Addr} {st : Sto} {H : Hp} (S : SimC K Pr Fr f st H) {x : D} {v : V} {ds : List D} (h : lisOf st x = some ds) (h2 : areDat ds = true) (r : Rep K Fr f x v) : Dp K H v (.list (toPys ds)) := by
  obtain ⟨a, vs, rfl, h1, r1⟩ := listOf_rep S h r
  exact .lst (.of h1) (dps_of S.fr _ _ h2 r1)
theorem od_eqL {K : PySem.W.Frag} : OpD K (rEqAny K) (opEqL false) := by
  intro Pr Fr f st H x y v u k Q S r1 r2 o q
  unfold opEqL at o
  split at o
  · rename_i ds es e1 e2
    obtain ⟨o1, o2, o3, o4, o5⟩ := o
    exact .inr ⟨_, _, dp_lis S e1 o1 r1, dp_lis S e2 o2 r2, o3, o4, q _ _ Fr H o5 (Same.refl _) S (by simp [RepX, Rep])⟩
  · exact od_eq _ _ _ _ _ _ _ _ _ _ _ S r1 r2 o q
theorem od_neL {K : PySem.W.Frag} : OpD K (rNeAny K) (opEqL true) := by
  intro Pr Fr f st H x y v u k Q S r1 r2 o q
  unfold opEqL at o
  split at o
  · rename_i ds es e1 e2
    obtain ⟨o1, o2, o3, o4, o5⟩ := o
    exact .inr ⟨_, _, dp_lis S e1 o1 r1, dp_lis S e2 o2 r2, o3, o4, q _ _ Fr H o5 (Same.refl _) S (by simp [RepX, Rep])⟩
  · exact od_ne _ _ _ _ _ _ _ _ _ _ _ S r1 r2 o q
theorem lay_list : ∀ {ds : List D}, (∀ d ∈ ds, (toPy d).canLay0 = true ∧ (toPy d).depth ≤ 62) → PyData.canLayAll0 (toPys ds) = true ∧ PyData.depthAll (toPys ds) ≤ 63
  | [], _ => ⟨rfl, Nat.zero_le _⟩
  | d :: r, h => by
    have h1 := h d List.mem_cons_self
    have h2 := lay_list fun e he => h e (List.mem_cons_of_mem _ he)
    unfold toPys
    refine ⟨by unfold PyData.canLayAll0; rw [h1.1, h2.1]; rfl, ?_⟩
    unfold PyData.depthAll
    omega
theorem shaped_list {ds : List D} (h : ∀ d ∈ ds, (toPy d).canLay0 = true ∧ (toPy d).depth ≤ 62) : SeqAt.shaped (.list (toPys ds)) = true := by
  have := lay_list h
  unfold SeqAt.shaped
  have h1 : (PyData.list (toPys ds)).canLay0 = true := by unfold PyData.canLay0; exact this.1
  have h2 : (PyData.list (toPys ds)).depth ≤ 64 := by unfold PyData.depth; omega
  rw [h1, decide_eq_true h2]
  rfl
theorem areDat_iff {ds : List D} : areDat ds = true ↔ ∀ d ∈ ds, isDat d = true := by
  induction ds with
  | nil => simp [areDat]
  | cons d r ih => simp [areDat, ih]
theorem opEqL_nil {neg : Bool} {st : Sto} {x : D} {k : D → Prop} {ds : List D} (h : lisOf st x = some ds) (h2 : areDat ds = true) (h3 : SeqAt.shaped (.list (toPys ds)) = true) : opEqL neg st x (.fl []) k = k (.bl (neg ^^ ds.isEmpty)) := by
  unfold opEqL
  rw [h, show lisOf st (.fl []) = some [] from rfl]
  simp only [h2, h3]
  rw [show areDat [] = true from rfl, show SeqAt.shaped (.list (toPys [])) = true from by decide]
  simp only [true_and]
  cases ds with
  | nil => simp [toPys, PyData.eqv, PyData.eqvAll]
  | cons d r => simp [toPys, PyData.eqv, PyData.eqvAll]
end DW

/-! K65M: forms, plain. -/
namespace FormM
open PySem L2 DW

/-! ### tables -/
section
variable {κ α : Type} [DecidableEq κ]
theorem valP_cons (p : κ × α) (r : List (κ × α)) (k : κ) : valP (p :: r) k = if p.1 = k then some p.2 else valP r k := by
  unfold valP
  by_cases e : p.1 = k
  · simp [List.find?_cons, e]
  · simp [List.find?_cons, e]
theorem any_iff (kvs : List (κ × α)) (k : κ) : (kvs.any fun kv => decide (kv.1 = k)) = (valP kvs k).isSome := by
  induction kvs with
  | nil => rfl
  | cons p r ih =>
    rw [valP_cons, List.any_cons, ih]
    by_cases e : p.1 = k <;> simp [e]
theorem valP_map (kvs : List (κ × α)) (k j : κ) (y : α) : valP (kvs.map fun kv => if kv.1 = k then (kv.1, y) else kv) j = (valP kvs j).map fun x => if j = k then y else x := by
  induction kvs with
  | nil => rfl
  | cons p r ih =>
    rw [List.map_cons, valP_cons, valP_cons, ih]
    by_cases e2 : p.1 = j
    · subst e2
      by_cases e : p.1 = k
      · rw [if_pos e, if_pos rfl, if_pos rfl, Option.map_some, if_pos e]
      · rw [if_neg e, if_pos rfl, if_pos rfl, Option.map_some, if_neg e]
    · rw [if_neg e2]
      by_cases e : p.1 = k
      · rw [if_pos e, if_neg e2]
      · rw [if_neg e, if_neg e2]
theorem valP_append (a b : List (κ × α)) (j : κ) : valP (a ++ b) j = (valP a j).or (valP b j) := by
  induction a with
  | nil => simp [valP]
  | cons p r ih =>
    rw [List.cons_append, valP_cons, valP_cons, ih]
    by_cases e : p.1 = j <;> simp [e]
theorem valP_put (kvs : List (κ × α)) (k j : κ) (y : α) : valP (putP kvs k y) j = if j = k then some y else valP kvs j := by
  unfold putP
  rw [any_iff]
  split
  · rename_i h
    rw [valP_map]
    by_cases e : j = k
    · subst e
      obtain ⟨x, hx⟩ := Option.isSome_iff_exists.mp h
      simp [hx]
    · cases valP kvs j <;> simp [e]
  · rename_i h
    rw [valP_append]
    have hn : valP kvs k = none := by simpa using h
    by_cases e : j = k
    · subst e
      rw [hn]
      simp [valP]
    · have : valP [(k, y)] j = none := by
        rw [valP_cons]
        simp [Ne.symm e, valP]
      rw [this]
      simp [e]
theorem keys_put (kvs : List (κ × α)) (k : κ) (y : α) : (putP kvs k y).map (·.1) = if k ∈ kvs.map (·.1) then kvs.map (·.1) else kvs.map (·.1) ++ [k] := by
  unfold putP
  have h : (kvs.any fun kv => decide (kv.1 = k)) = decide (k ∈ kvs.map (·.1)) := by
    induction kvs with
    | nil => rfl
    | cons p r ih =>
      rw [List.any_cons, ih, List.map_cons]
      by_cases e : p.1 = k
      · have m : k ∈ p.1 :: r.map (·.1) := by rw [e]; exact List.mem_cons_self
        rw [decide_eq_true e, Bool.true_or]
        exact (decide_eq_true m).symm
      · rw [decide_eq_false e, Bool.false_or]
        by_cases m : k ∈ r.map (·.1)
        · rw [decide_eq_true m]
          exact (decide_eq_true (List.mem_cons_of_mem _ m)).symm
        · rw [decide_eq_false m]
          exact (decide_eq_false (fun z => (List.mem_cons.mp z).elim (fun q => e q.symm) m)).symm
  rw [h]
  by_cases e : k ∈ kvs.map (·.1)
  · rw [if_pos (decide_eq_true e), if_pos e, List.map_map]
    refine List.map_congr_left fun p _ => ?_
    show (if p.1 = k then (p.1, y) else p).1 = p.1
    split <;> rfl
  · rw [if_neg (by simpa using e), if_neg e, List.map_append]
    rfl
theorem nodup_put {kvs : List (κ × α)} (h : (kvs.map (·.1)).Nodup) (k : κ) (y : α) : ((putP kvs k y).map (·.1)).Nodup := by
  rw [keys_put]
  split
  · exact h
  · rename_i hk
    rw [List.nodup_append]
    refine ⟨h, by simp, fun a ha b hb => ?_⟩
    have : b = k := by simpa using hb
    subst this
    intro z; subst z; exact hk ha
theorem valP_mem {kvs : List (κ × α)} {k : κ} {y : α} (h : valP kvs k = some y) : (k, y) ∈ kvs := by
  induction kvs with
  | nil => simp [valP] at h
  | cons p r ih =>
    rw [valP_cons] at h
    by_cases e : p.1 = k
    · rw [if_pos e] at h
      cases h
      subst e
      exact List.mem_cons_self
    · rw [if_neg e] at h
      exact List.mem_cons_of_mem _ (ih h)
theorem valP_of_mem {kvs : List (κ × α)} (hn : (kvs.map (·.1)).Nodup) {k : κ} {y : α} (h : (k, y) ∈ kvs) : valP kvs k = some y := by
  induction kvs with
  | nil => cases h
  | cons p r ih =>
    rw [valP_cons]
    rw [List.map_cons, List.nodup_cons] at hn
    rcases List.mem_cons.mp h with e | h
    · subst e; simp
    · have : p.1 ≠ k := fun e => hn.1 (by rw [e]; exact List.mem_map.mpr ⟨_, h, rfl⟩)
      rw [if_neg this]
      exact ih hn.2 h
theorem valP_some_iff {kvs : List (κ × α)} {k : κ} : (valP kvs k).isSome = true ↔ k ∈ kvs.map (·.1) := by
  rw [← any_iff]
  simp [List.any_eq_true]
theorem length_put (kvs : List (κ × α)) (k : κ) (y : α) : (putP kvs k y).length ≤ kvs.length + 1 := by
  have := congrArg List.length (keys_put kvs k y)
  rw [List.length_map] at this
  rw [this]
  split <;> simp
end

/-! ### terms -/
abbrev Terms := List (Str × Int)
/-- the coefficient of a name in a list of pairs -/
def coef (ts : Terms) (n : Str) : Int := ((ts.filter fun p => decide (p.1 = n)).map (·.2)).sum
@[simp] theorem coef_nil (n : Str) : coef [] n = 0 := rfl
theorem coef_cons (p : Str × Int) (ts : Terms) (n : Str) : coef (p :: ts) n = (if p.1 = n then p.2 else 0) + coef ts n := by
  unfold coef
  by_cases e : p.1 = n
  · rw [List.filter_cons_of_pos (by simpa using e), if_pos e]; simp
  · rw [List.filter_cons_of_neg (by simpa using e), if_neg e]; simp
theorem coef_append (a b : Terms) (n : Str) : coef (a ++ b) n = coef a n + coef b n := by
  induction a with
  | nil => simp
  | cons p a ih => rw [List.cons_append, coef_cons, coef_cons, ih]; omega
theorem coef_perm {a b : Terms} (h : a.Perm b) (n : Str) : coef a n = coef b n := by
  induction h with
  | nil => rfl
  | cons x _ ih => rw [coef_cons, coef_cons, ih]
  | swap x y l => rw [coef_cons, coef_cons, coef_cons, coef_cons]; omega
  | trans _ _ h1 h2 => exact h1.trans h2
theorem coef_mul (k : Int) (ts : Terms) (n : Str) : coef (ts.map fun p => (p.1, k * p.2)) n = k * coef ts n := by
  induction ts with
  | nil => simp
  | cons p a ih =>
    rw [List.map_cons, coef_cons, coef_cons, ih, Int.mul_add]
    by_cases e : p.1 = n <;> simp [e]
theorem coef_none {ts : Terms} {n : Str} (h : n ∉ ts.map (·.1)) : coef ts n = 0 := by
  induction ts with
  | nil => rfl
  | cons p a ih =>
    simp only [List.map_cons, List.mem_cons, not_or] at h
    rw [coef_cons, if_neg (Ne.symm h.1), ih h.2]
    rfl
theorem coef_mem {ts : Terms} (hn : (ts.map (·.1)).Nodup) {n : Str} {k : Int} (h : (n, k) ∈ ts) : coef ts n = k := by
  induction ts with
  | nil => cases h
  | cons p a ih =>
    rw [List.map_cons, List.nodup_cons] at hn
    rw [coef_cons]
    rcases List.mem_cons.mp h with e | h
    · subst e
      rw [if_pos rfl, coef_none hn.1]
      simp
    · have : p.1 ≠ n := fun e => hn.1 (by rw [e]; exact List.mem_map.mpr ⟨_, h, rfl⟩)
      rw [if_neg this, ih hn.2 h]
      simp
/-- below by code points -/
def sLt (a b : Str) : Prop := a.cps.toList < b.cps.toList
theorem sLt.trans {a b c : Str} (h1 : sLt a b) (h2 : sLt b c) : sLt a c := List.lt_trans h1 h2
theorem sLt.irrefl (a : Str) : ¬ sLt a a := List.lt_irrefl _
theorem sLt.ne {a b : Str} (h : sLt a b) : a ≠ b := fun e => by subst e; exact sLt.irrefl _ h
theorem sLt.asymm {a b : Str} (h : sLt a b) : ¬ sLt b a := fun h' => sLt.irrefl _ (h.trans h')
theorem sLt.tri {a b : Str} (h : ¬ sLt a b) (h' : ¬ sLt b a) : a = b := by
  have e : a.cps.toList = b.cps.toList := List.le_antisymm (List.not_lt.mp h') (List.not_lt.mp h)
  cases a; cases b
  simp only at e
  congr 1
  exact Array.toList_inj.mp e
/-- ts is the list of terms with the coefficients g: names ascending, no nought -/
structure Nf (ts : Terms) (g : Str → Int) : Prop where
  srt : ts.Pairwise fun a b => sLt a.1 b.1
  nz : ∀ p ∈ ts, p.2 ≠ 0
  co : ∀ n, coef ts n = g n
theorem Nf.nodup {ts : Terms} {g : Str → Int} (h : Nf ts g) : (ts.map (·.1)).Nodup := by
  rw [List.Nodup, List.pairwise_map]
  exact h.srt.imp fun q => q.ne
theorem Nf.at {ts : Terms} {g : Str → Int} (h : Nf ts g) {p : Str × Int} (hp : p ∈ ts) : p.2 = g p.1 := by
  rw [← h.co, coef_mem h.nodup hp]
theorem Nf.cong {ts : Terms} {g g' : Str → Int} (h : Nf ts g) (e : ∀ n, g n = g' n) : Nf ts g' := ⟨h.srt, h.nz, fun n => (h.co n).trans (e n)⟩
theorem Nf.self {ts : Terms} {g : Str → Int} (h : Nf ts g) : Nf ts (coef ts) := ⟨h.srt, h.nz, fun _ => rfl⟩
theorem Nf.mem_iff {ts : Terms} {g : Str → Int} (h : Nf ts g) {n : Str} {k : Int} : (n, k) ∈ ts ↔ k = g n ∧ k ≠ 0 := by
  refine ⟨fun hp => ⟨h.at hp, h.nz _ hp⟩, fun ⟨e, hk⟩ => ?_⟩
  have hc : coef ts n ≠ 0 := by rw [h.co, ← e]; exact hk
  have hm : n ∈ ts.map (·.1) := Classical.byContradiction fun z => hc (coef_none z)
  obtain ⟨p, hp, rfl⟩ := List.mem_map.mp hm
  have := h.at hp
  rw [← e] at this
  rw [← this]
  exact hp
theorem Nf.unique : ∀ {ts us : Terms} {g : Str → Int}, Nf ts g → Nf us g → ts = us := by
  intro ts us g h h'
  have hm : ∀ p, p ∈ ts ↔ p ∈ us := fun p => by
    obtain ⟨n, k⟩ := p
    rw [h.mem_iff, h'.mem_iff]
  have key : ∀ {ts us : Terms}, ts.Pairwise (fun a b => sLt a.1 b.1) → us.Pairwise (fun a b => sLt a.1 b.1) → (∀ p, p ∈ ts ↔ p ∈ us) → ts = us := by
    intro ts
    induction ts with
    | nil =>
      intro us _ _ hm
      cases us with
      | nil => rfl
      | cons p us => exact absurd ((hm p).mpr List.mem_cons_self) (by simp)
    | cons p ts ih =>
      intro us h1 h2 hm
      cases us with
      | nil => exact absurd ((hm p).mp List.mem_cons_self) (by simp)
      | cons q us =>
        rw [List.pairwise_cons] at h1 h2
        have e : p = q := by
          rcases List.mem_cons.mp ((hm p).mp List.mem_cons_self) with e | hp
          · exact e
          · rcases List.mem_cons.mp ((hm q).mpr List.mem_cons_self) with e | hq
            · exact e.symm
            · exact absurd (h2.1 p hp) (h1.1 q hq).asymm
        subst e
        congr 1
        refine ih h1.2 h2.2 fun r => ⟨fun hr => ?_, fun hr => ?_⟩
        · rcases List.mem_cons.mp ((hm r).mp (List.mem_cons_of_mem _ hr)) with e | h
          · subst e; exact absurd (h1.1 r hr) (sLt.irrefl _)
          · exact h
        · rcases List.mem_cons.mp ((hm r).mpr (List.mem_cons_of_mem _ hr)) with e | h
          · subst e; exact absurd (h2.1 r hr) (sLt.irrefl _)
          · exact h
  exact key h.srt h'.srt hm
/-! ### the sums -/
def addT (acc : Terms) (p : Str × Int) : Terms := putP acc p.1 ((valP acc p.1).getD 0 + p.2)
def sums (acc ps : Terms) : Terms := ps.foldl addT acc
theorem sums_val (ps : Terms) : ∀ (acc : Terms) (n : Str), (valP (sums acc ps) n).getD 0 = (valP acc n).getD 0 + coef ps n := by
  induction ps with
  | nil => intro acc n; simp [sums]
  | cons p ps ih =>
    intro acc n
    have h := ih (addT acc p) n
    show (valP (sums (addT acc p) ps) n).getD 0 = _
    rw [h, coef_cons]
    unfold addT
    rw [valP_put]
    by_cases e : n = p.1
    · subst e; simp; omega
    · simp [e, Ne.symm e]
theorem sums_nodup (ps : Terms) : ∀ (acc : Terms), (acc.map (·.1)).Nodup → ((sums acc ps).map (·.1)).Nodup := by
  induction ps with
  | nil => intro acc h; exact h
  | cons p ps ih => intro acc h; exact ih _ (nodup_put h _ _)
theorem sums_len (ps : Terms) : ∀ (acc : Terms), (sums acc ps).length ≤ acc.length + ps.length := by
  induction ps with
  | nil => intro acc; simp [sums]
  | cons p ps ih =>
    intro acc
    have h1 := ih (addT acc p)
    have h2 := length_put acc p.1 ((valP acc p.1).getD 0 + p.2)
    show (sums (addT acc p) ps).length ≤ _
    unfold addT at h1 ⊢
    simp only [List.length_cons]
    omega
/-- sorted texts -/
theorem sortedS_pair : ∀ {xs : List Str}, PyProof.Rows.sortedS xs = true → xs.Pairwise fun a b => ¬ sLt b a := by
  have rise : ∀ (xs : List Str) (p : Str), PyProof.Rows.risingS p xs = true → (∀ x ∈ xs, ¬ sLt x p) ∧ xs.Pairwise fun a b => ¬ sLt b a := by
    intro xs
    induction xs with
    | nil => intro p _; exact ⟨by simp, .nil⟩
    | cons x xs ih =>
      intro p h
      unfold PyProof.Rows.risingS at h
      rw [Bool.and_eq_true, PyProof.Rows.ltCps_eq] at h
      obtain ⟨h1, h2⟩ := h
      have hx : ¬ sLt x p := by
        intro z
        have z' : x.cps.toList < p.cps.toList := z
        simp [z'] at h1
      obtain ⟨q1, q2⟩ := ih x h2
      refine ⟨fun y hy => ?_, .cons (fun y hy => q1 y hy) q2⟩
      rcases List.mem_cons.mp hy with e | hy
      · subst e; exact hx
      · intro z
        have hyx := q1 y hy
        -- y < p, not x < p, not y < x
        by_cases hpx : sLt p x
        · exact hyx (z.trans hpx)
        · have : p = x := sLt.tri hpx hx
          subst this
          exact hyx z
  intro xs h
  cases xs with
  | nil => exact .nil
  | cons x xs =>
    obtain ⟨h1, h2⟩ := rise xs x h
    exact .cons h1 h2
theorem sorted_asc {xs : List Str} (h : PyProof.Rows.sortedS xs = true) (hn : xs.Nodup) : xs.Pairwise sLt := by
  have h1 := sortedS_pair h
  have h2 : xs.Pairwise fun a b => a ≠ b := hn
  refine (h1.and h2).imp fun {a b} q => ?_
  by_cases z : sLt a b
  · exact z
  · exact absurd (sLt.tri z q.1) q.2
/-- what form makes: the keys in order, those with a nought left out -/
def picked (acc : Terms) (ks : List Str) : Terms := ks.filterMap fun n => if (valP acc n).getD 0 ≠ 0 then some (n, (valP acc n).getD 0) else none
theorem picked_nf {acc : Terms} (hn : (acc.map (·.1)).Nodup) {ks : List Str} (hp : ks.Perm (acc.map (·.1))) (hs : PyProof.Rows.sortedS ks = true) : Nf (picked acc ks) fun n => (valP acc n).getD 0 := by
  have nd : ks.Nodup := hp.nodup_iff.mpr hn
  have asc := sorted_asc hs nd
  have mem : ∀ p, p ∈ picked acc ks ↔ p.1 ∈ ks ∧ p.2 = (valP acc p.1).getD 0 ∧ p.2 ≠ 0 := by
    intro p
    unfold picked
    rw [List.mem_filterMap]
    constructor
    · rintro ⟨n, hm, e⟩
      split at e
      · rename_i h
        cases e
        exact ⟨hm, rfl, h⟩
      · cases e
    · rintro ⟨h1, h2, h3⟩
      refine ⟨p.1, h1, ?_⟩
      rw [if_pos (by rw [← h2]; exact h3), ← h2]
  have srt : (picked acc ks).Pairwise fun a b => sLt a.1 b.1 := by
    unfold picked
    rw [List.pairwise_filterMap]
    refine asc.imp fun {a b} h x hx y hy => ?_
    split at hx
    · split at hy
      · cases hx; cases hy; exact h
      · cases hy
    · cases hx
  refine ⟨srt, fun p hp => ((mem p).mp hp).2.2, fun n => ?_⟩
  have nd2 : ((picked acc ks).map (·.1)).Nodup := by
    rw [List.Nodup, List.pairwise_map]
    exact srt.imp fun q => q.ne
  by_cases h : n ∈ (picked acc ks).map (·.1)
  · obtain ⟨p, hp, rfl⟩ := List.mem_map.mp h
    rw [coef_mem nd2 hp]
    exact ((mem p).mp hp).2.1
  · rw [coef_none h]
    refine Classical.byContradiction fun z => h ?_
    have hk : n ∈ ks := by
      rw [hp.mem_iff]
      refine valP_some_iff.mp ?_
      cases e : valP acc n with
      | none => rw [e] at z; exact absurd rfl z
      | some _ => rfl
    exact List.mem_map.mpr ⟨(n, (valP acc n).getD 0), (mem _).mpr ⟨hk, rfl, fun e => z e.symm⟩, rfl⟩
theorem sums_nf {ps : Terms} {ks : List Str} (hp : ks.Perm ((sums [] ps).map (·.1))) (hs : PyProof.Rows.sortedS ks = true) : Nf (picked (sums [] ps) ks) (coef ps) :=
  (picked_nf (sums_nodup ps [] .nil) hp hs).cong fun n => by rw [sums_val]; simp [valP]
/-! ### how large -/
def Sm (b : Nat) (i : Int) : Prop := i.natAbs < 2 ^ b
def Sms (b : Nat) (ts : Terms) : Prop := ∀ p ∈ ts, Sm b p.2
theorem Sm.mono {a b : Nat} (h : a ≤ b) {i : Int} (s : Sm a i) : Sm b i := Nat.lt_of_lt_of_le s (Nat.pow_le_pow_right (by decide) h)
theorem Sms.mono {a b : Nat} (h : a ≤ b) {ts : Terms} (s : Sms a ts) : Sms b ts := fun p hp => (s p hp).mono h
theorem Sm.mul {a b : Nat} {i j : Int} (h : Sm a i) (h' : Sm b j) : Sm (a + b) (i * j) := by
  unfold Sm at *
  rw [Int.natAbs_mul, Nat.pow_add]
  exact Nat.mul_lt_mul'' h h'
theorem Sm.neg {a : Nat} {i : Int} (h : Sm a i) : Sm a (-i) := by unfold Sm at *; rw [Int.natAbs_neg]; exact h
theorem Sm.add {a : Nat} {i j : Int} (h : Sm a i) (h' : Sm a j) : Sm (a + 1) (i + j) := by
  unfold Sm at *
  rw [Nat.pow_succ]
  omega
theorem Sm.ok {a b : Nat} {i j : Int} (h : Sm a i) (h' : Sm b j) (l : a + b ≤ 1000000 := by decide) : IntMulOk i j := mulOk a b h h' l
/-- a sum of at most 2 ^ c numbers -/
theorem sum_sm {b : Nat} : ∀ (xs : List Int), (∀ x ∈ xs, Sm b x) → xs.sum.natAbs ≤ xs.length * 2 ^ b
  | [], _ => by simp
  | x :: xs, h => by
    have h1 := sum_sm xs fun y hy => h y (List.mem_cons_of_mem _ hy)
    have h2 : x.natAbs < 2 ^ b := h x List.mem_cons_self
    rw [List.sum_cons, List.length_cons, Nat.succ_mul]
    omega
theorem sum_sm' {b c : Nat} {xs : List Int} (h : ∀ x ∈ xs, Sm b x) (hl : xs.length < 2 ^ c) : Sm (b + c) xs.sum := by
  have := sum_sm xs h
  unfold Sm
  rw [Nat.pow_add, Nat.mul_comm]
  exact Nat.lt_of_le_of_lt this (Nat.mul_lt_mul_of_lt_of_le hl (Nat.le_refl _) (Nat.pow_pos (by decide)))
theorem coef_sm {b c : Nat} {ts : Terms} (h : Sms b ts) (hl : ts.length < 2 ^ c) (n : Str) : Sm (b + c) (coef ts n) := by
  refine sum_sm' (fun x hx => ?_) ?_
  · obtain ⟨p, hp, rfl⟩ := List.mem_map.mp hx
    exact h p (List.mem_filter.mp hp).1
  · rw [List.length_map]
    exact Nat.lt_of_le_of_lt (List.length_filter_le _ _) hl
theorem Nf.sms {b : Nat} {ts : Terms} {g : Str → Int} (h : Nf ts g) (hb : ∀ n, Sm b (g n)) : Sms b ts := fun p hp => by rw [h.at hp]; exact hb _
/-- names among some -/
def InN (ns : List Str) (ts : Terms) : Prop := ∀ p ∈ ts, p.1 ∈ ns
theorem Nf.inN {ns : List Str} {ts us : Terms} (h : Nf ts (coef us)) (hu : InN ns us) : InN ns ts := fun p hp => by
  have h1 := h.nz p hp
  rw [h.at hp] at h1
  have hm : p.1 ∈ us.map (·.1) := Classical.byContradiction fun z => h1 (coef_none z)
  obtain ⟨q, hq, e⟩ := List.mem_map.mp hm
  rw [← e]
  exact hu q hq
theorem Nf.len {ns : List Str} {ts : Terms} {g : Str → Int} (h : Nf ts g) (hi : InN ns ts) : ts.length ≤ ns.length := by
  have : (ts.map (·.1)).length ≤ ns.length := List.Nodup.length_le_of_subset h.nodup fun n hn => by
    obtain ⟨p, hp, rfl⟩ := List.mem_map.mp hn
    exact hi p hp
  simpa using this
end FormM


namespace K66
open PySem PySem.Spec PyProof.Rows L2 DW
/-! the text by places -/
def topS (i : Nat) : Stmt := PySem.Challenge.pw_meanwithin_k66_written_forms.main.body.getD i (.Pass ⟨0, 0, 0, 0⟩)
abbrev s_write_integer : Stmt := topS 6
abbrev s_read_integer : Stmt := topS 7
abbrev s_form : Stmt := topS 9
abbrev s_write_term : Stmt := topS 13
abbrev s_write_form : Stmt := topS 14
abbrev s_is_name : Stmt := topS 15
abbrev s_read_term : Stmt := topS 16
abbrev s_read_form : Stmt := topS 17
abbrev s_law_start : Stmt := topS 19
abbrev s_law_draw : Stmt := topS 20
abbrev s_law_one_of : Stmt := topS 21
abbrev s_law_is_int : Stmt := topS 22
abbrev s_law_same : Stmt := topS 23
abbrev s_law_form : Stmt := topS 24
abbrev s_law_some_name : Stmt := topS 25
abbrev s_law_some_form : Stmt := topS 26
abbrev s_law_written : Stmt := topS 27
abbrev s_law_read : Stmt := topS 28
abbrev s_law_changed : Stmt := topS 29
abbrev s_law : Stmt := topS 30
abbrev N_write_integer : List Str := ["n", "chunks", "low"]
abbrev P_write_integer : List Str := ["n"]
theorem sc_write_integer : FnScope N_write_integer P_write_integer (defScope s_write_integer) := ⟨rfl, rfl, rfl, by decide +kernel, rfl, by decide +kernel, by decide +kernel⟩
abbrev N_read_integer : List Str := ["text", "digits", "char", "head", "n", "start"]
abbrev P_read_integer : List Str := ["text"]
theorem sc_read_integer : FnScope N_read_integer P_read_integer (defScope s_read_integer) := ⟨rfl, rfl, rfl, by decide +kernel, rfl, by decide +kernel, by decide +kernel⟩
abbrev N_form : List Str := ["constant", "pairs", "sums", "name", "coefficient"]
abbrev P_form : List Str := ["constant", "pairs"]
theorem sc_form : FnScope N_form P_form (defScope s_form) := ⟨rfl, rfl, rfl, by decide +kernel, rfl, by decide +kernel, by decide +kernel⟩
abbrev N_write_term : List Str := ["name", "size"]
abbrev P_write_term : List Str := ["name", "size"]
theorem sc_write_term : FnScope N_write_term P_write_term (defScope s_write_term) := ⟨rfl, rfl, rfl, by decide +kernel, rfl, by decide +kernel, by decide +kernel⟩
abbrev N_write_form : List Str := ["f", "terms", "text", "name", "coefficient"]
abbrev P_write_form : List Str := ["f"]
theorem sc_write_form : FnScope N_write_form P_write_form (defScope s_write_form) := ⟨rfl, rfl, rfl, by decide +kernel, rfl, by decide +kernel, by decide +kernel⟩
abbrev N_is_name : List Str := ["text", "char"]
abbrev P_is_name : List Str := ["text"]
theorem sc_is_name : FnScope N_is_name P_is_name (defScope s_is_name) := ⟨rfl, rfl, rfl, by decide +kernel, rfl, by decide +kernel, by decide +kernel⟩
abbrev N_read_term : List Str := ["text", "sign", "digits", "star", "name"]
abbrev P_read_term : List Str := ["text", "sign"]
theorem sc_read_term : FnScope N_read_term P_read_term (defScope s_read_term) := ⟨rfl, rfl, rfl, by decide +kernel, rfl, by decide +kernel, by decide +kernel⟩
abbrev N_read_form : List Str := ["text", "words", "first", "sign", "pairs", "k", "found", "name", "number", "pair"]
abbrev P_read_form : List Str := ["text"]
theorem sc_read_form : FnScope N_read_form P_read_form (defScope s_read_form) := ⟨rfl, rfl, rfl, by decide +kernel, rfl, by decide +kernel, by decide +kernel⟩
abbrev N_law_start : List Str := ["script"]
abbrev P_law_start : List Str := ["script"]
theorem sc_law_start : FnScope N_law_start P_law_start (defScope s_law_start) := ⟨rfl, rfl, rfl, by decide +kernel, rfl, by decide +kernel, by decide +kernel⟩
abbrev N_law_draw : List Str := ["state", "most", "found", "cell", "mixed"]
abbrev P_law_draw : List Str := ["state", "most"]
theorem sc_law_draw : FnScope N_law_draw P_law_draw (defScope s_law_draw) := ⟨rfl, rfl, rfl, by decide +kernel, rfl, by decide +kernel, by decide +kernel⟩
abbrev N_law_one_of : List Str := ["state", "items"]
abbrev P_law_one_of : List Str := ["state", "items"]
theorem sc_law_one_of : FnScope N_law_one_of P_law_one_of (defScope s_law_one_of) := ⟨rfl, rfl, rfl, by decide +kernel, rfl, by decide +kernel, by decide +kernel⟩
abbrev N_law_is_int : List Str := ["x"]
abbrev P_law_is_int : List Str := ["x"]
theorem sc_law_is_int : FnScope N_law_is_int P_law_is_int (defScope s_law_is_int) := ⟨rfl, rfl, rfl, by decide +kernel, rfl, by decide +kernel, by decide +kernel⟩
abbrev N_law_same : List Str := ["x", "y", "k"]
abbrev P_law_same : List Str := ["x", "y"]
theorem sc_law_same : FnScope N_law_same P_law_same (defScope s_law_same) := ⟨rfl, rfl, rfl, by decide +kernel, rfl, by decide +kernel, by decide +kernel⟩
abbrev N_law_form : List Str := ["constant", "pairs", "sums", "name", "number"]
abbrev P_law_form : List Str := ["constant", "pairs"]
theorem sc_law_form : FnScope N_law_form P_law_form (defScope s_law_form) := ⟨rfl, rfl, rfl, by decide +kernel, rfl, by decide +kernel, by decide +kernel⟩
abbrev N_law_some_name : List Str := ["state", "first", "turn"]
abbrev P_law_some_name : List Str := ["state"]
theorem sc_law_some_name : FnScope N_law_some_name P_law_some_name (defScope s_law_some_name) := ⟨rfl, rfl, rfl, by decide +kernel, rfl, by decide +kernel, by decide +kernel⟩
abbrev N_law_some_form : List Str := ["state", "names", "pairs", "turn", "name"]
abbrev P_law_some_form : List Str := ["state"]
theorem sc_law_some_form : FnScope N_law_some_form P_law_some_form (defScope s_law_some_form) := ⟨rfl, rfl, rfl, by decide +kernel, rfl, by decide +kernel, by decide +kernel⟩
abbrev N_law_written : List Str := ["f", "parts", "name", "number", "told", "text", "below"]
abbrev P_law_written : List Str := ["f"]
theorem sc_law_written : FnScope N_law_written P_law_written (defScope s_law_written) := ⟨rfl, rfl, rfl, by decide +kernel, rfl, by decide +kernel, by decide +kernel⟩
abbrev N_law_read : List Str := ["text", "e"]
abbrev P_law_read : List Str := ["text"]
theorem sc_law_read : FnScope N_law_read P_law_read (defScope s_law_read) := ⟨rfl, rfl, rfl, by decide +kernel, rfl, by decide +kernel, by decide +kernel⟩
abbrev N_law_changed : List Str := ["state", "text", "parts", "found", "turn", "k", "sign"]
abbrev P_law_changed : List Str := ["state", "text"]
theorem sc_law_changed : FnScope N_law_changed P_law_changed (defScope s_law_changed) := ⟨rfl, rfl, rfl, by decide +kernel, rfl, by decide +kernel, by decide +kernel⟩
abbrev N_law : List Str := ["script", "state", "turn", "f", "text", "bent", "found", "bad", "good"]
abbrev P_law : List Str := ["script"]
theorem sc_law : FnScope N_law P_law (defScope s_law) := ⟨rfl, rfl, rfl, by decide +kernel, rfl, by decide +kernel, by decide +kernel⟩
end K66


namespace K66
open PySem PySem.Spec PyProof.Rows L2 DW
def v_BASE : D := .int (10 ^ 64)
def v_DIGITS_digits : D := .str "0123456789"
def v_FIRST : D := .str "abcdefghijklmnopqrstuvwxyz@#.?_"
def v_DIGITS_formtext : D := .str "0123456789"
/-- what the top has written, by names -/
structure Top (K : PySem.W.Frag) (mg : Str → Option Value) where
  f_write_integer : Addr
  fd_write_integer : FuncData
  F_write_integer : Fun K "write_integer" "write_integer" s_write_integer f_write_integer fd_write_integer
  g_write_integer : mg "write_integer" = some (.ref f_write_integer)
  b_write_integer : Binds K fd_write_integer P_write_integer []
  f_read_integer : Addr
  fd_read_integer : FuncData
  F_read_integer : Fun K "read_integer" "read_integer" s_read_integer f_read_integer fd_read_integer
  g_read_integer : mg "read_integer" = some (.ref f_read_integer)
  b_read_integer : Binds K fd_read_integer P_read_integer []
  f_form : Addr
  fd_form : FuncData
  F_form : Fun K "form" "form" s_form f_form fd_form
  g_form : mg "form" = some (.ref f_form)
  b_form : Binds K fd_form P_form []
  f_write_term : Addr
  fd_write_term : FuncData
  F_write_term : Fun K "write_term" "write_term" s_write_term f_write_term fd_write_term
  g_write_term : mg "write_term" = some (.ref f_write_term)
  b_write_term : Binds K fd_write_term P_write_term []
  f_write_form : Addr
  fd_write_form : FuncData
  F_write_form : Fun K "write_form" "write_form" s_write_form f_write_form fd_write_form
  g_write_form : mg "write_form" = some (.ref f_write_form)
  b_write_form : Binds K fd_write_form P_write_form []
  f_is_name : Addr
  fd_is_name : FuncData
  F_is_name : Fun K "is_name" "is_name" s_is_name f_is_name fd_is_name
  g_is_name : mg "is_name" = some (.ref f_is_name)
  b_is_name : Binds K fd_is_name P_is_name []
  f_read_term : Addr
  fd_read_term : FuncData
  F_read_term : Fun K "read_term" "read_term" s_read_term f_read_term fd_read_term
  g_read_term : mg "read_term" = some (.ref f_read_term)
  b_read_term : Binds K fd_read_term P_read_term []
  f_read_form : Addr
  fd_read_form : FuncData
  F_read_form : Fun K "read_form" "read_form" s_read_form f_read_form fd_read_form
  g_read_form : mg "read_form" = some (.ref f_read_form)
  b_read_form : Binds K fd_read_form P_read_form []
  f_law_start : Addr
  fd_law_start : FuncData
  F_law_start : Fun K "_law_start" "_law_start" s_law_start f_law_start fd_law_start
  g_law_start : mg "_law_start" = some (.ref f_law_start)
  b_law_start : Binds K fd_law_start P_law_start []
  f_law_draw : Addr
  fd_law_draw : FuncData
  F_law_draw : Fun K "_law_draw" "_law_draw" s_law_draw f_law_draw fd_law_draw
  g_law_draw : mg "_law_draw" = some (.ref f_law_draw)
  b_law_draw : Binds K fd_law_draw P_law_draw []
  f_law_one_of : Addr
  fd_law_one_of : FuncData
  F_law_one_of : Fun K "_law_one_of" "_law_one_of" s_law_one_of f_law_one_of fd_law_one_of
  g_law_one_of : mg "_law_one_of" = some (.ref f_law_one_of)
  b_law_one_of : Binds K fd_law_one_of P_law_one_of []
  f_law_is_int : Addr
  fd_law_is_int : FuncData
  F_law_is_int : Fun K "_law_is_int" "_law_is_int" s_law_is_int f_law_is_int fd_law_is_int
  g_law_is_int : mg "_law_is_int" = some (.ref f_law_is_int)
  b_law_is_int : Binds K fd_law_is_int P_law_is_int []
  f_law_same : Addr
  fd_law_same : FuncData
  F_law_same : Fun K "_law_same" "_law_same" s_law_same f_law_same fd_law_same
  g_law_same : mg "_law_same" = some (.ref f_law_same)
  b_law_same : Binds K fd_law_same P_law_same []
  f_law_form : Addr
  fd_law_form : FuncData
  F_law_form : Fun K "_law_form" "_law_form" s_law_form f_law_form fd_law_form
  g_law_form : mg "_law_form" = some (.ref f_law_form)
  b_law_form : Binds K fd_law_form P_law_form []
  f_law_some_name : Addr
  fd_law_some_name : FuncData
  F_law_some_name : Fun K "_law_some_name" "_law_some_name" s_law_some_name f_law_some_name fd_law_some_name
  g_law_some_name : mg "_law_some_name" = some (.ref f_law_some_name)
  b_law_some_name : Binds K fd_law_some_name P_law_some_name []
  f_law_some_form : Addr
  fd_law_some_form : FuncData
  F_law_some_form : Fun K "_law_some_form" "_law_some_form" s_law_some_form f_law_some_form fd_law_some_form
  g_law_some_form : mg "_law_some_form" = some (.ref f_law_some_form)
  b_law_some_form : Binds K fd_law_some_form P_law_some_form []
  f_law_written : Addr
  fd_law_written : FuncData
  F_law_written : Fun K "_law_written" "_law_written" s_law_written f_law_written fd_law_written
  g_law_written : mg "_law_written" = some (.ref f_law_written)
  b_law_written : Binds K fd_law_written P_law_written []
  f_law_read : Addr
  fd_law_read : FuncData
  F_law_read : Fun K "_law_read" "_law_read" s_law_read f_law_read fd_law_read
  g_law_read : mg "_law_read" = some (.ref f_law_read)
  b_law_read : Binds K fd_law_read P_law_read []
  f_law_changed : Addr
  fd_law_changed : FuncData
  F_law_changed : Fun K "_law_changed" "_law_changed" s_law_changed f_law_changed fd_law_changed
  g_law_changed : mg "_law_changed" = some (.ref f_law_changed)
  b_law_changed : Binds K fd_law_changed P_law_changed []
  f_law : Addr
  fd_law : FuncData
  F_law : Fun K "law" "law" s_law f_law fd_law
  g_law : mg "law" = some (.ref f_law)
  b_law : Binds K fd_law P_law []
  k_MeanwithinError : Addr
  gk_MeanwithinError : mg "MeanwithinError" = some (.ref k_MeanwithinError)
  x_MeanwithinError : XCls K k_MeanwithinError
  k_BadText : Addr
  gk_BadText : mg "BadText" = some (.ref k_BadText)
  x_BadText : XCls K k_BadText
  n_abs : mg "abs" = none
  n_all : mg "all" = none
  n_bool : mg "bool" = none
  n_divmod : mg "divmod" = none
  n_int : mg "int" = none
  n_isinstance : mg "isinstance" = none
  n_len : mg "len" = none
  n_list : mg "list" = none
  n_range : mg "range" = none
  n_set : mg "set" = none
  n_sorted : mg "sorted" = none
  n_str : mg "str" = none
  n_sum : mg "sum" = none
  n_tuple : mg "tuple" = none
  c_BASE : ConstOf K mg "BASE" v_BASE
  c_DIGITS_digits : ConstOf K mg "DIGITS_digits" v_DIGITS_digits
  c_FIRST : ConstOf K mg "FIRST" v_FIRST
  c_DIGITS_formtext : ConstOf K mg "DIGITS_formtext" v_DIGITS_formtext
  cl_M : PySem.W.isClsIn K k_MeanwithinError = true
  sb_M : PySem.W.subIn K (.ref k_BadText) (.ref k_MeanwithinError) = some true
  cl_BadText : PySem.W.isClsIn K k_BadText = true
  sb_BadText : PySem.W.subIn K (.ref k_BadText) (.ref k_BadText) = some true
  ec1 : PySem.W.findIn K (.ref k_BadText) "__getattribute__" = some (some (.builtin "BaseException.__getattribute__"))
  ec2 : PySem.W.findIn K (.ref k_BadText) "__getattr__" = some none
  ec4 : PySem.W.hasDictIn K k_BadText = true
  ec5 : PySem.W.findIn K (.ref k_BadText) "__class__" = some (some (.builtin "object.__class__"))
  ec6 : PySem.W.specialIn K (.builtin "object.__class__") "__get__" = some (some (.builtin "getset_descriptor.__get__"))
  ec7 : PySem.W.takesIn K (.builtin "object.__class__") = some true
  ec8 : PySem.W.mroIn K k_BadText (.type "object") = some true
theorem Top.ec {K : PySem.W.Frag} {mg : Str → Option Value} (T : Top K mg) : ExcC K T.k_BadText := ⟨T.ec1, T.ec2, T.x_BadText.s, T.ec4, T.ec5, T.ec6, T.ec7, T.ec8⟩
theorem Top.kit {K : PySem.W.Frag} {mg : Str → Option Value} (T : Top K mg) : PySem.W.kitOne K (.ref T.k_BadText) (.ref T.k_MeanwithinError) = some true := kit_own T.cl_M T.x_MeanwithinError.t T.sb_M
end K66

/-! K66M: written forms. -/
namespace K66
open PySem L2 DW TX FormM
abbrev cs (x : Str) : List Nat := x.cps.toList
theorem cs_mk (l : List Nat) : cs ⟨l.toArray⟩ = l := by simp [cs]
theorem mk_cs (x : Str) : (⟨(cs x).toArray⟩ : Str) = x := SX.S_tl x
theorem cs_inj {a b : Str} (h : cs a = cs b) : a = b := by rw [← mk_cs a, ← mk_cs b, h]
/-! ### names -/
def dig (c : Nat) : Bool := decide (48 ≤ c) && decide (c ≤ 57)
def fst (c : Nat) : Bool := (decide (97 ≤ c) && decide (c ≤ 122)) || c == 64 || c == 35 || c == 46 || c == 63 || c == 95
def isN (l : List Nat) : Bool := l.all (fun c => fst c || dig c) && (match l with | [] => false | c :: _ => !dig c)
theorem isN_ne {l : List Nat} (h : isN l = true) : l ≠ [] := by
  intro e; subst e; simp [isN] at h
theorem isN_all {l : List Nat} (h : isN l = true) {c : Nat} (hc : c ∈ l) : fst c = true ∨ dig c = true := by
  unfold isN at h
  rw [Bool.and_eq_true, List.all_eq_true] at h
  simpa using h.1 c hc
theorem fd_ok {c : Nat} (h : fst c = true ∨ dig c = true) : c ≠ 32 ∧ c ≠ 42 ∧ c ≠ 45 ∧ c ≠ 43 ∧ c < 128 := by
  unfold fst dig at h
  simp only [Bool.or_eq_true, Bool.and_eq_true, decide_eq_true_eq, beq_iff_eq] at h
  omega
theorem isN_numL (n : Nat) : isN (TL.numL n) = false := by
  obtain ⟨c, r, e, h1, h2⟩ := numL_cons n
  unfold isN
  rw [e]
  have : dig c = true := by simp [dig, h1, h2]
  simp [this]
theorem isN_head {l : List Nat} (h : isN l = true) : ∃ c r, l = c :: r ∧ dig c = false := by
  cases l with
  | nil => exact absurd rfl (isN_ne h)
  | cons c r =>
    unfold isN at h
    rw [Bool.and_eq_true] at h
    exact ⟨c, r, rfl, by simpa using h.2⟩
/-! ### written forms -/
/-- a part: its sign, its text -/
def told (n : List Nat) (k : Int) : List Nat := if k.natAbs = 1 then n else TL.numL k.natAbs ++ 42 :: n
abbrev Part := Bool × List Nat
def partsT (ts : Terms) : List Part := ts.map fun p => (decide (p.2 < 0), told (cs p.1) p.2)
def partC (c : Int) : Part := (decide (c < 0), TL.numL c.natAbs)
def parts (c : Int) (ts : Terms) : List Part := partsT ts ++ (if c ≠ 0 ∨ ts = [] then [partC c] else [])
def sg0 (b : Bool) : List Nat := if b = true then [45] else []
def sg1 (b : Bool) : List Nat := if b = true then [32, 45, 32] else [32, 43, 32]
def tailW (ps : List Part) : List Nat := (ps.map fun p => sg1 p.1 ++ p.2).flatten
def joinW : List Part → List Nat
  | [] => []
  | p :: r => sg0 p.1 ++ p.2 ++ tailW r
def wf (c : Int) (ts : Terms) : List Nat := joinW (parts c ts)
theorem parts_ne (c : Int) (ts : Terms) : parts c ts ≠ [] := by
  unfold parts
  by_cases h : ts = []
  · subst h; simp
  · have : partsT ts ≠ [] := by unfold partsT; simpa using h
    simp [this]
theorem tailW_snoc (ps : List Part) (p : Part) : tailW (ps ++ [p]) = tailW ps ++ (sg1 p.1 ++ p.2) := by simp [tailW]
theorem joinW_snoc {ps : List Part} (h : ps ≠ []) (p : Part) : joinW (ps ++ [p]) = joinW ps ++ (sg1 p.1 ++ p.2) := by
  cases ps with
  | nil => exact absurd rfl h
  | cons q r => show _ ++ tailW (r ++ [p]) = _ ++ tailW r ++ _; rw [tailW_snoc]; simp
/-! ### words -/
def okP (p : Part) : Prop := p.2 ≠ [] ∧ 32 ∉ p.2 ∧ p.2.head? ≠ some 45
def opW (b : Bool) : List Nat := if b = true then [45] else [43]
def wordsT (ps : List Part) : List (List Nat) := (ps.map fun p => [opW p.1, p.2]).flatten
theorem spl_tail : ∀ (ps : List Part) (p0 : List Nat), 32 ∉ p0 → (∀ p ∈ ps, okP p) → TL.spl [32] 0 [] (p0 ++ tailW ps) = p0 :: wordsT ps
  | [], p0, h0, _ => by
    have := TL.spl_last1 (s := 32) (S := []) (p := p0) (acc := []) h0
    simpa [tailW, wordsT] using this
  | p :: r, p0, h0, hp => by
    obtain ⟨h1, h2, h3⟩ := hp p List.mem_cons_self
    have e : p0 ++ tailW (p :: r) = p0 ++ ([32] ++ (opW p.1 ++ ([32] ++ (p.2 ++ tailW r)))) := by
      unfold tailW
      rw [List.map_cons, List.flatten_cons]
      cases p.1 <;> simp [sg1, opW]
    have ho : 32 ∉ opW p.1 := by cases p.1 <;> decide
    rw [e, TL.spl_part1 (s := 32) (S := []) h0, TL.spl_part1 (s := 32) (S := []) ho, spl_tail r p.2 h2 fun q hq => hp q (List.mem_cons_of_mem _ hq)]
    simp [wordsT]
/-! ### reading -/
def rt (t : List Nat) (s : Int) : Option (List Nat × Int) := match TL.par [42] [] t with
  | some (d, n) => if isN n = true then (readI d).map fun i => (n, s * i) else none
  | none => if isN t = true then some (t, s) else (readI t).map fun i => ([], s * i)
def opSg (w : List Nat) : Option Int := if w = [43] then some 1 else if w = [45] then some (-1) else none
def rts : List (List Nat) → Option (List (List Nat × Int))
  | [] => some []
  | [_] => none
  | o :: w :: r => match opSg o, rt w ((opSg o).getD 0), rts r with
    | some _, some p, some ps => some (p :: ps)
    | _, _, _ => none
def cutSg (w : List Nat) : Int × List Nat := match w with
  | [] => (1, [])
  | c :: r => if c = 45 then (-1, r) else (1, c :: r)
def parse (l : List Nat) : Option (List (List Nat × Int)) := match TL.spl [32] 0 [] l with
  | [] => none
  | w :: r => match rt (cutSg w).2 (cutSg w).1, rts r with
    | some p, some ps => some (p :: ps)
    | _, _ => none
/-- what the parts tell -/
def tell (c : Int) (ts : Terms) : List (List Nat × Int) := ts.map (fun p => (cs p.1, p.2)) ++ (if c ≠ 0 ∨ ts = [] then [([], c)] else [])
/-- a form that can be written -/
structure Fine (ts : Terms) : Prop where
  srt : ts.Pairwise fun a b => sLt a.1 b.1
  nz : ∀ p ∈ ts, p.2 ≠ 0
  nm : ∀ p ∈ ts, isN (cs p.1) = true
def sgI (k : Int) : Int := if k < 0 then -1 else 1
theorem sgI_abs (k : Int) : sgI k * (k.natAbs : Int) = k := by unfold sgI; split <;> omega
theorem rt_told {n : List Nat} {k : Int} (hn : isN n = true) (hk : k ≠ 0) : rt (told n k) (sgI k) = some (n, k) := by
  have h42 : 42 ∉ n := fun h => (fd_ok (isN_all hn h)).2.1 rfl
  by_cases h1 : k.natAbs = 1
  · unfold told
    rw [if_pos h1]
    unfold rt
    rw [TL.par_none1 h42]
    simp only [hn, if_true]
    have : sgI k = k := by unfold sgI; split <;> omega
    rw [this]
  · unfold told
    rw [if_neg h1]
    unfold rt
    have hd : 42 ∉ TL.numL k.natAbs := fun h => by have := TL.numL_digits _ 42 h; omega
    have e : TL.numL k.natAbs ++ 42 :: n = TL.numL k.natAbs ++ ([42] ++ n) := by simp
    rw [e, TL.par_part1 (s := 42) (S := []) hd]
    simp only [hn, if_true, List.nil_append]
    have : readI (TL.numL k.natAbs) = some (k.natAbs : Int) := by
      have := readI_dec (k.natAbs : Int)
      unfold decL at this
      rw [if_neg (by omega), Int.natAbs_natCast] at this
      exact this
    rw [this]
    simp [sgI_abs]
theorem rt_const (c : Int) : rt (TL.numL c.natAbs) (sgI c) = some ([], c) := by
  have hd : 42 ∉ TL.numL c.natAbs := fun h => by have := TL.numL_digits _ 42 h; omega
  unfold rt
  rw [TL.par_none1 hd]
  simp only [isN_numL, Bool.false_eq_true, if_false]
  have : readI (TL.numL c.natAbs) = some (c.natAbs : Int) := by
    have := readI_dec (c.natAbs : Int)
    unfold decL at this
    rw [if_neg (by omega), Int.natAbs_natCast] at this
    exact this
  rw [this]
  simp [sgI_abs]
theorem told_ok {n : List Nat} {k : Int} (hn : isN n = true) : okP (decide (k < 0), told n k) := by
  have hall : ∀ c ∈ n, c ≠ 32 ∧ c ≠ 42 ∧ c ≠ 45 := fun c hc => by have := fd_ok (isN_all hn hc); exact ⟨this.1, this.2.1, this.2.2.1⟩
  obtain ⟨c0, r0, e0, _⟩ := isN_head hn
  unfold okP told
  simp only
  split
  · refine ⟨isN_ne hn, fun h => (hall 32 h).1 rfl, ?_⟩
    rw [e0]
    intro z
    exact (hall c0 (by rw [e0]; simp)).2.2 (Option.some.inj z)
  · obtain ⟨c, r, e, h1, h2⟩ := numL_cons k.natAbs
    refine ⟨by rw [e]; simp, fun h => ?_, ?_⟩
    · rcases List.mem_append.mp h with h | h
      · have := TL.numL_digits _ 32 h; omega
      · rcases List.mem_cons.mp h with h | h
        · cases h
        · exact (hall 32 h).1 rfl
    · rw [e]; simp; omega
theorem const_ok (c : Int) : okP (partC c) := by
  obtain ⟨d, r, e, h1, h2⟩ := numL_cons c.natAbs
  unfold okP partC
  simp only
  refine ⟨TL.numL_ne _, fun h => ?_, ?_⟩
  · have := TL.numL_digits _ 32 h; omega
  · rw [e]; simp; omega
/-- each part of a form, with what it tells -/
def pt (c : Int) (ts : Terms) : List (Part × (List Nat × Int)) := ts.map (fun p => ((decide (p.2 < 0), told (cs p.1) p.2), (cs p.1, p.2))) ++ (if c ≠ 0 ∨ ts = [] then [(partC c, ([], c))] else [])
theorem pt_fst (c : Int) (ts : Terms) : (pt c ts).map (·.1) = parts c ts := by
  unfold pt parts partsT
  rw [List.map_append, List.map_map]
  split <;> rfl
theorem pt_snd (c : Int) (ts : Terms) : (pt c ts).map (·.2) = tell c ts := by
  unfold pt tell
  rw [List.map_append, List.map_map]
  split <;> rfl
theorem pt_ok {c : Int} {ts : Terms} (h : Fine ts) : ∀ q ∈ pt c ts, okP q.1 ∧ rt q.1.2 (if q.1.1 = true then -1 else 1) = some q.2 := by
  intro q hq
  unfold pt at hq
  rcases List.mem_append.mp hq with hq | hq
  · obtain ⟨p, hp, rfl⟩ := List.mem_map.mp hq
    refine ⟨told_ok (h.nm p hp), ?_⟩
    have := rt_told (h.nm p hp) (h.nz p hp)
    unfold sgI at this
    simpa using this
  · split at hq
    · cases List.mem_singleton.mp hq
      refine ⟨const_ok c, ?_⟩
      have := rt_const c
      unfold sgI at this
      simpa [partC] using this
    · cases hq
theorem rts_ok : ∀ qs : List (Part × (List Nat × Int)), (∀ q ∈ qs, okP q.1 ∧ rt q.1.2 (if q.1.1 = true then -1 else 1) = some q.2) → rts (wordsT (qs.map (·.1))) = some (qs.map (·.2))
  | [], _ => rfl
  | q :: qs, h => by
    have h1 := (h q List.mem_cons_self).2
    have ih := rts_ok qs fun x hx => h x (List.mem_cons_of_mem _ hx)
    have e : wordsT ((q :: qs).map (·.1)) = opW q.1.1 :: q.1.2 :: wordsT (qs.map (·.1)) := by simp [wordsT]
    rw [e]
    unfold rts
    have ho : opSg (opW q.1.1) = some (if q.1.1 = true then -1 else 1) := by cases q.1.1 <;> rfl
    rw [ho, ih]
    simp only [Option.getD_some, h1]
    rfl
theorem parse_wf {c : Int} {ts : Terms} (h : Fine ts) : parse (wf c ts) = some (tell c ts) := by
  have hok := pt_ok (c := c) h
  have hne := parts_ne c ts
  rw [← pt_snd]
  have e1 := pt_fst c ts
  unfold wf
  rw [← e1]
  rw [← e1] at hne
  cases hp : pt c ts with
  | nil => rw [hp] at hne; exact absurd rfl hne
  | cons q qs =>
    rw [hp] at hok
    obtain ⟨h1, h2⟩ := hok q List.mem_cons_self
    obtain ⟨k1, k2, k3⟩ := h1
    have hw : joinW ((q :: qs).map (·.1)) = (sg0 q.1.1 ++ q.1.2) ++ tailW (qs.map (·.1)) := rfl
    have h32 : 32 ∉ sg0 q.1.1 ++ q.1.2 := fun z => by
      rcases List.mem_append.mp z with z | z
      · cases hb : q.1.1 <;> rw [hb] at z <;> simp [sg0] at z
      · exact k2 z
    have hs := spl_tail (qs.map (·.1)) _ h32 (fun p hp2 => by
      obtain ⟨x, hx, rfl⟩ := List.mem_map.mp hp2
      exact (hok x (List.mem_cons_of_mem _ hx)).1)
    have hr := rts_ok qs fun x hx => hok x (List.mem_cons_of_mem _ hx)
    have hc : cutSg (sg0 q.1.1 ++ q.1.2) = (if q.1.1 = true then -1 else 1, q.1.2) := by
      cases hb : q.1.1 with
      | true => simp [sg0, cutSg]
      | false =>
        cases hq : q.1.2 with
        | nil => exact absurd hq k1
        | cons d r =>
          rw [hq] at k3
          have : d ≠ 45 := by simpa using k3
          simp [sg0, cutSg, this]
    unfold parse
    rw [hw, hs]
    simp only [hc, h2, hr]
    rfl
theorem pt_len {c : Int} {ts : Terms} {d : Int} {us : Terms} (h : Fine ts) (h' : Fine us) (e : wf c ts = wf d us) : c = d ∧ ts = us := by
  have h1 := parse_wf (c := c) h
  rw [e, parse_wf h'] at h1
  have h1 := Option.some.inj h1
  have key : ∀ {c : Int} {ts : Terms}, Fine ts → (tell c ts).filter (fun p => p.1 ≠ []) = ts.map (fun p => (cs p.1, p.2)) ∧ ((tell c ts).filter (fun p => p.1 = [])).map (·.2) = if c ≠ 0 ∨ ts = [] then [c] else [] := by
    intro c ts h
    unfold tell
    have h1 : ∀ p ∈ ts.map (fun p : Str × Int => (cs p.1, p.2)), p.1 ≠ [] := fun p hp => by
      obtain ⟨q, hq, rfl⟩ := List.mem_map.mp hp
      exact isN_ne (h.nm q hq)
    refine ⟨?_, ?_⟩
    · rw [List.filter_append, List.filter_eq_self.mpr (by simpa using h1)]
      split <;> simp
    · rw [List.filter_append, List.filter_eq_nil_iff.mpr (by simpa using h1)]
      split <;> simp
  have a := key (c := c) h
  have b := key (c := d) h'
  rw [← h1] at a
  have e1 : ts.map (fun p => (cs p.1, p.2)) = us.map (fun p => (cs p.1, p.2)) := a.1.symm.trans b.1
  have e2 : ts = us := by
    have inj : ∀ {p q : Str × Int}, (cs p.1, p.2) = (cs q.1, q.2) → p = q := fun {p q} e => by
      have := Prod.mk.inj e
      exact Prod.ext (cs_inj this.1) this.2
    have : ∀ (ts us : Terms), ts.map (fun p => (cs p.1, p.2)) = us.map (fun p => (cs p.1, p.2)) → ts = us := by
      intro ts
      induction ts with
      | nil => intro us e; cases us with
        | nil => rfl
        | cons _ _ => cases e
      | cons p r ih => intro us e; cases us with
        | nil => cases e
        | cons q s =>
          simp only [List.map_cons, List.cons.injEq] at e
          rw [inj e.1, ih s e.2]
    exact this ts us e1
  refine ⟨?_, e2⟩
  have e3 := a.2.symm.trans b.2
  subst e2
  by_cases hc : c ≠ 0 ∨ ts = []
  · rw [if_pos hc] at e3
    by_cases hd : d ≠ 0 ∨ ts = []
    · rw [if_pos hd] at e3
      simpa using e3
    · rw [if_neg hd] at e3; cases e3
  · rw [if_neg hc] at e3
    by_cases hd : d ≠ 0 ∨ ts = []
    · rw [if_pos hd] at e3; cases e3
    · have : c = 0 := Classical.byContradiction fun z => hc (.inl z)
      have : d = 0 := Classical.byContradiction fun z => hd (.inl z)
      omega
/-! ### sizes -/
theorem tailW_mem {ps : List Part} {p : Part} (h : p ∈ ps) : p.2.length ≤ (tailW ps).length := by
  induction ps with
  | nil => cases h
  | cons q r ih =>
    unfold tailW
    rw [List.map_cons, List.flatten_cons, List.length_append, List.length_append]
    rcases List.mem_cons.mp h with rfl | h
    · omega
    · have := ih h
      unfold tailW at this
      omega
theorem joinW_mem {ps : List Part} {p : Part} (h : p ∈ ps) : p.2.length ≤ (joinW ps).length := by
  cases ps with
  | nil => cases h
  | cons q r =>
    show _ ≤ (sg0 q.1 ++ q.2 ++ tailW r).length
    rw [List.length_append, List.length_append]
    rcases List.mem_cons.mp h with rfl | h
    · omega
    · have := tailW_mem h; omega
theorem wf_num {c : Int} {ts : Terms} : (∀ p ∈ ts, (TL.numL p.2.natAbs).length ≤ (wf c ts).length + 1) ∧ (TL.numL c.natAbs).length ≤ (wf c ts).length + 1 := by
  refine ⟨fun p hp => ?_, ?_⟩
  · have hm : (decide (p.2 < 0), told (cs p.1) p.2) ∈ parts c ts := by
      unfold parts partsT
      exact List.mem_append_left _ (List.mem_map.mpr ⟨p, hp, rfl⟩)
    have h1 : (told (cs p.1) p.2).length ≤ (wf c ts).length := joinW_mem hm
    unfold told at h1
    split at h1
    · rename_i e
      rw [e, TL.numL_lt (by decide)]
      simp
    · rw [List.length_append] at h1; omega
  · by_cases h : c ≠ 0 ∨ ts = []
    · have hm : partC c ∈ parts c ts := by
        unfold parts
        rw [if_pos h]
        exact List.mem_append_right _ (by simp)
      have h1 : (TL.numL c.natAbs).length ≤ (wf c ts).length := joinW_mem hm
      omega
    · have : c = 0 := Classical.byContradiction fun z => h (.inl z)
      subst this
      rw [show (0 : Int).natAbs = 0 from rfl, TL.numL_lt (by decide)]
      simp
theorem wf_cnt {ps : List Part} (h : ∀ p ∈ ps, okP p) : (joinW ps).count 32 ≤ 2 * (ps.length - 1) := by
  have ht : ∀ ps : List Part, (∀ p ∈ ps, okP p) → (tailW ps).count 32 = 2 * ps.length := by
    intro ps
    induction ps with
    | nil => intro _; rfl
    | cons p r ih =>
      intro h
      have h1 := (h p List.mem_cons_self).2.1
      have h2 := ih fun q hq => h q (List.mem_cons_of_mem _ hq)
      unfold tailW at h2 ⊢
      rw [List.map_cons, List.flatten_cons, List.count_append, List.count_append, h2, List.count_eq_zero.mpr h1]
      have : (sg1 p.1).count 32 = 2 := by cases p.1 <;> decide
      rw [this, List.length_cons]
      omega
  cases ps with
  | nil => simp [joinW]
  | cons p r =>
    have h1 := (h p List.mem_cons_self).2.1
    show (sg0 p.1 ++ p.2 ++ tailW r).count 32 ≤ _
    rw [List.count_append, List.count_append, List.count_eq_zero.mpr h1, ht r fun q hq => h q (List.mem_cons_of_mem _ hq)]
    have : (sg0 p.1).count 32 = 0 := by cases p.1 <;> decide
    simp only [List.length_cons]
    omega
/-! ### joined and split -/
theorem joinL_cnt (S : List Nat) (c : Nat) : ∀ ps : List (List Nat), (TL.joinL S ps).count c = (ps.map (List.count c)).sum + (ps.length - 1) * S.count c
  | [] => by simp [TL.joinL]
  | [p] => by simp [TL.joinL]
  | p :: q :: r => by
    show (p ++ (S ++ TL.joinL S (q :: r))).count c = _
    rw [List.count_append, List.count_append, joinL_cnt S c (q :: r)]
    simp only [List.map_cons, List.sum_cons, List.length_cons]
    rw [show r.length + 1 + 1 - 1 = (r.length + 1 - 1) + 1 by omega, Nat.succ_mul]
    omega
theorem joinL_len (S : List Nat) : ∀ ps : List (List Nat), (TL.joinL S ps).length = (ps.map List.length).sum + (ps.length - 1) * S.length
  | [] => by simp [TL.joinL]
  | [p] => by simp [TL.joinL]
  | p :: q :: r => by
    show (p ++ (S ++ TL.joinL S (q :: r))).length = _
    rw [List.length_append, List.length_append, joinL_len S (q :: r)]
    simp only [List.map_cons, List.sum_cons, List.length_cons]
    rw [show r.length + 1 + 1 - 1 = (r.length + 1 - 1) + 1 by omega, Nat.succ_mul]
    omega
theorem sum_rev (l : List Nat) : l.reverse.sum = l.sum := by
  induction l with
  | nil => rfl
  | cons x l ih => rw [List.reverse_cons, List.sum_append, ih, List.sum_cons]; simp; omega
theorem rev_cnt (S : List Nat) (c : Nat) (ps : List (List Nat)) : (TL.joinL S ps.reverse).count c = (TL.joinL S ps).count c := by
  rw [joinL_cnt, joinL_cnt, List.map_reverse, sum_rev, List.length_reverse]
theorem rev_len (S : List Nat) (ps : List (List Nat)) : (TL.joinL S ps.reverse).length = (TL.joinL S ps).length := by
  rw [joinL_len, joinL_len, List.map_reverse, sum_rev, List.length_reverse]
theorem join_spl (S : List Nat) (hS : S ≠ []) (hk : S.all (· < 256) = true) (l : List Nat) : TL.joinL S (TL.spl S 0 [] l) = l := by
  have h := StrLaws.join_split (⟨l.toArray⟩ : Str) ⟨S.toArray⟩
  rw [show Txt.split (⟨l.toArray⟩ : Str) ⟨S.toArray⟩ = (TL.spl S 0 [] l).map SX.S from SX.split_S hS hk, ← TL.join_eq] at h
  rw [show Txt.join (⟨S.toArray⟩ : Str) ((TL.spl S 0 [] l).map SX.S) = SX.S (TL.joinL S (TL.spl S 0 [] l)) from SX.join_S S _] at h
  exact SX.S_inj h
end K66

/-! K66B: the promises. -/
namespace K66
open PySem L2 DW TX FormM
/-! ### data -/
def eP (p : Str × Int) : D := .tup [.str p.1, .int p.2]
def eF (c : Int) (ts : Terms) : D := .tup [.int c, .tup (ts.map eP)]
structure Sx where
  s : List Int
  a : Int
  b : Int
  c : Int
/-- the law's state, the first cell -/
def dst (x : Sx) : MO := .lst [.fl (x.s.map .int), .int x.a, .int x.b, .int x.c]
/-- a number of at most so many digits -/
def Dg (b : Nat) (i : Int) : Prop := (TL.numL i.natAbs).length ≤ b
/-! ### the program -/
def spr_write_integer : Nat → DSp
  | 0 => fun _ _ _ _ => False
  | k + 1 => fun ds st _ Q => ∃ n, ds = [.int n] ∧ (k = 0 → 0 ≤ n) ∧ (TL.numL n.natAbs).length ≤ 600 ∧ Q (tx (decL n)) st
theorem no_write_integer : ∀ ds st Ed Q, ¬ spr_write_integer 0 ds st Ed Q := fun _ _ _ _ h => h
abbrev sp_write_integer : DSp := spr_write_integer 2
def sp_read_integer (k_BadText : Addr) : DSp := fun ds st Ed Q => ∃ l, ds = [tx l] ∧ l.length ≤ 100000 ∧ (∀ n, readI l = some n → Q (.int n) st) ∧ (readI l = none → Ed k_BadText st)
def sp_form : DSp := fun ds st _ Q => ∃ c x ps, ds = [.int c, x] ∧ seqOf st x = some (ps.map eP) ∧ ps.length < 64 ∧ ∀ ts, Nf ts (coef ps) → Q (eF c ts) st
def wt (n : List Nat) (k : Int) : List Nat := if n = [] then TL.numL k.natAbs else told n k
def sp_write_term : DSp := fun ds st _ Q => ∃ n k, ds = [tx n, .int k] ∧ 0 ≤ k ∧ Dg 600 k ∧ n.length ≤ 1000 ∧ Q (tx (wt n k)) st
/-- a form that can be shown -/
structure Shown (c : Int) (ts : Terms) : Prop where
  len : ts.length < 64
  nm : ∀ p ∈ ts, cs p.1 ≠ [] ∧ (cs p.1).length ≤ 1000
  dg : ∀ p ∈ ts, Dg 500 p.2
  dc : Dg 500 c
def sp_write_form : DSp := fun ds st _ Q => ∃ c ts, ds = [eF c ts] ∧ Shown c ts ∧ Q (tx (wf c ts)) st
def sp_is_name : DSp := fun ds st _ Q => ∃ l, ds = [tx l] ∧ l.length ≤ 100000 ∧ Q (.bl (isN l)) st
def sp_read_term (k_BadText : Addr) : DSp := fun ds st Ed Q => ∃ l s, ds = [tx l, .int s] ∧ l.length ≤ 100000 ∧ (s = 1 ∨ s = -1) ∧ (∀ p, rt l s = some p → Q (.tup [tx p.1, .int p.2]) st) ∧ (rt l s = none → Ed k_BadText st)
def Short (l : List Nat) : Prop := l.length ≤ 300 ∧ l.count 32 ≤ 60
def sp_read_form (k_BadText : Addr) : DSp := fun ds st Ed Q => ∃ l, ds = [tx l] ∧ Short l ∧ (∀ c ts, Fine ts → wf c ts = l → Shown c ts → Q (eF c ts) st) ∧ ((∀ c ts, Fine ts → wf c ts ≠ l) → Ed k_BadText st)
/-! ### the law's own -/
def sp_law_start : DSp := fun ds st _ Q => ∃ s : List Int, ds = [.sl (s.map .int)] ∧ Q (.tl [.fl (s.map .int), .int 0, .int 0, .int 0]) st
def sp_law_draw : DSp := fun ds st _ Q => ∃ x m rest, ds = [.ref 0, .int m] ∧ st = dst x :: rest ∧ 0 < m ∧ m.natAbs.log2 < 9000 ∧ ∀ r x', 0 ≤ r → r < m → Q (.int r) (dst x' :: rest)
def sp_law_one_of : DSp := fun ds st _ Q => ∃ x items rest, ds = [.ref 0, .fl items] ∧ st = dst x :: rest ∧ items ≠ [] ∧ items.length < 1000 ∧ cls 1 items = true ∧ ∀ d x', d ∈ items → Q d (dst x' :: rest)
def sp_law_is_int : DSp := fun ds st _ Q => ∃ d t, ds = [d] ∧ typN st d = some t ∧ Q (.bl (t == "int")) st
mutual
/-- plain data, at most k deep -/
def dat : Nat → D → Prop
  | _, .int _ => True
  | _, .str _ => True
  | k + 1, .tup ds => ds.length < 1000000 ∧ dats k ds
  | _, _ => False
def dats : Nat → List D → Prop
  | _, [] => True
  | k, d :: ds => dat k d ∧ dats k ds
end
/-- the same data are the same -/
def sp_same (k : Nat) : DSp := fun ds st _ Q => ∃ d, ds = [d, d] ∧ dat k d ∧ Q (.bl true) st
def spr_law_same : Nat → DSp
  | 0 => fun _ _ _ _ => False
  | k + 1 => sp_same k
theorem no_law_same : ∀ ds st Ed Q, ¬ spr_law_same 0 ds st Ed Q := fun _ _ _ _ h => h
abbrev sp_law_same : DSp := spr_law_same 6
def sp_law_form : DSp := sp_form
def sp_law_some_name : DSp := fun ds st _ Q => ∃ x rest, ds = [.ref 0] ∧ st = dst x :: rest ∧ ∀ l x', isN l = true → l.length ≤ 4 → Q (tx l) (dst x' :: rest)
/-- a form that the law draws -/
structure Drawn (c : Int) (ts : Terms) : Prop where
  fine : Fine ts
  len : ts.length ≤ 4
  nm : ∀ p ∈ ts, (cs p.1).length ≤ 4
  dg : ∀ p ∈ ts, p.2.natAbs < 10 ^ 20
  dc : c.natAbs < 10 ^ 20
def sp_law_some_form : DSp := fun ds st _ Q => ∃ x rest, ds = [.ref 0] ∧ st = dst x :: rest ∧ ∀ c ts x', Drawn c ts → Q (eF c ts) (dst x' :: rest)
def sp_law_written : DSp := fun ds st _ Q => ∃ c ts, ds = [eF c ts] ∧ Fine ts ∧ Shown c ts ∧ Q (tx (wf c ts)) st
def sp_law_read (k_BadText k_MeanwithinError : Addr) : DSp := fun ds st _ Q => ∃ l, ds = [tx l] ∧ Short l ∧ (∀ c ts, Fine ts → wf c ts = l → Shown c ts → Q (.tup [eF c ts]) st) ∧ ((∀ c ts, Fine ts → wf c ts ≠ l) → Q (.tup []) st)
def Bent (l b : List Nat) : Prop := b.length ≤ 2 * l.length + 8 ∧ b.count 32 ≤ 2 * l.count 32 + 4
def sp_law_changed : DSp := fun ds st _ Q => ∃ x rest l, ds = [.ref 0, tx l] ∧ st = dst x :: rest ∧ l.length ≤ 300 ∧ ∀ (bs : List (List Nat)) x', (∀ b ∈ bs, Bent l b) → bs.length ≤ 100 → Q (.fl (bs.map tx)) (dst x' :: rest)
def sp_law : DSp := fun ds st _ Q => ∃ s : List Int, ds = [.sl (s.map .int)] ∧ st = [] ∧ ∀ st', Q (.bl true) st'
end K66

/-! K66N: what is read of a text. -/
namespace K66
open PySem L2 DW TX FormM
theorem Dg.lt {b : Nat} {i : Int} (h : Dg b i) : i.natAbs < 10 ^ b := by
  have h1 := digitsVal_lt (l := TL.numL i.natAbs) fun c hc => TL.numL_digits _ c hc
  have h2 : NumText.digitsVal (TL.numL i.natAbs) = i.natAbs := by
    have := readI_dec (i.natAbs : Int)
    rw [show decL (i.natAbs : Int) = TL.numL i.natAbs by unfold decL; rw [if_neg (by omega)]; rfl] at this
    rw [readI_pos (fun c hc => TL.numL_digits _ c hc) (TL.numL_ne _) (by
      by_cases h0 : i.natAbs = 0
      · rw [h0, TL.numL_lt (by decide)]; exact .inl rfl
      · exact .inr (numL_head0 (by omega)))] at this
    have := Option.some.inj this
    omega
  rw [h2] at h1
  exact Nat.lt_of_lt_of_le h1 (Nat.pow_le_pow_right (by decide) h)
theorem Dg.of {b : Nat} {i : Int} (hb : 0 < b) (h : i.natAbs < 10 ^ b) : Dg b i := TL.numL_len hb h
structure POk (p : List Nat × Int) : Prop where
  n : p.1 = [] ∨ isN p.1 = true
  l : p.1.length ≤ 300
  s : Sm 1000 p.2
theorem readI_sm {d : List Nat} {i : Int} (h : readI d = some i) (hl : d.length ≤ 300) : Sm 1000 i := by
  have e := readI_some h
  have : Dg 300 i := by
    unfold Dg
    rw [e] at hl
    unfold decL at hl
    split at hl
    · simp at hl; omega
    · exact hl
  exact Nat.lt_trans this.lt (by decide +kernel)
theorem sm_one {i : Int} (h : i.natAbs < 2) : Sm 1000 i := Nat.lt_of_lt_of_le h (show 2 ^ 1 ≤ 2 ^ 1000 from Nat.pow_le_pow_right (by decide) (by decide))
theorem sm_sg {b : Nat} {s i : Int} (h : Sm b i) (hs : s = 1 ∨ s = -1) : Sm b (s * i) := by
  rcases hs with rfl | rfl
  · rw [Int.one_mul]; exact h
  · rw [Int.neg_mul, Int.one_mul]; exact h.neg
theorem rt_ok {w : List Nat} {s : Int} {p : List Nat × Int} (h : rt w s = some p) (hs : s = 1 ∨ s = -1) (hl : w.length ≤ 300) : POk p := by
  unfold rt at h
  split at h
  · rename_i d n hp
    have key : ∀ {a acc p q : List Nat}, TL.par [42] acc a = some (p, q) → p.length ≤ acc.length + a.length ∧ q.length ≤ a.length := by
      intro a
      induction a with
      | nil => intro acc p q h; cases h
      | cons c r ih =>
        intro acc p q h
        by_cases hp : TL.pre [42] (c :: r) = true
        · rw [TL.par_hit hp] at h
          have := Option.some.inj h
          cases this
          simp
        · rw [TL.par_miss (by simpa using hp)] at h
          have := ih h
          simp at this ⊢
          omega
    obtain ⟨h1, h2⟩ := key hp
    simp only [List.length_nil, Nat.zero_add] at h1
    split at h
    · rename_i hn
      obtain ⟨i, hi, rfl⟩ := Option.map_eq_some_iff.mp h
      exact ⟨.inr hn, Nat.le_trans h2 hl, sm_sg (readI_sm hi (by omega)) hs⟩
    · cases h
  · split at h
    · rename_i hn
      cases Option.some.inj h
      exact ⟨.inr hn, hl, by rcases hs with rfl | rfl <;> exact sm_one (i := _) (by simp)⟩
    · obtain ⟨i, hi, rfl⟩ := Option.map_eq_some_iff.mp h
      exact ⟨.inl rfl, by simp, sm_sg (readI_sm hi hl) hs⟩
theorem opSg_s {o : List Nat} {s : Int} (h : opSg o = some s) : (o = [43] ∧ s = 1) ∨ (o = [45] ∧ s = -1) := by
  unfold opSg at h
  split at h
  · exact .inl ⟨by assumption, (Option.some.inj h).symm⟩
  · split at h
    · exact .inr ⟨by assumption, (Option.some.inj h).symm⟩
    · cases h
def consts (acc : List (List Nat × Int)) : List Int := acc.filterMap fun p => if p.1 = [] then some p.2 else none
def named (acc : List (List Nat × Int)) : Terms := acc.filterMap fun p => if p.1 = [] then none else some (⟨p.1.toArray⟩, p.2)
theorem named_tell {c : Int} {ts : Terms} (h : Fine ts) : named (tell c ts) = ts ∧ (consts (tell c ts)).sum = c := by
  have h1 : ∀ ts : Terms, (∀ p ∈ ts, isN (cs p.1) = true) → named (ts.map fun p => (cs p.1, p.2)) = ts ∧ consts (ts.map fun p => (cs p.1, p.2)) = [] := by
    intro ts
    induction ts with
    | nil => intro _; exact ⟨rfl, rfl⟩
    | cons p r ih =>
      intro h
      obtain ⟨a, b⟩ := ih fun q hq => h q (List.mem_cons_of_mem _ hq)
      have hp : cs p.1 ≠ [] := isN_ne (h p List.mem_cons_self)
      unfold named at a ⊢
      unfold consts at b ⊢
      rw [List.map_cons, List.filterMap_cons, List.filterMap_cons, a, b]
      simp only [if_neg hp]
      exact ⟨trivial, trivial⟩
  obtain ⟨a, b⟩ := h1 ts h.nm
  unfold named at a ⊢
  unfold consts at b ⊢
  unfold tell
  rw [List.filterMap_append, List.filterMap_append, a, b]
  by_cases hc : c ≠ 0 ∨ ts = []
  · rw [if_pos hc]
    exact ⟨by simp, by simp⟩
  · rw [if_neg hc]
    refine ⟨by simp, ?_⟩
    have : c = 0 := Classical.byContradiction fun z => hc (.inl z)
    subst this
    rfl
theorem read_ok {acc : List (List Nat × Int)} {ts : Terms} (ha : ∀ p ∈ acc, POk p) (hl : acc.length ≤ 60) (nf : Nf ts (coef (named acc))) : Fine ts ∧ Shown (consts acc).sum ts := by
  have hnl : (named acc).length ≤ 60 := Nat.le_trans (List.length_filterMap_le _ _) hl
  have hcl : (consts acc).length ≤ 60 := Nat.le_trans (List.length_filterMap_le _ _) hl
  have hnm : ∀ p ∈ named acc, isN (cs p.1) = true ∧ (cs p.1).length ≤ 300 ∧ Sm 1000 p.2 := fun p hp => by
    obtain ⟨q, hq, e⟩ := List.mem_filterMap.mp hp
    split at e
    · cases e
    · rename_i hne
      cases Option.some.inj e
      have := ha q hq
      exact ⟨by rw [cs_mk]; exact this.n.resolve_left hne, by rw [cs_mk]; exact this.l, this.s⟩
  have hin : InN ((named acc).map (·.1)) ts := nf.inN fun p hp => List.mem_map_of_mem hp
  have hname : ∀ p ∈ ts, isN (cs p.1) = true ∧ (cs p.1).length ≤ 300 := fun p hp => by
    obtain ⟨q, hq, e⟩ := List.mem_map.mp (hin p hp)
    have := hnm q hq
    rw [e] at this
    exact ⟨this.1, this.2.1⟩
  have big : (2 : Nat) ^ (1000 + 6) < 10 ^ 500 := by decide +kernel
  have hd : ∀ i, Sm (1000 + 6) i → Dg 500 i := fun i hi => Dg.of (by decide) (Nat.lt_trans hi big)
  refine ⟨⟨nf.srt, nf.nz, fun p hp => (hname p hp).1⟩, ⟨?_, fun p hp => ⟨isN_ne (hname p hp).1, by have := (hname p hp).2; omega⟩, fun p hp => hd _ ?_, hd _ ?_⟩⟩
  · have := nf.len hin
    rw [List.length_map] at this
    omega
  · have := nf.sms (b := 1000 + 6) (fun n => coef_sm (c := 6) (fun q hq => (hnm q hq).2.2) (by omega) n)
    exact this p hp
  · refine sum_sm' (c := 6) (fun x hx => ?_) (by omega)
    obtain ⟨q, hq, e⟩ := List.mem_filterMap.mp hx
    split at e
    · cases Option.some.inj e
      exact (ha q hq).s
    · cases e
end K66


namespace K66
open PySem PySem.Spec PyProof.Rows L2 DW
def d_write_integer (self : DSp) : DS :=
    (sSeq (sIf (dBool (dOp opLt (dVar 0) (dC (.int 0)))) (sRet (dOp opAdd (dC (.str "-")) (dCall self (dCons false (dNeg (dVar 0)) dNil)))) sNext)
    (sSeq (sAsg true 1 (dLst dNil))
    (sSeq (sWhile (dBool (dOp opGe (dVar 0) (dC v_BASE))) (sSeq (sAsgT (.tp [(.nm 0), (.nm 2)]) (dCB opDivmodW (dCons false (dVar 0) (dCons false (dC v_BASE) dNil))))
    (sExpr (dBM "list" opAppend (dVar 1) (dCons false (dBM "str" (opS gZfill) (dCB opStrI (dCons false (dVar 2) dNil)) (dCons false (dC (.int 64)) dNil)) dNil)))))
    (sSeq (sExpr (dBM "list" opAppend (dVar 1) (dCons false (dCB opStrI (dCons false (dVar 0) dNil)) dNil)))
    (sRet (dBM "str" opJoin (dC (.str "")) (dCons false (dRev (dVar 1)) dNil)))))))
def d_read_integer (k_BadText : Addr) : DS :=
    (sSeq (sAsg false 1 (dVar 0))
    (sSeq (sIf (dBool (dOp opEq (dSl (dVar 0) oNone (oSome (dC (.int 1)))) (dC (.str "-")))) (sAsg false 1 (dSl (dVar 0) (oSome (dC (.int 1))) oNone)) sNext)
    (sSeq (sIf (dOr (dBool (dOp opEq (dVar 1) (dC (.str "")))) (dAnd (dBool (dOp opEq (dOp opIx (dVar 1) (dC (.int 0))) (dC (.str "0")))) (dBool (dOp opNe (dVar 0) (dC (.str "0")))))) (sRaise k_BadText) sNext)
    (sSeq (sFor (.nm 2) (iSeq (dVar 1)) (sIf (dBool (dOp opNotIn (dVar 2) (dC v_DIGITS_digits))) (sRaise k_BadText) sNext))
    (sSeq (sAsg false 3 (dOp (opJ (fun _ j => j ≠ 0) fun i j => .int (i.fmod j)) (dCB opLen (dCons false (dVar 1) dNil)) (dC (.int 64))))
    (sSeq (sAsg false 4 (dC (.int 0)))
    (sSeq (sIf (dBool (dOp opGt (dVar 3) (dC (.int 0)))) (sAsg false 4 (dCB opInt (dCons false (dSl (dVar 1) oNone (oSome (dVar 3))) dNil))) sNext)
    (sSeq (sFor (.nm 5) (dRng3 (dCons false (dVar 3) (dCons false (dCB opLen (dCons false (dVar 1) dNil)) (dCons false (dC (.int 64)) dNil)))) (sAsg false 4 (dOp opAdd (dOp opMul (dVar 4) (dC v_BASE)) (dCB opInt (dCons false (dSl (dVar 1) (oSome (dVar 5)) (oSome (dOp opAdd (dVar 5) (dC (.int 64))))) dNil)))))
    (sSeq (sIf (dBool (dOp opEq (dOp opIx (dVar 0) (dC (.int 0))) (dC (.str "-")))) (sRet (dNeg (dVar 4))) sNext)
    (sRet (dVar 4)))))))))))
def d_form : DS :=
    (sSeq (sAsg true 2 dDic0)
    (sSeq (sFor (.tp [(.nm 3), (.nm 4)]) (iSeq (dVar 1)) (sSet false (dOp opAdd (dDGet2 (dVar 2) (dVar 3) (dC (.int 0))) (dVar 4)) (dVar 2) (dVar 3)))
    (sRet (dTup (dCons false (dVar 0) (dCons false (dCB opTuple (dCons false (dLc [3] (.nm 3) (iSeq (dCB opSorted (dCons false (dVar 2) dNil))) (dBool (dOp opNe (dOp opIx (dVar 2) (dVar 3)) (dC (.int 0)))) false (dTup (dCons false (dVar 3) (dCons false (dOp opIx (dVar 2) (dVar 3)) dNil)))) dNil)) dNil))))))
def d_write_term : DS :=
    (sSeq (sIf (dBool (dOp opEq (dVar 0) (dC (.str "")))) (sRet (dCall sp_write_integer (dCons false (dVar 1) dNil))) sNext)
    (sSeq (sIf (dBool (dOp opEq (dVar 1) (dC (.int 1)))) (sRet (dVar 0)) sNext)
    (sRet (dOp opAdd (dOp opAdd (dCall sp_write_integer (dCons false (dVar 1) dNil)) (dC (.str "*"))) (dVar 0)))))
def d_write_form : DS :=
    (sSeq (sAsg true 1 (dCB opList (dCons false (dOp opIx (dVar 0) (dC (.int 1))) dNil)))
    (sSeq (sIf (dOr (dBool (dOp opNe (dOp opIx (dVar 0) (dC (.int 0))) (dC (.int 0)))) (dNot (dTruth (dVar 1)))) (sExpr (dBM "list" opAppend (dVar 1) (dCons false (dTup (dCons false (dC (.str "")) (dCons false (dOp opIx (dVar 0) (dC (.int 0))) dNil))) dNil))) sNext)
    (sSeq (sAsg false 2 (dC (.str "")))
    (sSeq (sFor (.tp [(.nm 3), (.nm 4)]) (iSeq (dVar 1)) (sSeq (sIf (dBool (dOp opEq (dVar 2) (dC (.str "")))) (sAsg false 2 (dIf (dBool (dOp opLt (dVar 4) (dC (.int 0)))) (dC (.str "-")) (dC (.str "")))) (sAug false iop_add 2 (dIf (dBool (dOp opLt (dVar 4) (dC (.int 0)))) (dC (.str " - ")) (dC (.str " + ")))))
    (sAug false iop_add 2 (dCall sp_write_term (dCons false (dVar 3) (dCons false (dCB opAbs (dCons false (dVar 4) dNil)) dNil))))))
    (sRet (dVar 2))))))
def d_is_name : DS :=
    (sSeq (sFor (.nm 1) (iSeq (dVar 0)) (sIf (dAnd (dBool (dOp opNotIn (dVar 1) (dC v_FIRST))) (dBool (dOp opNotIn (dVar 1) (dC v_DIGITS_formtext)))) (sRet (dC (.bl false))) sNext))
    (sRet (dAndV (dOp opNe (dVar 0) (dC (.str ""))) (dOp opNotIn (dOp opIx (dVar 0) (dC (.int 0))) (dC v_DIGITS_formtext)))))
def d_read_term (k_BadText : Addr) : DS :=
    (sSeq (sAsgT (.tp [(.nm 2), (.nm 3), (.nm 4)]) (dBM "str" (opS gPart) (dVar 0) (dCons false (dC (.str "*")) dNil)))
    (sSeq (sIf (dAnd (dBool (dOp opEq (dVar 3) (dC (.str "")))) (dTruth (dCall sp_is_name (dCons false (dVar 2) dNil)))) (sRet (dTup (dCons false (dVar 2) (dCons false (dVar 1) dNil)))) sNext)
    (sSeq (sIf (dAnd (dBool (dOp opNe (dVar 3) (dC (.str "")))) (dNot (dTruth (dCall sp_is_name (dCons false (dVar 4) dNil))))) (sRaise k_BadText) sNext)
    (sRet (dTup (dCons false (dVar 4) (dCons false (dOp opMul (dVar 1) (dCall (sp_read_integer k_BadText) (dCons false (dVar 2) dNil))) dNil)))))))
def d_read_form (k_BadText : Addr) : DS :=
    (sSeq (sAsg false 1 (dBM "str" (opS gSplit) (dVar 0) (dCons false (dC (.str " ")) dNil)))
    (sSeq (sAsg false 2 (dOp opIx (dVar 1) (dC (.int 0))))
    (sSeq (sAsg false 3 (dC (.int 1)))
    (sSeq (sIf (dBool (dOp opEq (dSl (dVar 2) oNone (oSome (dC (.int 1)))) (dC (.str "-")))) (sSeq (sAsg false 3 (dNeg (dC (.int 1))))
    (sAsg false 2 (dSl (dVar 2) (oSome (dC (.int 1))) oNone))) sNext)
    (sSeq (sAsg true 4 (dLst (dCons false (dCall (sp_read_term k_BadText) (dCons false (dVar 2) (dCons false (dVar 3) dNil))) dNil)))
    (sSeq (sIf (dBool (dOp opEq (dOp (opJ (fun _ j => j ≠ 0) fun i j => .int (i.fmod j)) (dCB opLen (dCons false (dVar 1) dNil)) (dC (.int 2))) (dC (.int 0)))) (sRaise k_BadText) sNext)
    (sSeq (sFor (.nm 5) (dRng3 (dCons false (dC (.int 1)) (dCons false (dCB opLen (dCons false (dVar 1) dNil)) (dCons false (dC (.int 2)) dNil)))) (sSeq (sIf (dBool (dOp opNotIn (dOp opIx (dVar 1) (dVar 5)) (dTup (dCons false (dC (.str "+")) (dCons false (dC (.str "-")) dNil))))) (sRaise k_BadText) sNext)
    (sExpr (dBM "list" opAppend (dVar 4) (dCons false (dCall (sp_read_term k_BadText) (dCons false (dOp opIx (dVar 1) (dOp opAdd (dVar 5) (dC (.int 1)))) (dCons false (dIf (dBool (dOp opEq (dOp opIx (dVar 1) (dVar 5)) (dC (.str "+")))) (dC (.int 1)) (dNeg (dC (.int 1)))) dNil))) dNil)))))
    (sSeq (sAsg false 6 (dCall sp_form (dCons false (dCB opSum (dCons false (dLc [7, 8] (.tp [(.nm 7), (.nm 8)]) (iSeq (dVar 4)) (dBool (dOp opEq (dVar 7) (dC (.str "")))) false (dVar 8)) dNil)) (dCons false (dLc [9] (.nm 9) (iSeq (dVar 4)) (dBool (dOp opNe (dOp opIx (dVar 9) (dC (.int 0))) (dC (.str "")))) false (dVar 9)) dNil))))
    (sSeq (sIf (dBool (dOp opNe (dCall sp_write_form (dCons false (dVar 6) dNil)) (dVar 0))) (sRaise k_BadText) sNext)
    (sRet (dVar 6)))))))))))
def d_law_start : DS :=
    (sRet (dLst (dCons false (dCB opList (dCons false (dVar 0) dNil)) (dCons false (dC (.int 0)) (dCons false (dC (.int 0)) (dCons false (dC (.int 0)) dNil))))))
def d_law_draw : DS :=
    (sSeq (sSet false (dOp opAdd (dOp opIx (dVar 0) (dC (.int 3))) (dC (.int 1))) (dVar 0) (dC (.int 3)))
    (sSeq (sIf (dBool (dOp opGt (dOp opIx (dVar 0) (dC (.int 2))) (dC (.int 0)))) (sSeq (sAsg false 2 (dOp (opJ (fun _ j => j ≠ 0) fun i j => .int (i.fmod j)) (dCB opInt (dCons false (dOp opIx (dVar 0) (dC (.int 2))) dNil)) (dVar 1)))
    (sSeq (sSet false (dOp (opJ CDivD fun i j => .int (i.fdiv j)) (dOp opIx (dVar 0) (dC (.int 2))) (dVar 1)) (dVar 0) (dC (.int 2)))
    (sRet (dVar 2)))) sNext)
    (sSeq (sAsg false 3 (dC (.int 0)))
    (sSeq (sIf (dBool (dOp opGt (dCB opLen (dCons false (dOp opIx (dVar 0) (dC (.int 0))) dNil)) (dC (.int 0)))) (sAsg false 3 (dCB opAbs (dCons false (dOp opIx (dOp opIx (dVar 0) (dC (.int 0))) (dOp (opJ (fun _ j => j ≠ 0) fun i j => .int (i.fmod j)) (dCB opInt (dCons false (dOp opIx (dVar 0) (dC (.int 1))) dNil)) (dCB opLen (dCons false (dOp opIx (dVar 0) (dC (.int 0))) dNil)))) dNil))) sNext)
    (sSeq (sSet false (dOp opAdd (dOp opIx (dVar 0) (dC (.int 1))) (dC (.int 1))) (dVar 0) (dC (.int 1)))
    (sSeq (sIf (dBool (dOp opGe (dVar 3) (dOp (opJ CPow fun i j => .int (i ^ j.toNat)) (dC (.int 10)) (dC (.int 18))))) (sSeq (sSet false (dOp (opJ CDivD fun i j => .int (i.fdiv j)) (dVar 3) (dVar 1)) (dVar 0) (dC (.int 2)))
    (sRet (dOp (opJ (fun _ j => j ≠ 0) fun i j => .int (i.fmod j)) (dCB opInt (dCons false (dVar 3) dNil)) (dVar 1)))) sNext)
    (sSeq (sAsg false 4 (dOp (opJ (fun _ j => j ≠ 0) fun i j => .int (i.fmod j)) (dCB opInt (dCons false (dOp opAdd (dOp opMul (dOp opAdd (dVar 3) (dC (.int 1))) (dC (.int 48271))) (dOp opMul (dOp opIx (dVar 0) (dC (.int 3))) (dC (.int 69621)))) dNil)) (dC (.int 2147483647))))
    (sSeq (sAsg false 4 (dOp (opJ (fun _ j => j ≠ 0) fun i j => .int (i.fmod j)) (dCB opInt (dCons false (dOp opAdd (dOp opAdd (dOp opMul (dVar 4) (dC (.int 16807))) (dOp (opJ CDivD fun i j => .int (i.fdiv j)) (dVar 3) (dC (.int 97)))) (dOp opIx (dVar 0) (dC (.int 3)))) dNil)) (dC (.int 2147483629))))
    (sRet (dOp (opJ (fun _ j => j ≠ 0) fun i j => .int (i.fmod j)) (dOp (opJ CDivD fun i j => .int (i.fdiv j)) (dVar 4) (dC (.int 11))) (dVar 1)))))))))))
def d_law_one_of : DS :=
    (sRet (dOp opIx (dVar 1) (dCall sp_law_draw (dCons false (dVar 0) (dCons false (dCB opLen (dCons false (dVar 1) dNil)) dNil)))))
def d_law_is_int : DS :=
    (sRet (dAndV (dCB opIsi (dCons false (dVar 0) (dCons false (dC (.ty "int")) dNil))) (dNotV (dCB opIsi (dCons false (dVar 0) (dCons false (dC (.ty "bool")) dNil))))))
def d_law_same (self : DSp) : DS :=
    (sSeq (sIf (dTruth (dCB opIsi (dCons false (dVar 1) (dCons false (dC (.ty "tuple")) dNil)))) (sSeq (sIf (dOr (dNot (dTruth (dCB opIsi (dCons false (dVar 0) (dCons false (dC (.ty "tuple")) dNil))))) (dBool (dOp opNe (dCB opLen (dCons false (dVar 0) dNil)) (dCB opLen (dCons false (dVar 1) dNil))))) (sRet (dC (.bl false))) sNext)
    (sRet (dCB opAll (dCons false (dLc [2] (.nm 2) (iRng1 (dCons false (dCB opLen (dCons false (dVar 1) dNil)) dNil)) dYes false (dCall self (dCons false (dOp opIx (dVar 0) (dVar 2)) (dCons false (dOp opIx (dVar 1) (dVar 2)) dNil)))) dNil)))) sNext)
    (sSeq (sIf (dTruth (dCB opIsi (dCons false (dVar 1) (dCons false (dC (.ty "str")) dNil)))) (sRet (dAndV (dCB opIsi (dCons false (dVar 0) (dCons false (dC (.ty "str")) dNil))) (dOp opEq (dVar 0) (dVar 1)))) sNext)
    (sRet (dAndV (dCall sp_law_is_int (dCons false (dVar 0) dNil)) (dOp opEq (dVar 0) (dVar 1))))))
def d_law_form : DS :=
    (sSeq (sAsg true 2 dDic0)
    (sSeq (sFor (.tp [(.nm 3), (.nm 4)]) (iSeq (dVar 1)) (sSet false (dOp opAdd (dDGet2 (dVar 2) (dVar 3) (dC (.int 0))) (dVar 4)) (dVar 2) (dVar 3)))
    (sRet (dTup (dCons false (dVar 0) (dCons false (dCB opTuple (dCons false (dLc [3] (.nm 3) (iSeq (dCB opSorted (dCons false (dVar 2) dNil))) (dBool (dOp opNe (dOp opIx (dVar 2) (dVar 3)) (dC (.int 0)))) false (dTup (dCons false (dVar 3) (dCons false (dOp opIx (dVar 2) (dVar 3)) dNil)))) dNil)) dNil))))))
def d_law_some_name : DS :=
    (sSeq (sAsg false 1 (dCall sp_law_one_of (dCons false (dVar 0) (dCons false (dLst (dCons false (dC (.str "@")) (dCons false (dC (.str "#")) (dCons false (dC (.str "?")) (dCons false (dC (.str "_")) (dCons false (dC (.str ".")) (dCons false (dC (.str "a")) (dCons false (dC (.str "n")) (dCons false (dC (.str "z")) (dCons false (dC (.str "@#")) dNil)))))))))) dNil))))
    (sRet (dOp opAdd (dVar 1) (dBM "str" opJoin (dC (.str "")) (dCons false (dLc [2] (.nm 2) (iRng1 (dCons false (dCall sp_law_draw (dCons false (dVar 0) (dCons false (dC (.int 3)) dNil))) dNil)) dYes false (dCall sp_law_one_of (dCons false (dVar 0) (dCons false (dLst (dCons false (dC (.str "a")) (dCons false (dC (.str "b")) (dCons false (dC (.str "0")) (dCons false (dC (.str "7")) (dCons false (dC (.str "_")) (dCons false (dC (.str ".")) (dCons false (dC (.str "@")) (dCons false (dC (.str "#")) (dCons false (dC (.str "?")) dNil)))))))))) dNil)))) dNil)))))
def d_law_some_form : DS :=
    (sSeq (sAsg false 1 (dLc [3] (.nm 3) (iRng1 (dCons false (dCall sp_law_draw (dCons false (dVar 0) (dCons false (dC (.int 5)) dNil))) dNil)) dYes false (dCall sp_law_some_name (dCons false (dVar 0) dNil))))
    (sSeq (sAsg false 2 (dLc [4] (.nm 4) (iSeq (dSortSet (dVar 1))) dYes false (dTup (dCons false (dVar 4) (dCons false (dCall sp_law_one_of (dCons false (dVar 0) (dCons false (dLst (dCons false (dC (.int 1)) (dCons false (dNeg (dC (.int 1))) (dCons false (dC (.int 1)) (dCons false (dNeg (dC (.int 1))) (dCons false (dC (.int 2)) (dCons false (dNeg (dC (.int 3))) (dCons false (dC (.int 10)) (dCons false (dC (.int 12345678901234567890)) dNil))))))))) dNil))) dNil)))))
    (sRet (dCall sp_law_form (dCons false (dCall sp_law_one_of (dCons false (dVar 0) (dCons false (dLst (dCons false (dC (.int 0)) (dCons false (dC (.int 0)) (dCons false (dC (.int 1)) (dCons false (dNeg (dC (.int 1))) (dCons false (dC (.int 7)) (dCons false (dNeg (dC (.int 12))) (dCons false (dC (.int 98765432109876543210)) dNil)))))))) dNil))) (dCons false (dVar 2) dNil))))))
def d_law_written : DS :=
    (sSeq (sAsg true 1 (dLst dNil))
    (sSeq (sFor (.tp [(.nm 2), (.nm 3)]) (iSeq (dOp opIx (dVar 0) (dC (.int 1)))) (sSeq (sAsg false 4 (dVar 2))
    (sSeq (sIf (dBool (dOp opNe (dCB opAbs (dCons false (dVar 3) dNil)) (dC (.int 1)))) (sAsg false 4 (dOp opAdd (dOp opAdd (dCB opStrI (dCons false (dCB opAbs (dCons false (dVar 3) dNil)) dNil)) (dC (.str "*"))) (dVar 2))) sNext)
    (sExpr (dBM "list" opAppend (dVar 1) (dCons false (dTup (dCons false (dOp opLt (dVar 3) (dC (.int 0))) (dCons false (dVar 4) dNil))) dNil))))))
    (sSeq (sIf (dOr (dBool (dOp opNe (dOp opIx (dVar 0) (dC (.int 0))) (dC (.int 0)))) (dBool (dOp (opEqL false) (dVar 1) (dLst dNil)))) (sExpr (dBM "list" opAppend (dVar 1) (dCons false (dTup (dCons false (dOp opLt (dOp opIx (dVar 0) (dC (.int 0))) (dC (.int 0))) (dCons false (dCB opStrI (dCons false (dCB opAbs (dCons false (dOp opIx (dVar 0) (dC (.int 0))) dNil)) dNil)) dNil))) dNil))) sNext)
    (sSeq (sAsg false 5 (dOp opAdd (dOp opIx (dLst (dCons false (dC (.str "")) (dCons false (dC (.str "-")) dNil))) (dCB opInt (dCons false (dOp opIx (dOp opIx (dVar 1) (dC (.int 0))) (dC (.int 0))) dNil))) (dOp opIx (dOp opIx (dVar 1) (dC (.int 0))) (dC (.int 1)))))
    (sSeq (sFor (.tp [(.nm 6), (.nm 4)]) (iSeq (dSl (dVar 1) (oSome (dC (.int 1))) oNone)) (sAsg false 5 (dOp opAdd (dOp opAdd (dVar 5) (dOp opIx (dLst (dCons false (dC (.str " + ")) (dCons false (dC (.str " - ")) dNil))) (dCB opInt (dCons false (dVar 6) dNil)))) (dVar 4))))
    (sRet (dVar 5)))))))
def d_law_read (k_BadText : Addr) (k_MeanwithinError : Addr) : DS :=
    (sTryAs [(k_BadText, true)] 1 (sRet (dTup (dCons false (dCall (sp_read_form k_BadText) (dCons false (dVar 0) dNil)) dNil))) (fun C a => sOnly (C = k_BadText) (sRet (dOp opIx (dLst (dCons false (dC (.str "none")) (dCons false (dTup dNil) dNil))) (dCB opInt (dCons false (dCB (opIsE a k_MeanwithinError true) (dCons false (dVar 1) (dCons false (dC (.con k_MeanwithinError)) dNil))) dNil))))))
def d_law_changed : DS :=
    (sSeq (sAsg false 2 (dBM "str" (opS gSplit) (dVar 1) (dCons false (dC (.str " + ")) dNil)))
    (sSeq (sAsg false 3 (dLst (dCons false (dOp opAdd (dVar 1) (dC (.str " "))) (dCons false (dOp opAdd (dC (.str " ")) (dVar 1)) (dCons false (dOp opAdd (dVar 1) (dC (.str " + 0"))) (dCons false (dOp opAdd (dC (.str "1*")) (dVar 1)) (dCons false (dOp opAdd (dC (.str "0*i + ")) (dVar 1)) (dCons false (dOp opAdd (dC (.str "-")) (dVar 1)) (dCons false (dOp opAdd (dC (.str "+")) (dVar 1)) (dCons false (dOp opAdd (dVar 1) (dC (.str " - "))) (dCons false (dOp opAdd (dVar 1) (dC (.str " + i"))) (dCons false (dOp opAdd (dVar 1) (dVar 1)) (dCons false (dBM "str" opJoin (dC (.str " + ")) (dCons false (dRev (dVar 2)) dNil)) (dCons false (dC (.str "")) dNil))))))))))))))
    (sSeq (sFor (.nm 4) (iRng1 (dCons false (dC (.int 14)) dNil)) (sSeq (sAsg false 5 (dCall sp_law_draw (dCons false (dVar 0) (dCons false (dOp opAdd (dCB opLen (dCons false (dVar 1) dNil)) (dC (.int 1))) dNil))))
    (sSeq (sAsg false 6 (dCall sp_law_one_of (dCons false (dVar 0) (dCons false (dLst (dCons false (dC (.str "*")) (dCons false (dC (.str " ")) (dCons false (dC (.str "+")) (dCons false (dC (.str "-")) (dCons false (dC (.str "0")) (dCons false (dC (.str "1")) (dCons false (dC (.str "i")) (dCons false (dC (.str "@")) (dCons false (dC (.str "(")) (dCons false (dC (.str "A")) (dCons false (dC (.str "'")) (dCons false (dC (.str "\n")) dNil))))))))))))) dNil))))
    (sAsg false 3 (dOp opAdd (dVar 3) (dLst (dCons false (dOp opAdd (dSl (dVar 1) oNone (oSome (dVar 5))) (dSl (dVar 1) (oSome (dOp opAdd (dVar 5) (dC (.int 1)))) oNone)) (dCons false (dOp opAdd (dOp opAdd (dSl (dVar 1) oNone (oSome (dVar 5))) (dVar 6)) (dSl (dVar 1) (oSome (dOp opAdd (dVar 5) (dC (.int 1)))) oNone)) (dCons false (dOp opAdd (dOp opAdd (dSl (dVar 1) oNone (oSome (dVar 5))) (dVar 6)) (dSl (dVar 1) (oSome (dVar 5)) oNone)) (dCons false (dOp opAdd (dOp opAdd (dSl (dVar 1) oNone (oSome (dVar 5))) (dSl (dVar 1) (oSome (dVar 5)) (oSome (dOp opAdd (dVar 5) (dC (.int 1)))))) (dSl (dVar 1) (oSome (dVar 5)) oNone)) dNil))))))))))
    (sRet (dVar 3)))))
def d_law (k_BadText : Addr) (k_MeanwithinError : Addr) : DS :=
    (sSeq (sAsg true 1 (dCall sp_law_start (dCons false (dVar 0) dNil)))
    (sSeq (sFor (.nm 2) (iRng1 (dCons false (dC (.int 5)) dNil)) (sSeq (sAsg false 3 (dCall sp_law_some_form (dCons false (dVar 1) dNil)))
    (sSeq (sAsg false 4 (dCall sp_law_written (dCons false (dVar 3) dNil)))
    (sSeq (sIf (dOr (dNot (dTruth (dCall sp_law_same (dCons false (dCall sp_write_form (dCons false (dVar 3) dNil)) (dCons false (dVar 4) dNil))))) (dNot (dTruth (dCall sp_law_same (dCons false (dCall (sp_law_read k_BadText k_MeanwithinError) (dCons false (dVar 4) dNil)) (dCons false (dTup (dCons false (dVar 3) dNil)) dNil)))))) (sRet (dC (.bl false))) sNext)
    (sFor (.nm 5) (iSeq (dCall sp_law_changed (dCons false (dVar 1) (dCons false (dVar 4) dNil)))) (sSeq (sAsg false 6 (dCall (sp_law_read k_BadText k_MeanwithinError) (dCons false (dVar 5) dNil)))
    (sIf (dAnd (dBool (dOp opNe (dVar 6) (dTup dNil))) (dOr (dBool (dOp opNe (dCB opLen (dCons false (dVar 6) dNil)) (dC (.int 1)))) (dOr (dBool (dOp opNe (dCall sp_law_written (dCons false (dOp opIx (dVar 6) (dC (.int 0))) dNil)) (dVar 5))) (dBool (dOp opNe (dCall sp_write_form (dCons false (dOp opIx (dVar 6) (dC (.int 0))) dNil)) (dVar 5)))))) (sRet (dC (.bl false))) sNext)))))))
    (sSeq (sAsg false 7 (dLst (dCons false (dC (.str "")) (dCons false (dC (.str "-0")) (dCons false (dC (.str "00")) (dCons false (dC (.str "0 + i")) (dCons false (dC (.str "i + i")) (dCons false (dC (.str "j + i")) (dCons false (dC (.str "1 + i")) (dCons false (dC (.str "i +1")) (dCons false (dC (.str "i+1")) (dCons false (dC (.str "2i")) (dCons false (dC (.str "2 * i")) (dCons false (dC (.str "0*i")) (dCons false (dC (.str "1*i")) (dCons false (dC (.str "i - -1")) (dCons false (dC (.str "i + 01")) (dCons false (dC (.str "I")) (dCons false (dC (.str "3*")) (dCons false (dC (.str "*i")) (dCons false (dC (.str "9a")) (dCons false (dC (.str "i j")) (dCons false (dC (.str "- i")) (dCons false (dC (.str "--i")) (dCons false (dC (.str "i + ")) (dCons false (dC (.str "i - 0")) dNil))))))))))))))))))))))))))
    (sSeq (sAsg false 8 (dLst (dCons false (dTup (dCons false (dC (.str "-@n + 2*i + 3")) (dCons false (dTup (dCons false (dC (.int 3)) (dCons false (dTup (dCons false (dTup (dCons false (dC (.str "@n")) (dCons false (dNeg (dC (.int 1))) dNil))) (dCons false (dTup (dCons false (dC (.str "i")) (dCons false (dC (.int 2)) dNil))) dNil))) dNil))) dNil))) (dCons false (dTup (dCons false (dC (.str "i - 1")) (dCons false (dTup (dCons false (dNeg (dC (.int 1))) (dCons false (dTup (dCons false (dTup (dCons false (dC (.str "i")) (dCons false (dC (.int 1)) dNil))) dNil)) dNil))) dNil))) (dCons false (dTup (dCons false (dC (.str "0")) (dCons false (dTup (dCons false (dC (.int 0)) (dCons false (dTup dNil) dNil))) dNil))) (dCons false (dTup (dCons false (dC (.str "-7")) (dCons false (dTup (dCons false (dNeg (dC (.int 7))) (dCons false (dTup dNil) dNil))) dNil))) dNil))))))
    (sRet (dAndV (dCB opAll (dCons false (dLc [4] (.nm 4) (iSeq (dVar 7)) dYes false (dOp opEq (dCall (sp_law_read k_BadText k_MeanwithinError) (dCons false (dVar 4) dNil)) (dTup dNil))) dNil)) (dCB opAll (dCons false (dLc [4, 3] (.tp [(.nm 4), (.nm 3)]) (iSeq (dVar 8)) dYes false (dCall sp_law_same (dCons false (dCall (sp_law_read k_BadText k_MeanwithinError) (dCons false (dVar 4) dNil)) (dCons false (dTup (dCons false (dVar 3) dNil)) dNil)))) dNil))))))))
end K66


namespace K66
open PySem L2 DW TX
def B64 : Nat := 10 ^ 64
theorem vB : v_BASE = D.int (B64 : Int) := congrArg D.int (by decide)
theorem B64_pos : 0 < B64 := by decide
theorem l_minus : D.str (Str.ofString "-") = tx [45] := rfl
theorem l_nil : D.str (Str.ofString "") = tx [] := rfl
theorem l_0 : D.str (Str.ofString "0") = tx [48] := rfl
theorem b_write_integer (k : Nat) : BodyOk N_write_integer P_write_integer (spr_write_integer (k + 1)) (d_write_integer (spr_write_integer k)) := by
  rintro ds st Ed Q ⟨n, rfl, h0, hl, h⟩
  refine ⟨rfl, ?_⟩
  unfold d_write_integer
  simp only [List.map_cons, List.map_nil, List.length_cons, List.length_nil, N_write_integer, Nat.reduceAdd, Nat.reduceSub, List.replicate, List.cons_append, List.nil_append]
  refine seq_i fun nx hnx => ?_
  simp -implicitDefEqProofs
  by_cases hn : n < 0
  · rw [if_pos hn]
    cases k with
    | zero => exact absurd (h0 rfl) (by omega)
    | succ k =>
      refine ⟨-n, rfl, fun _ => by omega, by simpa using hl, ?_⟩
      have e : decL n = 45 :: decL (-n) := by
        unfold decL
        rw [if_pos hn, if_neg (by omega), Int.natAbs_neg]
      have hl2 : (decL (-n)).length ≤ 600 := by
        unfold decL
        rw [if_neg (by omega), Int.natAbs_neg]
        exact hl
      simp -implicitDefEqProofs [l_minus]
      refine ⟨len_size (by omega), leave_stay ?_⟩
      rw [← e]
      exact h
  · rw [if_neg hn]
    apply hnx
    clear hnx
    refine seq_i fun nx hnx => ?_
    simp -implicitDefEqProofs
    apply hnx
    clear hnx
    obtain ⟨m, rfl⟩ := Int.eq_ofNat_of_zero_le (show 0 ≤ n by omega)
    rw [show decL (m : Int) = TL.numL m by unfold decL; rw [if_neg (by omega)]; rfl] at h
    simp only [Int.natAbs_natCast] at hl
    refine seq_i fun nx hnx => ?_
    refine while_by (fun j env s => ∃ (q : Nat) (cs : List (List Nat)) (z : Option D), env = [some (D.int q), some (D.ref st.length), z] ∧ s = st ++ [.lst (cs.map tx)] ∧ TL.numL m = TL.numL q ++ cs.reverse.flatten ∧ (TL.numL q).length ≤ j ∧ cs.length + (TL.numL q).length ≤ 600) 600 ⟨m, [], none, rfl, rfl, by simp, hl, by simpa using hl⟩ ?_
    rintro j env s ⟨q, cs, z, rfl, rfl, e1, e2, e3⟩ nx2 hnx2
    simp -implicitDefEqProofs [vB]
    by_cases hq : B64 ≤ q
    · rw [if_pos hq]
      refine seq_i fun nx3 hnx3 => ?_
      simp -implicitDefEqProofs [vB]
      refine ⟨divp_lg (by decide) (by decide), ?_⟩
      apply hnx3
      clear hnx3
      rw [show (q : Int) % (B64 : Int) = ((q % B64 : Nat) : Int) from rfl, show (q : Int) / (B64 : Int) = ((q / B64 : Nat) : Int) from rfl]
      have hb : TL.numL q = TL.numL (q / B64) ++ (List.replicate (64 - (TL.numL (q % B64)).length) 48 ++ TL.numL (q % B64)) := numL_big (k := 64) (by decide) hq
      have hlow : q % B64 < B64 := Nat.mod_lt _ (by decide)
      have hlen : (TL.numL (q % B64)).length ≤ 64 := TL.numL_len (by decide) hlow
      have hbl := congrArg List.length hb
      simp only [List.length_append, List.length_replicate] at hbl
      generalize q % B64 = low at *
      generalize q / B64 = q' at *
      simp -implicitDefEqProofs
      refine ⟨tyOk_list (last_get _ _), log_small (k := 220) (Nat.lt_trans hlow (by decide)) (by decide), ?_⟩
      have hz : ∀ c, (TL.numL low).head? = some c → c ≠ 43 ∧ c ≠ 45 := fun c hc => by
        have := TL.numL_digits low c (List.mem_of_head? hc)
        omega
      refine Eq.mpr (opZfill_tx hz) ⟨by decide, ?_⟩
      refine Eq.mpr (opAppend_e (last_get _ _)) ⟨len_lt (by simp; omega), hnx2 (j - 1) _ _ ?_ ⟨q', cs ++ [List.replicate (64 - (TL.numL low).length) 48 ++ TL.numL low], _, rfl, ?_, ?_, ?_, ?_⟩⟩
      · have := List.length_pos_iff.mpr (TL.numL_ne q); omega
      · simp
      · rw [e1, hb]; simp
      · omega
      · simp; omega
    · rw [if_neg hq]
      apply hnx
      clear hnx
      refine seq_i fun nx3 hnx3 => ?_
      simp -implicitDefEqProofs
      refine ⟨tyOk_list (last_get _ _), log_small (k := 220) (Nat.lt_trans (show q < B64 by omega) (by decide)) (by decide), ?_⟩
      refine ⟨len_lt (by omega), ?_⟩
      apply hnx3
      clear hnx3
      have hg : ∀ ds : List D, lisOf (st ++ [.lst ds]) (.ref st.length) = some ds := fun ds => lis_last
      simp -implicitDefEqProofs [l_nil]
      have e4 : tx (TL.numL q) :: (List.map tx cs).reverse = (TL.numL q :: cs.reverse).map tx := by simp
      rw [e4]
      have hml := congrArg List.length e1
      rw [List.length_append] at hml
      refine Eq.mpr (opJoin_tx (a := []) (ys := TL.numL q :: cs.reverse) rfl) ⟨?_, leave_drop rfl ?_⟩
      · rw [List.length_flatten] at hml
        simp at hml ⊢
        omega
      · rw [joinL_nil, List.flatten_cons, ← e1]
        exact h
end K66

namespace K66
open PySem L2 DW TX
theorem vD : v_DIGITS_digits = tx [48, 49, 50, 51, 52, 53, 54, 55, 56, 57] := rfl
theorem mem_dig (c : Nat) : (c ∈ [48, 49, 50, 51, 52, 53, 54, 55, 56, 57]) ↔ (48 ≤ c ∧ c ≤ 57) := by
  simp only [List.mem_cons, List.not_mem_nil, or_false]
  omega
theorem pow10 (n : Nat) : 10 ^ n ≤ 2 ^ (4 * n) := by
  rw [Nat.pow_mul]
  exact Nat.pow_le_pow_left (by decide) n
theorem b_read_integer (k_BadText : Addr) : BodyOk N_read_integer P_read_integer (sp_read_integer k_BadText) (d_read_integer k_BadText) := by
  rintro ds st Ed Q ⟨l, rfl, hl, h, hb⟩
  refine ⟨rfl, ?_⟩
  have hsz : l.length ≤ sizeLine := len_size (by omega)
  unfold d_read_integer
  simp only [List.map_cons, List.map_nil, List.length_cons, List.length_nil, N_read_integer, Nat.reduceAdd, Nat.reduceSub, List.replicate, List.cons_append, List.nil_append]
  refine seq_i fun nx hnx => ?_
  simp -implicitDefEqProofs
  apply hnx
  clear hnx
  refine seq_i fun nx hnx => ?_
  simp -implicitDefEqProofs [l_minus, l_nil, l_0]
  have main : ∀ dig (sg : Bool), (sg = true → l = 45 :: dig) → (sg = false → l = dig ∧ l.head? ≠ some 45) → nx [some (tx l), some (tx dig), none, none, none, none] st := by
    intro dig sg hs1 hs2
    have hdl : dig.length ≤ 100000 := by
      cases sg with
      | true => have := hs1 rfl; rw [this] at hl; simp at hl; omega
      | false => rw [← (hs2 rfl).1]; exact hl
    have hdz : dig.length ≤ sizeLine := len_size (by omega)
    have bad : ¬ (NumText.AllDigits dig ∧ dig ≠ [] ∧ (dig.head? = some 48 → l = [48])) → LeaveE st st (Ed k_BadText) := fun hg => .inl (hb (by
      cases sg with
      | true =>
        rw [hs1 rfl]
        refine readI_noneNeg fun z => hg ⟨z.1, z.2.1, fun q => absurd q z.2.2⟩
      | false =>
        obtain ⟨e1, e2⟩ := hs2 rfl
        subst e1
        refine readI_nonePos e2 fun z => hg ⟨z.1, z.2.1, fun q => ?_⟩
        rcases z.2.2 with w | w
        · exact w
        · exact absurd q w))
    have fine : NumText.AllDigits dig → dig ≠ [] → (dig.head? = some 48 → l = [48]) → DW.Leave st (.int (if sg = true then -(NumText.digitsVal dig : Int) else (NumText.digitsVal dig : Int))) st Q := fun g1 g2 g3 => leave_stay (h _ (by
      cases sg with
      | true =>
        rw [hs1 rfl, readI_neg g1 g2 (fun q => by have := g3 q; rw [hs1 rfl] at this; cases this)]
        rfl
      | false =>
        obtain ⟨e1, e2⟩ := hs2 rfl
        subst e1
        rw [readI_pos g1 g2 (by
          by_cases q : l.head? = some 48
          · exact .inl (g3 q)
          · exact .inr q)]
        rfl))
    apply hnx
    clear hnx
    refine seq_i fun nx hnx => ?_
    cases dig with
    | nil =>
      simp -implicitDefEqProofs [l_minus, l_nil, l_0]
      exact bad (by simp)
    | cons c0 d0 =>
      have ix : ∀ (s2 : Sto) (k : D → Prop), opIx s2 (tx (c0 :: d0)) (.int 0) k = k (tx [c0]) := fun _ _ => opIx_tx hdz (atI_lit (c0 :: d0) 0)
      have hgo : (c0 = 48 → l = [48]) → nx [some (tx l), some (tx (c0 :: d0)), none, none, none, none] st := fun g3 => by
        apply hnx
        clear hnx
        have g3' : (c0 :: d0).head? = some 48 → l = [48] := fun z => g3 (by simpa using z)
        refine seq_i fun nx hnx => ?_
        simp -implicitDefEqProofs
        refine forN_inv (fun c => tx [c]) (fun done env s => ∃ z, env = [some (tx l), some (tx (c0 :: d0)), z, none, none, none] ∧ s = st ∧ NumText.AllDigits done) (c0 :: d0) ⟨none, rfl, rfl, fun _ h => by cases h⟩ (fun _ _ _ _ => trivial) ?_ ?_
        · rintro done c rest hi env s ⟨z, rfl, rfl, hd⟩
          refine ⟨_, rfl, fun nx2 hnx2 => ?_⟩
          simp -implicitDefEqProofs [vD]
          by_cases hc : 48 ≤ c ∧ c ≤ 57
          · rw [if_neg (by omega)]
            refine hnx2 _ _ ⟨_, rfl, rfl, fun x hx => ?_⟩
            rcases List.mem_append.mp hx with hx | hx
            · exact hd x hx
            · cases List.mem_singleton.mp hx; exact hc
          · rw [if_pos (by omega)]
            exact bad fun z => hc (z.1 c (by rw [hi]; simp))
        · rintro env s ⟨z, rfl, rfl, hd⟩
          generalize hdg : c0 :: d0 = dig at *
          have hne : dig ≠ [] := by rw [← hdg]; simp
          have fin := fine hd hne g3'
          apply hnx
          clear hnx
          obtain ⟨hd64, hh⟩ : ∃ h, h = dig.length % 64 := ⟨_, rfl⟩
          have hm : ((dig.length : Nat) : Int).fmod 64 = (hd64 : Int) := by rw [Int.fmod_eq_emod_of_nonneg _ (by decide), hh]; rfl
          refine seq_i fun nx hnx => ?_
          simp -implicitDefEqProofs [hm]
          have hlt : hd64 < 64 := by omega
          have hle : hd64 ≤ dig.length := by omega
          refine ⟨hdz, ?_⟩
          apply hnx
          clear hnx
          refine seq_i fun nx hnx => ?_
          simp -implicitDefEqProofs
          apply hnx
          clear hnx
          refine seq_i fun nx hnx => ?_
          have hdt : ∀ i j, NumText.AllDigits ((dig.drop i).take j) := fun i j x hx => hd x (List.drop_subset _ _ (List.take_subset _ _ hx))
          have hgo2 : nx [some (tx l), some (tx dig), z, some (.int (hd64 : Nat)), some (.int (NumText.digitsVal (dig.take hd64) : Nat)), none] s := by
            apply hnx
            clear hnx
            refine seq_i fun nx hnx => ?_
            simp -implicitDefEqProofs
            refine ⟨hdz, _, rgc_pos (a := hd64) (b := dig.length) (c := 64) (by decide) (by decide) (by omega) (by omega), ?_⟩
            have hcount : (if hd64 < dig.length then (dig.length - hd64 - 1) / 64 + 1 else 0) = (dig.length - hd64) / 64 := by
              split
              · omega
              · rw [show dig.length - hd64 = 0 by omega]
            rw [hcount]
            unfold stepD
            refine forN_inv (fun i : Nat => D.int ((hd64 : Int) + (i : Nat) * ((64 : Nat) : Int))) (fun done env s2 => ∃ y, env = [some (tx l), some (tx dig), z, some (.int (hd64 : Nat)), some (.int (NumText.digitsVal (dig.take (hd64 + 64 * done.length)) : Nat)), y] ∧ s2 = s) (List.range ((dig.length - hd64) / 64)) ⟨none, rfl, rfl⟩ (fun _ _ _ _ => trivial) ?_ ?_
            · rintro done a rest hi env s2 ⟨y, rfl, rfl⟩
              obtain ⟨rfl, ha⟩ := range_mid hi
              refine ⟨_, rfl, fun nx2 hnx2 => ?_⟩
              have e1 : (hd64 : Int) + (done.length : Int) * ((64 : Nat) : Int) = ((hd64 + 64 * done.length : Nat) : Int) := by omega
              have e2 : (hd64 : Int) + (done.length : Int) * ((64 : Nat) : Int) + 64 = ((hd64 + 64 * done.length + 64 : Nat) : Int) := by omega
              simp -implicitDefEqProofs [vB]
              have hsl : hd64 + 64 * done.length + 64 ≤ dig.length := by omega
              have hv : NumText.digitsVal (List.take (hd64 + 64 * done.length) dig) < 2 ^ 400000 := by
                have h1 := digitsVal_lt (l := List.take (hd64 + 64 * done.length) dig) (fun x hx => hd x (List.take_subset _ _ hx))
                have h2 := Nat.lt_of_lt_of_le h1 (pow10 _)
                refine Nat.lt_of_lt_of_le h2 (Nat.pow_le_pow_right (by decide) ?_)
                rw [List.length_take]
                omega
              refine ⟨mulOk 400000 213 hv (by decide), hdz, ?_⟩
              rw [show ((hd64 : Int) + (done.length : Int) * 64) = ((hd64 + 64 * done.length : Nat) : Int) by omega, show ((hd64 + 64 * done.length : Nat) : Int) + 64 = ((hd64 + 64 * done.length + 64 : Nat) : Int) from rfl, cutD_mid, show hd64 + 64 * done.length + 64 - (hd64 + 64 * done.length) = 64 by omega]
              have hcl : ((dig.drop (hd64 + 64 * done.length)).take 64).length = 64 := by rw [List.length_take, List.length_drop]; omega
              refine Eq.mpr (opInt_dig (hdt _ _) (fun z => by rw [z] at hcl; cases hcl) (by omega)) ?_
              simp -implicitDefEqProofs
              have : NumText.digitsVal (List.take (hd64 + 64 * (done ++ [done.length]).length) dig) = NumText.digitsVal (List.take (hd64 + 64 * done.length) dig) * B64 + NumText.digitsVal ((dig.drop (hd64 + 64 * done.length)).take 64) := by
                rw [show hd64 + 64 * (done ++ [done.length]).length = hd64 + 64 * done.length + 64 by simp; omega, List.take_add, digitsVal_app, hcl]
                rfl
              exact hnx2 _ _ ⟨_, by rw [this]; rfl, rfl⟩
            · rintro env s2 ⟨y, rfl, rfl⟩
              apply hnx
              clear hnx
              rw [show hd64 + 64 * (List.range ((dig.length - hd64) / 64)).length = dig.length by rw [List.length_range]; omega, List.take_length]
              cases l with
              | nil =>
                cases sg with
                | true => have := hs1 rfl; cases this
                | false => exact absurd (hs2 rfl).1.symm hne
              | cons c1 l1 =>
                have ix1 : ∀ (s2 : Sto) (k : D → Prop), opIx s2 (tx (c1 :: l1)) (.int 0) k = k (tx [c1]) := fun _ _ => opIx_tx hsz (atI_lit (c1 :: l1) 0)
                refine seq_i fun nx hnx => ?_
                simp -implicitDefEqProofs [ix1, l_minus]
                cases sg with
                | true =>
                  have := hs1 rfl
                  rw [if_pos (by simpa using (List.cons.inj this).1)]
                  exact fin
                | false =>
                  have := (hs2 rfl).2
                  rw [if_neg (by simpa using this)]
                  apply hnx
                  clear hnx
                  simp -implicitDefEqProofs
                  exact fin
          by_cases h0 : hd64 = 0
          · subst h0
            simp -implicitDefEqProofs
            simpa [NumText.digitsVal] using hgo2
          · simp -implicitDefEqProofs
            rw [if_pos (by omega)]
            refine ⟨hdz, ?_⟩
            rw [cutD_to]
            refine Eq.mpr (opInt_dig (fun x hx => hd x (List.take_subset _ _ hx)) (fun z => by have := congrArg List.length z; rw [List.length_take, List.length_nil] at this; omega) (by rw [List.length_take]; omega)) ?_
            exact hgo2
      simp -implicitDefEqProofs [l_minus, l_nil, l_0, ix]
      by_cases h48 : c0 = 48
      · rw [if_pos h48]
        by_cases hl48 : l = [48]
        · rw [if_pos hl48]
          exact hgo fun _ => hl48
        · rw [if_neg hl48]
          exact bad fun z => hl48 (z.2.2 (by simp [h48]))
      · rw [if_neg h48]
        exact hgo fun z => absurd z h48
  refine ⟨hsz, ?_⟩
  rw [show cutD l none (some 1) = l.take 1 from cutD_to l 1, show cutD l (some 1) none = l.drop 1 from cutD_from l 1]
  cases l with
  | nil =>
    rw [if_neg (by simp)]
    exact main [] false (by simp) (by simp)
  | cons c r =>
    by_cases hc : c = 45
    · subst hc
      rw [if_pos (by rfl)]
      exact ⟨hsz, main r true (fun _ => rfl) (by simp)⟩
    · rw [if_neg (by simpa using hc)]
      exact main (c :: r) false (by simp) (fun _ => ⟨rfl, by simpa using hc⟩)
end K66

namespace K66
open PySem L2 DW FormM
/-! ### data -/
@[simp] theorem cl_eP (m : Nat) (p : Str × Int) : cl m (eP p) = true := rfl
theorem cls_map {α : Type} (m : Nat) (e : α → D) (h : ∀ a, cl m (e a) = true) : ∀ xs : List α, cls m (xs.map e) = true
  | [] => rfl
  | x :: xs => by simp [cls, h, cls_map m e h xs]
@[simp] theorem cl_eF (m : Nat) (c : Int) (ts : Terms) : cl m (eF c ts) = true := by simp [eF, cl, cls, cls_map m eP (cl_eP m)]
/-- the dict of sums -/
def tbl (acc : Terms) : List (Key × D) := acc.map fun p => (Sum.inr p.1, D.int p.2)
theorem tbl_val (acc : Terms) (n : Str) : valP (tbl acc) (Sum.inr n) = (valP acc n).map D.int := by
  induction acc with
  | nil => rfl
  | cons p r ih =>
    show valP ((Sum.inr p.1, D.int p.2) :: tbl r) _ = _
    rw [valP_cons, valP_cons, ih]
    by_cases e : p.1 = n
    · subst e; simp
    · simp [e]
theorem tbl_put (acc : Terms) (n : Str) (k : Int) : putP (tbl acc) (Sum.inr n) (D.int k) = tbl (putP acc n k) := by
  have h : ((tbl acc).any fun kv => decide (kv.1 = Sum.inr n)) = acc.any fun kv => decide (kv.1 = n) := by
    unfold tbl
    rw [List.any_map]
    congr 1
    funext p
    simp
  unfold putP
  rw [h]
  split
  · unfold tbl
    rw [List.map_map, List.map_map]
    refine List.map_congr_left fun p _ => ?_
    simp only [Function.comp]
    by_cases e : p.1 = n
    · simp [e]
    · simp [e]
  · simp [tbl]
theorem tbl_keys (acc : Terms) : strKeys? ((tbl acc).map (·.1)) = some (acc.map (·.1)) := by
  have : (tbl acc).map (·.1) = (acc.map (·.1)).map Sum.inr := by simp [tbl]
  rw [this, strKeys_map]
theorem tbl_len (acc : Terms) : (tbl acc).length = acc.length := by simp [tbl]

/-! ### form -/
theorem b_form : BodyOk N_form P_form sp_form d_form := by
  rintro ds st Ed Q ⟨c, x, ps, rfl, hx, hl, h⟩
  refine ⟨rfl, ?_⟩
  unfold d_form
  simp only [List.map_cons, List.map_nil, List.length_cons, List.length_nil, N_form, Nat.reduceAdd, Nat.reduceSub, List.replicate, List.cons_append, List.nil_append]
  refine seq_i fun nx hnx => ?_
  simp -implicitDefEqProofs
  apply hnx
  clear hnx
  refine seq_i fun nx hnx => ?_
  simp -implicitDefEqProofs
  rw [frz_seq hx, items_seq (seqOf_app hx _)]
  simp only
  refine forN_inv eP (fun done env s => ∃ y z, env = [some (.int c), some x, some (.ref st.length), y, z] ∧ s = st ++ [.dic (tbl (sums [] done))]) ps ⟨none, none, rfl, rfl⟩ ?_ ?_ ?_
  · rintro done env s ⟨y, z, rfl, rfl⟩
    exact stays_app hx _ _
  · rintro done p rest hi env s ⟨y, z, rfl, rfl⟩
    refine ⟨_, rfl, fun nx2 hnx2 => ?_⟩
    simp -implicitDefEqProofs [eP, tbl_val, tbl_put]
    refine ⟨?_, hnx2 _ _ ⟨_, _, rfl, ?_⟩⟩
    · have := sums_len done []
      rw [tbl_len]
      rw [hi] at hl
      simp at hl this
      exact len_lt (by omega)
    · unfold sums
      rw [List.foldl_append]
      rfl
  · rintro env s ⟨y, z, rfl, rfl⟩
    apply hnx
    clear hnx
    simp -implicitDefEqProofs
    rw [opSorted_dic dic_last (tbl_keys _)]
    have hlen := sums_len ps []
    simp only [List.length_nil] at hlen
    refine ⟨by simp; omega, fun ks hp hs => ?_⟩
    rw [items_seq (show seqOf _ (frz (.tl (ks.map .str))) = some (ks.map .str) from rfl)]
    simp only
    have nf := sums_nf hp hs
    have hkl : ks.length ≤ 64 := by have := hp.length_eq; simp at this; omega
    refine lcN_fm D.str (fun n => if (valP (sums [] ps) n).getD 0 ≠ 0 then some (eP (n, (valP (sums [] ps) n).getD 0)) else none) trivial ks [] (by simp; exact len_size (by omega)) (fun n hn kt kf hk => ?_) ?_
    · obtain ⟨k, hk2⟩ : ∃ k, valP (sums [] ps) n = some k := by
        have := hp.mem_iff.mp hn
        have := valP_some_iff.mpr this
        exact Option.isSome_iff_exists.mp this
      rw [hk2] at hk
      simp -implicitDefEqProofs [wipeD, tbl_val, hk2]
      by_cases e : k = 0
      · simp -implicitDefEqProofs [e] at hk ⊢
        exact hk
      · simp -implicitDefEqProofs [e, eP] at hk ⊢
        exact ⟨by decide, hk⟩
    · simp -implicitDefEqProofs
      refine ⟨by decide, ?_⟩
      have e2 : List.filterMap (fun n => if (valP (sums [] ps) n).getD 0 ≠ 0 then some (eP (n, (valP (sums [] ps) n).getD 0)) else none) ks = (picked (sums [] ps) ks).map eP := by
        unfold picked
        rw [List.map_filterMap]
        congr 1
        funext n
        split <;> rfl
      simp -implicitDefEqProofs only [ne_eq, ite_not] at e2
      rw [e2]
      exact leave_drop (cl_eF _ _ _) (h _ nf)
end K66

namespace K66
open PySem L2 DW TX
theorem cl_dst (m : Nat) (x : Sx) : clM m (dst x) = true := by
  have h : cls m (x.s.map D.int) = true := cls_map m D.int (fun _ => rfl) _
  simp [dst, clM, cls, cl, h]

theorem b_law_start : BodyOk N_law_start P_law_start sp_law_start d_law_start := by
  rintro ds st Ed Q ⟨s, rfl, h⟩
  refine ⟨rfl, ?_⟩
  unfold d_law_start
  simp only [List.map_cons, List.map_nil, List.length_cons, List.length_nil, N_law_start, Nat.reduceAdd, Nat.reduceSub, List.replicate, List.cons_append, List.nil_append]
  simp -implicitDefEqProofs
  exact ⟨by decide, leave_stay h⟩

theorem b_law_is_int : BodyOk N_law_is_int P_law_is_int sp_law_is_int d_law_is_int := by
  rintro ds st Ed Q ⟨d, t, rfl, ht, h⟩
  refine ⟨rfl, ?_⟩
  unfold d_law_is_int
  simp only [List.map_cons, List.map_nil, List.length_cons, List.length_nil, N_law_is_int, Nat.reduceAdd, Nat.reduceSub, List.replicate, List.cons_append, List.nil_append]
  simp -implicitDefEqProofs
  have a1 := opIsi_e (c := "int") (k := fun z => opTru st (frz z) fun b => if b = true then opIsi st [frz d, frz (D.ty "bool")] fun z => opTru st (frz z) fun b => DW.Leave st (D.bl !b) st Q else DW.Leave st (frz z) st Q) (typN_frz ht) (by decide)
  refine Eq.mpr a1 ?_
  show if isiB t "int" = true then _ else _
  have a2 := opIsi_e (c := "bool") (k := fun z => opTru st (frz z) fun b => DW.Leave st (D.bl !b) st Q) (typN_frz ht) (by decide)
  by_cases e : t = "int"
  · subst e
    rw [if_pos (by decide)]
    refine Eq.mpr a2 ?_
    exact leave_stay h
  · by_cases e2 : t = "bool"
    · subst e2
      rw [if_pos (by decide)]
      refine Eq.mpr a2 ?_
      exact leave_stay h
    · have e3 : isiB t "int" = false := by unfold isiB; simp [e, e2]
      rw [e3]
      refine leave_stay ?_
      rw [show (t == "int") = false by simp [e]] at h
      exact h

theorem b_law_one_of : BodyOk N_law_one_of P_law_one_of sp_law_one_of d_law_one_of := by
  rintro ds st Ed Q ⟨x, items, rest, rfl, rfl, hne, hl, hc, h⟩
  refine ⟨rfl, ?_⟩
  unfold d_law_one_of
  simp only [List.map_cons, List.map_nil, List.length_cons, List.length_nil, N_law_one_of, Nat.reduceAdd, Nat.reduceSub, List.replicate, List.cons_append, List.nil_append]
  simp -implicitDefEqProofs
  refine ⟨x, items.length, rest, rfl, rfl, ?_, ?_, fun r x' h0 h1 => ?_⟩
  · have := List.length_pos_iff.mpr hne; omega
  · exact lg_small (by have := List.length_pos_iff.mpr hne; omega) (by omega)
  · obtain ⟨n, rfl⟩ := Int.eq_ofNat_of_zero_le h0
    have hn : n < items.length := by omega
    have e : atI items (n : Int) = some items[n] := by rw [atI_lit, List.getElem?_eq_getElem hn]
    rw [opIx_fl e]
    exact leave_stay (h _ _ (List.getElem_mem hn))

theorem b_law_draw : BodyOk N_law_draw P_law_draw sp_law_draw d_law_draw := by
  rintro ds st Ed Q ⟨x, m, rest, rfl, rfl, hm, hl, h⟩
  refine ⟨rfl, ?_⟩
  have hm0 : ¬ m = 0 := by omega
  have hd : ∀ i, CDivD i m := fun _ => ⟨hm0, hl⟩
  have fm : ∀ i : Int, 0 ≤ i.fmod m ∧ i.fmod m < m := fun i => ⟨Int.fmod_nonneg_of_pos i hm, Int.fmod_lt_of_pos i hm⟩
  have stay : ∀ {r a b c : Int}, 0 ≤ r → r < m → DW.Leave (dst x :: rest) (.int r) (.lst [.fl (x.s.map .int), .int a, .int b, .int c] :: rest) Q := fun {r a b c} h0 h1 => leave_stay (h r ⟨x.s, a, b, c⟩ h0 h1)
  unfold d_law_draw dst
  simp only [List.map_cons, List.map_nil, List.length_cons, List.length_nil, N_law_draw, Nat.reduceAdd, Nat.reduceSub, List.replicate, List.cons_append, List.nil_append]
  refine seq_i fun nx hnx => ?_
  simp -implicitDefEqProofs
  apply hnx
  refine seq_i fun nx hnx => ?_
  simp -implicitDefEqProofs
  split
  · refine seq_i fun nx hnx => ?_
    simp -implicitDefEqProofs [hm0]
    apply hnx
    refine seq_i fun nx hnx => ?_
    simp -implicitDefEqProofs [hd]
    apply hnx
    simp -implicitDefEqProofs
    exact stay (fm _).1 (fm _).2
  apply hnx
  refine seq_i fun nx hnx => ?_
  simp -implicitDefEqProofs
  apply hnx
  -- the cell
  refine seq_i fun nx hnx => ?_
  simp -implicitDefEqProofs
  have rest1 : ∀ cell : Int, 0 ≤ cell → nx [some (D.ref 0), some (D.int m), none, some (D.int cell), none] (MO.lst [D.fl (List.map D.int x.s), D.int x.a, D.int x.b, D.int (x.c + 1)] :: rest) := fun cell hc => by
    apply hnx
    clear hnx
    refine seq_i fun nx hnx => ?_
    simp -implicitDefEqProofs
    apply hnx
    refine seq_i fun nx hnx => ?_
    simp -implicitDefEqProofs
    refine ⟨⟨by decide, by decide, by decide⟩, ?_⟩
    split
    · refine seq_i fun nx hnx => ?_
      simp -implicitDefEqProofs [hd]
      apply hnx
      simp -implicitDefEqProofs [hm0]
      exact stay (fm _).1 (fm _).2
    · rename_i hc2
      apply hnx
      clear hnx
      have b1 : ∀ i j : Int, -(2 ^ 64) < j → j < 2 ^ 64 → IntMulOk i j := fun i j h1 h2 => CMul.ok (.inr ⟨h1, h2⟩)
      refine seq_i fun nx hnx => ?_
      simp -implicitDefEqProofs [b1]
      apply hnx
      refine seq_i fun nx hnx => ?_
      simp -implicitDefEqProofs [b1]
      refine ⟨⟨by decide, by decide⟩, ?_⟩
      apply hnx
      simp -implicitDefEqProofs [hm0]
      exact ⟨⟨by decide, by decide⟩, stay (fm _).1 (fm _).2⟩
  split
  · rename_i hs
    have hs' : 0 < x.s.length := hs
    have hi : 0 ≤ x.a.fmod x.s.length ∧ x.a.fmod x.s.length < x.s.length := ⟨Int.fmod_nonneg_of_pos _ (by omega), Int.fmod_lt_of_pos _ (by omega)⟩
    obtain ⟨j, hj, hj2⟩ : ∃ j : Nat, x.a.fmod x.s.length = (j : Int) ∧ j < x.s.length := ⟨(x.a.fmod x.s.length).toNat, by omega, by omega⟩
    have e : atI (x.s.map D.int) (x.a.fmod x.s.length) = some (D.int x.s[j]) := by rw [hj, atI_lit]; simp -implicitDefEqProofs [hj2]
    simp -implicitDefEqProofs [e, hs]
    refine ⟨fun z => by simp [z] at hs', rest1 _ ?_⟩
    split <;> omega
  · exact rest1 0 (by omega)


theorem isi_i (st : Sto) (i : Int) (c : String) (k : D → Prop) : opIsi st [.int i, .ty c] k = (c ∈ ["int", "bool", "str", "tuple", "list"] ∧ k (.bl (isiB "int" c))) := rfl
theorem isi_s (st : Sto) (i : Str) (c : String) (k : D → Prop) : opIsi st [.str i, .ty c] k = (c ∈ ["int", "bool", "str", "tuple", "list"] ∧ k (.bl (isiB "str" c))) := rfl
theorem isi_t (st : Sto) (i : List D) (c : String) (k : D → Prop) : opIsi st [.tup i, .ty c] k = (c ∈ ["int", "bool", "str", "tuple", "list"] ∧ k (.bl (isiB "tuple" c))) := rfl
theorem dat_frz {k : Nat} {d : D} (h : dat k d) : frz d = d := by cases d <;> first | rfl | (cases k <;> exact h.elim)
theorem dats_get {k : Nat} : ∀ {ds : List D}, dats k ds → ∀ (i : Nat) (h : i < ds.length), dat k ds[i]
  | d :: ds, h, 0, _ => by unfold dats at h; exact h.1
  | d :: ds, h, i + 1, hi => by unfold dats at h; exact dats_get h.2 i (by simpa using hi)
theorem b_law_same (k : Nat) : BodyOk N_law_same P_law_same (spr_law_same (k+1)) (d_law_same (spr_law_same k)) := by
  rintro ds st Ed Q ⟨d, rfl, hd, h⟩
  refine ⟨rfl, ?_⟩
  unfold d_law_same
  simp only [List.map_cons, List.map_nil, List.length_cons, List.length_nil, N_law_same, Nat.reduceAdd, Nat.reduceSub, List.replicate, List.cons_append, List.nil_append]
  refine seq_i fun nx hnx => ?_
  cases d with
  | int i =>
    simp -implicitDefEqProofs [isi_i, isiB]
    apply hnx
    clear hnx
    refine seq_i fun nx hnx => ?_
    simp -implicitDefEqProofs [isi_i, isiB]
    apply hnx
    clear hnx
    simp -implicitDefEqProofs [isi_i, isiB]
    refine ⟨_, _, rfl, rfl, ?_⟩
    simp -implicitDefEqProofs
    exact leave_stay h
  | str i =>
    simp -implicitDefEqProofs [isi_s, isiB]
    apply hnx
    clear hnx
    refine seq_i fun nx hnx => ?_
    simp -implicitDefEqProofs [isi_s, isiB]
    exact leave_stay h
  | tup xs =>
    cases k with
    | zero => exact hd.elim
    | succ k =>
      obtain ⟨hl, hds⟩ := hd
      simp -implicitDefEqProofs [isi_t, isiB]
      refine seq_i fun nx2 hnx2 => ?_
      simp -implicitDefEqProofs [isi_t, isiB]
      apply hnx2
      clear hnx2
      simp -implicitDefEqProofs [isi_t, isiB]
      refine ⟨by omega, ?_⟩
      unfold rangeD
      refine lcN_map (fun i : Nat => D.int (0 + (i : Nat))) (fun _ => D.bl true) trivial (List.range xs.length) (len_size (by simp; omega)) (fun a ha kt hkt => ?_) ?_
      · have ha' : a < xs.length := List.mem_range.mp ha
        have e : atI xs (a : Int) = some xs[a] := by rw [atI_lit, List.getElem?_eq_getElem ha']
        simp -implicitDefEqProofs [wipeD, e]
        have hda := dats_get hds a ha'
        exact ⟨xs[a], by rw [dat_frz hda], hda, hkt⟩
      · rw [show ((List.range xs.length).map fun _ => D.bl true) = ((List.range xs.length).map fun _ => true).map .bl by rw [List.map_map]; rfl]
        unfold opAll
        rw [opAnyAll_e (show lisOf _ (.fl _) = some _ from rfl)]
        simp -implicitDefEqProofs
        exact leave_stay (by rw [show ((List.range xs.length).all fun _ => true) = true by rw [List.all_eq_true]; exact fun _ _ => rfl]; exact h)
  | _ => cases k <;> exact hd.elim


end K66

namespace K66
open PySem L2 DW TX FormM
theorem l_star : D.str (Str.ofString "*") = tx [42] := rfl
theorem l_pl : D.str (Str.ofString " + ") = tx [32, 43, 32] := rfl
theorem l_mi : D.str (Str.ofString " - ") = tx [32, 45, 32] := rfl
theorem vF : v_FIRST = tx [97, 98, 99, 100, 101, 102, 103, 104, 105, 106, 107, 108, 109, 110, 111, 112, 113, 114, 115, 116, 117, 118, 119, 120, 121, 122, 64, 35, 46, 63, 95] := rfl
theorem vG : v_DIGITS_formtext = tx [48, 49, 50, 51, 52, 53, 54, 55, 56, 57] := rfl
theorem decL_nat (n : Nat) : decL (n : Int) = TL.numL n := by unfold decL; rw [if_neg (by omega)]; rfl
theorem b_write_term : BodyOk N_write_term P_write_term sp_write_term d_write_term := by
  rintro ds st Ed Q ⟨n, k, rfl, h0, hd, hl, h⟩
  refine ⟨rfl, ?_⟩
  unfold d_write_term
  simp only [List.map_cons, List.map_nil, List.length_cons, List.length_nil, N_write_term, Nat.reduceAdd, Nat.reduceSub, List.replicate, List.cons_append, List.nil_append]
  obtain ⟨m, rfl⟩ := Int.eq_ofNat_of_zero_le h0
  unfold Dg at hd
  refine seq_i fun nx hnx => ?_
  simp -implicitDefEqProofs [l_nil]
  by_cases hn : n = []
  · rw [if_pos hn]
    refine ⟨m, rfl, fun _ => by omega, hd, ?_⟩
    simp -implicitDefEqProofs
    rw [decL_nat]
    unfold wt at h
    rw [if_pos hn] at h
    exact leave_stay h
  · rw [if_neg hn]
    apply hnx
    clear hnx
    refine seq_i fun nx hnx => ?_
    simp -implicitDefEqProofs
    unfold wt told at h
    rw [if_neg hn] at h
    by_cases h1 : m = 1
    · subst h1
      simp -implicitDefEqProofs
      rw [if_pos (by rfl)] at h
      exact leave_stay h
    · rw [if_neg (by omega)]
      apply hnx
      clear hnx
      simp -implicitDefEqProofs
      refine ⟨m, rfl, fun _ => by omega, hd, ?_⟩
      rw [decL_nat]
      rw [if_neg (by simpa using h1)] at h
      simp only [Int.natAbs_natCast] at hd h
      simp -implicitDefEqProofs [l_star]
      refine ⟨len_size (by omega), len_size (by omega), ?_⟩
      exact leave_stay h
end K66

namespace K66
open PySem L2 DW TX FormM
/-! ### is_name -/
theorem mem_f (c : Nat) : (c ∈ [97, 98, 99, 100, 101, 102, 103, 104, 105, 106, 107, 108, 109, 110, 111, 112, 113, 114, 115, 116, 117, 118, 119, 120, 121, 122, 64, 35, 46, 63, 95]) ↔ fst c = true := by
  unfold fst
  simp only [List.mem_cons, List.not_mem_nil, or_false, Bool.or_eq_true, Bool.and_eq_true, decide_eq_true_eq, beq_iff_eq]
  omega
theorem mem_g (c : Nat) : (c ∈ [48, 49, 50, 51, 52, 53, 54, 55, 56, 57]) ↔ dig c = true := by
  unfold dig
  simp only [List.mem_cons, List.not_mem_nil, or_false, Bool.and_eq_true, decide_eq_true_eq]
  omega
theorem b_is_name : BodyOk N_is_name P_is_name sp_is_name d_is_name := by
  rintro ds st Ed Q ⟨l, rfl, hl, h⟩
  refine ⟨rfl, ?_⟩
  have hsz : l.length ≤ sizeLine := len_size (by omega)
  obtain ⟨LF, eF1, mF⟩ : ∃ L, v_FIRST = tx L ∧ ∀ c, c ∈ L ↔ fst c = true := ⟨_, vF, mem_f⟩
  obtain ⟨LG, eG1, mG⟩ : ∃ L, v_DIGITS_formtext = tx L ∧ ∀ c, c ∈ L ↔ dig c = true := ⟨_, vG, mem_g⟩
  have e0 : l.all (fun c => fst c || dig c) = false → isN l = false := fun e => by unfold isN; rw [e]; rfl
  unfold d_is_name
  simp only [List.map_cons, List.map_nil, List.length_cons, List.length_nil, N_is_name, Nat.reduceAdd, Nat.reduceSub, List.replicate, List.cons_append, List.nil_append]
  refine seq_i fun nx hnx => ?_
  simp -implicitDefEqProofs
  refine forN_inv (fun c => tx [c]) (fun done env s => ∃ z, env = [some (tx l), z] ∧ s = st ∧ done.all (fun c => fst c || dig c) = true) l ⟨none, rfl, rfl, rfl⟩ (fun _ _ _ _ => trivial) ?_ ?_
  · rintro done c rest hi env s ⟨z, rfl, rfl, hd⟩
    refine ⟨_, rfl, fun nx2 hnx2 => ?_⟩
    simp -implicitDefEqProofs [eF1, eG1, mF, mG]
    split
    · rename_i c1
      exact hnx2 _ _ ⟨_, rfl, rfl, by simp [c1] at hd ⊢; exact hd⟩
    · rename_i c1
      split
      · rename_i c2
        exact hnx2 _ _ ⟨_, rfl, rfl, by simp [c2] at hd ⊢; exact hd⟩
      · rename_i c2
        rw [e0 (by rw [hi]; simp [c1, c2])] at h
        exact leave_stay h
  · rintro env s ⟨z, rfl, rfl, hd⟩
    apply hnx
    clear hnx
    cases l with
    | nil =>
      simp -implicitDefEqProofs [l_nil]
      exact leave_stay h
    | cons c r =>
      have ix : ∀ (s2 : Sto) (k : D → Prop), opIx s2 (tx (c :: r)) (.int 0) k = k (tx [c]) := fun _ _ => opIx_tx hsz (atI_lit (c :: r) 0)
      simp -implicitDefEqProofs [l_nil, ix, eG1, mG]
      have : isN (c :: r) = !dig c := by unfold isN; rw [hd]; simp
      rw [this] at h
      exact leave_stay h
end K66

namespace K66
open PySem L2 DW TX FormM
/-! ### write_form -/
theorem eP_tx (p : Str × Int) : eP p = .tup [tx (cs p.1), .int p.2] := by unfold eP tx; rw [mk_cs]
/-- the parts, as the program and the law know them -/
def mem1 (c : Int) (ts : Terms) : List (List Nat × Int) := ts.map (fun p => (cs p.1, p.2)) ++ (if c ≠ 0 ∨ ts = [] then [([], c)] else [])
def eM (p : List Nat × Int) : D := .tup [tx p.1, .int p.2]
def pm (p : List Nat × Int) : Part := (decide (p.2 < 0), wt p.1 p.2)
theorem parts_mem {c : Int} {ts : Terms} (h : ∀ p ∈ ts, cs p.1 ≠ []) : parts c ts = (mem1 c ts).map pm := by
  unfold parts mem1 partsT
  rw [List.map_append, List.map_map]
  congr 1
  · refine List.map_congr_left fun p hp => ?_
    simp only [Function.comp, pm, wt, if_neg (h p hp)]
  · split
    · simp [pm, wt, partC]
    · rfl
/-- what can be written of the parts -/
theorem wt_len {n : List Nat} {k : Int} : (wt n k).length ≤ n.length + 1 + (TL.numL k.natAbs).length := by
  unfold wt told
  split
  · omega
  · split
    · omega
    · simp; omega
structure MOk (p : List Nat × Int) : Prop where
  n : p.1.length ≤ 1000
  d : Dg 500 p.2
theorem mem1_ok {c : Int} {ts : Terms} (h : Shown c ts) : ∀ p ∈ mem1 c ts, MOk p := by
  intro p hp
  unfold mem1 at hp
  rcases List.mem_append.mp hp with hp | hp
  · obtain ⟨q, hq, rfl⟩ := List.mem_map.mp hp
    exact ⟨(h.nm q hq).2, h.dg q hq⟩
  · split at hp
    · cases List.mem_singleton.mp hp
      exact ⟨by simp, h.dc⟩
    · cases hp
theorem mem1_len {c : Int} {ts : Terms} (h : Shown c ts) : (mem1 c ts).length ≤ 64 := by
  have := h.len
  unfold mem1
  split <;> simp <;> omega
theorem wt_ne {n : List Nat} {k : Int} : wt n k ≠ [] := by
  unfold wt told
  split
  · exact TL.numL_ne _
  · split
    · assumption
    · simp
theorem joinW_len {ps : List (List Nat × Int)} (h : ∀ p ∈ ps, MOk p) : (joinW (ps.map pm)).length ≤ ps.length * 1504 := by
  have h1 : ∀ ps : List (List Nat × Int), (∀ p ∈ ps, MOk p) → (tailW (ps.map pm)).length ≤ ps.length * 1504 := by
    intro ps
    induction ps with
    | nil => intro _; simp [tailW]
    | cons p r ih =>
      intro h
      have ih := ih fun q hq => h q (List.mem_cons_of_mem _ hq)
      have hp := h p List.mem_cons_self
      have h2 := wt_len (n := p.1) (k := p.2)
      have h3 := hp.n
      have h4 := hp.d
      unfold Dg at h4
      have h5 : (sg1 (pm p).1).length = 3 := by cases (pm p).1 <;> rfl
      have h6 : (pm p).2 = wt p.1 p.2 := rfl
      unfold tailW at ih ⊢
      rw [List.map_cons, List.map_cons, List.flatten_cons, List.length_append, List.length_append, h5, h6, List.length_cons]
      omega
  cases ps with
  | nil => simp [joinW]
  | cons p r =>
    have h2 := wt_len (n := p.1) (k := p.2)
    have hp := h p List.mem_cons_self
    have h3 := hp.n
    have h4 := hp.d
    unfold Dg at h4
    have h5 : (sg0 (pm p).1).length ≤ 1 := by cases (pm p).1 <;> decide
    have h6 : (pm p).2 = wt p.1 p.2 := rfl
    have h7 := h1 r fun q hq => h q (List.mem_cons_of_mem _ hq)
    show (sg0 (pm p).1 ++ (pm p).2 ++ tailW (r.map pm)).length ≤ _
    rw [List.length_append, List.length_append, h6, List.length_cons]
    omega
theorem joinW_ne {ps : List (List Nat × Int)} (h : ps ≠ []) : joinW (ps.map pm) ≠ [] := by
  cases ps with
  | nil => exact absurd rfl h
  | cons p r =>
    show sg0 (pm p).1 ++ (pm p).2 ++ tailW (r.map pm) ≠ []
    have : (pm p).2 ≠ [] := wt_ne
    simp [this]
theorem map_eP (ts : Terms) : ts.map eP = (ts.map fun p => (cs p.1, p.2)).map eM := by
  rw [List.map_map]
  exact List.map_congr_left fun p _ => eP_tx p
theorem opTru_lref {st : Sto} {n : Nat} {ds : List D} {k : Bool → Prop} (h : st[n]? = some (.lst ds)) : opTru st (.ref n) k = k (!ds.isEmpty) := by
  show (match seqOf st (.ref n) with | some ds => k (!ds.isEmpty) | none => _) = _
  rw [seqOf_ref h]
theorem frz_eM (p : List Nat × Int) : frz (eM p) = eM p := rfl
theorem b_write_form : BodyOk N_write_form P_write_form sp_write_form d_write_form := by
  rintro ds st Ed Q ⟨c, ts, rfl, hs, h⟩
  refine ⟨rfl, ?_⟩
  unfold d_write_form
  simp only [List.map_cons, List.map_nil, List.length_cons, List.length_nil, N_write_form, Nat.reduceAdd, Nat.reduceSub, List.replicate, List.cons_append, List.nil_append]
  unfold eF
  refine seq_i fun nx hnx => ?_
  simp -implicitDefEqProofs
  have hne : ∀ p ∈ ts, cs p.1 ≠ [] := fun p hp => (hs.nm p hp).1
  have hok := mem1_ok hs
  have hln := mem1_len hs
  apply hnx
  clear hnx
  refine seq_i fun nx hnx => ?_
  have rest : nx [some (D.tup [D.int c, D.tup (List.map eP ts)]), some (D.ref st.length), none, none, none] (st ++ [MO.lst ((mem1 c ts).map eM)]) := by
    apply hnx
    clear hnx
    refine seq_i fun nx hnx => ?_
    simp -implicitDefEqProofs [l_nil]
    unfold wf at h
    rw [parts_mem hne] at h
    have mne : mem1 c ts ≠ [] := fun z => parts_ne c ts (by rw [parts_mem hne, z]; rfl)
    generalize mem1 c ts = ms at *
    clear hne
    apply hnx
    clear hnx
    refine seq_i fun nx hnx => ?_
    simp -implicitDefEqProofs
    rw [show frz (D.ref st.length) = D.ref st.length from rfl, items_seq seq_last]
    simp only
    refine forN_inv eM (fun done env s => ∃ y z, env = [some (D.tup [D.int c, D.tup (List.map eP ts)]), some (D.ref st.length), some (tx (joinW (done.map pm))), y, z] ∧ s = st ++ [MO.lst (ms.map eM)]) ms ⟨none, none, rfl, rfl⟩ ?_ ?_ ?_
    · rintro done env s ⟨y, z, rfl, rfl⟩
      exact rfl
    · rintro done ⟨n, k⟩ rest hi env s ⟨y, z, rfl, rfl⟩
      refine ⟨_, rfl, fun nx2 hnx2 => ?_⟩
      have hp := hok (n, k) (by rw [hi]; simp)
      have hw : (joinW (done.map pm)).length ≤ 100000 := by
        have h1 := joinW_len (ps := done) fun p hp => hok p (by rw [hi]; simp [hp])
        have h2 : done.length ≤ ms.length := by rw [hi]; simp
        omega
      have hk := hp.d
      have hnn := hp.n
      unfold Dg at hk
      simp only at hk hnn
      refine seq_i fun nx3 hnx3 => ?_
      simp -implicitDefEqProofs [l_nil, l_minus, l_pl, l_mi]
      have fin : ∀ pre : List Nat, pre.length ≤ 100010 → pre ++ wt n k = joinW ((done ++ [(n, k)]).map pm) → nx3 [some (D.tup [D.int c, D.tup (List.map eP ts)]), some (D.ref st.length), some (tx pre), some (tx n), some (D.int k)] (st ++ [MO.lst (List.map eM ms)]) := fun pre hpl e => by
        apply hnx3
        clear hnx3
        have ea : (if k < 0 then -k else k) = ((k.natAbs : Nat) : Int) := by split <;> omega
        simp -implicitDefEqProofs [ea]
        refine ⟨n, (k.natAbs : Nat), rfl, by omega, by unfold Dg; simp only [Int.natAbs_natCast]; omega, by omega, ?_⟩
        have ew : wt n ((k.natAbs : Nat) : Int) = wt n k := by unfold wt told; simp only [Int.natAbs_natCast]
        have hwl := wt_len (n := n) (k := k)
        rw [ew]
        simp -implicitDefEqProofs
        refine ⟨len_size (by omega), ?_⟩
        rw [e]
        exact hnx2 _ _ ⟨_, _, rfl, rfl⟩
      have e0 : (pm (n, k)).2 = wt n k := rfl
      have e1 : (pm (n, k)).1 = decide (k < 0) := rfl
      cases done with
      | nil =>
        rw [if_pos (by rfl)]
        split
        · rename_i hk0
          refine fin _ (by decide) ?_
          show _ = sg0 (pm (n, k)).1 ++ (pm (n, k)).2 ++ tailW []
          rw [e1]
          simp [hk0, sg0, e0, tailW]
        · rename_i hk0
          refine fin _ (by decide) ?_
          show _ = sg0 (pm (n, k)).1 ++ (pm (n, k)).2 ++ tailW []
          rw [e1]
          simp [hk0, sg0, e0, tailW]
      | cons p0 done =>
        have hne : joinW ((p0 :: done).map pm) ≠ [] := joinW_ne (by simp)
        have hsn : joinW (((p0 :: done) ++ [(n, k)]).map pm) = joinW ((p0 :: done).map pm) ++ (sg1 (pm (n, k)).1 ++ (pm (n, k)).2) := by
          rw [List.map_append]
          exact joinW_snoc (by simp) _
        rw [if_neg hne]
        rw [e1, e0] at hsn
        split
        · rename_i hk0
          refine ⟨len_size (by omega), fin _ (by rw [List.length_append, List.length_cons, List.length_cons, List.length_cons, List.length_nil]; omega) ?_⟩
          rw [hsn]
          simp [hk0, sg1]
        · rename_i hk0
          refine ⟨len_size (by omega), fin _ (by rw [List.length_append, List.length_cons, List.length_cons, List.length_cons, List.length_nil]; omega) ?_⟩
          rw [hsn]
          simp [hk0, sg1]
    · rintro env s ⟨y, z, rfl, rfl⟩
      apply hnx
      clear hnx
      simp -implicitDefEqProofs
      exact leave_drop rfl h
  simp -implicitDefEqProofs [l_nil]
  have no : ¬ (c ≠ 0 ∨ ts = []) → nx [some (D.tup [D.int c, D.tup (List.map eP ts)]), some (D.ref (List.length st)), none, none, none] (st ++ [MO.lst (List.map eP ts)]) := fun z => by
    have e : mem1 c ts = ts.map fun p => (cs p.1, p.2) := by unfold mem1; rw [if_neg z, List.append_nil]
    rw [e, ← map_eP] at rest
    exact rest
  have yes : (c ≠ 0 ∨ ts = []) → nx [some (D.tup [D.int c, D.tup (List.map eP ts)]), some (D.ref (List.length st)), none, none, none] (st ++ [MO.lst (List.map eP ts ++ [frz (D.tup [tx [], frz (D.int c)])])]) := fun z => by
    have e : (mem1 c ts).map eM = ts.map eP ++ [frz (D.tup [tx [], frz (D.int c)])] := by unfold mem1; rw [if_pos z, List.map_append, ← map_eP]; rfl
    rw [e] at rest
    exact rest
  have hty : tyOk (st ++ [MO.lst (List.map eP ts)]) "list" (frz (D.ref (List.length st))) := tyOk_list (last_get _ _)
  have h2 := hs.len
  split
  · rename_i hc
    refine Eq.mpr (opTru_lref (last_get _ _)) ?_
    cases ts with
    | nil => exact ⟨hty, by decide, by decide, yes (.inr rfl)⟩
    | cons p r => exact no (by simp [hc])
  · rename_i hc
    exact ⟨hty, by decide, len_lt (by omega), yes (.inl hc)⟩
end K66

namespace K66
open PySem L2 DW TX FormM
theorem opPart_some {st : Sto} {a b p q : List Nat} {kk : D → Sto → Prop} (hb : b ≠ []) (h : TL.par b [] a = some (p, q)) : opS gPart st (tx a) [tx b] kk = (a.length ≤ sizeLine ∧ kk (.tup [tx p, tx b, tx q]) st) := by
  show ((((⟨b.toArray⟩ : Str).length == 0) = false) ∧ (⟨a.toArray⟩ : Str).length ≤ sizeLine ∧ kk (.tup [.str (Txt.partition ⟨a.toArray⟩ ⟨b.toArray⟩).1, .str (Txt.partition ⟨a.toArray⟩ ⟨b.toArray⟩).2.1, .str (Txt.partition ⟨a.toArray⟩ ⟨b.toArray⟩).2.2]) st) = _
  have e : Txt.partition (⟨a.toArray⟩ : Str) ⟨b.toArray⟩ = (SX.S p, SX.S b, SX.S q) := SX.partition_some hb h
  rw [e]
  have e2 : ((⟨b.toArray⟩ : Str).length == 0) = false := by
    rw [len_tx]
    cases b with
    | nil => exact absurd rfl hb
    | cons _ _ => rfl
  rw [e2, len_tx]
  simp only [true_and]
  rfl
theorem opPart_none {st : Sto} {a b : List Nat} {kk : D → Sto → Prop} (hb : b ≠ []) (h : TL.par b [] a = none) : opS gPart st (tx a) [tx b] kk = (a.length ≤ sizeLine ∧ kk (.tup [tx a, tx [], tx []]) st) := by
  show ((((⟨b.toArray⟩ : Str).length == 0) = false) ∧ (⟨a.toArray⟩ : Str).length ≤ sizeLine ∧ kk (.tup [.str (Txt.partition ⟨a.toArray⟩ ⟨b.toArray⟩).1, .str (Txt.partition ⟨a.toArray⟩ ⟨b.toArray⟩).2.1, .str (Txt.partition ⟨a.toArray⟩ ⟨b.toArray⟩).2.2]) st) = _
  have e : Txt.partition (⟨a.toArray⟩ : Str) ⟨b.toArray⟩ = (SX.S a, SX.S [], SX.S []) := SX.partition_none hb h
  rw [e]
  have e2 : ((⟨b.toArray⟩ : Str).length == 0) = false := by
    rw [len_tx]
    cases b with
    | nil => exact absurd rfl hb
    | cons _ _ => rfl
  rw [e2, len_tx]
  simp only [true_and]
  rfl
theorem opSplit_tx {st : Sto} {a b : List Nat} {kk : D → Sto → Prop} (hb : b ≠ []) (hk : b.all (· < 256) = true) : opS gSplit st (tx a) [tx b] kk = (a.length + 2 ≤ sizeLine ∧ kk (.tl ((TL.spl b 0 [] a).map tx)) st) := by
  show ((((⟨b.toArray⟩ : Str).length == 0) = false) ∧ (⟨a.toArray⟩ : Str).length + 2 ≤ sizeLine ∧ kk (.tl ((Txt.split ⟨a.toArray⟩ ⟨b.toArray⟩).map D.str)) st) = _
  have e : Txt.split (⟨a.toArray⟩ : Str) ⟨b.toArray⟩ = (TL.spl b 0 [] a).map SX.S := SX.split_S hb hk
  have e2 : ((⟨b.toArray⟩ : Str).length == 0) = false := by
    rw [len_tx]
    cases b with
    | nil => exact absurd rfl hb
    | cons _ _ => rfl
  rw [e, e2, len_tx, List.map_map]
  simp only [true_and]
  rfl
theorem par_len {b : List Nat} : ∀ {a acc p q : List Nat}, TL.par b acc a = some (p, q) → p.length ≤ acc.length + a.length ∧ q.length ≤ a.length
  | [], acc, p, q, h => by cases h
  | c :: r, acc, p, q, h => by
    by_cases hp : TL.pre b (c :: r) = true
    · rw [TL.par_hit hp] at h
      have := Option.some.inj h
      cases this
      simp
    · rw [TL.par_miss (by simpa using hp)] at h
      have := par_len h
      simp at this ⊢
      omega
theorem b_read_term (k_BadText : Addr) : BodyOk N_read_term P_read_term (sp_read_term k_BadText) (d_read_term k_BadText) := by
  rintro ds st Ed Q ⟨l, s, rfl, hl, hs, h, hb⟩
  refine ⟨rfl, ?_⟩
  unfold d_read_term
  simp only [List.map_cons, List.map_nil, List.length_cons, List.length_nil, N_read_term, Nat.reduceAdd, Nat.reduceSub, List.replicate, List.cons_append, List.nil_append]
  refine seq_i fun nx hnx => ?_
  simp -implicitDefEqProofs [l_star]
  cases hp : TL.par [42] [] l with
  | none =>
    have hr : rt l s = if isN l = true then some (l, s) else (readI l).map fun i => ([], s * i) := by unfold rt; rw [hp]
    refine Eq.mpr (opPart_none (by decide) hp) ⟨len_size (by omega), ?_⟩
    simp -implicitDefEqProofs
    apply hnx
    clear hnx
    refine seq_i fun nx hnx => ?_
    simp -implicitDefEqProofs [l_nil]
    refine ⟨l, rfl, hl, ?_⟩
    cases hn : isN l with
    | true =>
      rw [hn, if_pos rfl] at hr
      simp -implicitDefEqProofs
      exact ⟨by decide, leave_stay (h _ hr)⟩
    | false =>
      rw [hn, if_neg (by decide)] at hr
      simp -implicitDefEqProofs
      apply hnx
      clear hnx
      refine seq_i fun nx hnx => ?_
      simp -implicitDefEqProofs [l_nil]
      apply hnx
      clear hnx
      simp -implicitDefEqProofs
      refine ⟨l, rfl, hl, fun n e => ?_, fun e => .inl (hb (by rw [hr, e]; rfl))⟩
      simp -implicitDefEqProofs
      rw [e] at hr
      exact ⟨CMul.ok (.inl (by rcases hs with rfl | rfl <;> exact ⟨by decide, by decide⟩)), by decide, leave_stay (h _ hr)⟩
  | some pq =>
    obtain ⟨d, n⟩ := pq
    have hr : rt l s = if isN n = true then (readI d).map fun i => (n, s * i) else none := by unfold rt; rw [hp]
    obtain ⟨hl1, hl2⟩ := par_len hp
    simp only [List.length_nil, Nat.zero_add] at hl1
    refine Eq.mpr (opPart_some (by decide) hp) ⟨len_size (by omega), ?_⟩
    simp -implicitDefEqProofs
    apply hnx
    clear hnx
    refine seq_i fun nx hnx => ?_
    simp -implicitDefEqProofs [l_nil]
    apply hnx
    clear hnx
    refine seq_i fun nx hnx => ?_
    simp -implicitDefEqProofs [l_nil]
    refine ⟨n, rfl, by omega, ?_⟩
    cases hn : isN n with
    | false =>
      rw [hn, if_neg (by decide)] at hr
      simp -implicitDefEqProofs
      exact .inl (hb hr)
    | true =>
      rw [hn, if_pos rfl] at hr
      simp -implicitDefEqProofs
      apply hnx
      clear hnx
      simp -implicitDefEqProofs
      refine ⟨d, rfl, by omega, fun i e => ?_, fun e => .inl (hb (by rw [hr, e]; rfl))⟩
      simp -implicitDefEqProofs
      rw [e] at hr
      exact ⟨CMul.ok (.inl (by rcases hs with rfl | rfl <;> exact ⟨by decide, by decide⟩)), by decide, leave_stay (h _ hr)⟩
end K66

namespace K66
open PySem L2 DW TX FormM
/-! ### words -/
theorem spl32 (l : List Nat) : (TL.spl [32] 0 [] l).length = l.count 32 + 1 ∧ ∀ w ∈ TL.spl [32] 0 [] l, w.length ≤ l.length := by
  have key : ∀ (l acc : List Nat), (TL.spl [32] 0 acc l).length = l.count 32 + 1 ∧ ∀ w ∈ TL.spl [32] 0 acc l, w.length ≤ acc.length + l.length := by
    intro l
    induction l with
    | nil => intro acc; rw [TL.spl_nil]; exact ⟨rfl, fun w hw => by cases List.mem_singleton.mp hw; simp⟩
    | cons c r ih =>
      intro acc
      by_cases hc : c = 32
      · subst hc
        rw [TL.spl_hit (S := [32]) (by simp [TL.pre])]
        obtain ⟨h1, h2⟩ := ih []
        refine ⟨?_, fun w hw => ?_⟩
        · simp only [List.length_cons, List.length_nil, Nat.sub_self, List.count_cons_self]
          omega
        · rcases List.mem_cons.mp hw with rfl | hw
          · omega
          · have := h2 w hw; simp at this ⊢; omega
      · rw [TL.spl_miss (S := [32]) (by simp [TL.pre]; exact hc)]
        obtain ⟨h1, h2⟩ := ih (acc ++ [c])
        refine ⟨?_, fun w hw => ?_⟩
        · rw [h1, List.count_cons_of_ne hc]
        · have := h2 w hw; simp at this ⊢; omega
  simpa using key l []
theorem rts_odd : ∀ ws : List (List Nat), ws.length % 2 = 1 → rts ws = none
  | [], h => by cases h
  | [_], _ => rfl
  | o :: w :: r, h => by
    have := rts_odd r (by simp at h; omega)
    rw [rts, this]
    split
    · rename_i h1 h2
      cases h2
    · rfl
theorem rts_step {o w : List Nat} {r : List (List Nat)} : rts (o :: w :: r) = match opSg o with
    | some s => (match rt w s with
      | some p => (rts r).map fun ps => p :: ps
      | none => none)
    | none => none := by
  rw [rts]
  generalize rts r = y
  cases opSg o with
  | none => rfl
  | some s =>
    simp only [Option.getD_some]
    cases rt w s with
    | none => rfl
    | some p => cases y <;> rfl
theorem leaveE_drop {st0 more : Sto} {Q : Sto → Prop} (h : Q st0) : LeaveE st0 (st0 ++ more) Q := .inr ⟨.pre, by simpa using h⟩
theorem drop2 {α : Type} {l : List α} {k : Nat} (h : k + 1 < l.length) : l.drop k = l[k] :: l[k + 1] :: l.drop (k + 2) := by
  rw [List.drop_eq_getElem_cons (by omega), List.drop_eq_getElem_cons h]
theorem opNotIn_pm {st : Sto} {o : List Nat} {k : D → Prop} : opNotIn st (tx o) (.tup [tx [43], tx [45]]) k = k (.bl (opSg o).isNone) := by
  show (flatD (tx o) = true ∧ ([tx [43], tx [45]] : List D).all flatD = true ∧ k (.bl (true ^^ [tx [43], tx [45]].any fun d => eqD d (tx o)))) = _
  have e1 : ∀ a b : List Nat, eqD (tx a) (tx b) = decide (a = b) := fun a b => SX.S_beq_eq
  simp only [List.any_cons, List.any_nil, e1]
  rw [show flatD (tx o) = true from rfl, show ([tx [43], tx [45]] : List D).all flatD = true from rfl]
  simp only [true_and]
  congr 2
  unfold opSg
  by_cases h1 : o = [43]
  · subst h1; rfl
  · by_cases h2 : o = [45]
    · subst h2; rfl
    · have h1' : ¬ [43] = o := fun e => h1 e.symm
      have h2' : ¬ [45] = o := fun e => h2 e.symm
      simp [h1, h2, h1', h2']
theorem l_p1 : D.str (Str.ofString "+") = tx [43] := rfl
theorem b_read_form (k_BadText : Addr) : BodyOk N_read_form P_read_form (sp_read_form k_BadText) (d_read_form k_BadText) := by
  rintro ds st Ed Q ⟨l, rfl, hl, h, hb⟩
  refine ⟨rfl, ?_⟩
  unfold d_read_form
  simp only [List.map_cons, List.map_nil, List.length_cons, List.length_nil, N_read_form, Nat.reduceAdd, Nat.reduceSub, List.replicate, List.cons_append, List.nil_append]
  have hsz : l.length ≤ 300 := hl.1
  refine seq_i fun nx hnx => ?_
  simp -implicitDefEqProofs
  rw [show D.str (Str.ofString " ") = tx [32] from rfl]
  refine Eq.mpr (opSplit_tx (by decide) (by decide)) ⟨len_size (by omega), ?_⟩
  have hwl := (spl32 l).1
  have hww := (spl32 l).2
  have hcnt := hl.2
  have hpz : parse l = (match TL.spl [32] 0 [] l with
    | [] => none
    | w :: r => match rt (cutSg w).2 (cutSg w).1, rts r with
      | some p, some ps => some (p :: ps)
      | _, _ => none) := rfl
  generalize TL.spl [32] 0 [] l = ws at *
  obtain ⟨w0, wr, hW⟩ : ∃ w0 wr, ws = w0 :: wr := by
    cases ws with
    | nil => cases hwl
    | cons w0 wr => exact ⟨_, _, rfl⟩
  rw [hW] at hpz
  simp only at hpz
  have h0 := hww w0 (by rw [hW]; exact List.mem_cons_self)
  have ix : ∀ (s2 : Sto) (k : D → Prop), opIx s2 (.fl (ws.map tx)) (.int 0) k = k (tx w0) := fun _ _ => opIx_fl (by rw [hW]; exact atI_lit ((w0 :: wr).map tx) 0)
  have bad : parse l = none → LeaveE st st (Ed k_BadText) := fun e => .inl (hb fun c ts hf z => by
    rw [← z, parse_wf hf] at e
    cases e)
  apply hnx
  clear hnx
  rw [show frz (D.tl (List.map tx ws)) = .fl (ws.map tx) from rfl]
  refine seq_i fun nx hnx => ?_
  simp -implicitDefEqProofs [ix]
  apply hnx
  clear hnx
  refine seq_i fun nx hnx => ?_
  simp -implicitDefEqProofs
  apply hnx
  clear hnx
  refine seq_i fun nx hnx => ?_
  have go : ∀ (s : Int) f, cutSg w0 = (s, f) → (s = 1 ∨ s = -1) → f.length ≤ 300 → nx [some (tx l), some (D.fl (List.map tx ws)), some (tx f), some (D.int s), none, none, none, none, none, none] st := by
    intro s f hcs hs1 hfl
    rw [hcs] at hpz
    simp only at hpz
    apply hnx
    clear hnx
    refine seq_i fun nx hnx => ?_
    simp -implicitDefEqProofs
    refine ⟨f, s, rfl, by omega, hs1, fun p hp => ?_, fun e => .inl (hb fun c ts hf z => by
      rw [← z, parse_wf hf, e] at hpz
      cases hpz)⟩
    simp -implicitDefEqProofs
    refine ⟨by decide, ?_⟩
    apply hnx
    clear hnx
    rw [show MO.lst [frz (D.tup [tx p.fst, D.int p.snd])] = .lst ([p].map eM) from rfl]
    rw [hp] at hpz
    refine seq_i fun nx hnx => ?_
    simp -implicitDefEqProofs
    have hf : ((ws.length : Nat) : Int).fmod 2 = ((ws.length % 2 : Nat) : Int) := by rw [Int.fmod_eq_emod_of_nonneg _ (by decide)]; rfl
    rw [hf]
    by_cases hev : ws.length % 2 = 0
    · rw [if_pos (by omega)]
      refine leaveE_drop (hb fun c ts hf z => ?_)
      rw [← z, parse_wf hf, rts_odd wr (by rw [hW] at hev; simp at hev; omega)] at hpz
      cases hpz
    · rw [if_neg (by omega)]
      apply hnx
      clear hnx
      refine seq_i fun nx hnx => ?_
      simp -implicitDefEqProofs
      have hodd : ws.length = wr.length + 1 := by rw [hW]; rfl
      have P : parse l = (rts wr).map fun r => [p] ++ r := by
        rw [hpz]
        cases rts wr <;> rfl
      clear hpz
      refine ⟨_, rgc_pos (a := 1) (b := ws.length) (c := 2) (by decide) (by decide) (by omega) (by omega), ?_⟩
      have hcount : (if 1 < ws.length then (ws.length - 1 - 1) / 2 + 1 else 0) = wr.length / 2 := by
        split
        · omega
        · omega
      rw [hcount]
      unfold stepD
      refine forN_inv (fun i : Nat => D.int (((1 : Nat) : Int) + (i : Nat) * ((2 : Nat) : Int))) (fun done env s2 => ∃ y acc, env = [some (tx l), some (D.fl (List.map tx ws)), some (tx f), some (D.int s), some (D.ref st.length), y, none, none, none, none] ∧ s2 = st ++ [.lst (acc.map eM)] ∧ acc.length = done.length + 1 ∧ (∀ p ∈ acc, POk p) ∧ parse l = (rts (wr.drop (2 * done.length))).map fun r => acc ++ r) (List.range (wr.length / 2)) ⟨none, [p], rfl, rfl, rfl, fun q hq => by cases List.mem_singleton.mp hq; exact rt_ok hp hs1 hfl, P⟩ (fun _ _ _ _ => trivial) ?_ ?_
      · rintro done a rest hi env s2 ⟨y, acc, rfl, rfl, hal, hall, hP⟩
        obtain ⟨rfl, ha⟩ := range_mid hi
        refine ⟨_, rfl, fun nx2 hnx2 => ?_⟩
        have hk : 2 * done.length + 1 < wr.length := by omega
        rw [drop2 hk, rts_step] at hP
        have i1 : atI (ws.map tx) (1 + (done.length : Int) * 2) = some (tx wr[2 * done.length]) := by
          rw [show (1 + (done.length : Int) * 2) = ((2 * done.length + 1 : Nat) : Int) by omega, atI_lit, hW, List.map_cons, List.getElem?_cons_succ, List.getElem?_map, List.getElem?_eq_getElem (by omega)]
          rfl
        have i2 : atI (ws.map tx) (1 + (done.length : Int) * 2 + 1) = some (tx wr[2 * done.length + 1]) := by
          rw [show (1 + (done.length : Int) * 2 + 1) = ((2 * done.length + 1 + 1 : Nat) : Int) by omega, atI_lit, hW, List.map_cons, List.getElem?_cons_succ, List.getElem?_map, List.getElem?_eq_getElem (by omega)]
          rfl
        have x1 : ∀ (s2 : Sto) (k : D → Prop), opIx s2 (.fl (ws.map tx)) (.int (1 + (done.length : Int) * 2)) k = k (tx wr[2 * done.length]) := fun _ _ => opIx_fl i1
        have x2 : ∀ (s2 : Sto) (k : D → Prop), opIx s2 (.fl (ws.map tx)) (.int (1 + (done.length : Int) * 2 + 1)) k = k (tx wr[2 * done.length + 1]) := fun _ _ => opIx_fl i2
        have hw2 := hww wr[2 * done.length + 1] (by rw [hW]; exact List.mem_cons_of_mem _ (List.getElem_mem _))
        generalize wr[2 * done.length] = o at *
        generalize wr[2 * done.length + 1] = w at *
        refine seq_i fun nx hnx => ?_
        simp -implicitDefEqProofs [x1]
        refine ⟨by decide, ?_⟩
        rw [show frz (D.tup [frz (D.str (Str.ofString "+")), frz (D.str (Str.ofString "-"))]) = D.tup [tx [43], tx [45]] from rfl, opNotIn_pm]
        dsimp only
        cases ho : opSg o with
        | none =>
          rw [ho] at hP
          rw [if_pos (by rfl)]
          refine leaveE_drop (hb fun c ts hf z => ?_)
          rw [← z, parse_wf hf] at hP
          cases hP
        | some s1 =>
          rw [ho] at hP
          simp only at hP
          rw [if_neg (by simp)]
          apply hnx
          clear hnx
          simp -implicitDefEqProofs [x1, x2, l_p1]
          have go2 : s1 = 1 ∨ s1 = -1 → sp_read_term k_BadText [tx w, .int s1] (st ++ [MO.lst (List.map eM acc)]) (fun C st' => LeaveE st st' (Ed C)) fun x st1 => opAppend st1 (D.ref st.length) [frz x] fun x st1 => nx2 [some (tx l), some (D.fl (List.map tx ws)), some (tx f), some (D.int s), some (D.ref (List.length st)), some (D.int (1 + ↑done.length * 2)), none, none, none, none] st1 := fun hs => by
            refine ⟨w, s1, rfl, by omega, hs, fun q hq => ?_, fun e => ?_⟩
            · rw [hq] at hP
              simp only at hP
              rw [show frz (D.tup [tx q.fst, D.int q.snd]) = eM q from rfl]
              refine Eq.mpr (opAppend_e (last_get _ _)) ⟨len_lt (by simp; omega), ?_⟩
              refine hnx2 _ _ ⟨_, acc ++ [q], rfl, by simp, by simp [hal], fun q' hq' => ?_, ?_⟩
              · rcases List.mem_append.mp hq' with hq' | hq'
                · exact hall q' hq'
                · cases List.mem_singleton.mp hq'
                  exact rt_ok hq hs (by omega)
              rw [hP, List.length_append, List.length_cons, List.length_nil, Nat.mul_add]
              rw [show 2 * done.length + 2 * (0 + 1) = 2 * done.length + 2 from rfl]
              cases rts (wr.drop (2 * done.length + 2)) <;> simp
            · rw [e] at hP
              refine leaveE_drop (hb fun c ts hf z => ?_)
              rw [← z, parse_wf hf] at hP
              cases hP
          refine ⟨tyOk_list (last_get _ _), ?_⟩
          rcases opSg_s ho with ⟨rfl, rfl⟩ | ⟨rfl, rfl⟩
          · rw [if_pos rfl]
            exact go2 (.inl rfl)
          · rw [if_neg (by decide)]
            exact go2 (.inr rfl)
      · rintro env s2 ⟨y, acc, rfl, rfl, hal, hall, hP⟩
        rw [List.length_range] at hal hP
        rw [List.drop_of_length_le (by omega)] at hP
        have hP : parse l = some acc := by rw [hP]; simp [rts]
        apply hnx
        clear hnx
        refine seq_i fun nx hnx => ?_
        have hlen : acc.length ≤ 60 := by omega
        simp -implicitDefEqProofs
        have hst : stays (st ++ [MO.lst (List.map eM acc)]) (D.ref st.length) (st ++ [MO.lst (List.map eM acc)]) := rfl
        rw [show frz (D.ref st.length) = D.ref st.length from rfl, items_seq seq_last]
        simp only
        refine lcN_fm eM (fun p => if p.1 = [] then some (D.int p.2) else none) hst acc [] (by simp; exact len_size (by omega)) (fun p hp kt kf hk => ?_) ?_
        · simp -implicitDefEqProofs [wipeD, eM, l_nil]
          by_cases e : p.1 = []
          · rw [if_pos e] at hk ⊢
            exact hk
          · rw [if_neg e] at hk ⊢
            exact hk
        have e1 : List.filterMap (fun p => if p.1 = [] then some (D.int p.2) else none) acc = (consts acc).map D.int := by
          unfold consts
          rw [List.map_filterMap]
          congr 1
          funext p
          split <;> rfl
        rw [List.nil_append, e1]
        refine Eq.mpr (opSum_e (ns := consts acc) rfl) ?_
        rw [items_seq seq_last]
        simp only
        refine lcN_fm eM (fun p => if p.1 = [] then none else some (eM p)) hst acc [] (by simp; exact len_size (by omega)) (fun p hp kt kf hk => ?_) ?_
        · simp -implicitDefEqProofs [wipeD, eM, l_nil]
          by_cases e : p.1 = []
          · rw [if_pos e] at hk ⊢
            exact hk
          · rw [if_neg e] at hk ⊢
            exact hk
        have e2 : List.filterMap (fun p => if p.1 = [] then none else some (eM p)) acc = (named acc).map eP := by
          unfold named
          rw [List.map_filterMap]
          congr 1
          funext p
          split <;> rfl
        rw [List.nil_append, e2]
        have hnl : (named acc).length ≤ 60 := Nat.le_trans (List.length_filterMap_le _ _) hlen
        refine ⟨_, _, named acc, rfl, rfl, by omega, fun ts nf => ?_⟩
        obtain ⟨fine, shown⟩ := read_ok hall hlen nf
        apply hnx
        clear hnx
        refine seq_i fun nx hnx => ?_
        simp -implicitDefEqProofs
        refine ⟨_, ts, rfl, shown, ?_⟩
        simp -implicitDefEqProofs
        by_cases hwf : wf (consts acc).sum ts = l
        · rw [if_pos hwf]
          apply hnx
          clear hnx
          simp -implicitDefEqProofs
          exact leave_drop (cl_eF _ _ _) (h _ _ fine hwf shown)
        · rw [if_neg hwf]
          refine leaveE_drop (hb fun c us hf z => ?_)
          rw [← z, parse_wf hf] at hP
          have ht := Option.some.inj hP
          have hn := named_tell (c := c) hf
          rw [ht] at hn
          rw [hn.1] at nf
          have hu : Nf us (coef us) := ⟨hf.srt, hf.nz, fun _ => rfl⟩
          have := hu.unique nf
          subst this
          rw [hn.2] at hwf
          exact hwf z
  simp -implicitDefEqProofs [l_minus]
  refine ⟨len_size (by omega), ?_⟩
  rw [show cutD w0 none (some 1) = w0.take 1 from cutD_to w0 1]
  cases w0 with
  | nil =>
    rw [if_neg (by decide)]
    exact go 1 [] rfl (.inl rfl) (by decide)
  | cons c r =>
    by_cases hc : c = 45
    · subst hc
      rw [if_pos (by rfl)]
      refine seq_i fun nx hnx => ?_
      simp -implicitDefEqProofs
      apply hnx
      clear hnx
      simp -implicitDefEqProofs
      refine ⟨len_size (by simp at h0; omega), ?_⟩
      rw [show cutD (45 :: r) (some 1) none = (45 :: r).drop 1 from cutD_from _ 1]
      exact go (-1) r (by simp [cutSg]) (.inr rfl) (by simp at h0; omega)
    · rw [if_neg (by simpa using hc)]
      exact go 1 (c :: r) (by simp [cutSg, hc]) (.inl rfl) (by omega)
end K66

namespace K66
open PySem L2 DW TX FormM
theorem b_law_form : BodyOk N_law_form P_law_form sp_law_form d_law_form := fun ds st Ed Q h => b_form ds st Ed Q h
theorem flat1 : ∀ l : List Nat, (l.map fun c => [c]).flatten = l
  | [] => rfl
  | c :: l => by rw [List.map_cons, List.flatten_cons, flat1 l]; rfl
/-- signs that a name may have -/
def nmc (c : Nat) : Bool := fst c || dig c
theorem isN_app {a b : List Nat} (ha : isN a = true) (hb : b.all nmc = true) : isN (a ++ b) = true := by
  obtain ⟨c, r, rfl, hc⟩ := isN_head ha
  unfold isN at ha ⊢
  rw [Bool.and_eq_true] at ha
  rw [List.all_append, ha.1]
  simp only [List.cons_append, hc, Bool.true_and, Bool.not_false, Bool.and_true]
  exact hb
theorem b_law_some_name : BodyOk N_law_some_name P_law_some_name sp_law_some_name d_law_some_name := by
  rintro ds st Ed Q ⟨x, rest, rfl, rfl, h⟩
  refine ⟨rfl, ?_⟩
  unfold d_law_some_name
  simp only [List.map_cons, List.map_nil, List.length_cons, List.length_nil, N_law_some_name, Nat.reduceAdd, Nat.reduceSub, List.replicate, List.cons_append, List.nil_append]
  refine seq_i fun nx hnx => ?_
  simp -implicitDefEqProofs
  refine ⟨by decide, x, _, rest, rfl, rfl, by simp, by simp, rfl, fun d x1 hd => ?_⟩
  obtain ⟨n0, rfl, hn, hl0⟩ : ∃ l, d = tx l ∧ isN l = true ∧ l.length ≤ 2 := by
    simp only [List.mem_cons, List.not_mem_nil, or_false] at hd
    rcases hd with rfl | rfl | rfl | rfl | rfl | rfl | rfl | rfl | rfl <;> exact ⟨_, rfl, by decide, by decide⟩
  apply hnx
  clear hnx
  simp -implicitDefEqProofs [l_nil]
  refine ⟨x1, _, rest, rfl, rfl, by decide, lg_small (by decide) (by decide), fun r x1 h0 h1 => ?_⟩
  refine ⟨by omega, by omega, ?_⟩
  unfold rangeD
  refine lcN_inv (fun i : Nat => D.int (0 + (i : Nat))) (fun done acc s => ∃ (l : List Nat) (x2 : Sx), acc = (l.map fun c => [c]).map tx ∧ s = dst x2 :: rest ∧ l.length = done.length ∧ l.all nmc = true) (List.range r.toNat) (len_size (by simp; omega)) ⟨[], x1, rfl, rfl, rfl, rfl⟩ (fun _ _ _ _ => trivial) ?_ ?_
  · rintro done a rs hi acc s ⟨l, x2, rfl, rfl, hl, hp⟩
    refine ⟨_, rfl, fun kt hkt => ?_⟩
    simp -implicitDefEqProofs [wipeD]
    refine ⟨by decide, x2, _, rest, rfl, rfl, by simp, by simp, rfl, fun d x3 hd => ?_⟩
    obtain ⟨c, rfl, hc⟩ : ∃ c, d = tx [c] ∧ nmc c = true := by
      simp only [List.mem_cons, List.not_mem_nil, or_false] at hd
      rcases hd with rfl | rfl | rfl | rfl | rfl | rfl | rfl | rfl | rfl <;> exact ⟨_, rfl, by decide⟩
    refine hkt _ _ ⟨l ++ [c], x3, by simp [keep], rfl, by simp [hl], by rw [List.all_append, hp]; simp [hc]⟩
  · rintro acc s ⟨l, x2, rfl, rfl, hl, hp⟩
    have e1 : TL.joinL [] (l.map fun c => [c]) = l := by
      rw [joinL_nil]
      exact flat1 l
    have e2 : ∀ l : List Nat, ((l.map fun c => [c]).map List.length).sum = l.length := by
      intro l
      induction l with
      | nil => rfl
      | cons c l ih => rw [List.map_cons, List.map_cons, List.sum_cons, ih, List.length_cons]; simp; omega
    have hl5 : l.length ≤ 2 := by rw [hl, List.length_range]; omega
    refine Eq.mpr (opJoin_tx (ys := l.map fun c => [c]) rfl) ⟨?_, ?_⟩
    · rw [e2, List.length_map]
      simp
      omega
    · rw [e1]
      simp -implicitDefEqProofs
      exact ⟨len_size (by omega), leave_stay (h _ x2 (isN_app hn hp) (by simp; omega))⟩
end K66

namespace K66
open PySem L2 DW TX FormM
theorem coef_nat {B : Nat} (n : Str) : ∀ {ts : Terms}, (∀ p ∈ ts, p.2.natAbs ≤ B) → (coef ts n).natAbs ≤ ts.length * B
  | [], _ => by simp
  | p :: ts, h => by
    have h1 := h p List.mem_cons_self
    have h2 := coef_nat n fun q hq => h q (List.mem_cons_of_mem _ hq)
    rw [coef_cons, List.length_cons, Nat.succ_mul]
    split <;> omega
theorem strs_tx (ns : List (List Nat)) : strs? (ns.map tx) = some (ns.map SX.S) := by
  have e : ns.map tx = (ns.map SX.S).map D.str := by rw [List.map_map]; rfl
  rw [e, strs_map]
theorem b_law_some_form : BodyOk N_law_some_form P_law_some_form sp_law_some_form d_law_some_form := by
  rintro ds st Ed Q ⟨x, rest, rfl, rfl, h⟩
  refine ⟨rfl, ?_⟩
  unfold d_law_some_form
  simp only [List.map_cons, List.map_nil, List.length_cons, List.length_nil, N_law_some_form, Nat.reduceAdd, Nat.reduceSub, List.replicate, List.cons_append, List.nil_append]
  refine seq_i fun nx hnx => ?_
  simp -implicitDefEqProofs
  refine ⟨x, _, rest, rfl, rfl, by decide, lg_small (by decide) (by decide), fun r x1 h0 h1 => ?_⟩
  refine ⟨by omega, by omega, ?_⟩
  unfold rangeD
  refine lcN_inv (fun i : Nat => D.int (0 + (i : Nat))) (fun done acc s => ∃ (ns : List (List Nat)) (x2 : Sx), acc = ns.map tx ∧ s = dst x2 :: rest ∧ ns.length = done.length ∧ ∀ n ∈ ns, isN n = true ∧ n.length ≤ 4) (List.range r.toNat) (len_size (by simp; omega)) ⟨[], x1, rfl, rfl, rfl, fun _ h => by cases h⟩ (fun _ _ _ _ => trivial) ?_ ?_
  · rintro done a rs hi acc s ⟨ns, x2, rfl, rfl, hl, hp⟩
    refine ⟨_, rfl, fun kt hkt => ?_⟩
    simp -implicitDefEqProofs [wipeD]
    refine ⟨x2, rest, rfl, rfl, fun n x3 hn hl3 => ?_⟩
    refine hkt _ _ ⟨ns ++ [n], x3, by simp [keep], rfl, by simp [hl], fun m hm => ?_⟩
    rcases List.mem_append.mp hm with hm | hm
    · exact hp m hm
    · cases List.mem_singleton.mp hm; exact ⟨hn, hl3⟩
  · rintro acc s ⟨ns, x2, rfl, rfl, hl, hp⟩
    have hns : ns.length ≤ 4 := by rw [hl, List.length_range]; omega
    apply hnx
    clear hnx
    refine seq_i fun nx hnx => ?_
    simp -implicitDefEqProofs
    have e0 : (seqOf (dst x2 :: rest) (frz (frz (D.tl (List.map tx ns))))).bind strs? = some (ns.map SX.S) := strs_tx ns
    rw [e0]
    simp only
    have hd := dedup_len (ns.map SX.S)
    rw [List.length_map] at hd
    refine ⟨by rw [List.length_map]; omega, by omega, fun ys hpm hso => ?_⟩
    have hyl : ys.length ≤ 4 := by have := hpm.length_eq; omega
    have hyn : ∀ n ∈ ys, isN (cs n) = true ∧ (cs n).length ≤ 4 := fun n hn => by
      have := (dedup_mem _ _).mp (hpm.mem_iff.mp hn)
      obtain ⟨l, hl, rfl⟩ := List.mem_map.mp this
      rw [show cs (SX.S l) = l from cs_mk l]
      exact hp l hl
    clear hpm hso e0 hd
    rw [items_seq (show seqOf _ (frz (.tl (ys.map .str))) = some (ys.map .str) from rfl)]
    simp only
    refine lcN_inv D.str (fun done acc s => ∃ (ps : Terms) (x3 : Sx), acc = ps.map eP ∧ s = dst x3 :: rest ∧ ps.length = done.length ∧ (∀ p ∈ ps, p.1 ∈ ys) ∧ ∀ p ∈ ps, p.2.natAbs ≤ 12345678901234567890) ys (len_size (by omega)) ⟨[], x2, rfl, rfl, rfl, (fun _ h => by cases h), (fun _ h => by cases h)⟩ (fun _ _ _ _ => trivial) ?_ ?_
    · rintro done n rs hi acc s ⟨ps, x3, rfl, rfl, hpl, hpn, hpb⟩
      refine ⟨_, rfl, fun kt hkt => ?_⟩
      simp -implicitDefEqProofs [wipeD]
      refine ⟨by decide, x3, _, rest, rfl, rfl, by simp, by simp, rfl, fun d x4 hd => ?_⟩
      obtain ⟨i, rfl, hib⟩ : ∃ i, d = .int i ∧ i.natAbs ≤ 12345678901234567890 := by
        simp only [List.mem_cons, List.not_mem_nil, or_false] at hd
        rcases hd with rfl | rfl | rfl | rfl | rfl | rfl | rfl | rfl <;> exact ⟨_, rfl, by decide⟩
      refine ⟨by decide, hkt _ _ ⟨ps ++ [(n, i)], x4, by rw [List.map_append]; rfl, rfl, by simp [hpl], fun p hp => ?_, fun p hp => ?_⟩⟩
      · rcases List.mem_append.mp hp with hp | hp
        · exact hpn p hp
        · cases List.mem_singleton.mp hp; rw [hi]; simp
      · rcases List.mem_append.mp hp with hp | hp
        · exact hpb p hp
        · cases List.mem_singleton.mp hp; exact hib
    · rintro acc s ⟨ps, x3, rfl, rfl, hpl, hpn, hpb⟩
      apply hnx
      clear hnx
      simp -implicitDefEqProofs
      refine ⟨by decide, x3, _, rest, rfl, rfl, by simp, by simp, rfl, fun d x4 hd => ?_⟩
      obtain ⟨c, rfl, hcb⟩ : ∃ i, d = .int i ∧ i.natAbs < 10 ^ 20 := by
        simp only [List.mem_cons, List.not_mem_nil, or_false] at hd
        rcases hd with rfl | rfl | rfl | rfl | rfl | rfl | rfl <;> exact ⟨_, rfl, by decide⟩
      have hb4 : ps.length ≤ 4 := by omega
      refine ⟨c, _, ps, rfl, rfl, by omega, fun ts nf => leave_stay (h c ts x4 ?_)⟩
      have hin : InN ys ts := nf.inN hpn
      have hnm : ∀ p ∈ ts, isN (cs p.1) = true ∧ (cs p.1).length ≤ 4 := fun p hp => hyn _ (hin p hp)
      refine ⟨⟨nf.srt, nf.nz, fun p hp => (hnm p hp).1⟩, ?_, fun p hp => (hnm p hp).2, fun p hp => ?_, hcb⟩
      · have := nf.len hin; omega
      · rw [nf.at hp]
        have h1 := coef_nat p.1 hpb
        have h2 : ps.length * 12345678901234567890 ≤ 4 * 12345678901234567890 := Nat.mul_le_mul_right _ hb4
        exact Nat.lt_of_le_of_lt (Nat.le_trans h1 h2) (by decide)
end K66

namespace K66
open PySem L2 DW TX FormM
def eB (p : Part) : D := .tup [.bl p.1, tx p.2]
theorem told_lay {p : Part} (h : ∀ c ∈ p.2, c < 0x110000) : (toPy (eB p)).canLay0 = true ∧ (toPy (eB p)).depth ≤ 62 := by
  have h1 : PyData.strOk (SX.S p.2) = true := by
    show (SX.S p.2).cps.all (· < 0x110000) = true
    rw [← Array.all_toList, List.all_eq_true]
    intro c hc
    exact decide_eq_true (h c hc)
  refine ⟨?_, ?_⟩
  · show (PyData.tuple [.bool p.1, .str (SX.S p.2)]).canLay0 = true
    simp [PyData.canLay0, PyData.canLayAll0, h1]
  · show (PyData.tuple [.bool p.1, .str (SX.S p.2)]).depth ≤ 62
    simp [PyData.depth, PyData.depthAll]
theorem told_asc {n : List Nat} {k : Int} (h : isN n = true) : ∀ c ∈ told n k, c < 0x110000 := by
  intro c hc
  have hn : ∀ c ∈ n, c < 0x110000 := fun c hc => by have := (fd_ok (isN_all h hc)).2.2.2.2; omega
  unfold told at hc
  split at hc
  · exact hn c hc
  · rcases List.mem_append.mp hc with hc | hc
    · have := TL.numL_digits _ c hc; omega
    · rcases List.mem_cons.mp hc with rfl | hc
      · decide
      · exact hn c hc
theorem opSl_ref {st : Sto} {n : Nat} {ds : List D} {lo hi : Option Int} {k : D → Prop} (h : lisOf st (.ref n) = some ds) : opSl st (.ref n) lo hi k = k (.tl (cutD ds lo hi)) := by
  show (match lisOf st (.ref n) with | some ds => k (.tl (cutD ds lo hi)) | none => False) = _
  rw [h]
theorem b_law_written : BodyOk N_law_written P_law_written sp_law_written d_law_written := by
  rintro ds st Ed Q ⟨c, ts, rfl, hfine, hs, h⟩
  refine ⟨rfl, ?_⟩
  unfold d_law_written
  simp only [List.map_cons, List.map_nil, List.length_cons, List.length_nil, N_law_written, Nat.reduceAdd, Nat.reduceSub, List.replicate, List.cons_append, List.nil_append]
  unfold eF
  have hlen := hs.len
  refine seq_i fun nx hnx => ?_
  simp -implicitDefEqProofs
  apply hnx
  clear hnx
  refine seq_i fun nx hnx => ?_
  simp -implicitDefEqProofs
  rw [items_seq (show seqOf _ (frz (.tup (ts.map eP))) = some (ts.map eP) from rfl)]
  simp only
  have ea : ∀ k : Int, (if k < 0 then -k else k) = ((k.natAbs : Nat) : Int) := fun k => by split <;> omega
  have lg : ∀ k : Int, Dg 500 k → k.natAbs.log2 < 1920 := fun k h => log_small (k := 1700) (Nat.lt_trans h.lt (by decide +kernel)) (by decide)
  refine forN_inv (fun p => eM (cs p.1, p.2)) (fun done env s => ∃ y z w, env = [some (D.tup [D.int c, D.tup (List.map eP ts)]), some (D.ref st.length), y, z, w, none, none] ∧ s = st ++ [.lst ((partsT done).map eB)]) ts ⟨none, none, none, rfl, rfl⟩ (fun _ _ _ _ => trivial) ?_ ?_
  · rintro done ⟨n, k⟩ rest hi env s ⟨y, z, w, rfl, rfl⟩
    refine ⟨_, rfl, fun nx2 hnx2 => ?_⟩
    have hp := hs.nm (n, k) (by rw [hi]; simp)
    have hd := hs.dg (n, k) (by rw [hi]; simp)
    have hdl : (partsT done).length ≤ 64 := by
      unfold partsT
      rw [List.length_map]
      rw [hi] at hlen
      simp at hlen
      omega
    have hd1 : (TL.numL k.natAbs).length ≤ 500 := hd
    simp only at hp hd
    have fin : ∀ z' , opAppend (st ++ [MO.lst (List.map eB (partsT done))]) (.ref st.length) [frz (D.tup [.bl (decide (k < 0)), tx (told (cs n) k)])] z' → True := fun _ _ => trivial
    refine seq_i fun nx hnx => ?_
    simp -implicitDefEqProofs
    apply hnx
    clear hnx
    refine seq_i fun nx hnx => ?_
    simp -implicitDefEqProofs [ea, -opStrI_e, l_star]
    have go : nx [some (D.tup [D.int c, D.tup (List.map eP ts)]), some (D.ref st.length), some (tx (cs n)), some (D.int k), some (tx (told (cs n) k)), none, none] (st ++ [MO.lst (List.map eB (partsT done))]) := by
      apply hnx
      clear hnx
      simp -implicitDefEqProofs
      refine ⟨tyOk_list (last_get _ _), by decide, len_lt (by omega), hnx2 _ _ ⟨_, _, _, rfl, ?_⟩⟩
      unfold partsT
      simp [eB]
    by_cases h1 : k.natAbs = 1
    · rw [if_pos (by omega)]
      unfold told at go
      rw [if_pos h1] at go
      exact go
    · rw [if_neg (by omega)]
      unfold told at go
      rw [if_neg h1] at go
      refine ⟨lg _ hd, len_size (by omega), len_size (by have := hp.2; simp at this ⊢; omega), ?_⟩
      simpa using go
  · rintro env s ⟨y, z, w, rfl, rfl⟩
    apply hnx
    clear hnx
    refine seq_i fun nx hnx => ?_
    have hpl : (parts c ts).length ≤ 64 := by
      unfold parts partsT
      rw [List.length_append, List.length_map]
      split <;> simp <;> omega
    have go : nx [some (D.tup [D.int c, D.tup (List.map eP ts)]), some (D.ref st.length), y, z, w, none, none] (st ++ [MO.lst ((parts c ts).map eB)]) := by
      apply hnx
      clear hnx
      have hne := parts_ne c ts
      unfold wf at h
      obtain ⟨ms, hms, hmok, hml⟩ : ∃ ms, parts c ts = ms.map pm ∧ (∀ p ∈ ms, MOk p) ∧ ms.length ≤ 64 := ⟨mem1 c ts, parts_mem (fun p hp => (hs.nm p hp).1), mem1_ok hs, mem1_len hs⟩
      rw [hms] at hne h ⊢
      rw [List.map_map]
      clear hms
      cases ms with
      | nil => exact absurd rfl hne
      | cons m ms =>
      have hfull : ∀ done, (∀ p ∈ done, p ∈ ms) → done.length ≤ ms.length → (joinW ((m :: done).map pm)).length ≤ 100000 := fun done hd hl => by
        have := joinW_len (ps := m :: done) fun p hp => by
          rcases List.mem_cons.mp hp with rfl | hp
          · exact hmok _ List.mem_cons_self
          · exact hmok _ (List.mem_cons_of_mem _ (hd p hp))
        simp only [List.length_cons] at this hml
        omega
      have ix : ∀ k : D → Prop, opIx (st ++ [MO.lst ((m :: ms).map (eB ∘ pm))]) (.ref st.length) (.int 0) k = k (eB (pm m)) := fun k => opIx_ref (last_get _ _) (atI_lit ((m :: ms).map (eB ∘ pm)) 0)
      have i0 : ∀ (s : Sto) (k : D → Prop), opIx s (frz (eB (pm m))) (frz (D.int 0)) k = k (.bl (pm m).1) := fun _ _ => opIx_tup rfl
      have i1 : ∀ (s : Sto) (k : D → Prop), opIx s (frz (eB (pm m))) (frz (D.int 1)) k = k (tx (pm m).2) := fun _ _ => opIx_tup rfl
      have i2 : ∀ (b : Bool) (s : Sto) (k : D → Prop), opIx s (frz (D.tl [tx [], tx [45]])) (.int (if b = true then 1 else 0)) k = k (tx (sg0 b)) := fun b _ _ => by cases b <;> exact opIx_fl rfl
      have hj0 := hfull [] (fun _ h => by cases h) (by simp)
      have hj1 : joinW ([m].map pm) = sg0 (pm m).1 ++ (pm m).2 := by simp [joinW, tailW]
      rw [hj1, List.length_append] at hj0
      refine seq_i fun nx hnx => ?_
      generalize hX : (m :: ms).map (eB ∘ pm) = X at *
      simp -implicitDefEqProofs [l_nil, l_minus, ix]
      refine ⟨by decide, ?_⟩
      rw [i0, opInt_b, show ∀ i : Int, frz (D.int i) = D.int i from fun _ => rfl, i2]
      rw [show ∀ l, frz (tx l) = tx l from fun _ => rfl, i1]
      simp -implicitDefEqProofs
      refine ⟨len_size (by omega), ?_⟩
      rw [← hj1]
      apply hnx
      clear hnx
      refine seq_i fun nx hnx => ?_
      simp -implicitDefEqProofs
      refine Eq.mpr (opSl_ref lis_last) ?_
      have hX1 : X.drop 1 = ms.map (eB ∘ pm) := by rw [← hX]; rfl
      rw [show cutD X (some 1) none = X.drop 1 from cutD_from X 1, hX1, show frz (D.tl (ms.map (eB ∘ pm))) = .fl (ms.map (eB ∘ pm)) from rfl]
      rw [items_seq (show seqOf _ (.fl (ms.map (eB ∘ pm))) = some (ms.map (eB ∘ pm)) from rfl)]
      simp only
      refine forN_inv (eB ∘ pm) (fun done env s => ∃ w v, env = [some (D.tup [D.int c, D.tup (List.map eP ts)]), some (D.ref st.length), y, z, w, some (tx (joinW ((m :: done).map pm))), v] ∧ s = st ++ [.lst X]) ms ⟨w, none, rfl, rfl⟩ (fun _ _ _ _ => trivial) ?_ ?_
      · rintro done p rest hi env s ⟨w, v, rfl, rfl⟩
        refine ⟨_, rfl, fun nx2 hnx2 => ?_⟩
        have hj := hfull (done ++ [p]) (fun q hq => by
          rw [hi]
          rcases List.mem_append.mp hq with hq | hq
          · simp [hq]
          · cases List.mem_singleton.mp hq; simp) (by rw [hi]; simp)
        have hsn : joinW ((m :: (done ++ [p])).map pm) = joinW ((m :: done).map pm) ++ (sg1 (pm p).1 ++ (pm p).2) := by
          rw [← List.cons_append, List.map_append]
          exact joinW_snoc (by simp) _
        rw [hsn, List.length_append, List.length_append] at hj
        have i3 : ∀ (b : Bool) (s : Sto) (k : D → Prop), opIx s (frz (D.tl [tx [32, 43, 32], tx [32, 45, 32]])) (.int (if b = true then 1 else 0)) k = k (tx (sg1 b)) := fun b _ _ => by cases b <;> exact opIx_fl rfl
        generalize hJ : joinW ((m :: done).map pm) = J at *
        simp -implicitDefEqProofs [l_pl, l_mi]
        refine ⟨by decide, ?_⟩
        rw [show ∀ i : Int, frz (D.int i) = D.int i from fun _ => rfl, i3]
        simp -implicitDefEqProofs
        refine ⟨len_size (by omega), len_size (by omega), hnx2 _ _ ⟨some (tx (pm p).snd), some (D.bl (pm p).fst), ?_, rfl⟩⟩
        rw [hsn]
      · rintro env s ⟨w, v, rfl, rfl⟩
        apply hnx
        clear hnx
        simp -implicitDefEqProofs
        exact leave_drop rfl h
    simp -implicitDefEqProofs [-opStrI_e, ea]
    have yes : (c ≠ 0 ∨ ts = []) → nx [some (D.tup [D.int c, D.tup (List.map eP ts)]), some (D.ref (List.length st)), y, z, w, none, none] (st ++ [MO.lst (List.map eB (partsT ts) ++ [frz (D.tup [frz (D.bl (decide (c < 0))), tx (TL.numL c.natAbs)])])]) := fun z => by
      have e : (parts c ts).map eB = (partsT ts).map eB ++ [frz (D.tup [frz (D.bl (decide (c < 0))), tx (TL.numL c.natAbs)])] := by unfold parts; rw [if_pos z, List.map_append]; rfl
      rw [e] at go
      exact go
    have no : ¬ (c ≠ 0 ∨ ts = []) → nx [some (D.tup [D.int c, D.tup (List.map eP ts)]), some (D.ref (List.length st)), y, z, w, none, none] (st ++ [MO.lst (List.map eB (partsT ts))]) := fun z => by
      have e : parts c ts = partsT ts := by unfold parts; rw [if_neg z, List.append_nil]
      rw [e] at go
      exact go
    have hty : tyOk (st ++ [MO.lst (List.map eB (partsT ts))]) "list" (frz (D.ref (List.length st))) := tyOk_list (last_get _ _)
    have htl : (partsT ts).length < 64 := by unfold partsT; rw [List.length_map]; omega
    have hmem : ∀ p ∈ partsT ts, ∀ c ∈ p.2, c < 0x110000 := fun p hp => by
      obtain ⟨q, hq, rfl⟩ := List.mem_map.mp hp
      exact told_asc (hfine.nm q hq)
    split
    · rename_i hc
      refine Eq.mpr (opEqL_nil lis_last (areDat_iff.mpr fun d hd => ?_) (shaped_list fun d hd => ?_)) ?_
      · obtain ⟨p, hp, rfl⟩ := List.mem_map.mp hd
        rfl
      · obtain ⟨p, hp, rfl⟩ := List.mem_map.mp hd
        exact told_lay (hmem p hp)
      · cases ts with
        | nil => exact ⟨hty, lg _ hs.dc, by decide, by decide, yes (.inr rfl)⟩
        | cons p r => exact no (by simp [hc])
    · rename_i hc
      exact ⟨hty, lg _ hs.dc, by decide, len_lt (by omega), yes (.inl hc)⟩
end K66

namespace K66
open PySem L2 DW TX FormM
theorem sTryAs_e {cl : List (Addr × Bool)} {i : Nat} {db : DS} {dsu : Addr → Addr → DS} {Ed : EdT} {De : DEnds} {env : Slots} {st : Sto} : sTryAs cl i db dsu Ed De env st =
  db (fun C env' st' => ∃ b, (C, b) ∈ cl ∧ (b = true → ∀ a, dsu C a noEd { nx := fun e s => De.nx (e.set i none) s, rt := De.rt, bk := fun e s => De.bk (e.set i none) s, ct := fun e s => De.ct (e.set i none) s } (env'.set i (some (.con a))) st') ∧ (b = false → Ed C env' st')) De env st := rfl
theorem frz_eF (c : Int) (ts : Terms) : frz (eF c ts) = eF c ts := rfl
theorem b_law_read (k_BadText k_MeanwithinError : Addr) : BodyOk N_law_read P_law_read (sp_law_read k_BadText k_MeanwithinError) (d_law_read k_BadText k_MeanwithinError) := by
  rintro ds st Ed Q ⟨l, rfl, hl, h, hno⟩
  refine ⟨rfl, ?_⟩
  have exc : ∀ (st' : Sto) (a : Addr), DW.Leave st (.tup []) st' Q → opIsE a k_MeanwithinError true st' [frz (D.con a), frz (D.con k_MeanwithinError)] fun z =>
                opInt st' [frz z] fun z =>
                  opIx st' (frz (D.tl [frz (D.str (Str.ofString "none")), frz (D.tup [])])) (frz z) fun z =>
                    DW.Leave st z st' Q := fun st' a h => ⟨rfl, rfl, h⟩
  unfold d_law_read
  simp only [List.map_cons, List.map_nil, List.length_cons, List.length_nil, N_law_read, Nat.reduceAdd, Nat.reduceSub, List.replicate, List.cons_append, List.nil_append]
  rw [sTryAs_e]
  simp -implicitDefEqProofs
  refine ⟨l, rfl, hl, fun c ts hf hw hs => ⟨by decide, leave_stay ?_⟩, fun hn => ⟨rfl, fun a => ⟨rfl, by decide, exc _ _ (leave_stay (hno hn))⟩⟩⟩
  rw [frz_eF]
  exact h c ts hf hw hs
end K66

namespace K66
open PySem L2 DW TX FormM
/-- a text bent by hand -/
theorem bent3 {l a b c : List Nat} (ha : a.length + c.length ≤ 2 * l.length) (hc : a.count 32 + c.count 32 ≤ 2 * l.count 32) (hb : b.length ≤ 8) (hb2 : b.count 32 ≤ 4) : Bent l (a ++ b ++ c) := by
  refine ⟨by simp; omega, ?_⟩
  rw [List.count_append, List.count_append]
  omega
theorem take_cnt (l : List Nat) (k : Nat) : (l.take k).count 32 ≤ l.count 32 := (List.take_sublist k l).count_le 32
theorem drop_cnt (l : List Nat) (k : Nat) : (l.drop k).count 32 ≤ l.count 32 := (List.drop_sublist k l).count_le 32
theorem b_law_changed : BodyOk N_law_changed P_law_changed sp_law_changed d_law_changed := by
  rintro ds st Ed Q ⟨x, rest, l, rfl, rfl, hl, h⟩
  refine ⟨rfl, ?_⟩
  have hsz : l.length ≤ sizeLine := len_size (by omega)
  unfold d_law_changed
  simp only [List.map_cons, List.map_nil, List.length_cons, List.length_nil, N_law_changed, Nat.reduceAdd, Nat.reduceSub, List.replicate, List.cons_append, List.nil_append]
  refine seq_i fun nx hnx => ?_
  simp -implicitDefEqProofs [l_pl]
  refine Eq.mpr (opSplit_tx (by decide) (by decide)) ⟨len_size (by omega), ?_⟩
  have hj : TL.joinL [32, 43, 32] (TL.spl [32, 43, 32] 0 [] l) = l := join_spl _ (by decide) (by decide) l
  generalize TL.spl [32, 43, 32] 0 [] l = qs at *
  have e1 : D.str (Str.ofString " ") = tx [32] := rfl
  have e2 : D.str (Str.ofString " + 0") = tx [32, 43, 32, 48] := rfl
  have e3 : D.str (Str.ofString "1*") = tx [49, 42] := rfl
  have e4 : D.str (Str.ofString "0*i + ") = tx [48, 42, 105, 32, 43, 32] := rfl
  have e5 : D.str (Str.ofString "+") = tx [43] := rfl
  have e6 : D.str (Str.ofString " + i") = tx [32, 43, 32, 105] := rfl
  apply hnx
  clear hnx
  rw [show frz (D.tl (List.map tx qs)) = .fl (qs.map tx) from rfl]
  refine seq_i fun nx hnx => ?_
  simp -implicitDefEqProofs [e1, e2, e3, e4, e5, e6, l_minus, l_mi, l_pl, l_nil]
  have le : ∀ n, n ≤ 3 * l.length + 10 → n ≤ sizeLine := fun n hn => len_size (by omega)
  refine ⟨le _ (by omega), le _ (by omega), le _ (by omega), le _ (by omega), le _ (by omega), le _ (by omega), le _ (by omega), le _ (by omega), le _ (by omega), ?_⟩
  rw [show lisOf (dst x :: rest) (frz (D.fl (List.map tx qs))) = some (qs.map tx) from rfl]
  dsimp only
  have hlr : (TL.joinL [32, 43, 32] qs.reverse).length = l.length := by rw [rev_len, hj]
  have hcr : (TL.joinL [32, 43, 32] qs.reverse).count 32 = l.count 32 := by rw [rev_cnt, hj]
  have hjl := joinL_len [32, 43, 32] qs.reverse
  rw [hlr] at hjl
  refine Eq.mpr (opJoin_tx (ys := qs.reverse) (by rw [← List.map_reverse]; rfl)) ⟨?_, ?_⟩
  · simp only [List.length_cons, List.length_nil] at hjl ⊢
    rw [List.map_reverse, sum_rev] at *
    omega
  generalize TL.joinL [32, 43, 32] qs.reverse = jr at *
  refine ⟨by decide, ?_⟩
  apply hnx
  clear hnx
  have b0 : ∀ b ∈ [l ++ [32], 32 :: l, l ++ [32, 43, 32, 48], 49 :: 42 :: l, 48 :: 42 :: 105 :: 32 :: 43 :: 32 :: l, 45 :: l, 43 :: l, l ++ [32, 45, 32], l ++ [32, 43, 32, 105], l ++ l, jr, []], Bent l b := by
    intro b hb
    have pre : ∀ a : List Nat, a.length ≤ 8 → a.count 32 ≤ 4 → Bent l (a ++ l) := fun a h1 h2 => by simpa using bent3 (l := l) (a := []) (b := a) (c := l) (by simp; omega) (by simp; omega) h1 h2
    have suf : ∀ a : List Nat, a.length ≤ 8 → a.count 32 ≤ 4 → Bent l (l ++ a) := fun a h1 h2 => by simpa using bent3 (l := l) (a := l) (b := a) (c := []) (by simp; omega) (by simp; omega) h1 h2
    simp only [List.mem_cons, List.not_mem_nil, or_false] at hb
    rcases hb with rfl | rfl | rfl | rfl | rfl | rfl | rfl | rfl | rfl | rfl | rfl | rfl
    · exact suf [32] (by decide) (by decide)
    · exact pre [32] (by decide) (by decide)
    · exact suf [32, 43, 32, 48] (by decide) (by decide)
    · exact pre [49, 42] (by decide) (by decide)
    · exact pre [48, 42, 105, 32, 43, 32] (by decide) (by decide)
    · exact pre [45] (by decide) (by decide)
    · exact pre [43] (by decide) (by decide)
    · exact suf [32, 45, 32] (by decide) (by decide)
    · exact suf [32, 43, 32, 105] (by decide) (by decide)
    · simpa using bent3 (l := l) (a := l) (b := []) (c := l) (by omega) (by omega) (by decide) (by decide)
    · exact ⟨by omega, by omega⟩
    · exact ⟨by simp, by simp⟩
  refine seq_i fun nx hnx => ?_
  simp -implicitDefEqProofs
  unfold rangeD
  refine forN_inv (fun i : Nat => D.int (0 + (i : Nat))) (fun done env s => ∃ (bs : List (List Nat)) (x2 : Sx) (z3 z4 z5 : Option D), env = [some (.ref 0), some (tx l), some (.fl (qs.map tx)), some (.fl (bs.map tx)), z3, z4, z5] ∧ s = dst x2 :: rest ∧ (∀ b ∈ bs, Bent l b) ∧ bs.length = 12 + 4 * done.length) (List.range _) ⟨_, x, none, none, none, rfl, rfl, b0, rfl⟩ (fun _ _ _ _ => trivial) ?_ ?_
  · rintro done a rs hi env s ⟨bs, x2, z3, z4, z5, rfl, rfl, hbs, hbl⟩
    obtain ⟨rfl, ha⟩ := range_mid hi
    refine ⟨_, rfl, fun nx2 hnx2 => ?_⟩
    refine seq_i fun nx hnx => ?_
    simp -implicitDefEqProofs
    refine ⟨hsz, x2, _, rest, rfl, rfl, by omega, lg_small (by omega) (by omega), fun r x3 h0 h1 => ?_⟩
    obtain ⟨k, rfl⟩ := Int.eq_ofNat_of_zero_le h0
    have hk : k ≤ l.length := by omega
    have e7 : D.str (Str.ofString "0") = tx [48] := rfl
    apply hnx
    clear hnx
    refine seq_i fun nx hnx => ?_
    simp -implicitDefEqProofs
    refine ⟨by decide, x3, _, rest, rfl, rfl, by simp, by simp, rfl, fun d x4 hd => ?_⟩
    obtain ⟨c, rfl⟩ : ∃ c, d = tx [c] := by
      simp only [List.mem_cons, List.not_mem_nil, or_false] at hd
      rcases hd with rfl | rfl | rfl | rfl | rfl | rfl | rfl | rfl | rfl | rfl | rfl | rfl <;> exact ⟨_, rfl⟩
    apply hnx
    clear hnx
    have c1 : cutD l none (some (k : Int)) = l.take k := cutD_to l k
    have c2 : cutD l (some ((k : Int) + 1)) none = l.drop (k + 1) := cutD_from l (k + 1)
    have c3 : cutD l (some (k : Int)) none = l.drop k := cutD_from l k
    have c4 : cutD l (some (k : Int)) (some ((k : Int) + 1)) = (l.drop k).take 1 := by
      rw [show (k : Int) + 1 = ((k + 1 : Nat) : Int) from rfl, cutD_mid, show k + 1 - k = 1 by omega]
    simp -implicitDefEqProofs [c1, c2, c3, c4]
    have le : ∀ n, n ≤ 3 * l.length + 4 → n ≤ sizeLine := fun n hn => len_size (by omega)
    refine ⟨hsz, le _ (by omega), hsz, le _ (by omega), hsz, le _ (by omega), hsz, le _ (by omega), hsz, le _ (by omega), hsz, le _ (by omega), hsz, le _ (by omega), by decide, ?_⟩
    refine Eq.mpr (opAdd_ll (ds1 := bs.map tx) rfl rfl) ⟨len_size (by simp at ha ⊢; omega), ?_⟩
    refine hnx2 _ _ ⟨bs ++ [l.take k ++ l.drop (k + 1), l.take k ++ c :: l.drop (k + 1), l.take k ++ c :: l.drop k, l.take k ++ ((l.drop k).take 1 ++ l.drop k)], x4, some (.int done.length), some (.int k), some (tx [c]), ?_, rfl, ?_, ?_⟩
    · rw [List.map_append]
      rfl
    · intro b hb
      rcases List.mem_append.mp hb with hb | hb
      · exact hbs b hb
      have hd1 : (l.drop (k + 1)).length = l.length - (k + 1) := List.length_drop
      have hd2 : (l.drop k).length = l.length - k := List.length_drop
      have ht1 : (l.take k).length ≤ k := by rw [List.length_take]; omega
      have t1 := take_cnt l k
      have t2 := drop_cnt l k
      have t3 := drop_cnt l (k + 1)
      have one : ∀ m : List Nat, m.length ≤ 1 → m.count 32 ≤ 4 := fun m hm => Nat.le_trans List.count_le_length (by omega)
      have t4 : ((l.drop k).take 1).length ≤ 1 := by rw [List.length_take]; omega
      simp only [List.mem_cons, List.not_mem_nil, or_false] at hb
      rcases hb with rfl | rfl | rfl | rfl
      · simpa using bent3 (l := l) (a := l.take k) (b := []) (c := l.drop (k + 1)) (by omega) (by omega) (by decide) (by decide)
      · have := bent3 (l := l) (a := l.take k) (b := [c]) (c := l.drop (k + 1)) (by omega) (by omega) (by simp) (one _ (by simp))
        rwa [List.append_assoc] at this
      · have := bent3 (l := l) (a := l.take k) (b := [c]) (c := l.drop k) (by omega) (by omega) (by simp) (one _ (by simp))
        rwa [List.append_assoc] at this
      · have := bent3 (l := l) (a := l.take k) (b := (l.drop k).take 1) (c := l.drop k) (by omega) (by omega) (by omega) (one _ t4)
        rwa [List.append_assoc] at this
    · simp at hbl ⊢
      omega
  · rintro env s ⟨bs, x2, z3, z4, z5, rfl, rfl, hbs, hbl⟩
    apply hnx
    clear hnx
    simp -implicitDefEqProofs
    exact leave_stay (h bs x2 hbs (by rw [hbl]; simp))
end K66

namespace K66
open PySem L2 DW TX FormM
/-! ### sizes of what the law draws -/
theorem joinW_le {B : Nat} {ps : List Part} (h : ∀ p ∈ ps, p.2.length ≤ B) : (joinW ps).length ≤ ps.length * (B + 3) := by
  have h1 : ∀ ps : List Part, (∀ p ∈ ps, p.2.length ≤ B) → (tailW ps).length ≤ ps.length * (B + 3) := by
    intro ps
    induction ps with
    | nil => intro _; simp [tailW]
    | cons p r ih =>
      intro h
      have ih := ih fun q hq => h q (List.mem_cons_of_mem _ hq)
      have hp := h p List.mem_cons_self
      have h5 : (sg1 p.1).length = 3 := by cases p.1 <;> rfl
      unfold tailW at ih ⊢
      rw [List.map_cons, List.flatten_cons, List.length_append, List.length_append, h5, List.length_cons, Nat.succ_mul]
      omega
  cases ps with
  | nil => simp [joinW]
  | cons p r =>
    have hp := h p List.mem_cons_self
    have h5 : (sg0 p.1).length ≤ 1 := by cases p.1 <;> decide
    have h7 := h1 r fun q hq => h q (List.mem_cons_of_mem _ hq)
    show (sg0 p.1 ++ p.2 ++ tailW r).length ≤ _
    rw [List.length_append, List.length_append, List.length_cons, Nat.succ_mul]
    omega
theorem Drawn.shown {c : Int} {ts : Terms} (h : Drawn c ts) : Shown c ts := by
  have big : (10 : Nat) ^ 20 < 10 ^ 500 := by decide +kernel
  refine ⟨by have := h.len; omega, fun p hp => ⟨isN_ne (h.fine.nm p hp), by have := h.nm p hp; omega⟩, fun p hp => Dg.of (by decide) (Nat.lt_trans (h.dg p hp) big), Dg.of (by decide) (Nat.lt_trans h.dc big)⟩
theorem Drawn.size {c : Int} {ts : Terms} (h : Drawn c ts) : (wf c ts).length ≤ 140 ∧ (wf c ts).count 32 ≤ 8 := by
  have hpl : (parts c ts).length ≤ 5 := by
    have := h.len
    unfold parts partsT
    rw [List.length_append, List.length_map]
    split <;> simp <;> omega
  have hmem : ∀ p ∈ parts c ts, p.2.length ≤ 25 ∧ okP p := by
    intro p hp
    unfold parts partsT at hp
    rcases List.mem_append.mp hp with hp | hp
    · obtain ⟨q, hq, rfl⟩ := List.mem_map.mp hp
      refine ⟨?_, told_ok (h.fine.nm q hq)⟩
      have h1 : (TL.numL q.2.natAbs).length ≤ 20 := TL.numL_len (by decide) (h.dg q hq)
      have h2 := h.nm q hq
      show (told (cs q.1) q.2).length ≤ 25
      unfold told
      split
      · omega
      · rw [List.length_append, List.length_cons]; omega
    · split at hp
      · cases List.mem_singleton.mp hp
        refine ⟨?_, const_ok c⟩
        have h1 : (TL.numL c.natAbs).length ≤ 20 := TL.numL_len (by decide) h.dc
        show (TL.numL c.natAbs).length ≤ 25
        omega
      · cases hp
  refine ⟨?_, ?_⟩
  · have := joinW_le (B := 25) (ps := parts c ts) fun p hp => (hmem p hp).1
    unfold wf
    omega
  · have := wf_cnt (ps := parts c ts) fun p hp => (hmem p hp).2
    unfold wf
    omega
theorem Bent.short {l b : List Nat} (h : Bent l b) (h1 : l.length ≤ 140) (h2 : l.count 32 ≤ 8) : Short b := ⟨by have := h.1; omega, by have := h.2; omega⟩
/-! ### forms as data -/
theorem dats_map (k : Nat) : ∀ ts : Terms, dats (k + 1) (ts.map eP)
  | [] => by simp [dats]
  | p :: r => by
    rw [List.map_cons]
    unfold dats
    refine ⟨?_, dats_map k r⟩
    show dat (k + 1) (.tup [.str p.1, .int p.2])
    simp [dat, dats]
theorem dat_one {c : Int} {ts : Terms} (h : ts.length < 64) : dat 5 (.tup [eF c ts]) := by
  unfold dat
  refine ⟨by simp, ?_⟩
  unfold dats
  refine ⟨?_, by simp [dats]⟩
  unfold eF dat
  refine ⟨by simp, ?_⟩
  unfold dats
  refine ⟨by simp [dat], ?_⟩
  unfold dats
  refine ⟨?_, by simp [dats]⟩
  unfold dat
  exact ⟨by rw [List.length_map]; omega, dats_map 1 ts⟩
theorem pss_map (k : Nat) : ∀ {ts : Terms}, (∀ p ∈ ts, isN (cs p.1) = true) → pss (k + 1) (ts.map eP)
  | [], _ => by simp [pss]
  | p :: r, h => by
    rw [List.map_cons]
    unfold pss
    refine ⟨?_, pss_map k fun q hq => h q (List.mem_cons_of_mem _ hq)⟩
    show ps (k + 1) (.tup [.str p.1, .int p.2])
    have hp : PyData.strOk p.1 = true := by
      show p.1.cps.all (· < 0x110000) = true
      rw [← Array.all_toList, List.all_eq_true]
      intro c hc
      have := (fd_ok (isN_all (h p List.mem_cons_self) hc)).2.2.2.2
      exact decide_eq_true (by omega)
    simp [ps, pss, hp]
theorem ps_one {c : Int} {ts : Terms} (h : Fine ts) : ps 5 (.tup [eF c ts]) := by
  unfold ps pss
  refine ⟨?_, by simp [pss]⟩
  unfold eF ps pss
  refine ⟨by simp [ps], ?_⟩
  unfold pss
  refine ⟨?_, by simp [pss]⟩
  unfold ps
  exact pss_map 1 h.nm
theorem nil_ps : ps 1 (.tup []) := by unfold ps pss; trivial
theorem eq_one {neg : Bool} {st : Sto} {k : D → Prop} {c : Int} {ts : Terms} (h : Fine ts) : opEqW neg st (.tup [eF c ts]) (.tup []) k = k (.bl (neg ^^ false)) := opEqW_ps (ps_one h) nil_ps (by decide) (by decide) (by simp)
theorem eq_no {neg : Bool} {st : Sto} {k : D → Prop} : opEqW neg st (.tup []) (.tup []) k = k (.bl (neg ^^ true)) := opEqW_ps nil_ps nil_ps (by decide) (by decide) (by simp)
/-! ### the texts that the law names -/
def ordT (ps : List (List Nat × Int)) : Bool := match ps with
  | [] => true
  | p :: r => r.all (fun q => decide (p.1 < q.1)) && ordT r
def canon (ps : List (List Nat × Int)) : Bool := ps.all (fun p => !(p.1 != [] && p.2 == 0)) && (ordT (ps.filter fun p => p.1 != [])) && ps.dropLast.all fun p => p.1 != []
def partB (p : List Nat × Int) : Part := (decide (p.2 < 0), if p.1 = [] then TL.numL p.2.natAbs else told p.1 p.2)
theorem tell_parts {c : Int} {ts : Terms} (h : Fine ts) : (tell c ts).map partB = parts c ts := by
  unfold tell parts partsT
  rw [List.map_append, List.map_map]
  congr 1
  · refine List.map_congr_left fun p hp => ?_
    have := isN_ne (h.nm p hp)
    simp [partB, this]
  · split <;> simp [partB, partC]
theorem tell_filter {c : Int} {ts : Terms} (h : Fine ts) : (tell c ts).filter (fun p => p.1 != []) = ts.map (fun p => (cs p.1, p.2)) := by
  unfold tell
  have h1 : ∀ p ∈ ts.map (fun p : Str × Int => (cs p.1, p.2)), (p.1 != []) = true := fun p hp => by
    obtain ⟨q, hq, rfl⟩ := List.mem_map.mp hp
    have := isN_ne (h.nm q hq)
    simpa using this
  rw [List.filter_append, List.filter_eq_self.mpr h1]
  split <;> simp
theorem ordT_ok : ∀ {ts : Terms}, (ts.Pairwise fun a b => sLt a.1 b.1) → ordT (ts.map fun p => (cs p.1, p.2)) = true
  | [], _ => rfl
  | p :: r, h => by
    rw [List.map_cons]
    unfold ordT
    rw [List.pairwise_cons] at h
    rw [ordT_ok h.2, Bool.and_true, List.all_eq_true]
    intro q hq
    obtain ⟨x, hx, rfl⟩ := List.mem_map.mp hq
    exact decide_eq_true (h.1 x hx)
theorem tell_canon {c : Int} {ts : Terms} (h : Fine ts) : canon (tell c ts) = true := by
  have h1 : ∀ p ∈ ts.map (fun p : Str × Int => (cs p.1, p.2)), (p.1 != []) = true := fun p hp => by
    obtain ⟨q, hq, rfl⟩ := List.mem_map.mp hp
    have := isN_ne (h.nm q hq)
    simpa using this
  have h2 : (tell c ts).dropLast.all (fun p => p.1 != []) = true := by
    rw [List.all_eq_true]
    unfold tell
    split
    · rw [List.dropLast_concat]
      exact h1
    · rw [List.append_nil]
      exact fun p hp => h1 p (List.dropLast_subset _ hp)
  unfold canon
  rw [tell_filter h, ordT_ok h.srt, h2, Bool.and_true, Bool.and_true, List.all_eq_true]
  intro p hp
  unfold tell at hp
  rcases List.mem_append.mp hp with hp | hp
  · obtain ⟨q, hq, rfl⟩ := List.mem_map.mp hp
    have := h.nz q hq
    simp [this]
  · split at hp
    · cases List.mem_singleton.mp hp; simp
    · cases hp
def badOne (l : List Nat) : Bool := match parse l with
  | none => true
  | some ps => !(canon ps && decide (joinW (ps.map partB) = l))
theorem badOne_ok {l : List Nat} (h : badOne l = true) {c : Int} {ts : Terms} (hf : Fine ts) : wf c ts ≠ l := fun e => by
  unfold badOne at h
  rw [← e, parse_wf hf] at h
  simp only [tell_canon hf, tell_parts hf] at h
  unfold wf at h
  simp at h
def cL (s : String) : List Nat := (Str.ofString s).cps.toList
def badT : List (List Nat) := ["", "-0", "00", "0 + i", "i + i", "j + i", "1 + i", "i +1", "i+1", "2i", "2 * i", "0*i", "1*i", "i - -1", "i + 01", "I", "3*", "*i", "9a", "i j", "- i", "--i", "i + ", "i - 0"].map cL
theorem bad_ok : ∀ l ∈ badT, badOne l = true := by decide +kernel
def goodT : List (List Nat × Int × Terms) := [(cL "-@n + 2*i + 3", 3, [("@n", -1), ("i", 2)]), (cL "i - 1", -1, [("i", 1)]), (cL "0", 0, []), (cL "-7", -7, [])]
theorem good_ok : ∀ p ∈ goodT, wf p.2.1 p.2.2 = p.1 ∧ Fine p.2.2 := by
  have h : ∀ p ∈ goodT, wf p.2.1 p.2.2 = p.1 ∧ (p.2.2.Pairwise fun a b => a.1.cps.toList < b.1.cps.toList) ∧ (∀ q ∈ p.2.2, q.2 ≠ 0) ∧ ∀ q ∈ p.2.2, isN (cs q.1) = true := by decide +kernel
  exact fun p hp => ⟨(h p hp).1, (h p hp).2.1, (h p hp).2.2.1, (h p hp).2.2.2⟩
end K66

namespace K66
open PySem L2 DW TX FormM
theorem dat_tx (l : List Nat) : dat 5 (tx l) := by unfold tx; simp [dat]
theorem eG (p : List Nat × Int × Terms) : frz (.tup [tx p.1, eF p.2.1 p.2.2]) = .tup [tx p.1, eF p.2.1 p.2.2] := rfl
theorem bad_short : ∀ l ∈ badT, Short l := by unfold Short; decide +kernel
theorem good_short : ∀ p ∈ goodT, Short p.1 ∧ p.2.2.length < 64 := by unfold Short; decide +kernel
theorem b_law (k_BadText k_MeanwithinError : Addr) : BodyOk N_law P_law sp_law (d_law k_BadText k_MeanwithinError) := by
  rintro ds st Ed Q ⟨s0, rfl, rfl, h⟩
  refine ⟨rfl, ?_⟩
  unfold d_law
  simp only [List.map_cons, List.map_nil, List.length_cons, List.length_nil, N_law, Nat.reduceAdd, Nat.reduceSub, List.replicate, List.cons_append, List.nil_append]
  refine seq_i fun nx hnx => ?_
  simp -implicitDefEqProofs
  refine ⟨s0, rfl, ?_⟩
  simp -implicitDefEqProofs
  apply hnx
  clear hnx
  refine seq_i fun nx hnx => ?_
  simp -implicitDefEqProofs
  unfold rangeD
  refine forN_inv (fun i : Nat => D.int (0 + (i : Nat))) (fun done env s => ∃ x z2 z3 z4 z5 z6, env = [some (.sl (s0.map .int)), some (.ref 0), z2, z3, z4, z5, z6, none, none] ∧ s = [dst x]) (List.range _) ⟨⟨s0, 0, 0, 0⟩, none, none, none, none, none, rfl, rfl⟩ (fun _ _ _ _ => trivial) ?_ ?_
  · rintro done a rs hi env s ⟨x, z2, z3, z4, z5, z6, rfl, rfl⟩
    refine ⟨_, rfl, fun nx2 hnx2 => ?_⟩
    refine seq_i fun nx hnx => ?_
    simp -implicitDefEqProofs
    refine ⟨x, [], rfl, rfl, fun c ts x1 hd => ?_⟩
    have hsh := hd.shown
    obtain ⟨hz1, hz2⟩ := hd.size
    apply hnx
    clear hnx
    refine seq_i fun nx hnx => ?_
    simp -implicitDefEqProofs
    refine ⟨c, ts, rfl, hd.fine, hsh, ?_⟩
    apply hnx
    clear hnx
    refine seq_i fun nx hnx => ?_
    simp -implicitDefEqProofs
    refine ⟨c, ts, rfl, hsh, tx (wf c ts), rfl, dat_tx _, ?_⟩
    simp -implicitDefEqProofs
    have hs0 : Short (wf c ts) := ⟨by omega, by omega⟩
    refine ⟨wf c ts, rfl, hs0, fun c2 ts2 hf2 e2 hs2 => ?_, fun hno => absurd rfl (hno c ts hd.fine)⟩
    obtain ⟨rfl, rfl⟩ := pt_len hf2 hd.fine e2
    clear e2 hf2 hs2
    refine ⟨by decide, ?_⟩
    refine ⟨.tup [eF c2 ts2], rfl, dat_one hsh.len, ?_⟩
    simp -implicitDefEqProofs
    apply hnx
    clear hnx
    simp -implicitDefEqProofs
    refine ⟨x1, [], _, rfl, rfl, by omega, fun bs x2 hbs hbl => ?_⟩
    simp -implicitDefEqProofs
    rw [items_seq (show seqOf _ (.fl (bs.map tx)) = some (bs.map tx) from rfl)]
    simp only
    refine forN_inv tx (fun done env s => ∃ z5 z6, env = [some (.sl (s0.map .int)), some (.ref 0), some (.int a), some (eF c2 ts2), some (tx (wf c2 ts2)), z5, z6, none, none] ∧ s = [dst x2]) bs ⟨_, _, rfl, rfl⟩ (fun _ _ _ _ => trivial) ?_ ?_
    · rintro done b rest hi env s ⟨z5, z6, rfl, rfl⟩
      refine ⟨_, rfl, fun nx3 hnx3 => ?_⟩
      have hsb : Short b := (hbs b (by rw [hi]; simp)).short hz1 hz2
      refine seq_i fun nx hnx => ?_
      simp -implicitDefEqProofs
      refine ⟨b, rfl, hsb, fun c3 ts3 hf3 e3 hs3 => ?_, fun hno => ?_⟩
      · apply hnx
        clear hnx
        simp -implicitDefEqProofs
        refine Eq.mpr (eq_one hf3) ?_
        simp -implicitDefEqProofs
        refine ⟨c3, ts3, rfl, hf3, hs3, ?_⟩
        simp -implicitDefEqProofs [e3]
        refine ⟨c3, ts3, rfl, hs3, ?_⟩
        simp -implicitDefEqProofs [e3]
        exact hnx3 _ _ ⟨_, _, rfl, rfl⟩
      · apply hnx
        clear hnx
        simp -implicitDefEqProofs
        refine Eq.mpr eq_no ?_
        simp -implicitDefEqProofs
        exact hnx3 _ _ ⟨_, _, rfl, rfl⟩
    · rintro env s ⟨z5, z6, rfl, rfl⟩
      exact hnx2 _ _ ⟨_, _, _, _, _, _, rfl, rfl⟩
  · rintro env s ⟨x, z2, z3, z4, z5, z6, rfl, rfl⟩
    apply hnx
    clear hnx
    refine seq_i fun nx hnx => ?_
    simp -implicitDefEqProofs
    refine ⟨by decide, ?_⟩
    rw [show frz (D.tl [frz (D.str (Str.ofString "")), frz (D.str (Str.ofString "-0")), frz (D.str (Str.ofString "00")), frz (D.str (Str.ofString "0 + i")), frz (D.str (Str.ofString "i + i")), frz (D.str (Str.ofString "j + i")), frz (D.str (Str.ofString "1 + i")), frz (D.str (Str.ofString "i +1")), frz (D.str (Str.ofString "i+1")), frz (D.str (Str.ofString "2i")), frz (D.str (Str.ofString "2 * i")), frz (D.str (Str.ofString "0*i")), frz (D.str (Str.ofString "1*i")), frz (D.str (Str.ofString "i - -1")), frz (D.str (Str.ofString "i + 01")), frz (D.str (Str.ofString "I")), frz (D.str (Str.ofString "3*")), frz (D.str (Str.ofString "*i")), frz (D.str (Str.ofString "9a")), frz (D.str (Str.ofString "i j")), frz (D.str (Str.ofString "- i")), frz (D.str (Str.ofString "--i")), frz (D.str (Str.ofString "i + ")), frz (D.str (Str.ofString "i - 0"))]) = .fl (badT.map tx) from rfl]
    have hbad : ∀ l ∈ badT, Short l ∧ badOne l = true := fun l hl => ⟨bad_short l hl, bad_ok l hl⟩
    have hbl : badT.length ≤ 100 := by decide
    generalize badT = bt at *
    apply hnx
    clear hnx
    refine seq_i fun nx hnx => ?_
    simp -implicitDefEqProofs
    refine ⟨by decide, by decide, by decide, by decide, ?_⟩
    rw [show frz (D.tl [frz (D.tup [frz (D.str (Str.ofString "-@n + 2*i + 3")), frz (D.tup [frz (D.int 3), frz (D.tup [frz (D.tup [frz (D.str (Str.ofString "@n")), frz (D.int (-1))]), frz (D.tup [frz (D.str (Str.ofString "i")), frz (D.int 2)])])])]), frz (D.tup [frz (D.str (Str.ofString "i - 1")), frz (D.tup [frz (D.int (-1)), frz (D.tup [frz (D.tup [frz (D.str (Str.ofString "i")), frz (D.int 1)])])])]), frz (D.tup [frz (D.str (Str.ofString "0")), frz (D.tup [frz (D.int 0), frz (D.tup [])])]), frz (D.tup [frz (D.str (Str.ofString "-7")), frz (D.tup [frz (D.int (-7)), frz (D.tup [])])])]) = .fl (goodT.map fun p => .tup [tx p.1, eF p.2.1 p.2.2]) from rfl]
    have hgood : ∀ p ∈ goodT, (Short p.1 ∧ p.2.2.length < 64) ∧ wf p.2.1 p.2.2 = p.1 ∧ Fine p.2.2 := fun p hp => ⟨good_short p hp, good_ok p hp⟩
    have hgl : goodT.length ≤ 10 := by decide
    generalize goodT = gt at *
    apply hnx
    clear hnx
    simp -implicitDefEqProofs
    rw [items_seq (show seqOf _ (.fl (bt.map tx)) = some (bt.map tx) from rfl)]
    simp only
    refine lcN_map tx (fun _ => D.bl true) trivial bt (len_size (by omega)) (fun l hl kt hkt => ?_) ?_
    · simp -implicitDefEqProofs [wipeD]
      obtain ⟨h1, h2⟩ := hbad l hl
      refine ⟨l, rfl, h1, fun c ts hf e _ => absurd e (badOne_ok h2 hf), fun _ => ?_⟩
      refine Eq.mpr eq_no ?_
      exact hkt
    · have allT : ∀ (α : Type) (xs : List α) (st : Sto) (k : D → Prop), k (.bl true) → opAll st [frz (D.tl (xs.map fun _ => D.bl true))] k := fun α xs st k hk => by
        rw [show (xs.map fun _ => D.bl true) = (xs.map fun _ => true).map .bl by rw [List.map_map]; rfl]
        unfold opAll
        rw [opAnyAll_e (show lisOf _ (.fl _) = some _ from rfl), show (List.map (fun _ => true) xs).all id = true by rw [List.all_eq_true]; intro b hb; obtain ⟨_, _, rfl⟩ := List.mem_map.mp hb; rfl]
        exact hk
      refine allT _ _ _ _ ?_
      simp -implicitDefEqProofs
      rw [items_seq (show seqOf _ (frz (D.fl (gt.map fun p => D.tup [tx p.fst, eF p.snd.fst p.snd.snd]))) = some (gt.map fun p => D.tup [tx p.fst, eF p.snd.fst p.snd.snd]) from rfl)]
      simp only
      refine lcN_map (fun p : List Nat × Int × Terms => D.tup [tx p.1, eF p.2.1 p.2.2]) (fun _ => D.bl true) trivial gt (len_size (by omega)) (fun p hp kt hkt => ?_) ?_
      · simp -implicitDefEqProofs [wipeD]
        obtain ⟨⟨g1, g4⟩, g2, g3⟩ := hgood p hp
        refine ⟨p.1, rfl, g1, fun c ts hf e _ => ?_, fun hno => absurd g2 (hno _ _ g3)⟩
        obtain ⟨rfl, rfl⟩ := pt_len hf g3 (e.trans g2.symm)
        exact ⟨by decide, .tup [eF p.2.1 p.2.2], rfl, dat_one g4, hkt⟩
      · refine allT _ _ _ _ ?_
        exact leave_stay (h _)
end K66

namespace K66
open PySem L2 DW
theorem head_law (ns : List Int) (_ : ns.length ≤ 63) : sp_law [.sl (ns.map .int)] [] (fun _ _ => False) fun x _ => x = .bl true := ⟨ns, rfl, rfl, fun _ => rfl⟩
end K66


namespace K66
open PySem PySem.Spec PyProof.Rows L2 DW
section
variable {P : Program} {w : World} {K : PySem.W.Frag} {mg : Str → Option Value} {base : Heap}
theorem w_write_integer (T : Top K mg) {k : Nat} (hk : 0 ≤ k) {self : DSp} (slf : FnOk P w K mg base (L2.CX P w) k T.f_write_integer T.fd_write_integer P_write_integer (liftSp K self)) {cdv : Value} {A : Around} {outer : List Env} {s : Shared} {H : Hp} {E : XK} (hr : Room k (A.deeper (envOfC "write_integer" (defScope s_write_integer) s.heap.objs.size T.f_write_integer cdv))) :
    PSs (cxOf (L2.CX P w) P w K mg base N_write_integer "write_integer" (defScope s_write_integer) T.f_write_integer cdv A outer s H E) (defBody s_write_integer) (liftS K (fun cls d _ H => E cls d H) (d_write_integer self)) := by
  have nd := (sc_write_integer).nd
  have hu := hr.units
  have tk : Takes (cxOf (L2.CX P w) P w K mg base N_write_integer "write_integer" (defScope s_write_integer) T.f_write_integer cdv A outer s H E) (fun cls d _ H => E cls d H) := takes_of rfl rfl rfl rfl
  have hp : PassesOwn (model P w) (A.deeper (envOfC "write_integer" (defScope s_write_integer) s.heap.objs.size T.f_write_integer cdv)) (envOfC "write_integer" (defScope s_write_integer) s.heap.objs.size T.f_write_integer cdv) (cxOf (L2.CX P w) P w K mg base N_write_integer "write_integer" (defScope s_write_integer) T.f_write_integer cdv A outer s H E).xe := passes_of (X := cxOf (L2.CX P w) P w K mg base N_write_integer "write_integer" (defScope s_write_integer) T.f_write_integer cdv A outer s H E) rfl
  exact (dss_cons (ds_if (dt_cmp or_lt od_lt (de_var (pv 0)) (de_c pe_int) (nomark _))
      (dss_one (ds_ret (de_bin or_add od_add (de_c pe_str) (de_call slf hr (by rfl) T.g_write_integer T.F_write_integer.kp T.b_write_integer tk (da_cons false (de_neg (de_var (pv 0))) da_nil)))))
      dss_nil)
      (dss_cons (ds_set true (i := 1) nd rfl (by first | exact Or.inl rfl | exact Or.inr rfl) (de_lst da_nil))
      (dss_cons (ds_while hp (dt_cmp or_ge od_ge (de_var (pv 0)) (de_glob (by rfl) T.c_BASE) (nomark _))
      (dss_cons (ds_asgT (de_callB call_divmodW cd_divmodW (by rfl) T.n_divmod (by decide +kernel) (da_cons false (de_var (pv 0)) (da_cons false (de_glob (by rfl) T.c_BASE) da_nil))) (dg_tup rfl (dgs_cons (dg_name (i := 0) nd rfl (by first | exact Or.inl rfl | exact Or.inr rfl)) (dgs_cons (dg_name (i := 2) nd rfl (by first | exact Or.inl rfl | exact Or.inr rfl)) dgs_nil)) rfl))
      (dss_one (ds_expr (de_bm PySem.F.plainAttrs_list PySem.F.slot_list_append PySem.F.type_list_append mt_append md_append (de_var (pv 1)) (da_cons false (de_bm PySem.F.plainAttrs_str PySem.F.slot_str_zfill PySem.F.type_str_zfill mr_zfill md_zfill (de_callTy call_str_int cd_strI (by rfl) T.n_str (by decide +kernel) (da_cons false (de_var (pv 2)) da_nil)) (da_cons false (de_c pe_int) da_nil)) da_nil))))))
      (dss_cons (ds_expr (de_bm PySem.F.plainAttrs_list PySem.F.slot_list_append PySem.F.type_list_append mt_append md_append (de_var (pv 1)) (da_cons false (de_callTy call_str_int cd_strI (by rfl) T.n_str (by decide +kernel) (da_cons false (de_var (pv 0)) da_nil)) da_nil)))
      (dss_one (ds_ret (de_bm PySem.F.plainAttrs_str PySem.F.slot_str_join PySem.F.type_str_join mr_join md_join (de_c pe_str) (da_cons false (de_rev (de_var (pv 1))) da_nil))))))))
theorem okr_write_integer (T : Top K mg) : ∀ k : Nat, FnOk P w K mg base (L2.CX P w) (0 + k) T.f_write_integer T.fd_write_integer P_write_integer (liftSp K (spr_write_integer k))
  | 0 => fnOk_no (no_write_integer)
  | k + 1 => fnD T.F_write_integer sc_write_integer (b_write_integer k) fun _ _ _ _ _ _ hr => w_write_integer T (Nat.le_add_right _ _) (okr_write_integer T k) hr
theorem ok_write_integer (T : Top K mg) : FnOk P w K mg base (L2.CX P w) 2 T.f_write_integer T.fd_write_integer P_write_integer (liftSp K (sp_write_integer)) := okr_write_integer T 2
theorem w_read_integer (T : Top K mg) {cdv : Value} {A : Around} {outer : List Env} {s : Shared} {H : Hp} {E : XK} (hr : Room 0 (A.deeper (envOfC "read_integer" (defScope s_read_integer) s.heap.objs.size T.f_read_integer cdv))) :
    PSs (cxOf (L2.CX P w) P w K mg base N_read_integer "read_integer" (defScope s_read_integer) T.f_read_integer cdv A outer s H E) (defBody s_read_integer) (liftS K (fun cls d _ H => E cls d H) (d_read_integer T.k_BadText)) := by
  have nd := (sc_read_integer).nd
  have hu := hr.units
  have tk : Takes (cxOf (L2.CX P w) P w K mg base N_read_integer "read_integer" (defScope s_read_integer) T.f_read_integer cdv A outer s H E) (fun cls d _ H => E cls d H) := takes_of rfl rfl rfl rfl
  have hp : PassesOwn (model P w) (A.deeper (envOfC "read_integer" (defScope s_read_integer) s.heap.objs.size T.f_read_integer cdv)) (envOfC "read_integer" (defScope s_read_integer) s.heap.objs.size T.f_read_integer cdv) (cxOf (L2.CX P w) P w K mg base N_read_integer "read_integer" (defScope s_read_integer) T.f_read_integer cdv A outer s H E).xe := passes_of (X := cxOf (L2.CX P w) P w K mg base N_read_integer "read_integer" (defScope s_read_integer) T.f_read_integer cdv A outer s H E) rfl
  exact (dss_cons (ds_set false (i := 1) nd rfl (by first | exact Or.inl rfl | exact Or.inr rfl) (de_var (pv 0)))
      (dss_cons (ds_if (dt_cmp (or_eq hu) od_eq (de_slice (de_var (pv 0)) do_none (do_some (de_c pe_int))) (de_c pe_str) (nomark _))
      (dss_one (ds_set false (i := 1) nd rfl (by first | exact Or.inl rfl | exact Or.inr rfl) (de_slice (de_var (pv 0)) (do_some (de_c pe_int)) do_none)))
      dss_nil)
      (dss_cons (ds_if (dw_or (dt_cmp (or_eq hu) od_eq (de_var (pv 1)) (de_c pe_str) (nomark _)) (dw_or1 (dw_and (dt_cmp (or_eq hu) od_eq (de_ix hu (de_var (pv 1)) (de_c pe_int) (fun _ _ => rfl)) (de_c pe_str) (nomark _)) (dw_and1 (dt_cmp (or_ne hu) od_ne (de_var (pv 0)) (de_c pe_str) (nomark _)))).pt)).pt
      (dss_one (ds_raise rfl tk PySem.F.excBase_ValueError T.x_BadText.q T.gk_BadText T.x_BadText.k T.x_BadText.r (by rfl)))
      dss_nil)
      (dss_cons (ds_for hp rfl (di_seq (de_var (pv 1))) (dg_name (i := 2) nd rfl (by first | exact Or.inl rfl | exact Or.inr rfl))
      (dss_one (ds_if (dt_cmp (or_notIn hu) od_notIn (de_var (pv 2)) (de_glob (by rfl) T.c_DIGITS_digits) (by rfl))
      (dss_one (ds_raise rfl tk PySem.F.excBase_ValueError T.x_BadText.q T.gk_BadText T.x_BadText.k T.x_BadText.r (by rfl)))
      dss_nil)))
      (dss_cons (ds_set false (i := 3) nd rfl (by first | exact Or.inl rfl | exact Or.inr rfl) (de_bin or_mod od_mod (de_callB cr_len cd_len (by rfl) T.n_len (by decide +kernel) (da_cons false (de_var (pv 1)) da_nil)) (de_c pe_int)))
      (dss_cons (ds_set false (i := 4) nd rfl (by first | exact Or.inl rfl | exact Or.inr rfl) (de_c pe_int))
      (dss_cons (ds_if (dt_cmp or_gt od_gt (de_var (pv 3)) (de_c pe_int) (nomark _))
      (dss_one (ds_set false (i := 4) nd rfl (by first | exact Or.inl rfl | exact Or.inr rfl) (de_callTy cr_int cd_int (by rfl) T.n_int (by decide +kernel) (da_cons false (de_slice (de_var (pv 1)) do_none (do_some (de_var (pv 3)))) da_nil))))
      dss_nil)
      (dss_cons (ds_for hp rfl (di_range3 (by rfl) T.n_range (da_cons false (de_var (pv 3)) (da_cons false (de_callB cr_len cd_len (by rfl) T.n_len (by decide +kernel) (da_cons false (de_var (pv 1)) da_nil)) (da_cons false (de_c pe_int) da_nil)))) (dg_name (i := 5) nd rfl (by first | exact Or.inl rfl | exact Or.inr rfl))
      (dss_one (ds_set false (i := 4) nd rfl (by first | exact Or.inl rfl | exact Or.inr rfl) (de_bin or_add od_add (de_bin or_mul od_mul (de_var (pv 4)) (de_glob (by rfl) T.c_BASE)) (de_callTy cr_int cd_int (by rfl) T.n_int (by decide +kernel) (da_cons false (de_slice (de_var (pv 1)) (do_some (de_var (pv 5))) (do_some (de_bin or_add od_add (de_var (pv 5)) (de_c pe_int)))) da_nil))))))
      (dss_cons (ds_if (dt_cmp (or_eq hu) od_eq (de_ix hu (de_var (pv 0)) (de_c pe_int) (fun _ _ => rfl)) (de_c pe_str) (nomark _))
      (dss_one (ds_ret (de_neg (de_var (pv 4)))))
      dss_nil)
      (dss_one (ds_ret (de_var (pv 4)))))))))))))
theorem ok_read_integer (T : Top K mg) : FnOk P w K mg base (L2.CX P w) 1 T.f_read_integer T.fd_read_integer P_read_integer (liftSp K (sp_read_integer T.k_BadText)) :=
  fnD T.F_read_integer sc_read_integer (b_read_integer T.k_BadText) fun _ _ _ _ _ _ hr => w_read_integer T hr
theorem w_form (T : Top K mg) {cdv : Value} {A : Around} {outer : List Env} {s : Shared} {H : Hp} {E : XK} (hr : Room 0 (A.deeper (envOfC "form" (defScope s_form) s.heap.objs.size T.f_form cdv))) :
    PSs (cxOf (L2.CX P w) P w K mg base N_form "form" (defScope s_form) T.f_form cdv A outer s H E) (defBody s_form) (liftS K (fun cls d _ H => E cls d H) (d_form)) := by
  have nd := (sc_form).nd
  have hu := hr.units
  have tk : Takes (cxOf (L2.CX P w) P w K mg base N_form "form" (defScope s_form) T.f_form cdv A outer s H E) (fun cls d _ H => E cls d H) := takes_of rfl rfl rfl rfl
  have hp : PassesOwn (model P w) (A.deeper (envOfC "form" (defScope s_form) s.heap.objs.size T.f_form cdv)) (envOfC "form" (defScope s_form) s.heap.objs.size T.f_form cdv) (cxOf (L2.CX P w) P w K mg base N_form "form" (defScope s_form) T.f_form cdv A outer s H E).xe := passes_of (X := cxOf (L2.CX P w) P w K mg base N_form "form" (defScope s_form) T.f_form cdv A outer s H E) rfl
  exact (dss_cons (ds_set true (i := 2) nd rfl (by first | exact Or.inl rfl | exact Or.inr rfl) de_dic0)
      (dss_cons (ds_for hp rfl (di_seq (de_var (pv 1))) (dg_tup rfl (dgs_cons (dg_name (i := 3) nd rfl (by first | exact Or.inl rfl | exact Or.inr rfl)) (dgs_cons (dg_name (i := 4) nd rfl (by first | exact Or.inl rfl | exact Or.inr rfl)) dgs_nil)) rfl)
      (dss_one (ds_setItem false hu (de_bin or_add od_add (de_dget2 hu (de_var (pv 2)) (de_var (pv 3)) (de_c pe_int) ⟨rfl, rfl, rfl, rfl⟩) (de_var (pv 4))) (de_var (pv 2)) (de_var (pv 3)))))
      (dss_one (ds_ret (de_tup (da_cons false (de_var (pv 0)) (da_cons false (de_callTy call_tuple_of cd_tuple (by rfl) T.n_tuple (by decide +kernel) (da_cons false (de_lc (own := [("name", 3)]) false rfl nd (di_seq (de_callB (cr_sortedAny rfl) cd_sorted (by rfl) T.n_sorted (by decide +kernel) (da_cons false (de_var (pv 2)) da_nil))) (blkOk_by (own := [("name", 3)]) (N := N_form) (sc := defScope s_form) (by decide +kernel)) (fun _ _ _ _ _ => (dg_name (i := 3) nd rfl (by first | exact Or.inl rfl | exact Or.inr rfl))) (fun _ _ _ _ _ => (dts_one (dt_cmp (or_ne hu) od_ne (de_ix hu (de_var (pv 2)) (de_var (pv 3)) (fun _ _ => rfl)) (de_c pe_int) (nomark _)))) (fun _ _ _ _ _ => (de_tup (da_cons false (de_var (pv 3)) (da_cons false (de_ix hu (de_var (pv 2)) (de_var (pv 3)) (fun _ _ => rfl)) da_nil)))) (by decide)) da_nil)) da_nil)))))))
theorem ok_form (T : Top K mg) : FnOk P w K mg base (L2.CX P w) 1 T.f_form T.fd_form P_form (liftSp K (sp_form)) :=
  fnD T.F_form sc_form (b_form) fun _ _ _ _ _ _ hr => w_form T hr
theorem w_write_term (T : Top K mg) {cdv : Value} {A : Around} {outer : List Env} {s : Shared} {H : Hp} {E : XK} (hr : Room 2 (A.deeper (envOfC "write_term" (defScope s_write_term) s.heap.objs.size T.f_write_term cdv))) :
    PSs (cxOf (L2.CX P w) P w K mg base N_write_term "write_term" (defScope s_write_term) T.f_write_term cdv A outer s H E) (defBody s_write_term) (liftS K (fun cls d _ H => E cls d H) (d_write_term)) := by
  have nd := (sc_write_term).nd
  have hu := hr.units
  have tk : Takes (cxOf (L2.CX P w) P w K mg base N_write_term "write_term" (defScope s_write_term) T.f_write_term cdv A outer s H E) (fun cls d _ H => E cls d H) := takes_of rfl rfl rfl rfl
  have hp : PassesOwn (model P w) (A.deeper (envOfC "write_term" (defScope s_write_term) s.heap.objs.size T.f_write_term cdv)) (envOfC "write_term" (defScope s_write_term) s.heap.objs.size T.f_write_term cdv) (cxOf (L2.CX P w) P w K mg base N_write_term "write_term" (defScope s_write_term) T.f_write_term cdv A outer s H E).xe := passes_of (X := cxOf (L2.CX P w) P w K mg base N_write_term "write_term" (defScope s_write_term) T.f_write_term cdv A outer s H E) rfl
  exact (dss_cons (ds_if (dt_cmp (or_eq hu) od_eq (de_var (pv 0)) (de_c pe_str) (nomark _))
      (dss_one (ds_ret (de_call (ok_write_integer T) (hr.mono (by decide)) (by rfl) T.g_write_integer T.F_write_integer.kp T.b_write_integer tk (da_cons false (de_var (pv 1)) da_nil))))
      dss_nil)
      (dss_cons (ds_if (dt_cmp (or_eq hu) od_eq (de_var (pv 1)) (de_c pe_int) (nomark _))
      (dss_one (ds_ret (de_var (pv 0))))
      dss_nil)
      (dss_one (ds_ret (de_bin or_add od_add (de_bin or_add od_add (de_call (ok_write_integer T) (hr.mono (by decide)) (by rfl) T.g_write_integer T.F_write_integer.kp T.b_write_integer tk (da_cons false (de_var (pv 1)) da_nil)) (de_c pe_str)) (de_var (pv 0)))))))
theorem ok_write_term (T : Top K mg) : FnOk P w K mg base (L2.CX P w) 3 T.f_write_term T.fd_write_term P_write_term (liftSp K (sp_write_term)) :=
  fnD T.F_write_term sc_write_term (b_write_term) fun _ _ _ _ _ _ hr => w_write_term T hr
theorem w_write_form (T : Top K mg) {cdv : Value} {A : Around} {outer : List Env} {s : Shared} {H : Hp} {E : XK} (hr : Room 3 (A.deeper (envOfC "write_form" (defScope s_write_form) s.heap.objs.size T.f_write_form cdv))) :
    PSs (cxOf (L2.CX P w) P w K mg base N_write_form "write_form" (defScope s_write_form) T.f_write_form cdv A outer s H E) (defBody s_write_form) (liftS K (fun cls d _ H => E cls d H) (d_write_form)) := by
  have nd := (sc_write_form).nd
  have hu := hr.units
  have tk : Takes (cxOf (L2.CX P w) P w K mg base N_write_form "write_form" (defScope s_write_form) T.f_write_form cdv A outer s H E) (fun cls d _ H => E cls d H) := takes_of rfl rfl rfl rfl
  have hp : PassesOwn (model P w) (A.deeper (envOfC "write_form" (defScope s_write_form) s.heap.objs.size T.f_write_form cdv)) (envOfC "write_form" (defScope s_write_form) s.heap.objs.size T.f_write_form cdv) (cxOf (L2.CX P w) P w K mg base N_write_form "write_form" (defScope s_write_form) T.f_write_form cdv A outer s H E).xe := passes_of (X := cxOf (L2.CX P w) P w K mg base N_write_form "write_form" (defScope s_write_form) T.f_write_form cdv A outer s H E) rfl
  exact (dss_cons (ds_set true (i := 1) nd rfl (by first | exact Or.inl rfl | exact Or.inr rfl) (de_callTy cr_list cd_list (by rfl) T.n_list (by decide +kernel) (da_cons false (de_ix hu (de_var (pv 0)) (de_c pe_int) (fun _ _ => rfl)) da_nil)))
      (dss_cons (ds_if (dw_or (dt_cmp (or_ne hu) od_ne (de_ix hu (de_var (pv 0)) (de_c pe_int) (fun _ _ => rfl)) (de_c pe_int) (nomark _)) (dw_or1 (dt_not (dt_tru (de_var (pv 1)))))).pt
      (dss_one (ds_expr (de_bm PySem.F.plainAttrs_list PySem.F.slot_list_append PySem.F.type_list_append mt_append md_append (de_var (pv 1)) (da_cons false (de_tup (da_cons false (de_c pe_str) (da_cons false (de_ix hu (de_var (pv 0)) (de_c pe_int) (fun _ _ => rfl)) da_nil))) da_nil))))
      dss_nil)
      (dss_cons (ds_set false (i := 2) nd rfl (by first | exact Or.inl rfl | exact Or.inr rfl) (de_c pe_str))
      (dss_cons (ds_for hp rfl (di_seq (de_var (pv 1))) (dg_tup rfl (dgs_cons (dg_name (i := 3) nd rfl (by first | exact Or.inl rfl | exact Or.inr rfl)) (dgs_cons (dg_name (i := 4) nd rfl (by first | exact Or.inl rfl | exact Or.inr rfl)) dgs_nil)) rfl)
      (dss_cons (ds_if (dt_cmp (or_eq hu) od_eq (de_var (pv 2)) (de_c pe_str) (nomark _))
      (dss_one (ds_set false (i := 2) nd rfl (by first | exact Or.inl rfl | exact Or.inr rfl) (de_if (dt_cmp or_lt od_lt (de_var (pv 4)) (de_c pe_int) (nomark _)) (de_c pe_str) (de_c pe_str))))
      (dss_one (ds_aug false (i := 2) nd rfl (by first | exact Or.inl rfl | exact Or.inr rfl) ir_add id_add (de_if (dt_cmp or_lt od_lt (de_var (pv 4)) (de_c pe_int) (nomark _)) (de_c pe_str) (de_c pe_str)))))
      (dss_one (ds_aug false (i := 2) nd rfl (by first | exact Or.inl rfl | exact Or.inr rfl) ir_add id_add (de_call (ok_write_term T) (hr.mono (by decide)) (by rfl) T.g_write_term T.F_write_term.kp T.b_write_term tk (da_cons false (de_var (pv 3)) (da_cons false (de_callB call_abs cd_abs (by rfl) T.n_abs (by decide +kernel) (da_cons false (de_var (pv 4)) da_nil)) da_nil)))))))
      (dss_one (ds_ret (de_var (pv 2))))))))
theorem ok_write_form (T : Top K mg) : FnOk P w K mg base (L2.CX P w) 4 T.f_write_form T.fd_write_form P_write_form (liftSp K (sp_write_form)) :=
  fnD T.F_write_form sc_write_form (b_write_form) fun _ _ _ _ _ _ hr => w_write_form T hr
theorem w_is_name (T : Top K mg) {cdv : Value} {A : Around} {outer : List Env} {s : Shared} {H : Hp} {E : XK} (hr : Room 0 (A.deeper (envOfC "is_name" (defScope s_is_name) s.heap.objs.size T.f_is_name cdv))) :
    PSs (cxOf (L2.CX P w) P w K mg base N_is_name "is_name" (defScope s_is_name) T.f_is_name cdv A outer s H E) (defBody s_is_name) (liftS K (fun cls d _ H => E cls d H) (d_is_name)) := by
  have nd := (sc_is_name).nd
  have hu := hr.units
  have tk : Takes (cxOf (L2.CX P w) P w K mg base N_is_name "is_name" (defScope s_is_name) T.f_is_name cdv A outer s H E) (fun cls d _ H => E cls d H) := takes_of rfl rfl rfl rfl
  have hp : PassesOwn (model P w) (A.deeper (envOfC "is_name" (defScope s_is_name) s.heap.objs.size T.f_is_name cdv)) (envOfC "is_name" (defScope s_is_name) s.heap.objs.size T.f_is_name cdv) (cxOf (L2.CX P w) P w K mg base N_is_name "is_name" (defScope s_is_name) T.f_is_name cdv A outer s H E).xe := passes_of (X := cxOf (L2.CX P w) P w K mg base N_is_name "is_name" (defScope s_is_name) T.f_is_name cdv A outer s H E) rfl
  exact (dss_cons (ds_for hp rfl (di_seq (de_var (pv 0))) (dg_name (i := 1) nd rfl (by first | exact Or.inl rfl | exact Or.inr rfl))
      (dss_one (ds_if (dw_and (dt_cmp (or_notIn hu) od_notIn (de_var (pv 1)) (de_glob (by rfl) T.c_FIRST) (by rfl)) (dw_and1 (dt_cmp (or_notIn hu) od_notIn (de_var (pv 1)) (de_glob (by rfl) T.c_DIGITS_formtext) (by rfl)))).pt
      (dss_one (ds_ret (de_c pe_bl)))
      dss_nil)))
      (dss_one (ds_ret (de_and (de_cmp (or_ne hu) od_ne (de_var (pv 0)) (de_c pe_str) (nomark _)) (de_one (de_cmp (or_notIn hu) od_notIn (de_ix hu (de_var (pv 0)) (de_c pe_int) (fun _ _ => rfl)) (de_glob (by rfl) T.c_DIGITS_formtext) (by rfl)))))))
theorem ok_is_name (T : Top K mg) : FnOk P w K mg base (L2.CX P w) 1 T.f_is_name T.fd_is_name P_is_name (liftSp K (sp_is_name)) :=
  fnD T.F_is_name sc_is_name (b_is_name) fun _ _ _ _ _ _ hr => w_is_name T hr
theorem w_read_term (T : Top K mg) {cdv : Value} {A : Around} {outer : List Env} {s : Shared} {H : Hp} {E : XK} (hr : Room 1 (A.deeper (envOfC "read_term" (defScope s_read_term) s.heap.objs.size T.f_read_term cdv))) :
    PSs (cxOf (L2.CX P w) P w K mg base N_read_term "read_term" (defScope s_read_term) T.f_read_term cdv A outer s H E) (defBody s_read_term) (liftS K (fun cls d _ H => E cls d H) (d_read_term T.k_BadText)) := by
  have nd := (sc_read_term).nd
  have hu := hr.units
  have tk : Takes (cxOf (L2.CX P w) P w K mg base N_read_term "read_term" (defScope s_read_term) T.f_read_term cdv A outer s H E) (fun cls d _ H => E cls d H) := takes_of rfl rfl rfl rfl
  have hp : PassesOwn (model P w) (A.deeper (envOfC "read_term" (defScope s_read_term) s.heap.objs.size T.f_read_term cdv)) (envOfC "read_term" (defScope s_read_term) s.heap.objs.size T.f_read_term cdv) (cxOf (L2.CX P w) P w K mg base N_read_term "read_term" (defScope s_read_term) T.f_read_term cdv A outer s H E).xe := passes_of (X := cxOf (L2.CX P w) P w K mg base N_read_term "read_term" (defScope s_read_term) T.f_read_term cdv A outer s H E) rfl
  exact (dss_cons (ds_asgT (de_bm PySem.F.plainAttrs_str PySem.F.slot_str_partition PySem.F.type_str_partition mr_part md_part (de_var (pv 0)) (da_cons false (de_c pe_str) da_nil)) (dg_tup rfl (dgs_cons (dg_name (i := 2) nd rfl (by first | exact Or.inl rfl | exact Or.inr rfl)) (dgs_cons (dg_name (i := 3) nd rfl (by first | exact Or.inl rfl | exact Or.inr rfl)) (dgs_cons (dg_name (i := 4) nd rfl (by first | exact Or.inl rfl | exact Or.inr rfl)) dgs_nil))) rfl))
      (dss_cons (ds_if (dw_and (dt_cmp (or_eq hu) od_eq (de_var (pv 3)) (de_c pe_str) (nomark _)) (dw_and1 (dt_tru (de_call (ok_is_name T) (hr.mono (by decide)) (by rfl) T.g_is_name T.F_is_name.kp T.b_is_name tk (da_cons false (de_var (pv 2)) da_nil))))).pt
      (dss_one (ds_ret (de_tup (da_cons false (de_var (pv 2)) (da_cons false (de_var (pv 1)) da_nil)))))
      dss_nil)
      (dss_cons (ds_if (dw_and (dt_cmp (or_ne hu) od_ne (de_var (pv 3)) (de_c pe_str) (nomark _)) (dw_and1 (dt_not (dt_tru (de_call (ok_is_name T) (hr.mono (by decide)) (by rfl) T.g_is_name T.F_is_name.kp T.b_is_name tk (da_cons false (de_var (pv 4)) da_nil)))))).pt
      (dss_one (ds_raise rfl tk PySem.F.excBase_ValueError T.x_BadText.q T.gk_BadText T.x_BadText.k T.x_BadText.r (by rfl)))
      dss_nil)
      (dss_one (ds_ret (de_tup (da_cons false (de_var (pv 4)) (da_cons false (de_bin or_mul od_mul (de_var (pv 1)) (de_call (ok_read_integer T) (hr.mono (by decide)) (by rfl) T.g_read_integer T.F_read_integer.kp T.b_read_integer tk (da_cons false (de_var (pv 2)) da_nil))) da_nil))))))))
theorem ok_read_term (T : Top K mg) : FnOk P w K mg base (L2.CX P w) 2 T.f_read_term T.fd_read_term P_read_term (liftSp K (sp_read_term T.k_BadText)) :=
  fnD T.F_read_term sc_read_term (b_read_term T.k_BadText) fun _ _ _ _ _ _ hr => w_read_term T hr
theorem w_read_form (T : Top K mg) {cdv : Value} {A : Around} {outer : List Env} {s : Shared} {H : Hp} {E : XK} (hr : Room 4 (A.deeper (envOfC "read_form" (defScope s_read_form) s.heap.objs.size T.f_read_form cdv))) :
    PSs (cxOf (L2.CX P w) P w K mg base N_read_form "read_form" (defScope s_read_form) T.f_read_form cdv A outer s H E) (defBody s_read_form) (liftS K (fun cls d _ H => E cls d H) (d_read_form T.k_BadText)) := by
  have nd := (sc_read_form).nd
  have hu := hr.units
  have tk : Takes (cxOf (L2.CX P w) P w K mg base N_read_form "read_form" (defScope s_read_form) T.f_read_form cdv A outer s H E) (fun cls d _ H => E cls d H) := takes_of rfl rfl rfl rfl
  have hp : PassesOwn (model P w) (A.deeper (envOfC "read_form" (defScope s_read_form) s.heap.objs.size T.f_read_form cdv)) (envOfC "read_form" (defScope s_read_form) s.heap.objs.size T.f_read_form cdv) (cxOf (L2.CX P w) P w K mg base N_read_form "read_form" (defScope s_read_form) T.f_read_form cdv A outer s H E).xe := passes_of (X := cxOf (L2.CX P w) P w K mg base N_read_form "read_form" (defScope s_read_form) T.f_read_form cdv A outer s H E) rfl
  exact (dss_cons (ds_set false (i := 1) nd rfl (by first | exact Or.inl rfl | exact Or.inr rfl) (de_bm PySem.F.plainAttrs_str PySem.F.slot_str_split PySem.F.type_str_split mr_split md_split (de_var (pv 0)) (da_cons false (de_c pe_str) da_nil)))
      (dss_cons (ds_set false (i := 2) nd rfl (by first | exact Or.inl rfl | exact Or.inr rfl) (de_ix hu (de_var (pv 1)) (de_c pe_int) (fun _ _ => rfl)))
      (dss_cons (ds_set false (i := 3) nd rfl (by first | exact Or.inl rfl | exact Or.inr rfl) (de_c pe_int))
      (dss_cons (ds_if (dt_cmp (or_eq hu) od_eq (de_slice (de_var (pv 2)) do_none (do_some (de_c pe_int))) (de_c pe_str) (nomark _))
      (dss_cons (ds_set false (i := 3) nd rfl (by first | exact Or.inl rfl | exact Or.inr rfl) (de_neg (de_c pe_int)))
      (dss_one (ds_set false (i := 2) nd rfl (by first | exact Or.inl rfl | exact Or.inr rfl) (de_slice (de_var (pv 2)) (do_some (de_c pe_int)) do_none))))
      dss_nil)
      (dss_cons (ds_set true (i := 4) nd rfl (by first | exact Or.inl rfl | exact Or.inr rfl) (de_lst (da_cons false (de_call (ok_read_term T) (hr.mono (by decide)) (by rfl) T.g_read_term T.F_read_term.kp T.b_read_term tk (da_cons false (de_var (pv 2)) (da_cons false (de_var (pv 3)) da_nil))) da_nil)))
      (dss_cons (ds_if (dt_cmp (or_eq hu) od_eq (de_bin or_mod od_mod (de_callB cr_len cd_len (by rfl) T.n_len (by decide +kernel) (da_cons false (de_var (pv 1)) da_nil)) (de_c pe_int)) (de_c pe_int) (nomark _))
      (dss_one (ds_raise rfl tk PySem.F.excBase_ValueError T.x_BadText.q T.gk_BadText T.x_BadText.k T.x_BadText.r (by rfl)))
      dss_nil)
      (dss_cons (ds_for hp rfl (di_range3 (by rfl) T.n_range (da_cons false (de_c pe_int) (da_cons false (de_callB cr_len cd_len (by rfl) T.n_len (by decide +kernel) (da_cons false (de_var (pv 1)) da_nil)) (da_cons false (de_c pe_int) da_nil)))) (dg_name (i := 5) nd rfl (by first | exact Or.inl rfl | exact Or.inr rfl))
      (dss_cons (ds_if (dt_cmp (or_notIn hu) od_notIn (de_ix hu (de_var (pv 1)) (de_var (pv 5)) (fun _ _ => rfl)) (de_tup (da_cons false (de_c pe_str) (da_cons false (de_c pe_str) da_nil))) (by rfl))
      (dss_one (ds_raise rfl tk PySem.F.excBase_ValueError T.x_BadText.q T.gk_BadText T.x_BadText.k T.x_BadText.r (by rfl)))
      dss_nil)
      (dss_one (ds_expr (de_bm PySem.F.plainAttrs_list PySem.F.slot_list_append PySem.F.type_list_append mt_append md_append (de_var (pv 4)) (da_cons false (de_call (ok_read_term T) (hr.mono (by decide)) (by rfl) T.g_read_term T.F_read_term.kp T.b_read_term tk (da_cons false (de_ix hu (de_var (pv 1)) (de_bin or_add od_add (de_var (pv 5)) (de_c pe_int)) (fun _ _ => rfl)) (da_cons false (de_if (dt_cmp (or_eq hu) od_eq (de_ix hu (de_var (pv 1)) (de_var (pv 5)) (fun _ _ => rfl)) (de_c pe_str) (nomark _)) (de_c pe_int) (de_neg (de_c pe_int))) da_nil))) da_nil))))))
      (dss_cons (ds_set false (i := 6) nd rfl (by first | exact Or.inl rfl | exact Or.inr rfl) (de_call (ok_form T) (hr.mono (by decide)) (by rfl) T.g_form T.F_form.kp T.b_form tk (da_cons false (de_callB (cr_sum rfl) cd_sum (by rfl) T.n_sum (by decide +kernel) (da_cons false (de_lc (own := [("name", 7), ("number", 8)]) false rfl nd (di_seq (de_var (pv 4))) (blkOk_by (own := [("name", 7), ("number", 8)]) (N := N_read_form) (sc := defScope s_read_form) (by decide +kernel)) (fun _ _ _ _ _ => (dg_tup rfl (dgs_cons (dg_name (i := 7) nd rfl (by first | exact Or.inl rfl | exact Or.inr rfl)) (dgs_cons (dg_name (i := 8) nd rfl (by first | exact Or.inl rfl | exact Or.inr rfl)) dgs_nil)) rfl)) (fun _ _ _ _ _ => (dts_one (dt_cmp (or_eq hu) od_eq (de_var (pv 7)) (de_c pe_str) (nomark _)))) (fun _ _ _ _ _ => (de_var (pv 8))) (by decide)) da_nil)) (da_cons false (de_lc (own := [("pair", 9)]) false rfl nd (di_seq (de_var (pv 4))) (blkOk_by (own := [("pair", 9)]) (N := N_read_form) (sc := defScope s_read_form) (by decide +kernel)) (fun _ _ _ _ _ => (dg_name (i := 9) nd rfl (by first | exact Or.inl rfl | exact Or.inr rfl))) (fun _ _ _ _ _ => (dts_one (dt_cmp (or_ne hu) od_ne (de_ix hu (de_var (pv 9)) (de_c pe_int) (fun _ _ => rfl)) (de_c pe_str) (nomark _)))) (fun _ _ _ _ _ => (de_var (pv 9))) (by decide)) da_nil))))
      (dss_cons (ds_if (dt_cmp (or_ne hu) od_ne (de_call (ok_write_form T) (hr.mono (by decide)) (by rfl) T.g_write_form T.F_write_form.kp T.b_write_form tk (da_cons false (de_var (pv 6)) da_nil)) (de_var (pv 0)) (nomark _))
      (dss_one (ds_raise rfl tk PySem.F.excBase_ValueError T.x_BadText.q T.gk_BadText T.x_BadText.k T.x_BadText.r (by rfl)))
      dss_nil)
      (dss_one (ds_ret (de_var (pv 6)))))))))))))
theorem ok_read_form (T : Top K mg) : FnOk P w K mg base (L2.CX P w) 5 T.f_read_form T.fd_read_form P_read_form (liftSp K (sp_read_form T.k_BadText)) :=
  fnD T.F_read_form sc_read_form (b_read_form T.k_BadText) fun _ _ _ _ _ _ hr => w_read_form T hr
theorem w_law_start (T : Top K mg) {cdv : Value} {A : Around} {outer : List Env} {s : Shared} {H : Hp} {E : XK} (hr : Room 0 (A.deeper (envOfC "_law_start" (defScope s_law_start) s.heap.objs.size T.f_law_start cdv))) :
    PSs (cxOf (L2.CX P w) P w K mg base N_law_start "_law_start" (defScope s_law_start) T.f_law_start cdv A outer s H E) (defBody s_law_start) (liftS K (fun cls d _ H => E cls d H) (d_law_start)) := by
  have nd := (sc_law_start).nd
  have hu := hr.units
  have tk : Takes (cxOf (L2.CX P w) P w K mg base N_law_start "_law_start" (defScope s_law_start) T.f_law_start cdv A outer s H E) (fun cls d _ H => E cls d H) := takes_of rfl rfl rfl rfl
  have hp : PassesOwn (model P w) (A.deeper (envOfC "_law_start" (defScope s_law_start) s.heap.objs.size T.f_law_start cdv)) (envOfC "_law_start" (defScope s_law_start) s.heap.objs.size T.f_law_start cdv) (cxOf (L2.CX P w) P w K mg base N_law_start "_law_start" (defScope s_law_start) T.f_law_start cdv A outer s H E).xe := passes_of (X := cxOf (L2.CX P w) P w K mg base N_law_start "_law_start" (defScope s_law_start) T.f_law_start cdv A outer s H E) rfl
  exact (dss_one (ds_ret (de_lst (da_cons false (de_callTy cr_list cd_list (by rfl) T.n_list (by decide +kernel) (da_cons false (de_var (pv 0)) da_nil)) (da_cons false (de_c pe_int) (da_cons false (de_c pe_int) (da_cons false (de_c pe_int) da_nil)))))))
theorem ok_law_start (T : Top K mg) : FnOk P w K mg base (L2.CX P w) 1 T.f_law_start T.fd_law_start P_law_start (liftSp K (sp_law_start)) :=
  fnD T.F_law_start sc_law_start (b_law_start) fun _ _ _ _ _ _ hr => w_law_start T hr
theorem w_law_draw (T : Top K mg) {cdv : Value} {A : Around} {outer : List Env} {s : Shared} {H : Hp} {E : XK} (hr : Room 0 (A.deeper (envOfC "_law_draw" (defScope s_law_draw) s.heap.objs.size T.f_law_draw cdv))) :
    PSs (cxOf (L2.CX P w) P w K mg base N_law_draw "_law_draw" (defScope s_law_draw) T.f_law_draw cdv A outer s H E) (defBody s_law_draw) (liftS K (fun cls d _ H => E cls d H) (d_law_draw)) := by
  have nd := (sc_law_draw).nd
  have hu := hr.units
  have tk : Takes (cxOf (L2.CX P w) P w K mg base N_law_draw "_law_draw" (defScope s_law_draw) T.f_law_draw cdv A outer s H E) (fun cls d _ H => E cls d H) := takes_of rfl rfl rfl rfl
  have hp : PassesOwn (model P w) (A.deeper (envOfC "_law_draw" (defScope s_law_draw) s.heap.objs.size T.f_law_draw cdv)) (envOfC "_law_draw" (defScope s_law_draw) s.heap.objs.size T.f_law_draw cdv) (cxOf (L2.CX P w) P w K mg base N_law_draw "_law_draw" (defScope s_law_draw) T.f_law_draw cdv A outer s H E).xe := passes_of (X := cxOf (L2.CX P w) P w K mg base N_law_draw "_law_draw" (defScope s_law_draw) T.f_law_draw cdv A outer s H E) rfl
  exact (dss_cons (ds_setItem false hu (de_bin or_add od_add (de_ix hu (de_var (pv 0)) (de_c pe_int) (fun _ _ => rfl)) (de_c pe_int)) (de_var (pv 0)) (de_c pe_int))
      (dss_cons (ds_if (dt_cmp or_gt od_gt (de_ix hu (de_var (pv 0)) (de_c pe_int) (fun _ _ => rfl)) (de_c pe_int) (nomark _))
      (dss_cons (ds_set false (i := 2) nd rfl (by first | exact Or.inl rfl | exact Or.inr rfl) (de_bin or_mod od_mod (de_callTy cr_int cd_int (by rfl) T.n_int (by decide +kernel) (da_cons false (de_ix hu (de_var (pv 0)) (de_c pe_int) (fun _ _ => rfl)) da_nil)) (de_var (pv 1))))
      (dss_cons (ds_setItem false hu (de_bin or_fdiv od_fdiv (de_ix hu (de_var (pv 0)) (de_c pe_int) (fun _ _ => rfl)) (de_var (pv 1))) (de_var (pv 0)) (de_c pe_int))
      (dss_one (ds_ret (de_var (pv 2))))))
      dss_nil)
      (dss_cons (ds_set false (i := 3) nd rfl (by first | exact Or.inl rfl | exact Or.inr rfl) (de_c pe_int))
      (dss_cons (ds_if (dt_cmp or_gt od_gt (de_callB cr_len cd_len (by rfl) T.n_len (by decide +kernel) (da_cons false (de_ix hu (de_var (pv 0)) (de_c pe_int) (fun _ _ => rfl)) da_nil)) (de_c pe_int) (nomark _))
      (dss_one (ds_set false (i := 3) nd rfl (by first | exact Or.inl rfl | exact Or.inr rfl) (de_callB call_abs cd_abs (by rfl) T.n_abs (by decide +kernel) (da_cons false (de_ix hu (de_ix hu (de_var (pv 0)) (de_c pe_int) (fun _ _ => rfl)) (de_bin or_mod od_mod (de_callTy cr_int cd_int (by rfl) T.n_int (by decide +kernel) (da_cons false (de_ix hu (de_var (pv 0)) (de_c pe_int) (fun _ _ => rfl)) da_nil)) (de_callB cr_len cd_len (by rfl) T.n_len (by decide +kernel) (da_cons false (de_ix hu (de_var (pv 0)) (de_c pe_int) (fun _ _ => rfl)) da_nil))) (fun _ _ => rfl)) da_nil))))
      dss_nil)
      (dss_cons (ds_setItem false hu (de_bin or_add od_add (de_ix hu (de_var (pv 0)) (de_c pe_int) (fun _ _ => rfl)) (de_c pe_int)) (de_var (pv 0)) (de_c pe_int))
      (dss_cons (ds_if (dt_cmp or_ge od_ge (de_var (pv 3)) (de_bin or_pow od_pow (de_c pe_int) (de_c pe_int)) (nomark _))
      (dss_cons (ds_setItem false hu (de_bin or_fdiv od_fdiv (de_var (pv 3)) (de_var (pv 1))) (de_var (pv 0)) (de_c pe_int))
      (dss_one (ds_ret (de_bin or_mod od_mod (de_callTy cr_int cd_int (by rfl) T.n_int (by decide +kernel) (da_cons false (de_var (pv 3)) da_nil)) (de_var (pv 1))))))
      dss_nil)
      (dss_cons (ds_set false (i := 4) nd rfl (by first | exact Or.inl rfl | exact Or.inr rfl) (de_bin or_mod od_mod (de_callTy cr_int cd_int (by rfl) T.n_int (by decide +kernel) (da_cons false (de_bin or_add od_add (de_bin or_mul od_mul (de_bin or_add od_add (de_var (pv 3)) (de_c pe_int)) (de_c pe_int)) (de_bin or_mul od_mul (de_ix hu (de_var (pv 0)) (de_c pe_int) (fun _ _ => rfl)) (de_c pe_int))) da_nil)) (de_c pe_int)))
      (dss_cons (ds_set false (i := 4) nd rfl (by first | exact Or.inl rfl | exact Or.inr rfl) (de_bin or_mod od_mod (de_callTy cr_int cd_int (by rfl) T.n_int (by decide +kernel) (da_cons false (de_bin or_add od_add (de_bin or_add od_add (de_bin or_mul od_mul (de_var (pv 4)) (de_c pe_int)) (de_bin or_fdiv od_fdiv (de_var (pv 3)) (de_c pe_int))) (de_ix hu (de_var (pv 0)) (de_c pe_int) (fun _ _ => rfl))) da_nil)) (de_c pe_int)))
      (dss_one (ds_ret (de_bin or_mod od_mod (de_bin or_fdiv od_fdiv (de_var (pv 4)) (de_c pe_int)) (de_var (pv 1)))))))))))))
theorem ok_law_draw (T : Top K mg) : FnOk P w K mg base (L2.CX P w) 1 T.f_law_draw T.fd_law_draw P_law_draw (liftSp K (sp_law_draw)) :=
  fnD T.F_law_draw sc_law_draw (b_law_draw) fun _ _ _ _ _ _ hr => w_law_draw T hr
theorem w_law_one_of (T : Top K mg) {cdv : Value} {A : Around} {outer : List Env} {s : Shared} {H : Hp} {E : XK} (hr : Room 1 (A.deeper (envOfC "_law_one_of" (defScope s_law_one_of) s.heap.objs.size T.f_law_one_of cdv))) :
    PSs (cxOf (L2.CX P w) P w K mg base N_law_one_of "_law_one_of" (defScope s_law_one_of) T.f_law_one_of cdv A outer s H E) (defBody s_law_one_of) (liftS K (fun cls d _ H => E cls d H) (d_law_one_of)) := by
  have nd := (sc_law_one_of).nd
  have hu := hr.units
  have tk : Takes (cxOf (L2.CX P w) P w K mg base N_law_one_of "_law_one_of" (defScope s_law_one_of) T.f_law_one_of cdv A outer s H E) (fun cls d _ H => E cls d H) := takes_of rfl rfl rfl rfl
  have hp : PassesOwn (model P w) (A.deeper (envOfC "_law_one_of" (defScope s_law_one_of) s.heap.objs.size T.f_law_one_of cdv)) (envOfC "_law_one_of" (defScope s_law_one_of) s.heap.objs.size T.f_law_one_of cdv) (cxOf (L2.CX P w) P w K mg base N_law_one_of "_law_one_of" (defScope s_law_one_of) T.f_law_one_of cdv A outer s H E).xe := passes_of (X := cxOf (L2.CX P w) P w K mg base N_law_one_of "_law_one_of" (defScope s_law_one_of) T.f_law_one_of cdv A outer s H E) rfl
  exact (dss_one (ds_ret (de_ix hu (de_var (pv 1)) (de_call (ok_law_draw T) (hr.mono (by decide)) (by rfl) T.g_law_draw T.F_law_draw.kp T.b_law_draw tk (da_cons false (de_var (pv 0)) (da_cons false (de_callB cr_len cd_len (by rfl) T.n_len (by decide +kernel) (da_cons false (de_var (pv 1)) da_nil)) da_nil))) (fun _ _ => rfl))))
theorem ok_law_one_of (T : Top K mg) : FnOk P w K mg base (L2.CX P w) 2 T.f_law_one_of T.fd_law_one_of P_law_one_of (liftSp K (sp_law_one_of)) :=
  fnD T.F_law_one_of sc_law_one_of (b_law_one_of) fun _ _ _ _ _ _ hr => w_law_one_of T hr
theorem w_law_is_int (T : Top K mg) {cdv : Value} {A : Around} {outer : List Env} {s : Shared} {H : Hp} {E : XK} (hr : Room 0 (A.deeper (envOfC "_law_is_int" (defScope s_law_is_int) s.heap.objs.size T.f_law_is_int cdv))) :
    PSs (cxOf (L2.CX P w) P w K mg base N_law_is_int "_law_is_int" (defScope s_law_is_int) T.f_law_is_int cdv A outer s H E) (defBody s_law_is_int) (liftS K (fun cls d _ H => E cls d H) (d_law_is_int)) := by
  have nd := (sc_law_is_int).nd
  have hu := hr.units
  have tk : Takes (cxOf (L2.CX P w) P w K mg base N_law_is_int "_law_is_int" (defScope s_law_is_int) T.f_law_is_int cdv A outer s H E) (fun cls d _ H => E cls d H) := takes_of rfl rfl rfl rfl
  have hp : PassesOwn (model P w) (A.deeper (envOfC "_law_is_int" (defScope s_law_is_int) s.heap.objs.size T.f_law_is_int cdv)) (envOfC "_law_is_int" (defScope s_law_is_int) s.heap.objs.size T.f_law_is_int cdv) (cxOf (L2.CX P w) P w K mg base N_law_is_int "_law_is_int" (defScope s_law_is_int) T.f_law_is_int cdv A outer s H E).xe := passes_of (X := cxOf (L2.CX P w) P w K mg base N_law_is_int "_law_is_int" (defScope s_law_is_int) T.f_law_is_int cdv A outer s H E) rfl
  exact (dss_one (ds_ret (de_and (de_callB call_isi cd_isi (by rfl) T.n_isinstance (by decide +kernel) (da_cons false (de_var (pv 0)) (da_cons false (de_c (pe_bltn (v := .ty "int") (by rfl) T.n_int (by decide +kernel) rfl)) da_nil))) (de_one (de_not (de_callB call_isi cd_isi (by rfl) T.n_isinstance (by decide +kernel) (da_cons false (de_var (pv 0)) (da_cons false (de_c (pe_bltn (v := .ty "bool") (by rfl) T.n_bool (by decide +kernel) rfl)) da_nil))))))))
theorem ok_law_is_int (T : Top K mg) : FnOk P w K mg base (L2.CX P w) 1 T.f_law_is_int T.fd_law_is_int P_law_is_int (liftSp K (sp_law_is_int)) :=
  fnD T.F_law_is_int sc_law_is_int (b_law_is_int) fun _ _ _ _ _ _ hr => w_law_is_int T hr
theorem w_law_same (T : Top K mg) {k : Nat} (hk : 1 ≤ k) {self : DSp} (slf : FnOk P w K mg base (L2.CX P w) k T.f_law_same T.fd_law_same P_law_same (liftSp K self)) {cdv : Value} {A : Around} {outer : List Env} {s : Shared} {H : Hp} {E : XK} (hr : Room k (A.deeper (envOfC "_law_same" (defScope s_law_same) s.heap.objs.size T.f_law_same cdv))) :
    PSs (cxOf (L2.CX P w) P w K mg base N_law_same "_law_same" (defScope s_law_same) T.f_law_same cdv A outer s H E) (defBody s_law_same) (liftS K (fun cls d _ H => E cls d H) (d_law_same self)) := by
  have nd := (sc_law_same).nd
  have hu := hr.units
  have tk : Takes (cxOf (L2.CX P w) P w K mg base N_law_same "_law_same" (defScope s_law_same) T.f_law_same cdv A outer s H E) (fun cls d _ H => E cls d H) := takes_of rfl rfl rfl rfl
  have hp : PassesOwn (model P w) (A.deeper (envOfC "_law_same" (defScope s_law_same) s.heap.objs.size T.f_law_same cdv)) (envOfC "_law_same" (defScope s_law_same) s.heap.objs.size T.f_law_same cdv) (cxOf (L2.CX P w) P w K mg base N_law_same "_law_same" (defScope s_law_same) T.f_law_same cdv A outer s H E).xe := passes_of (X := cxOf (L2.CX P w) P w K mg base N_law_same "_law_same" (defScope s_law_same) T.f_law_same cdv A outer s H E) rfl
  exact (dss_cons (ds_if (dt_tru (de_callB call_isi cd_isi (by rfl) T.n_isinstance (by decide +kernel) (da_cons false (de_var (pv 1)) (da_cons false (de_c (pe_bltn (v := .ty "tuple") (by rfl) T.n_tuple (by decide +kernel) rfl)) da_nil))))
      (dss_cons (ds_if (dw_or (dt_not (dt_tru (de_callB call_isi cd_isi (by rfl) T.n_isinstance (by decide +kernel) (da_cons false (de_var (pv 0)) (da_cons false (de_c (pe_bltn (v := .ty "tuple") (by rfl) T.n_tuple (by decide +kernel) rfl)) da_nil))))) (dw_or1 (dt_cmp (or_ne hu) od_ne (de_callB cr_len cd_len (by rfl) T.n_len (by decide +kernel) (da_cons false (de_var (pv 0)) da_nil)) (de_callB cr_len cd_len (by rfl) T.n_len (by decide +kernel) (da_cons false (de_var (pv 1)) da_nil)) (nomark _)))).pt
      (dss_one (ds_ret (de_c pe_bl)))
      dss_nil)
      (dss_one (ds_ret (de_callB (cr_all rfl) cd_anyAll (by rfl) T.n_all (by decide +kernel) (da_cons false (de_lc (own := [("k", 2)]) false rfl nd (di_range1 (by rfl) T.n_range (da_cons false (de_callB cr_len cd_len (by rfl) T.n_len (by decide +kernel) (da_cons false (de_var (pv 1)) da_nil)) da_nil)) (blkOk_by (own := [("k", 2)]) (N := N_law_same) (sc := defScope s_law_same) (by decide +kernel)) (fun _ _ _ _ _ => (dg_name (i := 2) nd rfl (by first | exact Or.inl rfl | exact Or.inr rfl))) (fun _ _ _ _ _ => dts_nil) (fun _ _ _ _ _ => (de_call slf hr (by rfl) T.g_law_same T.F_law_same.kp T.b_law_same takes0 (da_cons false (de_ix hu (de_var (pv 0)) (de_var (pv 2)) (fun _ _ => rfl)) (da_cons false (de_ix hu (de_var (pv 1)) (de_var (pv 2)) (fun _ _ => rfl)) da_nil)))) (by decide)) da_nil)))))
      dss_nil)
      (dss_cons (ds_if (dt_tru (de_callB call_isi cd_isi (by rfl) T.n_isinstance (by decide +kernel) (da_cons false (de_var (pv 1)) (da_cons false (de_c (pe_bltn (v := .ty "str") (by rfl) T.n_str (by decide +kernel) rfl)) da_nil))))
      (dss_one (ds_ret (de_and (de_callB call_isi cd_isi (by rfl) T.n_isinstance (by decide +kernel) (da_cons false (de_var (pv 0)) (da_cons false (de_c (pe_bltn (v := .ty "str") (by rfl) T.n_str (by decide +kernel) rfl)) da_nil))) (de_one (de_cmp (or_eq hu) od_eq (de_var (pv 0)) (de_var (pv 1)) (nomark _))))))
      dss_nil)
      (dss_one (ds_ret (de_and (de_call (ok_law_is_int T) (hr.mono (Nat.le_trans (by decide) hk)) (by rfl) T.g_law_is_int T.F_law_is_int.kp T.b_law_is_int tk (da_cons false (de_var (pv 0)) da_nil)) (de_one (de_cmp (or_eq hu) od_eq (de_var (pv 0)) (de_var (pv 1)) (nomark _))))))))
theorem okr_law_same (T : Top K mg) : ∀ k : Nat, FnOk P w K mg base (L2.CX P w) (1 + k) T.f_law_same T.fd_law_same P_law_same (liftSp K (spr_law_same k))
  | 0 => fnOk_no (no_law_same)
  | k + 1 => fnD T.F_law_same sc_law_same (b_law_same k) fun _ _ _ _ _ _ hr => w_law_same T (Nat.le_add_right _ _) (okr_law_same T k) hr
theorem ok_law_same (T : Top K mg) : FnOk P w K mg base (L2.CX P w) 7 T.f_law_same T.fd_law_same P_law_same (liftSp K (sp_law_same)) := okr_law_same T 6
theorem w_law_form (T : Top K mg) {cdv : Value} {A : Around} {outer : List Env} {s : Shared} {H : Hp} {E : XK} (hr : Room 0 (A.deeper (envOfC "_law_form" (defScope s_law_form) s.heap.objs.size T.f_law_form cdv))) :
    PSs (cxOf (L2.CX P w) P w K mg base N_law_form "_law_form" (defScope s_law_form) T.f_law_form cdv A outer s H E) (defBody s_law_form) (liftS K (fun cls d _ H => E cls d H) (d_law_form)) := by
  have nd := (sc_law_form).nd
  have hu := hr.units
  have tk : Takes (cxOf (L2.CX P w) P w K mg base N_law_form "_law_form" (defScope s_law_form) T.f_law_form cdv A outer s H E) (fun cls d _ H => E cls d H) := takes_of rfl rfl rfl rfl
  have hp : PassesOwn (model P w) (A.deeper (envOfC "_law_form" (defScope s_law_form) s.heap.objs.size T.f_law_form cdv)) (envOfC "_law_form" (defScope s_law_form) s.heap.objs.size T.f_law_form cdv) (cxOf (L2.CX P w) P w K mg base N_law_form "_law_form" (defScope s_law_form) T.f_law_form cdv A outer s H E).xe := passes_of (X := cxOf (L2.CX P w) P w K mg base N_law_form "_law_form" (defScope s_law_form) T.f_law_form cdv A outer s H E) rfl
  exact (dss_cons (ds_set true (i := 2) nd rfl (by first | exact Or.inl rfl | exact Or.inr rfl) de_dic0)
      (dss_cons (ds_for hp rfl (di_seq (de_var (pv 1))) (dg_tup rfl (dgs_cons (dg_name (i := 3) nd rfl (by first | exact Or.inl rfl | exact Or.inr rfl)) (dgs_cons (dg_name (i := 4) nd rfl (by first | exact Or.inl rfl | exact Or.inr rfl)) dgs_nil)) rfl)
      (dss_one (ds_setItem false hu (de_bin or_add od_add (de_dget2 hu (de_var (pv 2)) (de_var (pv 3)) (de_c pe_int) ⟨rfl, rfl, rfl, rfl⟩) (de_var (pv 4))) (de_var (pv 2)) (de_var (pv 3)))))
      (dss_one (ds_ret (de_tup (da_cons false (de_var (pv 0)) (da_cons false (de_callTy call_tuple_of cd_tuple (by rfl) T.n_tuple (by decide +kernel) (da_cons false (de_lc (own := [("name", 3)]) false rfl nd (di_seq (de_callB (cr_sortedAny rfl) cd_sorted (by rfl) T.n_sorted (by decide +kernel) (da_cons false (de_var (pv 2)) da_nil))) (blkOk_by (own := [("name", 3)]) (N := N_law_form) (sc := defScope s_law_form) (by decide +kernel)) (fun _ _ _ _ _ => (dg_name (i := 3) nd rfl (by first | exact Or.inl rfl | exact Or.inr rfl))) (fun _ _ _ _ _ => (dts_one (dt_cmp (or_ne hu) od_ne (de_ix hu (de_var (pv 2)) (de_var (pv 3)) (fun _ _ => rfl)) (de_c pe_int) (nomark _)))) (fun _ _ _ _ _ => (de_tup (da_cons false (de_var (pv 3)) (da_cons false (de_ix hu (de_var (pv 2)) (de_var (pv 3)) (fun _ _ => rfl)) da_nil)))) (by decide)) da_nil)) da_nil)))))))
theorem ok_law_form (T : Top K mg) : FnOk P w K mg base (L2.CX P w) 1 T.f_law_form T.fd_law_form P_law_form (liftSp K (sp_law_form)) :=
  fnD T.F_law_form sc_law_form (b_law_form) fun _ _ _ _ _ _ hr => w_law_form T hr
theorem w_law_some_name (T : Top K mg) {cdv : Value} {A : Around} {outer : List Env} {s : Shared} {H : Hp} {E : XK} (hr : Room 2 (A.deeper (envOfC "_law_some_name" (defScope s_law_some_name) s.heap.objs.size T.f_law_some_name cdv))) :
    PSs (cxOf (L2.CX P w) P w K mg base N_law_some_name "_law_some_name" (defScope s_law_some_name) T.f_law_some_name cdv A outer s H E) (defBody s_law_some_name) (liftS K (fun cls d _ H => E cls d H) (d_law_some_name)) := by
  have nd := (sc_law_some_name).nd
  have hu := hr.units
  have tk : Takes (cxOf (L2.CX P w) P w K mg base N_law_some_name "_law_some_name" (defScope s_law_some_name) T.f_law_some_name cdv A outer s H E) (fun cls d _ H => E cls d H) := takes_of rfl rfl rfl rfl
  have hp : PassesOwn (model P w) (A.deeper (envOfC "_law_some_name" (defScope s_law_some_name) s.heap.objs.size T.f_law_some_name cdv)) (envOfC "_law_some_name" (defScope s_law_some_name) s.heap.objs.size T.f_law_some_name cdv) (cxOf (L2.CX P w) P w K mg base N_law_some_name "_law_some_name" (defScope s_law_some_name) T.f_law_some_name cdv A outer s H E).xe := passes_of (X := cxOf (L2.CX P w) P w K mg base N_law_some_name "_law_some_name" (defScope s_law_some_name) T.f_law_some_name cdv A outer s H E) rfl
  exact (dss_cons (ds_set false (i := 1) nd rfl (by first | exact Or.inl rfl | exact Or.inr rfl) (de_call (ok_law_one_of T) (hr.mono (by decide)) (by rfl) T.g_law_one_of T.F_law_one_of.kp T.b_law_one_of tk (da_cons false (de_var (pv 0)) (da_cons false (de_lst (da_cons false (de_c pe_str) (da_cons false (de_c pe_str) (da_cons false (de_c pe_str) (da_cons false (de_c pe_str) (da_cons false (de_c pe_str) (da_cons false (de_c pe_str) (da_cons false (de_c pe_str) (da_cons false (de_c pe_str) (da_cons false (de_c pe_str) da_nil)))))))))) da_nil))))
      (dss_one (ds_ret (de_bin or_add od_add (de_var (pv 1)) (de_bm PySem.F.plainAttrs_str PySem.F.slot_str_join PySem.F.type_str_join mr_join md_join (de_c pe_str) (da_cons false (de_lc (own := [("turn", 2)]) false rfl nd (di_range1 (by rfl) T.n_range (da_cons false (de_call (ok_law_draw T) (hr.mono (by decide)) (by rfl) T.g_law_draw T.F_law_draw.kp T.b_law_draw tk (da_cons false (de_var (pv 0)) (da_cons false (de_c pe_int) da_nil))) da_nil)) (blkOk_by (own := [("turn", 2)]) (N := N_law_some_name) (sc := defScope s_law_some_name) (by decide +kernel)) (fun _ _ _ _ _ => (dg_name (i := 2) nd rfl (by first | exact Or.inl rfl | exact Or.inr rfl))) (fun _ _ _ _ _ => dts_nil) (fun _ _ _ _ _ => (de_call (ok_law_one_of T) (hr.mono (by decide)) (by rfl) T.g_law_one_of T.F_law_one_of.kp T.b_law_one_of takes0 (da_cons false (de_var (pv 0)) (da_cons false (de_lst (da_cons false (de_c pe_str) (da_cons false (de_c pe_str) (da_cons false (de_c pe_str) (da_cons false (de_c pe_str) (da_cons false (de_c pe_str) (da_cons false (de_c pe_str) (da_cons false (de_c pe_str) (da_cons false (de_c pe_str) (da_cons false (de_c pe_str) da_nil)))))))))) da_nil)))) (by decide)) da_nil))))))
theorem ok_law_some_name (T : Top K mg) : FnOk P w K mg base (L2.CX P w) 3 T.f_law_some_name T.fd_law_some_name P_law_some_name (liftSp K (sp_law_some_name)) :=
  fnD T.F_law_some_name sc_law_some_name (b_law_some_name) fun _ _ _ _ _ _ hr => w_law_some_name T hr
theorem w_law_some_form (T : Top K mg) {cdv : Value} {A : Around} {outer : List Env} {s : Shared} {H : Hp} {E : XK} (hr : Room 3 (A.deeper (envOfC "_law_some_form" (defScope s_law_some_form) s.heap.objs.size T.f_law_some_form cdv))) :
    PSs (cxOf (L2.CX P w) P w K mg base N_law_some_form "_law_some_form" (defScope s_law_some_form) T.f_law_some_form cdv A outer s H E) (defBody s_law_some_form) (liftS K (fun cls d _ H => E cls d H) (d_law_some_form)) := by
  have nd := (sc_law_some_form).nd
  have hu := hr.units
  have tk : Takes (cxOf (L2.CX P w) P w K mg base N_law_some_form "_law_some_form" (defScope s_law_some_form) T.f_law_some_form cdv A outer s H E) (fun cls d _ H => E cls d H) := takes_of rfl rfl rfl rfl
  have hp : PassesOwn (model P w) (A.deeper (envOfC "_law_some_form" (defScope s_law_some_form) s.heap.objs.size T.f_law_some_form cdv)) (envOfC "_law_some_form" (defScope s_law_some_form) s.heap.objs.size T.f_law_some_form cdv) (cxOf (L2.CX P w) P w K mg base N_law_some_form "_law_some_form" (defScope s_law_some_form) T.f_law_some_form cdv A outer s H E).xe := passes_of (X := cxOf (L2.CX P w) P w K mg base N_law_some_form "_law_some_form" (defScope s_law_some_form) T.f_law_some_form cdv A outer s H E) rfl
  exact (dss_cons (ds_setLc (i := 1) (own := [("turn", 3)]) false false rfl nd rfl rfl (sw_true rfl rfl rfl (by decide +kernel)) (di_range1 (by rfl) T.n_range (da_cons false (de_call (ok_law_draw T) (hr.mono (by decide)) (by rfl) T.g_law_draw T.F_law_draw.kp T.b_law_draw tk (da_cons false (de_var (pv 0)) (da_cons false (de_c pe_int) da_nil))) da_nil)) (blkOk_by (own := [("turn", 3)]) (N := N_law_some_form) (sc := defScope s_law_some_form) (by decide +kernel)) (fun _ _ _ _ _ => (dg_name (i := 3) nd rfl (by first | exact Or.inl rfl | exact Or.inr rfl))) (fun _ _ _ _ _ => dts_nil) (fun _ _ _ _ _ => (de_call (ok_law_some_name T) (hr.mono (by decide)) (by rfl) T.g_law_some_name T.F_law_some_name.kp T.b_law_some_name takes0 (da_cons false (de_var (pv 0)) da_nil))) (by decide))
      (dss_cons (ds_setLc (i := 2) (own := [("name", 4)]) false false rfl nd rfl rfl (sw_true rfl rfl rfl (by decide +kernel)) (di_seq (de_sortSet rfl (by rfl) T.n_sorted (by rfl) T.n_set (de_var (pv 1)))) (blkOk_by (own := [("name", 4)]) (N := N_law_some_form) (sc := defScope s_law_some_form) (by decide +kernel)) (fun _ _ _ _ _ => (dg_name (i := 4) nd rfl (by first | exact Or.inl rfl | exact Or.inr rfl))) (fun _ _ _ _ _ => dts_nil) (fun _ _ _ _ _ => (de_tup (da_cons false (de_var (pv 4)) (da_cons false (de_call (ok_law_one_of T) (hr.mono (by decide)) (by rfl) T.g_law_one_of T.F_law_one_of.kp T.b_law_one_of takes0 (da_cons false (de_var (pv 0)) (da_cons false (de_lst (da_cons false (de_c pe_int) (da_cons false (de_neg (de_c pe_int)) (da_cons false (de_c pe_int) (da_cons false (de_neg (de_c pe_int)) (da_cons false (de_c pe_int) (da_cons false (de_neg (de_c pe_int)) (da_cons false (de_c pe_int) (da_cons false (de_c pe_int) da_nil))))))))) da_nil))) da_nil)))) (by decide))
      (dss_one (ds_ret (de_call (ok_law_form T) (hr.mono (by decide)) (by rfl) T.g_law_form T.F_law_form.kp T.b_law_form tk (da_cons false (de_call (ok_law_one_of T) (hr.mono (by decide)) (by rfl) T.g_law_one_of T.F_law_one_of.kp T.b_law_one_of tk (da_cons false (de_var (pv 0)) (da_cons false (de_lst (da_cons false (de_c pe_int) (da_cons false (de_c pe_int) (da_cons false (de_c pe_int) (da_cons false (de_neg (de_c pe_int)) (da_cons false (de_c pe_int) (da_cons false (de_neg (de_c pe_int)) (da_cons false (de_c pe_int) da_nil)))))))) da_nil))) (da_cons false (de_var (pv 2)) da_nil)))))))
theorem ok_law_some_form (T : Top K mg) : FnOk P w K mg base (L2.CX P w) 4 T.f_law_some_form T.fd_law_some_form P_law_some_form (liftSp K (sp_law_some_form)) :=
  fnD T.F_law_some_form sc_law_some_form (b_law_some_form) fun _ _ _ _ _ _ hr => w_law_some_form T hr
theorem w_law_written (T : Top K mg) {cdv : Value} {A : Around} {outer : List Env} {s : Shared} {H : Hp} {E : XK} (hr : Room 0 (A.deeper (envOfC "_law_written" (defScope s_law_written) s.heap.objs.size T.f_law_written cdv))) :
    PSs (cxOf (L2.CX P w) P w K mg base N_law_written "_law_written" (defScope s_law_written) T.f_law_written cdv A outer s H E) (defBody s_law_written) (liftS K (fun cls d _ H => E cls d H) (d_law_written)) := by
  have nd := (sc_law_written).nd
  have hu := hr.units
  have tk : Takes (cxOf (L2.CX P w) P w K mg base N_law_written "_law_written" (defScope s_law_written) T.f_law_written cdv A outer s H E) (fun cls d _ H => E cls d H) := takes_of rfl rfl rfl rfl
  have hp : PassesOwn (model P w) (A.deeper (envOfC "_law_written" (defScope s_law_written) s.heap.objs.size T.f_law_written cdv)) (envOfC "_law_written" (defScope s_law_written) s.heap.objs.size T.f_law_written cdv) (cxOf (L2.CX P w) P w K mg base N_law_written "_law_written" (defScope s_law_written) T.f_law_written cdv A outer s H E).xe := passes_of (X := cxOf (L2.CX P w) P w K mg base N_law_written "_law_written" (defScope s_law_written) T.f_law_written cdv A outer s H E) rfl
  exact (dss_cons (ds_set true (i := 1) nd rfl (by first | exact Or.inl rfl | exact Or.inr rfl) (de_lst da_nil))
      (dss_cons (ds_for hp rfl (di_seq (de_ix hu (de_var (pv 0)) (de_c pe_int) (fun _ _ => rfl))) (dg_tup rfl (dgs_cons (dg_name (i := 2) nd rfl (by first | exact Or.inl rfl | exact Or.inr rfl)) (dgs_cons (dg_name (i := 3) nd rfl (by first | exact Or.inl rfl | exact Or.inr rfl)) dgs_nil)) rfl)
      (dss_cons (ds_set false (i := 4) nd rfl (by first | exact Or.inl rfl | exact Or.inr rfl) (de_var (pv 2)))
      (dss_cons (ds_if (dt_cmp (or_ne hu) od_ne (de_callB call_abs cd_abs (by rfl) T.n_abs (by decide +kernel) (da_cons false (de_var (pv 3)) da_nil)) (de_c pe_int) (nomark _))
      (dss_one (ds_set false (i := 4) nd rfl (by first | exact Or.inl rfl | exact Or.inr rfl) (de_bin or_add od_add (de_bin or_add od_add (de_callTy call_str_int cd_strI (by rfl) T.n_str (by decide +kernel) (da_cons false (de_callB call_abs cd_abs (by rfl) T.n_abs (by decide +kernel) (da_cons false (de_var (pv 3)) da_nil)) da_nil)) (de_c pe_str)) (de_var (pv 2)))))
      dss_nil)
      (dss_one (ds_expr (de_bm PySem.F.plainAttrs_list PySem.F.slot_list_append PySem.F.type_list_append mt_append md_append (de_var (pv 1)) (da_cons false (de_tup (da_cons false (de_cmp or_lt od_lt (de_var (pv 3)) (de_c pe_int) (nomark _)) (da_cons false (de_var (pv 4)) da_nil))) da_nil)))))))
      (dss_cons (ds_if (dw_or (dt_cmp (or_ne hu) od_ne (de_ix hu (de_var (pv 0)) (de_c pe_int) (fun _ _ => rfl)) (de_c pe_int) (nomark _)) (dw_or1 (dt_cmp (or_eq hu) od_eqL (de_var (pv 1)) (de_lst da_nil) (nomark _)))).pt
      (dss_one (ds_expr (de_bm PySem.F.plainAttrs_list PySem.F.slot_list_append PySem.F.type_list_append mt_append md_append (de_var (pv 1)) (da_cons false (de_tup (da_cons false (de_cmp or_lt od_lt (de_ix hu (de_var (pv 0)) (de_c pe_int) (fun _ _ => rfl)) (de_c pe_int) (nomark _)) (da_cons false (de_callTy call_str_int cd_strI (by rfl) T.n_str (by decide +kernel) (da_cons false (de_callB call_abs cd_abs (by rfl) T.n_abs (by decide +kernel) (da_cons false (de_ix hu (de_var (pv 0)) (de_c pe_int) (fun _ _ => rfl)) da_nil)) da_nil)) da_nil))) da_nil))))
      dss_nil)
      (dss_cons (ds_set false (i := 5) nd rfl (by first | exact Or.inl rfl | exact Or.inr rfl) (de_bin or_add od_add (de_ix hu (de_lst (da_cons false (de_c pe_str) (da_cons false (de_c pe_str) da_nil))) (de_callTy cr_int cd_int (by rfl) T.n_int (by decide +kernel) (da_cons false (de_ix hu (de_ix hu (de_var (pv 1)) (de_c pe_int) (fun _ _ => rfl)) (de_c pe_int) (fun _ _ => rfl)) da_nil)) (fun _ _ => rfl)) (de_ix hu (de_ix hu (de_var (pv 1)) (de_c pe_int) (fun _ _ => rfl)) (de_c pe_int) (fun _ _ => rfl))))
      (dss_cons (ds_for hp rfl (di_seq (de_slice (de_var (pv 1)) (do_some (de_c pe_int)) do_none)) (dg_tup rfl (dgs_cons (dg_name (i := 6) nd rfl (by first | exact Or.inl rfl | exact Or.inr rfl)) (dgs_cons (dg_name (i := 4) nd rfl (by first | exact Or.inl rfl | exact Or.inr rfl)) dgs_nil)) rfl)
      (dss_one (ds_set false (i := 5) nd rfl (by first | exact Or.inl rfl | exact Or.inr rfl) (de_bin or_add od_add (de_bin or_add od_add (de_var (pv 5)) (de_ix hu (de_lst (da_cons false (de_c pe_str) (da_cons false (de_c pe_str) da_nil))) (de_callTy cr_int cd_int (by rfl) T.n_int (by decide +kernel) (da_cons false (de_var (pv 6)) da_nil)) (fun _ _ => rfl))) (de_var (pv 4))))))
      (dss_one (ds_ret (de_var (pv 5)))))))))
theorem ok_law_written (T : Top K mg) : FnOk P w K mg base (L2.CX P w) 1 T.f_law_written T.fd_law_written P_law_written (liftSp K (sp_law_written)) :=
  fnD T.F_law_written sc_law_written (b_law_written) fun _ _ _ _ _ _ hr => w_law_written T hr
theorem w_law_read (T : Top K mg) {cdv : Value} {A : Around} {outer : List Env} {s : Shared} {H : Hp} {E : XK} (hr : Room 5 (A.deeper (envOfC "_law_read" (defScope s_law_read) s.heap.objs.size T.f_law_read cdv))) :
    PSs (cxOf (L2.CX P w) P w K mg base N_law_read "_law_read" (defScope s_law_read) T.f_law_read cdv A outer s H E) (defBody s_law_read) (liftS K (fun cls d _ H => E cls d H) (d_law_read T.k_BadText T.k_MeanwithinError)) := by
  have nd := (sc_law_read).nd
  have hu := hr.units
  have tk : Takes (cxOf (L2.CX P w) P w K mg base N_law_read "_law_read" (defScope s_law_read) T.f_law_read cdv A outer s H E) (fun cls d _ H => E cls d H) := takes_of rfl rfl rfl rfl
  have hp : PassesOwn (model P w) (A.deeper (envOfC "_law_read" (defScope s_law_read) s.heap.objs.size T.f_law_read cdv)) (envOfC "_law_read" (defScope s_law_read) s.heap.objs.size T.f_law_read cdv) (cxOf (L2.CX P w) P w K mg base N_law_read "_law_read" (defScope s_law_read) T.f_law_read cdv A outer s H E).xe := passes_of (X := cxOf (L2.CX P w) P w K mg base N_law_read "_law_read" (defScope s_law_read) T.f_law_read cdv A outer s H E) rfl
  exact (dss_one (ds_try_as (i := 1) (cl := [(T.k_BadText, true)]) (dsu := fun C a => sOnly (C = T.k_BadText) (sRet (dOp opIx (dLst (dCons false (dC (.str "none")) (dCons false (dTup dNil) dNil))) (dCB opInt (dCons false (dCB (opIsE a T.k_MeanwithinError true) (dCons false (dVar 1) (dCons false (dC (.con T.k_MeanwithinError)) dNil))) dNil))))) rfl rfl nd rfl rfl ⟨rfl, by decide, Or.inl T.gk_BadText⟩ tk (fun W2 pn xe tk hp => (dss_one (ds_ret (de_tup (da_cons false (de_call (ok_read_form T) (hr.mono (by decide)) (by rfl) T.g_read_form T.F_read_form.kp T.b_read_form tk (da_cons false (de_var (pv 0)) da_nil)) da_nil))))) (fun a oe C pn hz hf => pss_only fun eC => by subst eC; exact (dss_one (ds_ret (de_ix hu (de_lst (da_cons false (de_c pe_str) (da_cons false (de_tup da_nil) da_nil))) (de_callTy cr_int cd_int (by rfl) T.n_int (by decide +kernel) (da_cons false (de_callB (call_isE T.ec hz hf) (cd_isE T.kit) (by rfl) T.n_isinstance (by decide +kernel) (da_cons false (de_var (pv 1)) (da_cons false (de_c (v := .ref T.k_MeanwithinError) (x := .con T.k_MeanwithinError) (pe_glob (by rfl) T.gk_MeanwithinError rfl)) da_nil))) da_nil)) (fun _ _ => rfl))))) (fun p hp => by cases List.mem_singleton.mp hp; exact exm_own T.x_BadText T.cl_BadText T.sb_BadText)))
theorem ok_law_read (T : Top K mg) : FnOk P w K mg base (L2.CX P w) 6 T.f_law_read T.fd_law_read P_law_read (liftSp K (sp_law_read T.k_BadText T.k_MeanwithinError)) :=
  fnD T.F_law_read sc_law_read (b_law_read T.k_BadText T.k_MeanwithinError) fun _ _ _ _ _ _ hr => w_law_read T hr
theorem w_law_changed (T : Top K mg) {cdv : Value} {A : Around} {outer : List Env} {s : Shared} {H : Hp} {E : XK} (hr : Room 2 (A.deeper (envOfC "_law_changed" (defScope s_law_changed) s.heap.objs.size T.f_law_changed cdv))) :
    PSs (cxOf (L2.CX P w) P w K mg base N_law_changed "_law_changed" (defScope s_law_changed) T.f_law_changed cdv A outer s H E) (defBody s_law_changed) (liftS K (fun cls d _ H => E cls d H) (d_law_changed)) := by
  have nd := (sc_law_changed).nd
  have hu := hr.units
  have tk : Takes (cxOf (L2.CX P w) P w K mg base N_law_changed "_law_changed" (defScope s_law_changed) T.f_law_changed cdv A outer s H E) (fun cls d _ H => E cls d H) := takes_of rfl rfl rfl rfl
  have hp : PassesOwn (model P w) (A.deeper (envOfC "_law_changed" (defScope s_law_changed) s.heap.objs.size T.f_law_changed cdv)) (envOfC "_law_changed" (defScope s_law_changed) s.heap.objs.size T.f_law_changed cdv) (cxOf (L2.CX P w) P w K mg base N_law_changed "_law_changed" (defScope s_law_changed) T.f_law_changed cdv A outer s H E).xe := passes_of (X := cxOf (L2.CX P w) P w K mg base N_law_changed "_law_changed" (defScope s_law_changed) T.f_law_changed cdv A outer s H E) rfl
  exact (dss_cons (ds_set false (i := 2) nd rfl (by first | exact Or.inl rfl | exact Or.inr rfl) (de_bm PySem.F.plainAttrs_str PySem.F.slot_str_split PySem.F.type_str_split mr_split md_split (de_var (pv 1)) (da_cons false (de_c pe_str) da_nil)))
      (dss_cons (ds_set false (i := 3) nd rfl (by first | exact Or.inl rfl | exact Or.inr rfl) (de_lst (da_cons false (de_bin or_add od_add (de_var (pv 1)) (de_c pe_str)) (da_cons false (de_bin or_add od_add (de_c pe_str) (de_var (pv 1))) (da_cons false (de_bin or_add od_add (de_var (pv 1)) (de_c pe_str)) (da_cons false (de_bin or_add od_add (de_c pe_str) (de_var (pv 1))) (da_cons false (de_bin or_add od_add (de_c pe_str) (de_var (pv 1))) (da_cons false (de_bin or_add od_add (de_c pe_str) (de_var (pv 1))) (da_cons false (de_bin or_add od_add (de_c pe_str) (de_var (pv 1))) (da_cons false (de_bin or_add od_add (de_var (pv 1)) (de_c pe_str)) (da_cons false (de_bin or_add od_add (de_var (pv 1)) (de_c pe_str)) (da_cons false (de_bin or_add od_add (de_var (pv 1)) (de_var (pv 1))) (da_cons false (de_bm PySem.F.plainAttrs_str PySem.F.slot_str_join PySem.F.type_str_join mr_join md_join (de_c pe_str) (da_cons false (de_rev (de_var (pv 2))) da_nil)) (da_cons false (de_c pe_str) da_nil))))))))))))))
      (dss_cons (ds_for hp rfl (di_range1 (by rfl) T.n_range (da_cons false (de_c pe_int) da_nil)) (dg_name (i := 4) nd rfl (by first | exact Or.inl rfl | exact Or.inr rfl))
      (dss_cons (ds_set false (i := 5) nd rfl (by first | exact Or.inl rfl | exact Or.inr rfl) (de_call (ok_law_draw T) (hr.mono (by decide)) (by rfl) T.g_law_draw T.F_law_draw.kp T.b_law_draw tk (da_cons false (de_var (pv 0)) (da_cons false (de_bin or_add od_add (de_callB cr_len cd_len (by rfl) T.n_len (by decide +kernel) (da_cons false (de_var (pv 1)) da_nil)) (de_c pe_int)) da_nil))))
      (dss_cons (ds_set false (i := 6) nd rfl (by first | exact Or.inl rfl | exact Or.inr rfl) (de_call (ok_law_one_of T) (hr.mono (by decide)) (by rfl) T.g_law_one_of T.F_law_one_of.kp T.b_law_one_of tk (da_cons false (de_var (pv 0)) (da_cons false (de_lst (da_cons false (de_c pe_str) (da_cons false (de_c pe_str) (da_cons false (de_c pe_str) (da_cons false (de_c pe_str) (da_cons false (de_c pe_str) (da_cons false (de_c pe_str) (da_cons false (de_c pe_str) (da_cons false (de_c pe_str) (da_cons false (de_c pe_str) (da_cons false (de_c pe_str) (da_cons false (de_c pe_str) (da_cons false (de_c pe_str) da_nil))))))))))))) da_nil))))
      (dss_one (ds_set false (i := 3) nd rfl (by first | exact Or.inl rfl | exact Or.inr rfl) (de_bin or_add od_add (de_var (pv 3)) (de_lst (da_cons false (de_bin or_add od_add (de_slice (de_var (pv 1)) do_none (do_some (de_var (pv 5)))) (de_slice (de_var (pv 1)) (do_some (de_bin or_add od_add (de_var (pv 5)) (de_c pe_int))) do_none)) (da_cons false (de_bin or_add od_add (de_bin or_add od_add (de_slice (de_var (pv 1)) do_none (do_some (de_var (pv 5)))) (de_var (pv 6))) (de_slice (de_var (pv 1)) (do_some (de_bin or_add od_add (de_var (pv 5)) (de_c pe_int))) do_none)) (da_cons false (de_bin or_add od_add (de_bin or_add od_add (de_slice (de_var (pv 1)) do_none (do_some (de_var (pv 5)))) (de_var (pv 6))) (de_slice (de_var (pv 1)) (do_some (de_var (pv 5))) do_none)) (da_cons false (de_bin or_add od_add (de_bin or_add od_add (de_slice (de_var (pv 1)) do_none (do_some (de_var (pv 5)))) (de_slice (de_var (pv 1)) (do_some (de_var (pv 5))) (do_some (de_bin or_add od_add (de_var (pv 5)) (de_c pe_int))))) (de_slice (de_var (pv 1)) (do_some (de_var (pv 5))) do_none)) da_nil)))))))))))
      (dss_one (ds_ret (de_var (pv 3)))))))
theorem ok_law_changed (T : Top K mg) : FnOk P w K mg base (L2.CX P w) 3 T.f_law_changed T.fd_law_changed P_law_changed (liftSp K (sp_law_changed)) :=
  fnD T.F_law_changed sc_law_changed (b_law_changed) fun _ _ _ _ _ _ hr => w_law_changed T hr
theorem w_law (T : Top K mg) {cdv : Value} {A : Around} {outer : List Env} {s : Shared} {H : Hp} {E : XK} (hr : Room 7 (A.deeper (envOfC "law" (defScope s_law) s.heap.objs.size T.f_law cdv))) :
    PSs (cxOf (L2.CX P w) P w K mg base N_law "law" (defScope s_law) T.f_law cdv A outer s H E) (defBody s_law) (liftS K (fun cls d _ H => E cls d H) (d_law T.k_BadText T.k_MeanwithinError)) := by
  have nd := (sc_law).nd
  have hu := hr.units
  have tk : Takes (cxOf (L2.CX P w) P w K mg base N_law "law" (defScope s_law) T.f_law cdv A outer s H E) (fun cls d _ H => E cls d H) := takes_of rfl rfl rfl rfl
  have hp : PassesOwn (model P w) (A.deeper (envOfC "law" (defScope s_law) s.heap.objs.size T.f_law cdv)) (envOfC "law" (defScope s_law) s.heap.objs.size T.f_law cdv) (cxOf (L2.CX P w) P w K mg base N_law "law" (defScope s_law) T.f_law cdv A outer s H E).xe := passes_of (X := cxOf (L2.CX P w) P w K mg base N_law "law" (defScope s_law) T.f_law cdv A outer s H E) rfl
  exact (dss_cons (ds_set true (i := 1) nd rfl (by first | exact Or.inl rfl | exact Or.inr rfl) (de_call (ok_law_start T) (hr.mono (by decide)) (by rfl) T.g_law_start T.F_law_start.kp T.b_law_start tk (da_cons false (de_var (pv 0)) da_nil)))
      (dss_cons (ds_for hp rfl (di_range1 (by rfl) T.n_range (da_cons false (de_c pe_int) da_nil)) (dg_name (i := 2) nd rfl (by first | exact Or.inl rfl | exact Or.inr rfl))
      (dss_cons (ds_set false (i := 3) nd rfl (by first | exact Or.inl rfl | exact Or.inr rfl) (de_call (ok_law_some_form T) (hr.mono (by decide)) (by rfl) T.g_law_some_form T.F_law_some_form.kp T.b_law_some_form tk (da_cons false (de_var (pv 1)) da_nil)))
      (dss_cons (ds_set false (i := 4) nd rfl (by first | exact Or.inl rfl | exact Or.inr rfl) (de_call (ok_law_written T) (hr.mono (by decide)) (by rfl) T.g_law_written T.F_law_written.kp T.b_law_written tk (da_cons false (de_var (pv 3)) da_nil)))
      (dss_cons (ds_if (dw_or (dt_not (dt_tru (de_call (ok_law_same T) (hr.mono (by decide)) (by rfl) T.g_law_same T.F_law_same.kp T.b_law_same tk (da_cons false (de_call (ok_write_form T) (hr.mono (by decide)) (by rfl) T.g_write_form T.F_write_form.kp T.b_write_form tk (da_cons false (de_var (pv 3)) da_nil)) (da_cons false (de_var (pv 4)) da_nil))))) (dw_or1 (dt_not (dt_tru (de_call (ok_law_same T) (hr.mono (by decide)) (by rfl) T.g_law_same T.F_law_same.kp T.b_law_same tk (da_cons false (de_call (ok_law_read T) (hr.mono (by decide)) (by rfl) T.g_law_read T.F_law_read.kp T.b_law_read tk (da_cons false (de_var (pv 4)) da_nil)) (da_cons false (de_tup (da_cons false (de_var (pv 3)) da_nil)) da_nil))))))).pt
      (dss_one (ds_ret (de_c pe_bl)))
      dss_nil)
      (dss_one (ds_for hp rfl (di_seq (de_call (ok_law_changed T) (hr.mono (by decide)) (by rfl) T.g_law_changed T.F_law_changed.kp T.b_law_changed tk (da_cons false (de_var (pv 1)) (da_cons false (de_var (pv 4)) da_nil)))) (dg_name (i := 5) nd rfl (by first | exact Or.inl rfl | exact Or.inr rfl))
      (dss_cons (ds_set false (i := 6) nd rfl (by first | exact Or.inl rfl | exact Or.inr rfl) (de_call (ok_law_read T) (hr.mono (by decide)) (by rfl) T.g_law_read T.F_law_read.kp T.b_law_read tk (da_cons false (de_var (pv 5)) da_nil)))
      (dss_one (ds_if (dw_and (dt_cmp (or_ne hu) od_ne (de_var (pv 6)) (de_tup da_nil) (nomark _)) (dw_and1 (dw_or (dt_cmp (or_ne hu) od_ne (de_callB cr_len cd_len (by rfl) T.n_len (by decide +kernel) (da_cons false (de_var (pv 6)) da_nil)) (de_c pe_int) (nomark _)) (dw_or (dt_cmp (or_ne hu) od_ne (de_call (ok_law_written T) (hr.mono (by decide)) (by rfl) T.g_law_written T.F_law_written.kp T.b_law_written tk (da_cons false (de_ix hu (de_var (pv 6)) (de_c pe_int) (fun _ _ => rfl)) da_nil)) (de_var (pv 5)) (nomark _)) (dw_or1 (dt_cmp (or_ne hu) od_ne (de_call (ok_write_form T) (hr.mono (by decide)) (by rfl) T.g_write_form T.F_write_form.kp T.b_write_form tk (da_cons false (de_ix hu (de_var (pv 6)) (de_c pe_int) (fun _ _ => rfl)) da_nil)) (de_var (pv 5)) (nomark _))))).pt)).pt
      (dss_one (ds_ret (de_c pe_bl)))
      dss_nil)))))))))
      (dss_cons (ds_set false (i := 7) nd rfl (by first | exact Or.inl rfl | exact Or.inr rfl) (de_lst (da_cons false (de_c pe_str) (da_cons false (de_c pe_str) (da_cons false (de_c pe_str) (da_cons false (de_c pe_str) (da_cons false (de_c pe_str) (da_cons false (de_c pe_str) (da_cons false (de_c pe_str) (da_cons false (de_c pe_str) (da_cons false (de_c pe_str) (da_cons false (de_c pe_str) (da_cons false (de_c pe_str) (da_cons false (de_c pe_str) (da_cons false (de_c pe_str) (da_cons false (de_c pe_str) (da_cons false (de_c pe_str) (da_cons false (de_c pe_str) (da_cons false (de_c pe_str) (da_cons false (de_c pe_str) (da_cons false (de_c pe_str) (da_cons false (de_c pe_str) (da_cons false (de_c pe_str) (da_cons false (de_c pe_str) (da_cons false (de_c pe_str) (da_cons false (de_c pe_str) da_nil))))))))))))))))))))))))))
      (dss_cons (ds_set false (i := 8) nd rfl (by first | exact Or.inl rfl | exact Or.inr rfl) (de_lst (da_cons false (de_tup (da_cons false (de_c pe_str) (da_cons false (de_tup (da_cons false (de_c pe_int) (da_cons false (de_tup (da_cons false (de_tup (da_cons false (de_c pe_str) (da_cons false (de_neg (de_c pe_int)) da_nil))) (da_cons false (de_tup (da_cons false (de_c pe_str) (da_cons false (de_c pe_int) da_nil))) da_nil))) da_nil))) da_nil))) (da_cons false (de_tup (da_cons false (de_c pe_str) (da_cons false (de_tup (da_cons false (de_neg (de_c pe_int)) (da_cons false (de_tup (da_cons false (de_tup (da_cons false (de_c pe_str) (da_cons false (de_c pe_int) da_nil))) da_nil)) da_nil))) da_nil))) (da_cons false (de_tup (da_cons false (de_c pe_str) (da_cons false (de_tup (da_cons false (de_c pe_int) (da_cons false (de_tup da_nil) da_nil))) da_nil))) (da_cons false (de_tup (da_cons false (de_c pe_str) (da_cons false (de_tup (da_cons false (de_neg (de_c pe_int)) (da_cons false (de_tup da_nil) da_nil))) da_nil))) da_nil))))))
      (dss_one (ds_ret (de_and (de_callB (cr_all rfl) cd_anyAll (by rfl) T.n_all (by decide +kernel) (da_cons false (de_lc (own := [("text", 4)]) false rfl nd (di_seq (de_var (pv 7))) (blkOk_by (own := [("text", 4)]) (N := N_law) (sc := defScope s_law) (by decide +kernel)) (fun _ _ _ _ _ => (dg_name (i := 4) nd rfl (by first | exact Or.inl rfl | exact Or.inr rfl))) (fun _ _ _ _ _ => dts_nil) (fun _ _ _ _ _ => (de_cmp (or_eq hu) od_eq (de_call (ok_law_read T) (hr.mono (by decide)) (by rfl) T.g_law_read T.F_law_read.kp T.b_law_read takes0 (da_cons false (de_var (pv 4)) da_nil)) (de_tup da_nil) (nomark _))) (by decide)) da_nil)) (de_one (de_callB (cr_all rfl) cd_anyAll (by rfl) T.n_all (by decide +kernel) (da_cons false (de_lc (own := [("text", 4), ("f", 3)]) false rfl nd (di_seq (de_var (pv 8))) (blkOk_by (own := [("text", 4), ("f", 3)]) (N := N_law) (sc := defScope s_law) (by decide +kernel)) (fun _ _ _ _ _ => (dg_tup rfl (dgs_cons (dg_name (i := 4) nd rfl (by first | exact Or.inl rfl | exact Or.inr rfl)) (dgs_cons (dg_name (i := 3) nd rfl (by first | exact Or.inl rfl | exact Or.inr rfl)) dgs_nil)) rfl)) (fun _ _ _ _ _ => dts_nil) (fun _ _ _ _ _ => (de_call (ok_law_same T) (hr.mono (by decide)) (by rfl) T.g_law_same T.F_law_same.kp T.b_law_same takes0 (da_cons false (de_call (ok_law_read T) (hr.mono (by decide)) (by rfl) T.g_law_read T.F_law_read.kp T.b_law_read takes0 (da_cons false (de_var (pv 4)) da_nil)) (da_cons false (de_tup (da_cons false (de_var (pv 3)) da_nil)) da_nil)))) (by decide)) da_nil))))))))))
theorem ok_law (T : Top K mg) : FnOk P w K mg base (L2.CX P w) 8 T.f_law T.fd_law P_law (liftSp K (sp_law)) :=
  fnD T.F_law sc_law (b_law T.k_BadText T.k_MeanwithinError) fun _ _ _ _ _ _ hr => w_law T hr
end
end K66


namespace K66
open PySem PySem.Spec PyProof.Rows L2 DW
theorem bnd_write_integer {K : PySem.W.Frag} {f : Addr} {fd : FuncData} (F : Fun K "write_integer" "write_integer" s_write_integer f fd) : Binds K fd P_write_integer [] := F.binds fun _ _ _ _ _ _ us hl => match us, hl with | [_], _ => rfl
theorem bnd_read_integer {K : PySem.W.Frag} {f : Addr} {fd : FuncData} (F : Fun K "read_integer" "read_integer" s_read_integer f fd) : Binds K fd P_read_integer [] := F.binds fun _ _ _ _ _ _ us hl => match us, hl with | [_], _ => rfl
theorem bnd_form {K : PySem.W.Frag} {f : Addr} {fd : FuncData} (F : Fun K "form" "form" s_form f fd) : Binds K fd P_form [] := F.binds fun _ _ _ _ _ _ us hl => match us, hl with | [_, _], _ => rfl
theorem bnd_write_term {K : PySem.W.Frag} {f : Addr} {fd : FuncData} (F : Fun K "write_term" "write_term" s_write_term f fd) : Binds K fd P_write_term [] := F.binds fun _ _ _ _ _ _ us hl => match us, hl with | [_, _], _ => rfl
theorem bnd_write_form {K : PySem.W.Frag} {f : Addr} {fd : FuncData} (F : Fun K "write_form" "write_form" s_write_form f fd) : Binds K fd P_write_form [] := F.binds fun _ _ _ _ _ _ us hl => match us, hl with | [_], _ => rfl
theorem bnd_is_name {K : PySem.W.Frag} {f : Addr} {fd : FuncData} (F : Fun K "is_name" "is_name" s_is_name f fd) : Binds K fd P_is_name [] := F.binds fun _ _ _ _ _ _ us hl => match us, hl with | [_], _ => rfl
theorem bnd_read_term {K : PySem.W.Frag} {f : Addr} {fd : FuncData} (F : Fun K "read_term" "read_term" s_read_term f fd) : Binds K fd P_read_term [] := F.binds fun _ _ _ _ _ _ us hl => match us, hl with | [_, _], _ => rfl
theorem bnd_read_form {K : PySem.W.Frag} {f : Addr} {fd : FuncData} (F : Fun K "read_form" "read_form" s_read_form f fd) : Binds K fd P_read_form [] := F.binds fun _ _ _ _ _ _ us hl => match us, hl with | [_], _ => rfl
theorem bnd_law_start {K : PySem.W.Frag} {f : Addr} {fd : FuncData} (F : Fun K "_law_start" "_law_start" s_law_start f fd) : Binds K fd P_law_start [] := F.binds fun _ _ _ _ _ _ us hl => match us, hl with | [_], _ => rfl
theorem bnd_law_draw {K : PySem.W.Frag} {f : Addr} {fd : FuncData} (F : Fun K "_law_draw" "_law_draw" s_law_draw f fd) : Binds K fd P_law_draw [] := F.binds fun _ _ _ _ _ _ us hl => match us, hl with | [_, _], _ => rfl
theorem bnd_law_one_of {K : PySem.W.Frag} {f : Addr} {fd : FuncData} (F : Fun K "_law_one_of" "_law_one_of" s_law_one_of f fd) : Binds K fd P_law_one_of [] := F.binds fun _ _ _ _ _ _ us hl => match us, hl with | [_, _], _ => rfl
theorem bnd_law_is_int {K : PySem.W.Frag} {f : Addr} {fd : FuncData} (F : Fun K "_law_is_int" "_law_is_int" s_law_is_int f fd) : Binds K fd P_law_is_int [] := F.binds fun _ _ _ _ _ _ us hl => match us, hl with | [_], _ => rfl
theorem bnd_law_same {K : PySem.W.Frag} {f : Addr} {fd : FuncData} (F : Fun K "_law_same" "_law_same" s_law_same f fd) : Binds K fd P_law_same [] := F.binds fun _ _ _ _ _ _ us hl => match us, hl with | [_, _], _ => rfl
theorem bnd_law_form {K : PySem.W.Frag} {f : Addr} {fd : FuncData} (F : Fun K "_law_form" "_law_form" s_law_form f fd) : Binds K fd P_law_form [] := F.binds fun _ _ _ _ _ _ us hl => match us, hl with | [_, _], _ => rfl
theorem bnd_law_some_name {K : PySem.W.Frag} {f : Addr} {fd : FuncData} (F : Fun K "_law_some_name" "_law_some_name" s_law_some_name f fd) : Binds K fd P_law_some_name [] := F.binds fun _ _ _ _ _ _ us hl => match us, hl with | [_], _ => rfl
theorem bnd_law_some_form {K : PySem.W.Frag} {f : Addr} {fd : FuncData} (F : Fun K "_law_some_form" "_law_some_form" s_law_some_form f fd) : Binds K fd P_law_some_form [] := F.binds fun _ _ _ _ _ _ us hl => match us, hl with | [_], _ => rfl
theorem bnd_law_written {K : PySem.W.Frag} {f : Addr} {fd : FuncData} (F : Fun K "_law_written" "_law_written" s_law_written f fd) : Binds K fd P_law_written [] := F.binds fun _ _ _ _ _ _ us hl => match us, hl with | [_], _ => rfl
theorem bnd_law_read {K : PySem.W.Frag} {f : Addr} {fd : FuncData} (F : Fun K "_law_read" "_law_read" s_law_read f fd) : Binds K fd P_law_read [] := F.binds fun _ _ _ _ _ _ us hl => match us, hl with | [_], _ => rfl
theorem bnd_law_changed {K : PySem.W.Frag} {f : Addr} {fd : FuncData} (F : Fun K "_law_changed" "_law_changed" s_law_changed f fd) : Binds K fd P_law_changed [] := F.binds fun _ _ _ _ _ _ us hl => match us, hl with | [_, _], _ => rfl
theorem bnd_law {K : PySem.W.Frag} {f : Addr} {fd : FuncData} (F : Fun K "law" "law" s_law f fd) : Binds K fd P_law [] := F.binds fun _ _ _ _ _ _ us hl => match us, hl with | [_], _ => rfl
def ClsFacts (K : PySem.W.Frag) (mg : Str → Option Value) : Prop := ∃ k_MeanwithinError k_BadText : Addr, mg "MeanwithinError" = some (.ref k_MeanwithinError) ∧ XCls K k_MeanwithinError ∧ mg "BadText" = some (.ref k_BadText) ∧ XCls K k_BadText ∧ PySem.W.isClsIn K k_MeanwithinError = true ∧ PySem.W.subIn K (.ref k_BadText) (.ref k_MeanwithinError) = some true ∧ PySem.W.isClsIn K k_BadText = true ∧ PySem.W.subIn K (.ref k_BadText) (.ref k_BadText) = some true ∧ PySem.W.findIn K (.ref k_BadText) "__getattribute__" = some (some (.builtin "BaseException.__getattribute__")) ∧ PySem.W.findIn K (.ref k_BadText) "__getattr__" = some none ∧ PySem.W.hasDictIn K k_BadText = true ∧ PySem.W.findIn K (.ref k_BadText) "__class__" = some (some (.builtin "object.__class__")) ∧ PySem.W.specialIn K (.builtin "object.__class__") "__get__" = some (some (.builtin "getset_descriptor.__get__")) ∧ PySem.W.takesIn K (.builtin "object.__class__") = some true ∧ PySem.W.mroIn K k_BadText (.type "object") = some true
theorem clsFacts_mk {K : PySem.W.Frag} {h : Heap} {mg : Str → Option Value} (X : K.In h) (G : h.Ns mainGlobals mg) {k_MeanwithinError k_BadText : Addr} (a_MeanwithinError : PySem.W.nsIn K mainGlobals "MeanwithinError" = some (some (.ref k_MeanwithinError))) (q_MeanwithinError : PySem.W.excIn K k_MeanwithinError [.type "ValueError", .type "Exception", .type "BaseException", .type "object"] "ValueError.__new__" = true) (e_MeanwithinError : PySem.W.keepIn K (.ref k_MeanwithinError) = true) (s_MeanwithinError : PySem.W.subIn K (.ref k_MeanwithinError) (.type "BaseException") = some true) (t_MeanwithinError : PySem.W.typeIn K (.ref k_MeanwithinError) = some (.type "type")) (a_BadText : PySem.W.nsIn K mainGlobals "BadText" = some (some (.ref k_BadText))) (q_BadText : PySem.W.excIn K k_BadText [.type "ValueError", .type "Exception", .type "BaseException", .type "object"] "ValueError.__new__" = true) (e_BadText : PySem.W.keepIn K (.ref k_BadText) = true) (s_BadText : PySem.W.subIn K (.ref k_BadText) (.type "BaseException") = some true) (t_BadText : PySem.W.typeIn K (.ref k_BadText) = some (.type "type")) (cl_M : PySem.W.isClsIn K k_MeanwithinError = true) (sb_M : PySem.W.subIn K (.ref k_BadText) (.ref k_MeanwithinError) = some true) (cl_BadText : PySem.W.isClsIn K k_BadText = true) (sb_BadText : PySem.W.subIn K (.ref k_BadText) (.ref k_BadText) = some true) (ec1 : PySem.W.findIn K (.ref k_BadText) "__getattribute__" = some (some (.builtin "BaseException.__getattribute__"))) (ec2 : PySem.W.findIn K (.ref k_BadText) "__getattr__" = some none) (ec4 : PySem.W.hasDictIn K k_BadText = true) (ec5 : PySem.W.findIn K (.ref k_BadText) "__class__" = some (some (.builtin "object.__class__"))) (ec6 : PySem.W.specialIn K (.builtin "object.__class__") "__get__" = some (some (.builtin "getset_descriptor.__get__"))) (ec7 : PySem.W.takesIn K (.builtin "object.__class__") = some true) (ec8 : PySem.W.mroIn K k_BadText (.type "object") = some true) : ClsFacts K mg := ⟨k_MeanwithinError, k_BadText, PySem.W.mg_of X G a_MeanwithinError, ⟨q_MeanwithinError, e_MeanwithinError, s_MeanwithinError, t_MeanwithinError⟩, PySem.W.mg_of X G a_BadText, ⟨q_BadText, e_BadText, s_BadText, t_BadText⟩, cl_M, sb_M, cl_BadText, sb_BadText, ec1, ec2, ec4, ec5, ec6, ec7, ec8⟩
theorem all_mk {P : Program} {w : World} {K : PySem.W.Frag} {h : Heap} {mg : Str → Option Value} {fa : Addr} (X : K.In h) (G : h.Ns mainGlobals mg) (hfa : mg "law" = some (.ref fa))
    (D_write_integer : DefOk K mg "write_integer" s_write_integer)
    (D_read_integer : DefOk K mg "read_integer" s_read_integer)
    (D_form : DefOk K mg "form" s_form)
    (D_write_term : DefOk K mg "write_term" s_write_term)
    (D_write_form : DefOk K mg "write_form" s_write_form)
    (D_is_name : DefOk K mg "is_name" s_is_name)
    (D_read_term : DefOk K mg "read_term" s_read_term)
    (D_read_form : DefOk K mg "read_form" s_read_form)
    (D_law_start : DefOk K mg "_law_start" s_law_start)
    (D_law_draw : DefOk K mg "_law_draw" s_law_draw)
    (D_law_one_of : DefOk K mg "_law_one_of" s_law_one_of)
    (D_law_is_int : DefOk K mg "_law_is_int" s_law_is_int)
    (D_law_same : DefOk K mg "_law_same" s_law_same)
    (D_law_form : DefOk K mg "_law_form" s_law_form)
    (D_law_some_name : DefOk K mg "_law_some_name" s_law_some_name)
    (D_law_some_form : DefOk K mg "_law_some_form" s_law_some_form)
    (D_law_written : DefOk K mg "_law_written" s_law_written)
    (D_law_read : DefOk K mg "_law_read" s_law_read)
    (D_law_changed : DefOk K mg "_law_changed" s_law_changed)
    (D_law : DefOk K mg "law" s_law)
    (D_cls : ClsFacts K mg)
    (z_abs : PySem.W.nsIn K mainGlobals "abs" = some none)
    (z_all : PySem.W.nsIn K mainGlobals "all" = some none)
    (z_bool : PySem.W.nsIn K mainGlobals "bool" = some none)
    (z_divmod : PySem.W.nsIn K mainGlobals "divmod" = some none)
    (z_int : PySem.W.nsIn K mainGlobals "int" = some none)
    (z_isinstance : PySem.W.nsIn K mainGlobals "isinstance" = some none)
    (z_len : PySem.W.nsIn K mainGlobals "len" = some none)
    (z_list : PySem.W.nsIn K mainGlobals "list" = some none)
    (z_range : PySem.W.nsIn K mainGlobals "range" = some none)
    (z_set : PySem.W.nsIn K mainGlobals "set" = some none)
    (z_sorted : PySem.W.nsIn K mainGlobals "sorted" = some none)
    (z_str : PySem.W.nsIn K mainGlobals "str" = some none)
    (z_sum : PySem.W.nsIn K mainGlobals "sum" = some none)
    (z_tuple : PySem.W.nsIn K mainGlobals "tuple" = some none)
    (c_BASE : ConstOf K mg "BASE" v_BASE)
    (c_DIGITS_digits : ConstOf K mg "DIGITS_digits" v_DIGITS_digits)
    (c_FIRST : ConstOf K mg "FIRST" v_FIRST)
    (c_DIGITS_formtext : ConstOf K mg "DIGITS_formtext" v_DIGITS_formtext)
    : ∃ fd : FuncData, (∀ (s : Shared) (u : Value), BindsTo s fd ⟨[u], []⟩ [("script", u)]) ∧ ∀ base : Heap, K.In base → base.Ns mainGlobals mg → FnOk P w K mg base (L2.CX P w) 8 fa fd ["script"] (liftSp K sp_law) := by
  obtain ⟨f_write_integer, fd_write_integer, F_write_integer, g_write_integer⟩ := D_write_integer
  obtain ⟨f_read_integer, fd_read_integer, F_read_integer, g_read_integer⟩ := D_read_integer
  obtain ⟨f_form, fd_form, F_form, g_form⟩ := D_form
  obtain ⟨f_write_term, fd_write_term, F_write_term, g_write_term⟩ := D_write_term
  obtain ⟨f_write_form, fd_write_form, F_write_form, g_write_form⟩ := D_write_form
  obtain ⟨f_is_name, fd_is_name, F_is_name, g_is_name⟩ := D_is_name
  obtain ⟨f_read_term, fd_read_term, F_read_term, g_read_term⟩ := D_read_term
  obtain ⟨f_read_form, fd_read_form, F_read_form, g_read_form⟩ := D_read_form
  obtain ⟨f_law_start, fd_law_start, F_law_start, g_law_start⟩ := D_law_start
  obtain ⟨f_law_draw, fd_law_draw, F_law_draw, g_law_draw⟩ := D_law_draw
  obtain ⟨f_law_one_of, fd_law_one_of, F_law_one_of, g_law_one_of⟩ := D_law_one_of
  obtain ⟨f_law_is_int, fd_law_is_int, F_law_is_int, g_law_is_int⟩ := D_law_is_int
  obtain ⟨f_law_same, fd_law_same, F_law_same, g_law_same⟩ := D_law_same
  obtain ⟨f_law_form, fd_law_form, F_law_form, g_law_form⟩ := D_law_form
  obtain ⟨f_law_some_name, fd_law_some_name, F_law_some_name, g_law_some_name⟩ := D_law_some_name
  obtain ⟨f_law_some_form, fd_law_some_form, F_law_some_form, g_law_some_form⟩ := D_law_some_form
  obtain ⟨f_law_written, fd_law_written, F_law_written, g_law_written⟩ := D_law_written
  obtain ⟨f_law_read, fd_law_read, F_law_read, g_law_read⟩ := D_law_read
  obtain ⟨f_law_changed, fd_law_changed, F_law_changed, g_law_changed⟩ := D_law_changed
  obtain ⟨f_law, fd_law, F_law, g_law⟩ := D_law
  obtain ⟨k_MeanwithinError, k_BadText, gk_MeanwithinError, x_MeanwithinError, gk_BadText, x_BadText, cl_M, sb_M, cl_BadText, sb_BadText, ec1, ec2, ec4, ec5, ec6, ec7, ec8⟩ := D_cls
  obtain ⟨T, h1, h2⟩ : ∃ T : Top K mg, T.f_law = f_law ∧ T.fd_law = fd_law := ⟨{ f_write_integer := f_write_integer, fd_write_integer := fd_write_integer, F_write_integer := F_write_integer, g_write_integer := g_write_integer, b_write_integer := bnd_write_integer F_write_integer, f_read_integer := f_read_integer, fd_read_integer := fd_read_integer, F_read_integer := F_read_integer, g_read_integer := g_read_integer, b_read_integer := bnd_read_integer F_read_integer, f_form := f_form, fd_form := fd_form, F_form := F_form, g_form := g_form, b_form := bnd_form F_form, f_write_term := f_write_term, fd_write_term := fd_write_term, F_write_term := F_write_term, g_write_term := g_write_term, b_write_term := bnd_write_term F_write_term, f_write_form := f_write_form, fd_write_form := fd_write_form, F_write_form := F_write_form, g_write_form := g_write_form, b_write_form := bnd_write_form F_write_form, f_is_name := f_is_name, fd_is_name := fd_is_name, F_is_name := F_is_name, g_is_name := g_is_name, b_is_name := bnd_is_name F_is_name, f_read_term := f_read_term, fd_read_term := fd_read_term, F_read_term := F_read_term, g_read_term := g_read_term, b_read_term := bnd_read_term F_read_term, f_read_form := f_read_form, fd_read_form := fd_read_form, F_read_form := F_read_form, g_read_form := g_read_form, b_read_form := bnd_read_form F_read_form, f_law_start := f_law_start, fd_law_start := fd_law_start, F_law_start := F_law_start, g_law_start := g_law_start, b_law_start := bnd_law_start F_law_start, f_law_draw := f_law_draw, fd_law_draw := fd_law_draw, F_law_draw := F_law_draw, g_law_draw := g_law_draw, b_law_draw := bnd_law_draw F_law_draw, f_law_one_of := f_law_one_of, fd_law_one_of := fd_law_one_of, F_law_one_of := F_law_one_of, g_law_one_of := g_law_one_of, b_law_one_of := bnd_law_one_of F_law_one_of, f_law_is_int := f_law_is_int, fd_law_is_int := fd_law_is_int, F_law_is_int := F_law_is_int, g_law_is_int := g_law_is_int, b_law_is_int := bnd_law_is_int F_law_is_int, f_law_same := f_law_same, fd_law_same := fd_law_same, F_law_same := F_law_same, g_law_same := g_law_same, b_law_same := bnd_law_same F_law_same, f_law_form := f_law_form, fd_law_form := fd_law_form, F_law_form := F_law_form, g_law_form := g_law_form, b_law_form := bnd_law_form F_law_form, f_law_some_name := f_law_some_name, fd_law_some_name := fd_law_some_name, F_law_some_name := F_law_some_name, g_law_some_name := g_law_some_name, b_law_some_name := bnd_law_some_name F_law_some_name, f_law_some_form := f_law_some_form, fd_law_some_form := fd_law_some_form, F_law_some_form := F_law_some_form, g_law_some_form := g_law_some_form, b_law_some_form := bnd_law_some_form F_law_some_form, f_law_written := f_law_written, fd_law_written := fd_law_written, F_law_written := F_law_written, g_law_written := g_law_written, b_law_written := bnd_law_written F_law_written, f_law_read := f_law_read, fd_law_read := fd_law_read, F_law_read := F_law_read, g_law_read := g_law_read, b_law_read := bnd_law_read F_law_read, f_law_changed := f_law_changed, fd_law_changed := fd_law_changed, F_law_changed := F_law_changed, g_law_changed := g_law_changed, b_law_changed := bnd_law_changed F_law_changed, f_law := f_law, fd_law := fd_law, F_law := F_law, g_law := g_law, b_law := bnd_law F_law, n_abs := PySem.W.mg_none_of X G z_abs, n_all := PySem.W.mg_none_of X G z_all, n_bool := PySem.W.mg_none_of X G z_bool, n_divmod := PySem.W.mg_none_of X G z_divmod, n_int := PySem.W.mg_none_of X G z_int, n_isinstance := PySem.W.mg_none_of X G z_isinstance, n_len := PySem.W.mg_none_of X G z_len, n_list := PySem.W.mg_none_of X G z_list, n_range := PySem.W.mg_none_of X G z_range, n_set := PySem.W.mg_none_of X G z_set, n_sorted := PySem.W.mg_none_of X G z_sorted, n_str := PySem.W.mg_none_of X G z_str, n_sum := PySem.W.mg_none_of X G z_sum, n_tuple := PySem.W.mg_none_of X G z_tuple, c_BASE := c_BASE, c_DIGITS_digits := c_DIGITS_digits, c_FIRST := c_FIRST, c_DIGITS_formtext := c_DIGITS_formtext, k_MeanwithinError := k_MeanwithinError, gk_MeanwithinError := gk_MeanwithinError, x_MeanwithinError := x_MeanwithinError, k_BadText := k_BadText, gk_BadText := gk_BadText, x_BadText := x_BadText, cl_M := cl_M, sb_M := sb_M, cl_BadText := cl_BadText, sb_BadText := sb_BadText, ec1 := ec1, ec2 := ec2, ec4 := ec4, ec5 := ec5, ec6 := ec6, ec7 := ec7, ec8 := ec8 }, rfl, rfl⟩
  have e : fa = f_law := by
    have e := hfa.symm.trans g_law
    cases e
    rfl
  rw [e]
  refine ⟨fd_law, binds_one F_law fun _ _ _ _ _ _ _ => rfl, fun base _ _ => ?_⟩
  rw [← h1, ← h2]
  exact ok_law T
end K66
open PySem PySem.W PyProof.Rows
set_option maxHeartbeats 0 in
theorem PySem.Challenge.cw_meanwithin_k66_written_forms_holds : PySem.Challenge.rw_meanwithin_k66_written_forms.Holds := by
  w_on; o_law; k_head; (case hw => w_witness2)
  k_fill
  refine L2.walk_of (l := PySem.Challenge.rw_meanwithin_k66_written_forms) (n := 63) (k := 8) (x := "script") (CX := fun w => L2.CX (PySem.Challenge.rw_meanwithin_k66_written_forms).prog w) (sp := fun w => DW.liftSp _ K66.sp_law) rfl (by decide) rfl ⟨rfl, by decide, by decide⟩ (fun w h Y => PySem.W.kIn_of Y) ?F (fun w H a ns hl _ hS => DW.head_sp hS (K66.head_law ns hl)) (fun w H s e s' h => DW.cx_no h)
  case F =>
    intro w mg fa h KX G hmg
    have D_write_integer : DW.DefOk _ mg "write_integer" K66.s_write_integer := DW.def_mk KX G (by k_is) (by k_is) (by k_is) (by k_is)
    have D_read_integer : DW.DefOk _ mg "read_integer" K66.s_read_integer := DW.def_mk KX G (by k_is) (by k_is) (by k_is) (by k_is)
    have D_form : DW.DefOk _ mg "form" K66.s_form := DW.def_mk KX G (by k_is) (by k_is) (by k_is) (by k_is)
    have D_write_term : DW.DefOk _ mg "write_term" K66.s_write_term := DW.def_mk KX G (by k_is) (by k_is) (by k_is) (by k_is)
    have D_write_form : DW.DefOk _ mg "write_form" K66.s_write_form := DW.def_mk KX G (by k_is) (by k_is) (by k_is) (by k_is)
    have D_is_name : DW.DefOk _ mg "is_name" K66.s_is_name := DW.def_mk KX G (by k_is) (by k_is) (by k_is) (by k_is)
    have D_read_term : DW.DefOk _ mg "read_term" K66.s_read_term := DW.def_mk KX G (by k_is) (by k_is) (by k_is) (by k_is)
    have D_read_form : DW.DefOk _ mg "read_form" K66.s_read_form := DW.def_mk KX G (by k_is) (by k_is) (by k_is) (by k_is)
    have D_law_start : DW.DefOk _ mg "_law_start" K66.s_law_start := DW.def_mk KX G (by k_is) (by k_is) (by k_is) (by k_is)
    have D_law_draw : DW.DefOk _ mg "_law_draw" K66.s_law_draw := DW.def_mk KX G (by k_is) (by k_is) (by k_is) (by k_is)
    have D_law_one_of : DW.DefOk _ mg "_law_one_of" K66.s_law_one_of := DW.def_mk KX G (by k_is) (by k_is) (by k_is) (by k_is)
    have D_law_is_int : DW.DefOk _ mg "_law_is_int" K66.s_law_is_int := DW.def_mk KX G (by k_is) (by k_is) (by k_is) (by k_is)
    have D_law_same : DW.DefOk _ mg "_law_same" K66.s_law_same := DW.def_mk KX G (by k_is) (by k_is) (by k_is) (by k_is)
    have D_law_form : DW.DefOk _ mg "_law_form" K66.s_law_form := DW.def_mk KX G (by k_is) (by k_is) (by k_is) (by k_is)
    have D_law_some_name : DW.DefOk _ mg "_law_some_name" K66.s_law_some_name := DW.def_mk KX G (by k_is) (by k_is) (by k_is) (by k_is)
    have D_law_some_form : DW.DefOk _ mg "_law_some_form" K66.s_law_some_form := DW.def_mk KX G (by k_is) (by k_is) (by k_is) (by k_is)
    have D_law_written : DW.DefOk _ mg "_law_written" K66.s_law_written := DW.def_mk KX G (by k_is) (by k_is) (by k_is) (by k_is)
    have D_law_read : DW.DefOk _ mg "_law_read" K66.s_law_read := DW.def_mk KX G (by k_is) (by k_is) (by k_is) (by k_is)
    have D_law_changed : DW.DefOk _ mg "_law_changed" K66.s_law_changed := DW.def_mk KX G (by k_is) (by k_is) (by k_is) (by k_is)
    have D_law : DW.DefOk _ mg "law" K66.s_law := DW.def_mk KX G (by k_is) (by k_is) (by k_is) (by k_is)
    have c_BASE : DW.ConstOf _ mg "BASE" K66.v_BASE := DW.const_int KX G (by k_is)
    have c_DIGITS_digits : DW.ConstOf _ mg "DIGITS_digits" K66.v_DIGITS_digits := DW.const_str KX G (by k_is)
    have c_FIRST : DW.ConstOf _ mg "FIRST" K66.v_FIRST := DW.const_str KX G (by k_is)
    have c_DIGITS_formtext : DW.ConstOf _ mg "DIGITS_formtext" K66.v_DIGITS_formtext := DW.const_str KX G (by k_is)
    have D_cls : K66.ClsFacts _ mg := K66.clsFacts_mk KX G (by first | k_is | k_exc) (by first | k_is | k_exc) (by first | k_is | k_exc) (by first | k_is | k_exc) (by first | k_is | k_exc) (by first | k_is | k_exc) (by first | k_is | k_exc) (by first | k_is | k_exc) (by first | k_is | k_exc) (by first | k_is | k_exc) (by first | k_is | k_exc) (by first | k_is | k_exc) (by first | k_is | k_exc) (by first | k_is | k_exc) (by first | k_is | k_exc) (by first | k_is | k_exc) (by first | k_is | k_exc) (by first | k_is | k_exc) (by first | k_is | k_exc) (by first | k_is | k_exc) (by first | k_is | k_exc)
    refine K66.all_mk KX G hmg D_write_integer D_read_integer D_form D_write_term D_write_form D_is_name D_read_term D_read_form D_law_start D_law_draw D_law_one_of D_law_is_int D_law_same D_law_form D_law_some_name D_law_some_form D_law_written D_law_read D_law_changed D_law D_cls ?z_abs ?z_all ?z_bool ?z_divmod ?z_int ?z_isinstance ?z_len ?z_list ?z_range ?z_set ?z_sorted ?z_str ?z_sum ?z_tuple c_BASE c_DIGITS_digits c_FIRST c_DIGITS_formtext
    case z_abs => k_is
    case z_all => k_is
    case z_bool => k_is
    case z_divmod => k_is
    case z_int => k_is
    case z_isinstance => k_is
    case z_len => k_is
    case z_list => k_is
    case z_range => k_is
    case z_set => k_is
    case z_sorted => k_is
    case z_str => k_is
    case z_sum => k_is
    case z_tuple => k_is

